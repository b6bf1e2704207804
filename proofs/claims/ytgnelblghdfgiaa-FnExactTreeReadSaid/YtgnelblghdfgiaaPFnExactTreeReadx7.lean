/- The machine's side of FnExactTreeRead, written by wip/tools/hyb.py of this repo: each Go function as a plain Lean function, and the proof that the call comes to just its answer. No condition. -/
import Derived.Test.YtgnelblghdfgiaaPFnExactTreeReadx0
import Derived.Test.YtgnelblghdfgiaaPFnExactTreeReadx2
import Derived.Test.YtgnelblghdfgiaaPFnExactTreeReadx4
import Derived.Test.YtgnelblghdfgiaaPFnExactTreeReadx5
import Derived.Test.YtgnelblghdfgiaaPFnExactTreeReadx6
namespace Go.Proofs.Ytgnelblghdfgiaa.PFnExactTreeRead
open Go.RowKit Go.Proofs.YtgnelblghdfgiaaW.PrintWords Go.Proofs.YtgnelblghdfgiaaW.PrintLast Go.Proofs.YtgnelblghdfgiaaW.PrintMore Go.Proofs.YtgnelblghdfgiaaW.PrintMore2
attribute [local go_sem] max2_int min2_int max_two min_two max_three min_three max_four min_four   -- for this text's walks alone
set_option linter.unusedVariables false
set_option linter.unusedSimpArgs false

/-! ### laws_FnExactTreeRead: function 3 -/
mutual
def laws_FnExactTreeRead.j0 : Nat → List Int → Int → List (S40) → Int → Int → List Int → List (S40) → Int → Int → Bool → Option (Bool)
  | 0, _, _, _, _, _, _, _, _, _, _ => none
  | k + 1, x0, x1, x5, x6, x7, x8, x9, x10, x11, x51 => if x51 = true then (some false) else ((laws_toByteS.f k x0).bind fun t247 => ((laws_eqByteS.f k x8 t247).bind fun t250 => (if t250 = true then ((laws_markByteS.f k x8 1).bind fun bt251 => (if bt251.1 < 0 then (laws_FnExactTreeRead.j1 k x0 x1 x5 x6 x7 x9 true) else ((laws_eqNodeS.f k x9 x5).bind fun t253 => (if t253 = true then (if x10 = x6 then (laws_FnExactTreeRead.j1 k x0 x1 x5 x6 x7 x9 (x11 != x7)) else (laws_FnExactTreeRead.j1 k x0 x1 x5 x6 x7 x9 true)) else (laws_FnExactTreeRead.j1 k x0 x1 x5 x6 x7 x9 true))))) else (some false))))
def laws_FnExactTreeRead.j1 : Nat → List Int → Int → List (S40) → Int → Int → List (S40) → Bool → Option (Bool)
  | 0, _, _, _, _, _, _, _ => none
  | k + 1, x0, x1, x5, x6, x7, x9, x77 => if x77 = true then (some false) else ((laws_markNodeS.f k x9 1).bind fun bt254 => ((laws_heldNodeS.f k bt254.2 1).bind fun t256 => (if t256 < 0 then (some false) else (if t256 = bt254.1 then ((laws_toByteS.f k x0).bind fun t257 => ((impl_TreeRead.f k t257 x1).bind fun bt260 => ((laws_eqNodeS.f k bt260.1 x5).bind fun t265 => (if t265 = true then (if bt260.2.1 = x6 then (laws_FnExactTreeRead.j2 k bt254.2 bt254.1 (bt260.2.2 != x7)) else (laws_FnExactTreeRead.j2 k bt254.2 bt254.1 true)) else (laws_FnExactTreeRead.j2 k bt254.2 bt254.1 true))))) else (some false)))))
def laws_FnExactTreeRead.j2 : Nat → List (S40) → Int → Bool → Option (Bool)
  | 0, _, _, _ => none
  | k + 1, x9, x13, x110 => if x110 = true then (some false) else ((laws_heldNodeS.f k x9 1).bind fun t266 => (if t266 < 0 then (some false) else (if t266 = x13 then (some true) else (some false))))
end
def laws_FnExactTreeRead.f (k : Nat) (l0 : List Int) (a1 : Int) : Option (Bool) := if (l0.length : Int) > 1048576 then (some true) else ((laws_toByteS.f k l0).bind fun t230 => ((spec_TreeRead.f k t230 a1).bind fun bt233 => ((laws_toByteS.f k l0).bind fun t238 => ((impl_TreeRead.f k t238 a1).bind fun bt241 => ((laws_eqNodeS.f k bt241.1 bt233.1).bind fun t246 => (if t246 = true then (if bt241.2.1 = bt233.2.1 then (laws_FnExactTreeRead.j0 k l0 a1 bt233.1 bt233.2.1 bt233.2.2 t238 bt241.1 bt241.2.1 bt241.2.2 (bt241.2.2 != bt233.2.2)) else (laws_FnExactTreeRead.j0 k l0 a1 bt233.1 bt233.2.1 bt233.2.2 t238 bt241.1 bt241.2.1 bt241.2.2 true)) else (laws_FnExactTreeRead.j0 k l0 a1 bt233.1 bt233.2.1 bt233.2.2 t238 bt241.1 bt241.2.1 bt241.2.2 true)))))))
set_option maxHeartbeats 8000000 in
set_option maxRecDepth 100000 in
theorem laws_FnExactTreeRead.calls (k : Nat) (A0 : Option Addr) (c0 : Nat) (l0 : List Int) (a1 : Int) (r : Bool) (w : World) (hr0 : Kd.C (Kd.int .u8) w A0 l0.length l0) (hc0 : l0.length ≤ c0) (h : laws_FnExactTreeRead.f k l0 a1 = some true) :
    Calls Try.prog 3 #[.slice A0 l0.length c0, .int .i64 a1] w fun e w' => e = .returned (.bool true) ∧ Below w.heap.size w w' := by
  have HR0 := Aside0.mk hr0
  have HC0 := Aside0.mk hc0
  clear hr0 hc0
  have HB := Aside0.mk (Below.refl w.heap.size w)
  have H : (if (l0.length : Int) > 1048576 then (some true) else ((laws_toByteS.f k l0).bind fun t230 => ((spec_TreeRead.f k t230 a1).bind fun bt233 => ((laws_toByteS.f k l0).bind fun t238 => ((impl_TreeRead.f k t238 a1).bind fun bt241 => ((laws_eqNodeS.f k bt241.1 bt233.1).bind fun t246 => (if t246 = true then (if bt241.2.1 = bt233.2.1 then (laws_FnExactTreeRead.j0 k l0 a1 bt233.1 bt233.2.1 bt233.2.2 t238 bt241.1 bt241.2.1 bt241.2.2 (bt241.2.2 != bt233.2.2)) else (laws_FnExactTreeRead.j0 k l0 a1 bt233.1 bt233.2.1 bt233.2.2 t238 bt241.1 bt241.2.1 bt241.2.2 true)) else (laws_FnExactTreeRead.j0 k l0 a1 bt233.1 bt233.2.1 bt233.2.2 t238 bt241.1 bt241.2.1 bt241.2.2 true)))))))) = some true := h
  clear h
  by_cases c3 : (l0.length : Int) > 1048576
  · rw [if_pos c3] at H
    have c3b0 : decide (1048576 < (l0.length : Int)) = true := decide_eq_true c3
    have c3b1 : decide (1048576 < l0.length) = true := decide_eq_true (by omega)
    clear c3
    clear H
    go_enter Try.func3, Try.ntmps3
    go_wp2
    go_ret
    exact fin_ (below_later HB.out)
  · rw [if_neg c3] at H
    have c3b0 : decide (1048576 < (l0.length : Int)) = false := decide_eq_false c3
    have c3b1 : decide (1048576 < l0.length) = false := decide_eq_false (by omega)
    clear c3
    replace H := bnd H
    obtain ⟨t230, A4, H⟩ := H
    replace H := Option.bind_eq_some_iff.mp H
    obtain ⟨⟨t233, t234, t235⟩, A50, H⟩ := H
    replace H : ((laws_toByteS.f k l0).bind fun t238 => ((impl_TreeRead.f k t238 a1).bind fun bt241 => ((laws_eqNodeS.f k bt241.1 t233).bind fun t246 => (if t246 = true then (if bt241.2.1 = t234 then (laws_FnExactTreeRead.j0 k l0 a1 t233 t234 t235 t238 bt241.1 bt241.2.1 bt241.2.2 (bt241.2.2 != t235)) else (laws_FnExactTreeRead.j0 k l0 a1 t233 t234 t235 t238 bt241.1 bt241.2.1 bt241.2.2 true)) else (laws_FnExactTreeRead.j0 k l0 a1 t233 t234 t235 t238 bt241.1 bt241.2.1 bt241.2.2 true))))) = some true := H
    have A5 := Aside0.mk A50
    clear A50
    replace H := bnd H
    obtain ⟨t238, A6, H⟩ := H
    replace H := Option.bind_eq_some_iff.mp H
    obtain ⟨⟨t241, t242, t243⟩, A70, H⟩ := H
    replace H : ((laws_eqNodeS.f k t241 t233).bind fun t246 => (if t246 = true then (if t242 = t234 then (laws_FnExactTreeRead.j0 k l0 a1 t233 t234 t235 t238 t241 t242 t243 (t243 != t235)) else (laws_FnExactTreeRead.j0 k l0 a1 t233 t234 t235 t238 t241 t242 t243 true)) else (laws_FnExactTreeRead.j0 k l0 a1 t233 t234 t235 t238 t241 t242 t243 true))) = some true := H
    have A7 := Aside0.mk A70
    clear A70
    have HC8 := Aside0.mk H
    clear H
    go_enter Try.func3, Try.ntmps3
    go_upto_region 6 with (first | ((with_reducible refine gate_callee (f := 5) rfl ?_); refine gl_ (some 23) Try.func5 #[.slice A0 l0.length c0] rfl ?_; (with_reducible refine (laws_toByteS.calls k _ _ l0 t230 _ ?side1 ?side2 A4.out).mono ?_); (case side1 => exact C_later HR0.out); (case side2 => exact HC0.out); rintro e w9 ⟨v231, rfl, ho0, hb⟩; refine ⟨_, rfl, ?_⟩; have HO232 := Aside0.mk (Kd.R_lower ho0 (below_size (below_later HB.out))); replace HB := bst HB hb; (try clear hb); (try clear ho0); obtain ⟨Ao10, co10, eo10⟩ := Kd.R_slice HO232.out; subst eo10) | ((with_reducible refine gate_callee (f := 4) rfl ?_); refine gl_ (some 25) Try.func4 #[.slice Ao10 t230.length co10, .int .i64 a1] rfl ?_; (with_reducible refine (spec_TreeRead.calls k _ _ t230 a1 t233 t234 t235 _ ?side1 ?side2 A5.out).mono ?_); (case side1 => repeat (first | exact (Kd.R_reads' HO232.out).2.2 | (with_reducible refine Kd.C_alloc ?_ _) | (with_reducible refine Kd.C_drewN ?_ _) | (with_reducible refine Kd.C_drew ?_))); (case side2 => exact (Kd.R_reads' HO232.out).2.1); rintro e w11 ⟨v236, rfl, ho0, hb⟩; refine ⟨_, rfl, ?_⟩; have HO237 := Aside0.mk (Kd.R_lower ho0 (below_size (below_later HB.out))); replace HO232 := Aside0.mk (Kd.R_below (R_later HO232.out) hb); replace HB := bst HB hb; (try clear hb); (try clear ho0)) | ((with_reducible refine gate_callee (f := 5) rfl ?_); refine gl_ (some 30) Try.func5 #[.slice A0 l0.length c0] rfl ?_; (with_reducible refine (laws_toByteS.calls k _ _ l0 t238 _ ?side1 ?side2 A6.out).mono ?_); (case side1 => repeat (first | exact (Kd.C_below HR0.out HB.out) | (with_reducible refine Kd.C_alloc ?_ _) | (with_reducible refine Kd.C_drewN ?_ _) | (with_reducible refine Kd.C_drew ?_))); (case side2 => exact HC0.out); rintro e w12 ⟨v239, rfl, ho0, hb⟩; refine ⟨_, rfl, ?_⟩; have HO240 := Aside0.mk (Kd.R_lower (Kd.R_new' ho0 (Kd.R_lt (R_later HO232.out))) (below_size (below_later HB.out))); replace HO232 := Aside0.mk (Kd.R_elder' (R_later HO232.out) (Kd.R_base ho0) hb); replace HO237 := Aside0.mk (Kd.R_below (R_later HO237.out) hb); replace HB := bst HB hb; (try clear hb); (try clear ho0); obtain ⟨Ao13, co13, eo13⟩ := Kd.R_slice HO240.out; subst eo13) | ((with_reducible refine gate_callee (f := 6) rfl ?_); refine gl_ (some 34) Try.func6 #[.slice Ao13 t238.length co13, .int .i64 a1] rfl ?_; (with_reducible refine (impl_TreeRead.calls k _ _ t238 a1 t241 t242 t243 _ ?side1 ?side2 A7.out).mono ?_); (case side1 => repeat (first | exact (Kd.R_reads' HO240.out).2.2 | (with_reducible refine Kd.C_alloc ?_ _) | (with_reducible refine Kd.C_drewN ?_ _) | (with_reducible refine Kd.C_drew ?_))); (case side2 => exact (Kd.R_reads' HO240.out).2.1); rintro e w14 ⟨v244, rfl, ho0, hb⟩; refine ⟨_, rfl, ?_⟩; have HO245 := Aside0.mk (Kd.R_lower (Kd.R_new' ho0 (Kd.R_lt (R_later HO237.out))) (below_size (below_later HB.out))); replace HO232 := Aside0.mk (Kd.R_below (R_later HO232.out) hb); replace HO237 := Aside0.mk (Kd.R_elder' (R_later HO237.out) (Kd.R_base ho0) hb); replace HO240 := Aside0.mk (Kd.R_below (R_later HO240.out) hb); replace HB := bst HB hb; (try clear hb); (try clear ho0)))
    (try simp only [Act.put, List.setIfInBounds_toArray, List.set_cons_zero, List.set_cons_succ])
    go_cut [51] (fun v51 wc => ∃ (kq : Nat) (x51_7 : Bool), v51 = .bool x51_7 ∧ Aside0 (laws_FnExactTreeRead.j0 kq l0 a1 t233 t234 t235 t238 t241 t242 t243 x51_7 = some true) ∧ Aside0 (kq ≤ k) ∧ Aside0 (Kd.R k40 40 wc w.heap.size (fun k_ => some k_ ≠ (v244 : Value).ownBlock) v236 t233) ∧ Aside0 (Kd.R (Kd.int .u8) 5 wc w.heap.size (fun _ => True) (.slice Ao13 t238.length co13) t238) ∧ Aside0 (Kd.R k40 40 wc w.heap.size (fun k_ => some k_ ≠ (v236 : Value).ownBlock) v244 t241) ∧ Aside0 (Below w.heap.size w wc))
    case first =>
      have H := HC8.out
      clear HC8
      replace H := bnd H
      obtain ⟨t246, A15, H⟩ := H
      by_cases c16 : t246 = true
      · subst c16
        replace H := ifp rfl H
        by_cases c17 : t242 = t234
        · rw [if_pos c17] at H
          have c17b0 : (t242 == t234) = true := beq_iff_eq.mpr c17
          have c17b1 : (t242 != t234) = false := bne_eq_false_iff_eq.mpr c17
          clear c17
          (first | rw [c17b0] | rw [c17b1] | (simp only [i64_w, i32_w]; rw [c17b0]) | skip)
          have H' := Aside0.mk H
          clear H
          obtain ⟨Ao18, co18, eo18⟩ := Kd.R_slice HO245.out
          subst eo18
          obtain ⟨Ao19, co19, eo19⟩ := Kd.R_slice HO237.out
          subst eo19
          go_wp2_with (first | ((with_reducible refine gate_callee (f := 7) rfl ?_); refine gl_ (some 40) Try.func7 #[.slice Ao18 t241.length co18, .slice Ao19 t233.length co19] rfl ?_; (with_reducible refine (laws_eqNodeS.calls k _ _ t241 _ _ t233 true _ ?side1 ?side2 ?side3 ?side4 A15.out).mono ?_); (case side1 => repeat (first | exact (Kd.R_reads' HO245.out).2.2 | (with_reducible refine Kd.C_alloc ?_ _) | (with_reducible refine Kd.C_drewN ?_ _) | (with_reducible refine Kd.C_drew ?_))); (case side2 => exact (Kd.R_reads' HO245.out).2.1); (case side3 => repeat (first | exact (Kd.R_reads' HO237.out).2.2 | (with_reducible refine Kd.C_alloc ?_ _) | (with_reducible refine Kd.C_drewN ?_ _) | (with_reducible refine Kd.C_drew ?_))); (case side4 => exact (Kd.R_reads' HO237.out).2.1); rintro e w20 ⟨rfl, hb⟩; refine ⟨_, rfl, ?_⟩; replace HO232 := Aside0.mk (Kd.R_below (R_later HO232.out) hb); replace HO237 := Aside0.mk (Kd.R_below (R_later HO237.out) hb); replace HO240 := Aside0.mk (Kd.R_below (R_later HO240.out) hb); replace HO245 := Aside0.mk (Kd.R_below (R_later HO245.out) hb); replace HB := bst HB hb; (try clear hb)))
          go_meet
          case rel => exact ⟨_, ((t243 != t235)), sr, H', ⟨by first | omega | exact Nat.le_refl _⟩, ⟨R_later (Kd.R_mono HO237.out (fun _ hk => hk.2))⟩, ⟨R_later (Kd.R_mono HO240.out (fun _ hk => trivial))⟩, ⟨R_later (Kd.R_mono HO245.out (fun _ hk => hk.2))⟩, ⟨below_later HB.out⟩⟩
        · rw [if_neg c17] at H
          exact absurd H (by cases k <;> simp [laws_FnExactTreeRead.j0])
      · replace c16 := Bool.eq_false_iff.mpr c16
        subst c16
        have H1 : (laws_FnExactTreeRead.j0 k l0 a1 t233 t234 t235 t238 t241 t242 t243 true) = some true := by rw [if_neg (show ¬ (false = true) by decide)] at H; exact H
        exact absurd H1 (by cases k <;> simp [laws_FnExactTreeRead.j0])
    case rest =>
      clear HC8
      try clear c3
      try clear c3b0
      try clear c3b1
      obtain ⟨kq, x51_7, rfl, HA, HJ7, HO_5, HO_8, HO_9, HB⟩ := hcut
      cases kq with
      | zero => exact absurd HA.out (by simp [laws_FnExactTreeRead.j0])
      | succ kj7 =>
        have H := HA.out
        clear HA
        simp only [laws_FnExactTreeRead.j0] at H
        by_cases c27 : x51_7 = true
        · subst c27
          have H1 : (some false) = some true := by rw [if_pos rfl] at H; exact H
          cases H1
        · replace c27 := Bool.eq_false_iff.mpr c27
          subst c27
          replace H := ifn Bool.false_ne_true H
          replace H := bnd H
          obtain ⟨t247, A28, H⟩ := H
          replace H := bnd H
          obtain ⟨t250, A29, H⟩ := H
          by_cases c30 : t250 = true
          · subst c30
            replace H := ifp rfl H
            replace H := Option.bind_eq_some_iff.mp H
            obtain ⟨⟨t251, t252⟩, A310, H⟩ := H
            replace H : (if t251 < 0 then (laws_FnExactTreeRead.j1 kj7 l0 a1 t233 t234 t235 t241 true) else ((laws_eqNodeS.f kj7 t241 t233).bind fun t253 => (if t253 = true then (if t242 = t234 then (laws_FnExactTreeRead.j1 kj7 l0 a1 t233 t234 t235 t241 (t243 != t235)) else (laws_FnExactTreeRead.j1 kj7 l0 a1 t233 t234 t235 t241 true)) else (laws_FnExactTreeRead.j1 kj7 l0 a1 t233 t234 t235 t241 true)))) = some true := H
            have A31 := Aside0.mk A310
            clear A310
            have HC32 := Aside0.mk H
            clear H
            go_upto_region 12 with (first | ((with_reducible refine gate_callee (f := 5) rfl ?_); refine gl_ (some 54) Try.func5 #[.slice A0 l0.length c0] rfl ?_; (with_reducible refine (laws_toByteS.calls kj7 _ _ l0 t247 _ ?side1 ?side2 A28.out).mono ?_); (case side1 => repeat (first | exact (Kd.C_below HR0.out HB.out) | (with_reducible refine Kd.C_alloc ?_ _) | (with_reducible refine Kd.C_drewN ?_ _) | (with_reducible refine Kd.C_drew ?_))); (case side2 => exact HC0.out); rintro e w33 ⟨v248, rfl, ho0, hb⟩; refine ⟨_, rfl, ?_⟩; have HO249 := Aside0.mk (Kd.R_lower (Kd.R_new' ho0 (Kd.R_lt (R_later HO_8.out))) (below_size (below_later HB.out))); replace HO_5 := Aside0.mk (Kd.R_below (R_later HO_5.out) hb); replace HO_8 := Aside0.mk (Kd.R_elder' (R_later HO_8.out) (Kd.R_base ho0) hb); replace HO_9 := Aside0.mk (Kd.R_below (R_later HO_9.out) hb); replace HB := bst HB hb; (try clear hb); (try clear ho0); obtain ⟨Ao34, co34, eo34⟩ := Kd.R_slice HO249.out; subst eo34) | ((with_reducible refine gate_callee (f := 8) rfl ?_); refine gl_ (some 55) Try.func8 #[.slice Ao13 t238.length co13, .slice Ao34 t247.length co34] rfl ?_; (with_reducible refine (laws_eqByteS.calls kj7 _ _ t238 _ _ t247 true _ ?side1 ?side2 ?side3 ?side4 A29.out).mono ?_); (case side1 => repeat (first | exact (Kd.R_reads' HO_8.out).2.2 | (with_reducible refine Kd.C_alloc ?_ _) | (with_reducible refine Kd.C_drewN ?_ _) | (with_reducible refine Kd.C_drew ?_))); (case side2 => exact (Kd.R_reads' HO_8.out).2.1); (case side3 => repeat (first | exact (Kd.R_reads' HO249.out).2.2 | (with_reducible refine Kd.C_alloc ?_ _) | (with_reducible refine Kd.C_drewN ?_ _) | (with_reducible refine Kd.C_drew ?_))); (case side4 => exact (Kd.R_reads' HO249.out).2.1); rintro e w' ⟨rfl, ⟨nd, rfl⟩⟩; refine ⟨_, rfl, ?_⟩) | ((with_reducible refine gate_callee (f := 9) rfl ?_); refine gl_ (some 59) Try.func9 #[.slice Ao13 t238.length co13, .int .i64 1] rfl ?_; (with_reducible refine (laws_markByteS.calls kj7 (fun k_ => some k_ = (.slice Ao13 t238.length co13 : Value).ownBlock) (.slice Ao13 t238.length co13) t238 1 t251 t252 w _ ?side1 ?side2 A31.out).mono ?_); (case side1 => repeat (first | (with_reducible first | exact HB.out | apply below_alloc | apply pw_below_drewN | apply below_drew1) | exact HB.out)); (case side2 => exact Kd.R_tight rfl HO_8.out); rintro e w35 ⟨rfl, hy0, hb, hkp⟩; refine ⟨_, rfl, ?_⟩; replace HO_5 := Aside0.mk (Kd.R_mono (ok' := fun k_ => some k_ ≠ (v244 : Value).ownBlock) (Kd.R_keptB ((Kd.R_apart' HO_5.out (Kd.R_typed HO_8.out) (by decide))) hkp (fun k_ hk_ hs_ => (hk_.2) hs_)) (fun k_ hk_ => hk_.1.1)); replace HO_9 := Aside0.mk (Kd.R_mono (ok' := fun k_ => some k_ ≠ (v236 : Value).ownBlock) (Kd.R_keptB ((Kd.R_apart' HO_9.out (Kd.R_typed HO_8.out) (by decide))) hkp (fun k_ hk_ hs_ => (hk_.2) hs_)) (fun k_ hk_ => hk_.1.1)); replace HO_8 := Aside0.mk (Kd.R_reok rfl hy0 (fun k_ e_ => HO_8.out.1 k_ e_)); replace HO249 := Aside0.mk (Kd.R_mono (ok' := fun k_ => some k_ ≠ (.slice Ao13 t238.length co13 : Value).ownBlock) (Kd.R_keptB (HO249.out) hkp (fun k_ hk_ hs_ => (hk_.2) hs_)) (fun k_ hk_ => hk_.1.2)); replace HB := Aside0.mk (hb); (try clear hb); (try clear hkp); (try clear hy0)))
            (try simp only [Act.put, List.setIfInBounds_toArray, List.set_cons_zero, List.set_cons_succ])
            go_cut [77] (fun v77 wc => ∃ (kq : Nat) (x77_31 : Bool), v77 = .bool x77_31 ∧ Aside0 (laws_FnExactTreeRead.j1 kq l0 a1 t233 t234 t235 t241 x77_31 = some true) ∧ Aside0 (kq ≤ kj7) ∧ Aside0 (Kd.R k40 40 wc w.heap.size (fun k_ => some k_ ≠ (v244 : Value).ownBlock) v236 t233) ∧ Aside0 (Kd.R k40 40 wc w.heap.size (fun k_ => some k_ ≠ (v236 : Value).ownBlock) v244 t241) ∧ Aside0 (Below w.heap.size w wc))
            case first =>
              have H := HC32.out
              clear HC32
              by_cases c36 : t251 < 0
              · rw [if_pos c36] at H
                have c36b0 := decide_eq_true c36
                clear c36
                (first | rw [c36b0] | (simp only [i64_w, i32_w]; rw [c36b0]) | skip)
                have H' := Aside0.mk H
                clear H
                go_wp2
                go_meet
                case rel => exact ⟨_, (true), sr, H', ⟨by have := HJ7.out; first | omega | exact Nat.le_refl _⟩, ⟨R_later HO_5.out⟩, ⟨R_later HO_9.out⟩, ⟨below_later HB.out⟩⟩
              · rw [if_neg c36] at H
                have c36b0 := decide_eq_false c36
                clear c36
                (first | rw [c36b0] | (simp only [i64_w, i32_w]; rw [c36b0]) | skip)
                replace H := bnd H
                obtain ⟨t253, A37, H⟩ := H
                by_cases c38 : t253 = true
                · subst c38
                  replace H := ifp rfl H
                  by_cases c39 : t242 = t234
                  · rw [if_pos c39] at H
                    have c39b0 : (t242 == t234) = true := beq_iff_eq.mpr c39
                    have c39b1 : (t242 != t234) = false := bne_eq_false_iff_eq.mpr c39
                    clear c39
                    have H' := Aside0.mk H
                    clear H
                    obtain ⟨Ao40, co40, eo40⟩ := Kd.R_slice HO_9.out
                    subst eo40
                    obtain ⟨Ao41, co41, eo41⟩ := Kd.R_slice HO_5.out
                    subst eo41
                    go_wp2_with (first | (go_at_call 7; (with_reducible refine (laws_eqNodeS.calls kj7 _ _ t241 _ _ t233 true _ ?side1 ?side2 ?side3 ?side4 A37.out).mono ?_); (case side1 => repeat (first | exact (Kd.R_reads' HO_9.out).2.2 | (with_reducible refine Kd.C_alloc ?_ _) | (with_reducible refine Kd.C_drewN ?_ _) | (with_reducible refine Kd.C_drew ?_))); (case side2 => exact (Kd.R_reads' HO_9.out).2.1); (case side3 => repeat (first | exact (Kd.R_reads' HO_5.out).2.2 | (with_reducible refine Kd.C_alloc ?_ _) | (with_reducible refine Kd.C_drewN ?_ _) | (with_reducible refine Kd.C_drew ?_))); (case side4 => exact (Kd.R_reads' HO_5.out).2.1); rintro e w42 ⟨rfl, hb⟩; replace HO_5 := Aside0.mk (Kd.R_below (R_later HO_5.out) hb); replace HO_8 := Aside0.mk (Kd.R_below (R_later HO_8.out) hb); replace HO_9 := Aside0.mk (Kd.R_below (R_later HO_9.out) hb); replace HO249 := Aside0.mk (Kd.R_below (R_later HO249.out) hb); replace HB := bst HB hb; (try clear hb)))
                    go_meet
                    case rel => exact ⟨_, ((t243 != t235)), sr, H', ⟨by have := HJ7.out; first | omega | exact Nat.le_refl _⟩, ⟨R_later HO_5.out⟩, ⟨R_later HO_9.out⟩, ⟨below_later HB.out⟩⟩
                  · rw [if_neg c39] at H
                    exact absurd H (by cases kj7 <;> simp [laws_FnExactTreeRead.j1])
                · replace c38 := Bool.eq_false_iff.mpr c38
                  subst c38
                  have H1 : (laws_FnExactTreeRead.j1 kj7 l0 a1 t233 t234 t235 t241 true) = some true := by rw [if_neg (show ¬ (false = true) by decide)] at H; exact H
                  exact absurd H1 (by cases kj7 <;> simp [laws_FnExactTreeRead.j1])
            case rest =>
              clear HC32
              try clear c3
              try clear c3b0
              try clear c3b1
              try clear c27
              try clear c30
              obtain ⟨kq, x77_31, rfl, HA, HJ31, HO_5, HO_9, HB⟩ := hcut
              cases kq with
              | zero => exact absurd HA.out (by simp [laws_FnExactTreeRead.j1])
              | succ kj31 =>
                have H := HA.out
                clear HA
                simp only [laws_FnExactTreeRead.j1] at H
                by_cases c49 : x77_31 = true
                · subst c49
                  have H1 : (some false) = some true := by rw [if_pos rfl] at H; exact H
                  cases H1
                · replace c49 := Bool.eq_false_iff.mpr c49
                  subst c49
                  replace H := ifn Bool.false_ne_true H
                  replace H := Option.bind_eq_some_iff.mp H
                  obtain ⟨⟨t254, t255⟩, A500, H⟩ := H
                  replace H : ((laws_heldNodeS.f kj31 t255 1).bind fun t256 => (if t256 < 0 then (some false) else (if t256 = t254 then ((laws_toByteS.f kj31 l0).bind fun t257 => ((impl_TreeRead.f kj31 t257 a1).bind fun bt260 => ((laws_eqNodeS.f kj31 bt260.1 t233).bind fun t265 => (if t265 = true then (if bt260.2.1 = t234 then (laws_FnExactTreeRead.j2 kj31 t255 t254 (bt260.2.2 != t235)) else (laws_FnExactTreeRead.j2 kj31 t255 t254 true)) else (laws_FnExactTreeRead.j2 kj31 t255 t254 true))))) else (some false)))) = some true := H
                  have A50 := Aside0.mk A500
                  clear A500
                  replace H := bnd H
                  obtain ⟨t256, A51, H⟩ := H
                  by_cases c52 : t256 < 0
                  · rw [if_pos c52] at H
                    cases H
                  · rw [if_neg c52] at H
                    have c52b0 := decide_eq_false c52
                    clear c52
                    by_cases c56 : t256 = t254
                    · rw [if_pos c56] at H
                      have c56b0 : (t256 == t254) = true := beq_iff_eq.mpr c56
                      have c56b1 : (t256 != t254) = false := bne_eq_false_iff_eq.mpr c56
                      clear c56
                      replace H := bnd H
                      obtain ⟨t257, A57, H⟩ := H
                      replace H := Option.bind_eq_some_iff.mp H
                      obtain ⟨⟨t260, t261, t262⟩, A580, H⟩ := H
                      replace H : ((laws_eqNodeS.f kj31 t260 t233).bind fun t265 => (if t265 = true then (if t261 = t234 then (laws_FnExactTreeRead.j2 kj31 t255 t254 (t262 != t235)) else (laws_FnExactTreeRead.j2 kj31 t255 t254 true)) else (laws_FnExactTreeRead.j2 kj31 t255 t254 true))) = some true := H
                      have A58 := Aside0.mk A580
                      clear A580
                      have HC59 := Aside0.mk H
                      clear H
                      obtain ⟨Ao60, co60, eo60⟩ := Kd.R_slice HO_9.out
                      subst eo60
                      go_upto_region 23 with (first | ((with_reducible refine gate_callee (f := 10) rfl ?_); refine gl_ (some 80) Try.func10 #[.slice Ao60 t241.length co60, .int .i64 1] rfl ?_; (with_reducible refine (laws_markNodeS.calls kj31 (fun k_ => some k_ = (.slice Ao60 t241.length co60 : Value).ownBlock) (.slice Ao60 t241.length co60) t241 1 t254 t255 w _ ?side1 ?side2 A50.out).mono ?_); (case side1 => repeat (first | (with_reducible first | exact HB.out | apply below_alloc | apply pw_below_drewN | apply below_drew1) | exact HB.out)); (case side2 => exact Kd.R_tight rfl HO_9.out); rintro e w61 ⟨rfl, hy0, hb, hkp⟩; refine ⟨_, rfl, ?_⟩; replace HO_5 := Aside0.mk (Kd.R_mono (ok' := fun k_ => some k_ ≠ (.slice Ao60 t241.length co60 : Value).ownBlock) (Kd.R_keptB (HO_5.out) hkp (fun k_ hk_ hs_ => (hk_) hs_)) (fun k_ hk_ => hk_.1)); replace HO_9 := Aside0.mk (Kd.R_reok rfl hy0 (fun k_ e_ => HO_9.out.1 k_ e_)); replace HB := Aside0.mk (hb); (try clear hb); (try clear hkp); (try clear hy0)) | ((with_reducible refine gate_callee (f := 11) rfl ?_); refine goesL_ (some 83) rfl rfl Try.func11 (by kernel_rfl) rfl #[.slice Ao60 t255.length co60, .int .i64 1] rfl (by (try simp only [List.map_toArray, List.map_cons, List.map_nil]); first | done | (rw [show t255.length = t241.length from (Kd.R_reads' HO_9.out).1.symm] <;> rfl) | rfl | (simp only [List.length_drop, List.length_take]; rfl)) ?_; (with_reducible refine (laws_heldNodeS.calls kj31 _ _ t255 1 t256 _ ?side1 ?side2 A51.out).mono ?_); (case side1 => repeat (first | exact (Kd.R_reads' HO_9.out).2.2 | (with_reducible refine Kd.C_alloc ?_ _) | (with_reducible refine Kd.C_drewN ?_ _) | (with_reducible refine Kd.C_drew ?_))); (case side2 => rw [show t255.length = t241.length from (Kd.R_reads' HO_9.out).1.symm]; exact (Kd.R_reads' HO_9.out).2.1); rintro e w62 ⟨rfl, hb⟩; refine ⟨_, rfl, ?_⟩; replace HO_5 := Aside0.mk (Kd.R_below (R_later HO_5.out) hb); replace HO_9 := Aside0.mk (Kd.R_below (R_later HO_9.out) hb); replace HB := bst HB hb; (try clear hb)) | ((with_reducible refine gate_callee (f := 5) rfl ?_); refine gl_ (some 91) Try.func5 #[.slice A0 l0.length c0] rfl ?_; (with_reducible refine (laws_toByteS.calls kj31 _ _ l0 t257 _ ?side1 ?side2 A57.out).mono ?_); (case side1 => repeat (first | exact (Kd.C_below HR0.out HB.out) | (with_reducible refine Kd.C_alloc ?_ _) | (with_reducible refine Kd.C_drewN ?_ _) | (with_reducible refine Kd.C_drew ?_))); (case side2 => exact HC0.out); rintro e w63 ⟨v258, rfl, ho0, hb⟩; refine ⟨_, rfl, ?_⟩; have HO259 := Aside0.mk (Kd.R_lower ho0 (below_size (below_later HB.out))); replace HO_5 := Aside0.mk (Kd.R_below (R_later HO_5.out) hb); replace HO_9 := Aside0.mk (Kd.R_below (R_later HO_9.out) hb); replace HB := bst HB hb; (try clear hb); (try clear ho0); obtain ⟨Ao64, co64, eo64⟩ := Kd.R_slice HO259.out; subst eo64) | ((with_reducible refine gate_callee (f := 6) rfl ?_); refine gl_ (some 93) Try.func6 #[.slice Ao64 t257.length co64, .int .i64 a1] rfl ?_; (with_reducible refine (impl_TreeRead.calls kj31 _ _ t257 a1 t260 t261 t262 _ ?side1 ?side2 A58.out).mono ?_); (case side1 => repeat (first | exact (Kd.R_reads' HO259.out).2.2 | (with_reducible refine Kd.C_alloc ?_ _) | (with_reducible refine Kd.C_drewN ?_ _) | (with_reducible refine Kd.C_drew ?_))); (case side2 => exact (Kd.R_reads' HO259.out).2.1); rintro e w65 ⟨v263, rfl, ho0, hb⟩; refine ⟨_, rfl, ?_⟩; have HO264 := Aside0.mk (Kd.R_lower (Kd.R_new' (Kd.R_new' ho0 (Kd.R_lt (R_later HO_5.out))) (Kd.R_lt (R_later HO_9.out))) (below_size (below_later HB.out))); replace HO_5 := Aside0.mk (Kd.R_elder' (R_later HO_5.out) (Kd.R_base ho0) hb); replace HO_9 := Aside0.mk (Kd.R_elder' (R_later HO_9.out) (Kd.R_base ho0) hb); replace HO259 := Aside0.mk (Kd.R_below (R_later HO259.out) hb); replace HB := bst HB hb; (try clear hb); (try clear ho0)))
                      (try simp only [Act.put, List.setIfInBounds_toArray, List.set_cons_zero, List.set_cons_succ])
                      go_cut [110] (fun v110 wc => ∃ (kq : Nat) (x110_58 : Bool), v110 = .bool x110_58 ∧ Aside0 (laws_FnExactTreeRead.j2 kq t255 t254 x110_58 = some true) ∧ Aside0 (kq ≤ kj31) ∧ Aside0 (Kd.R k40 40 wc w.heap.size (fun _ => True) (.slice Ao60 t241.length co60) t255) ∧ Aside0 (Below w.heap.size w wc))
                      case first =>
                        have H := HC59.out
                        clear HC59
                        replace H := bnd H
                        obtain ⟨t265, A66, H⟩ := H
                        by_cases c67 : t265 = true
                        · subst c67
                          replace H := ifp rfl H
                          by_cases c68 : t261 = t234
                          · rw [if_pos c68] at H
                            have c68b0 : (t261 == t234) = true := beq_iff_eq.mpr c68
                            have c68b1 : (t261 != t234) = false := bne_eq_false_iff_eq.mpr c68
                            clear c68
                            (first | rw [c68b0] | rw [c68b1] | (simp only [i64_w, i32_w]; rw [c68b0]) | skip)
                            have H' := Aside0.mk H
                            clear H
                            obtain ⟨Ao69, co69, eo69⟩ := Kd.R_slice HO264.out
                            subst eo69
                            obtain ⟨Ao70, co70, eo70⟩ := Kd.R_slice HO_5.out
                            subst eo70
                            go_wp2_with (first | ((with_reducible refine gate_callee (f := 7) rfl ?_); refine gl_ (some 99) Try.func7 #[.slice Ao69 t260.length co69, .slice Ao70 t233.length co70] rfl ?_; (with_reducible refine (laws_eqNodeS.calls kj31 _ _ t260 _ _ t233 true _ ?side1 ?side2 ?side3 ?side4 A66.out).mono ?_); (case side1 => repeat (first | exact (Kd.R_reads' HO264.out).2.2 | (with_reducible refine Kd.C_alloc ?_ _) | (with_reducible refine Kd.C_drewN ?_ _) | (with_reducible refine Kd.C_drew ?_))); (case side2 => exact (Kd.R_reads' HO264.out).2.1); (case side3 => repeat (first | exact (Kd.R_reads' HO_5.out).2.2 | (with_reducible refine Kd.C_alloc ?_ _) | (with_reducible refine Kd.C_drewN ?_ _) | (with_reducible refine Kd.C_drew ?_))); (case side4 => exact (Kd.R_reads' HO_5.out).2.1); rintro e w71 ⟨rfl, hb⟩; refine ⟨_, rfl, ?_⟩; replace HO_5 := Aside0.mk (Kd.R_below (R_later HO_5.out) hb); replace HO_9 := Aside0.mk (Kd.R_below (R_later HO_9.out) hb); replace HO259 := Aside0.mk (Kd.R_below (R_later HO259.out) hb); replace HO264 := Aside0.mk (Kd.R_below (R_later HO264.out) hb); replace HB := bst HB hb; (try clear hb)))
                            go_meet
                            case rel => exact ⟨_, ((t262 != t235)), sr, H', ⟨by have := HJ7.out; have := HJ31.out; first | omega | exact Nat.le_refl _⟩, ⟨R_later (Kd.R_mono HO_9.out (fun _ hk => trivial))⟩, ⟨below_later HB.out⟩⟩
                          · rw [if_neg c68] at H
                            exact absurd H (by cases kj31 <;> simp [laws_FnExactTreeRead.j2])
                        · replace c67 := Bool.eq_false_iff.mpr c67
                          subst c67
                          have H1 : (laws_FnExactTreeRead.j2 kj31 t255 t254 true) = some true := by rw [if_neg (show ¬ (false = true) by decide)] at H; exact H
                          exact absurd H1 (by cases kj31 <;> simp [laws_FnExactTreeRead.j2])
                      case rest =>
                        clear HC59
                        try clear c3
                        try clear c3b0
                        try clear c3b1
                        try clear c27
                        try clear c30
                        try clear c49
                        try clear c52
                        try clear c52b0
                        try clear c56
                        try clear c56b0
                        try clear c56b1
                        obtain ⟨kq, x110_58, rfl, HA, HJ58, HO_9, HB⟩ := hcut
                        have hl9_58 := (Kd.R_reads' HO_9.out).1
                        rw [hl9_58] at HO_9
                        (try simp only [hl9_58])
                        cases kq with
                        | zero => exact absurd HA.out (by simp [laws_FnExactTreeRead.j2])
                        | succ kj58 =>
                          have H := HA.out
                          clear HA
                          simp only [laws_FnExactTreeRead.j2] at H
                          by_cases c78 : x110_58 = true
                          · subst c78
                            have H1 : (some false) = some true := by rw [if_pos rfl] at H; exact H
                            cases H1
                          · replace c78 := Bool.eq_false_iff.mpr c78
                            subst c78
                            replace H := ifn Bool.false_ne_true H
                            replace H := bnd H
                            obtain ⟨t266, A79, H⟩ := H
                            by_cases c80 : t266 < 0
                            · rw [if_pos c80] at H
                              cases H
                            · rw [if_neg c80] at H
                              have c80b0 := decide_eq_false c80
                              clear c80
                              by_cases c82 : t266 = t254
                              · rw [if_pos c82] at H
                                have c82b0 : (t266 == t254) = true := beq_iff_eq.mpr c82
                                have c82b1 : (t266 != t254) = false := bne_eq_false_iff_eq.mpr c82
                                clear c82
                                clear H
                                go_wp2_with (first | ((with_reducible refine gate_callee (f := 11) rfl ?_); refine gl_ (some 113) Try.func11 #[.slice Ao60 t255.length co60, .int .i64 1] rfl ?_; (with_reducible refine (laws_heldNodeS.calls kj58 _ _ t255 1 t266 _ ?side1 ?side2 A79.out).mono ?_); (case side1 => repeat (first | exact (Kd.R_reads' HO_9.out).2.2 | (with_reducible refine Kd.C_alloc ?_ _) | (with_reducible refine Kd.C_drewN ?_ _) | (with_reducible refine Kd.C_drew ?_))); (case side2 => exact (Kd.R_reads' HO_9.out).2.1); rintro e w83 ⟨rfl, hb⟩; refine ⟨_, rfl, ?_⟩; replace HO_9 := Aside0.mk (Kd.R_below (R_later HO_9.out) hb); replace HB := bst HB hb; (try clear hb)))
                                go_ret
                                exact fin_ (below_later HB.out)
                              · rw [if_neg c82] at H
                                cases H
                    · rw [if_neg c56] at H
                      cases H
          · replace c30 := Bool.eq_false_iff.mpr c30
            subst c30
            have H1 : (some false) = some true := by rw [if_neg (show ¬ (false = true) by decide)] at H; exact H
            cases H1
/-- THE ONE PURE STATEMENT of laws_FnExactTreeRead: yours. -/
def laws_FnExactTreeRead.Pure : Prop := ∀ (l0 : List Int) (a1 : Int), l0.length ≤ maxLen → l0.length * 1 ≤ 140737488351232 → (∀ x ∈ l0, (Lit.int .u8 x).wf = true) → (Lit.int .i64 a1).wf = true → ∃ k, laws_FnExactTreeRead.f k l0 a1 = some true
theorem laws_FnExactTreeRead.walk (P : laws_FnExactTreeRead.Pure) (a0 : Option Addr) (len0 cap0 : Nat) (z0 : List Int) (a1 : Int) (w : World) (w0 : (a0 = none ∧ len0 = 0 ∧ cap0 = 0 ∧ z0 = []) ∨ ∃ x, a0 = some x ∧ len0 ≤ cap0 ∧ cap0 ≤ maxLen ∧ z0.length = cap0 ∧ (∀ i, i < z0.length → w.cell? (x.add i) = some (.int .u8 (z0.getD i 0))) ∧ ∀ n ∈ z0, (Lit.int .u8 n).wf = true) (y0 : len0 * 1 ≤ 140737488351232) (w1 : (Lit.int .i64 a1).wf = true) :
    Calls Try.prog 3 #[.slice a0 len0 cap0, .int .i64 a1] w fun e w' => e = .returned (.bool true) ∧ Below w.heap.size w w' := by
  obtain ⟨l0, rfl, hr0, hm0, hw0, hc0⟩ := ReadsInt.ofRowC w0
  obtain ⟨k, h⟩ := P l0 a1 hm0 y0 hw0 w1
  refine (laws_FnExactTreeRead.calls k _ _ l0 a1 true w (Kd.C_of_reads (d := (0 : Int)) (h1 := fun _ => rfl) hr0) hc0 h).mono ?_
  rintro e w' ⟨rfl, hd⟩
  exact ⟨rfl, hd⟩

end Go.Proofs.Ytgnelblghdfgiaa.PFnExactTreeRead
