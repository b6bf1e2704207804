/- The machine's side of FnTreeParts, written by wip/tools/hyb.py of this repo: each Go function as a plain Lean function, and the proof that the call comes to just its answer. No condition. -/
import Derived.Test.YtnfamhegbfjggaaPFnTreePartsx0
import Derived.Test.YtnfamhegbfjggaaPFnTreePartsx4
import Derived.Test.YtnfamhegbfjggaaPFnTreePartsx5
import Derived.Test.YtnfamhegbfjggaaPFnTreePartsx6
import Derived.Test.YtnfamhegbfjggaaPFnTreePartsx7
namespace Go.Proofs.Ytnfamhegbfjggaa.PFnTreeParts
open Go.RowKit Go.Proofs.YtnfamhegbfjggaaW.PrintWords Go.Proofs.YtnfamhegbfjggaaW.PrintLast Go.Proofs.YtnfamhegbfjggaaW.PrintMore Go.Proofs.YtnfamhegbfjggaaW.PrintMore2
attribute [local go_sem] max2_int min2_int max_two min_two max_three min_three max_four min_four   -- for this text's walks alone
set_option linter.unusedVariables false
set_option linter.unusedSimpArgs false

/-! ### spec_TreeOk: function 93 -/
def spec_TreeOk.f (k : Nat) (l0 : List (S53)) : Option (Bool) := (spec_l1In.f (l0.length : Int) 1 1500).bind fun t318 => (if t318 = true then (if 0 < (l0.length : Int) then (if ((rd_T53 l0 0).f0) = 12 then (if ((rd_T53 l0 0).f1) = 0 then ((spec_l4Check.f k l0 0 1).bind fun t321 => (some (t321 == (l0.length : Int)))) else (some false)) else (some false)) else (none)) else (some false))
theorem spec_TreeOk.mono : ∀ a0 k, LeO (spec_TreeOk.f k a0) (spec_TreeOk.f (k + 1) a0) := by
  intro a0 k
  unfold spec_TreeOk.f
  repeat' first
      | (with_reducible exact spec_l4Check.mono _ _ _ _)
      | (with_reducible exact LeO.refl _)
      | (with_reducible exact LeO.none _)
      | (with_reducible refine LeO.ite ?_ ?_)
      | (with_reducible refine LeO.bind ?_ (fun _ => ?_))
      | exact spec_l4Check.mono _ _ _ _
      | exact LeO.none _
      | refine LeO.ite ?_ ?_
      | refine LeO.bind ?_ (fun _ => ?_)
set_option maxHeartbeats 8000000 in
set_option maxRecDepth 100000 in
theorem spec_TreeOk.calls (k : Nat) (A0 : Option Addr) (c0 : Nat) (l0 : List (S53)) (r : Bool) (w : World) (hr0 : Kd.C k53 w A0 l0.length l0) (hc0 : l0.length ≤ c0) (h : spec_TreeOk.f k l0 = some r) :
    Calls Try.prog 93 #[.slice A0 l0.length c0] w fun e w' => e = .returned (.bool r) ∧ Below w.heap.size w w' := by
  have HR0 := Aside0.mk hr0
  have HC0 := Aside0.mk hc0
  clear hr0 hc0
  have HB := Aside0.mk (Below.refl w.heap.size w)
  have H : ((spec_l1In.f (l0.length : Int) 1 1500).bind fun t318 => (if t318 = true then (if 0 < (l0.length : Int) then (if ((rd_T53 l0 0).f0) = 12 then (if ((rd_T53 l0 0).f1) = 0 then ((spec_l4Check.f k l0 0 1).bind fun t321 => (some (t321 == (l0.length : Int)))) else (some false)) else (some false)) else (none)) else (some false))) = some r := h
  clear h
  replace H := Option.bind_eq_some_iff.mp H
  obtain ⟨t318, A20, H⟩ := H
  replace H : (if t318 = true then (if 0 < (l0.length : Int) then (if ((rd_T53 l0 0).f0) = 12 then (if ((rd_T53 l0 0).f1) = 0 then ((spec_l4Check.f k l0 0 1).bind fun t321 => (some (t321 == (l0.length : Int)))) else (some false)) else (some false)) else (none)) else (some false)) = some r := H
  have A2 := Aside0.mk A20
  clear A20
  by_cases c3 : t318 = true
  · subst c3
    have H1 : (if 0 < (l0.length : Int) then (if ((rd_T53 l0 0).f0) = 12 then (if ((rd_T53 l0 0).f1) = 0 then ((spec_l4Check.f k l0 0 1).bind fun t321 => (some (t321 == (l0.length : Int)))) else (some false)) else (some false)) else (none)) = some r := by rw [if_pos rfl] at H; exact H
    clear H
    have H := H1
    clear H1
    by_cases c4 : 0 < (l0.length : Int)
    · rw [if_pos c4] at H
      have c4b0 : decide (0 < (l0.length : Int)) = true := decide_eq_true c4
      have c4b1 : decide (0 < l0.length) = true := decide_eq_true (by omega)
      clear c4
      by_cases c5 : ((rd_T53 l0 0).f0) = 12
      · rw [if_pos c5] at H
        have c5b0 : (((rd_T53 l0 0).f0) == 12) = true := beq_iff_eq.mpr c5
        have c5b1 : (((rd_T53 l0 0).f0) != 12) = false := bne_eq_false_iff_eq.mpr c5
        clear c5
        by_cases c6 : ((rd_T53 l0 0).f1) = 0
        · rw [if_pos c6] at H
          have c6b0 : (((rd_T53 l0 0).f1) == 0) = true := beq_iff_eq.mpr c6
          have c6b1 : (((rd_T53 l0 0).f1) != 0) = false := bne_eq_false_iff_eq.mpr c6
          clear c6
          replace H := Option.bind_eq_some_iff.mp H
          obtain ⟨t321, A70, H⟩ := H
          replace H : (some (t321 == (l0.length : Int))) = some r := H
          have A7 := Aside0.mk A70
          clear A70
          obtain rfl := Option.some.inj H
          go_enter Try.func93, Try.ntmps93
          go_wp2_with (first | ((with_reducible refine gate_callee (f := 74) rfl ?_); refine goesL_ (some 5) rfl rfl Try.func74 (by kernel_rfl) rfl #[.int .i64 (l0.length : Int), .int .i64 1, .int .i64 1500] rfl (by (try simp only [List.map_toArray, List.map_cons, List.map_nil]); first | done | rfl | (simp only [List.length_drop, List.length_take]; rfl)) ?_; (with_reducible refine (spec_l1In.calls (l0.length : Int) 1 1500 true _ A2.out).mono ?_); rintro e w' ⟨rfl, ⟨nd, rfl⟩⟩; refine ⟨_, rfl, ?_⟩; have p319 : 0 ≤ (0 : Int) := (by omega); have q319 : 0 < (l0.length : Int) := of_decide_eq_true (by first | (with_reducible assumption) | assumption); obtain ⟨ad319, e319, hx319_0, hx319_1, hx319_2, hx319_3, hx319_4⟩ := at_T53 HR0.out 0 p319 q319; cases e319; have qi319 : (0 < l0.length) = True := eq_true (by omega); (try rw [show ((0 : Int)).toNat = 0 from rfl] at hx319_0); (try rw [show 0 * 5 = 0 from rfl] at hx319_0); (try rw [Addr.add_zero'] at hx319_0); (try rw [show ((0 : Int)).toNat = 0 from rfl] at hx319_1); (try rw [show 0 * 5 = 0 from rfl] at hx319_1); (try rw [Addr.add_zero'] at hx319_1); (try rw [show ((0 : Int)).toNat = 0 from rfl] at hx319_2); (try rw [show 0 * 5 = 0 from rfl] at hx319_2); (try rw [Addr.add_zero'] at hx319_2); (try rw [show ((0 : Int)).toNat = 0 from rfl] at hx319_3); (try rw [show 0 * 5 = 0 from rfl] at hx319_3); (try rw [Addr.add_zero'] at hx319_3); (try rw [show ((0 : Int)).toNat = 0 from rfl] at hx319_4); (try rw [show 0 * 5 = 0 from rfl] at hx319_4); (try rw [Addr.add_zero'] at hx319_4); replace p319 := eq_true p319; replace q319 := eq_true q319; have p320 : 0 ≤ (0 : Int) := (by omega); have q320 : 0 < (l0.length : Int) := of_decide_eq_true (by first | (with_reducible assumption) | assumption); obtain ⟨ad320, e320, hx320_0, hx320_1, hx320_2, hx320_3, hx320_4⟩ := at_T53 HR0.out 0 p320 q320; obtain rfl : ad319 = ad320 := (by injection e320); have qi320 : (0 < l0.length) = True := eq_true (by omega); (try rw [show ((0 : Int)).toNat = 0 from rfl] at hx320_0); (try rw [show 0 * 5 = 0 from rfl] at hx320_0); (try rw [Addr.add_zero'] at hx320_0); (try rw [show ((0 : Int)).toNat = 0 from rfl] at hx320_1); (try rw [show 0 * 5 = 0 from rfl] at hx320_1); (try rw [Addr.add_zero'] at hx320_1); (try rw [show ((0 : Int)).toNat = 0 from rfl] at hx320_2); (try rw [show 0 * 5 = 0 from rfl] at hx320_2); (try rw [Addr.add_zero'] at hx320_2); (try rw [show ((0 : Int)).toNat = 0 from rfl] at hx320_3); (try rw [show 0 * 5 = 0 from rfl] at hx320_3); (try rw [Addr.add_zero'] at hx320_3); (try rw [show ((0 : Int)).toNat = 0 from rfl] at hx320_4); (try rw [show 0 * 5 = 0 from rfl] at hx320_4); (try rw [Addr.add_zero'] at hx320_4); replace p320 := eq_true p320; replace q320 := eq_true q320) | ((with_reducible refine gate_callee (f := 164) rfl ?_); refine goesL_ (some 22) rfl rfl Try.func164 (by kernel_rfl) rfl #[.slice (some ad319) l0.length c0, .int .i64 0, .int .i64 1] rfl (by (try simp only [List.map_toArray, List.map_cons, List.map_nil]); first | done | rfl | (simp only [List.length_drop, List.length_take]; rfl)) ?_; (with_reducible refine (spec_l4Check.calls k _ _ l0 0 1 t321 _ ?side1 ?side2 A7.out).mono ?_); (case side1 => repeat (first | exact HR0.out | (with_reducible refine Kd.C_alloc ?_ _) | (with_reducible refine Kd.C_drewN ?_ _) | (with_reducible refine Kd.C_drew ?_))); (case side2 => exact HC0.out); rintro e w8 ⟨rfl, hb⟩; refine ⟨_, rfl, ?_⟩; have n0_ := Aside0.mk (below_step (by repeat (first | (with_reducible first | exact HB.out | apply below_alloc | apply pw_below_drewN | apply below_drew1) | exact HB.out)) hb); clear HB; have HB := n0_; clear n0_; (try clear hb); (try clear hb2); (try clear hk); (try clear hi)))
          go_ret
          exact ⟨by first | rfl | (simp [errW_none, errW_some] <;> rfl) | (simp [*, errW_none, errW_some] <;> rfl), by repeat (first | (with_reducible first | exact HB.out | apply below_alloc | apply pw_below_drewN | apply below_drew1) | exact HB.out)⟩
        · rw [if_neg c6] at H
          have c6b0 : (((rd_T53 l0 0).f1) == 0) = false := beq_eq_false_iff_ne.mpr c6
          have c6b1 : (((rd_T53 l0 0).f1) != 0) = true := bne_iff_ne.mpr c6
          obtain rfl := Option.some.inj H
          go_enter Try.func93, Try.ntmps93
          go_wp2_with (first | ((with_reducible refine gate_callee (f := 74) rfl ?_); refine goesL_ (some 5) rfl rfl Try.func74 (by kernel_rfl) rfl #[.int .i64 (l0.length : Int), .int .i64 1, .int .i64 1500] rfl (by (try simp only [List.map_toArray, List.map_cons, List.map_nil]); first | done | rfl | (simp only [List.length_drop, List.length_take]; rfl)) ?_; (with_reducible refine (spec_l1In.calls (l0.length : Int) 1 1500 true _ A2.out).mono ?_); rintro e w' ⟨rfl, ⟨nd, rfl⟩⟩; refine ⟨_, rfl, ?_⟩; have p319 : 0 ≤ (0 : Int) := (by omega); have q319 : 0 < (l0.length : Int) := of_decide_eq_true (by first | (with_reducible assumption) | assumption); obtain ⟨ad319, e319, hx319_0, hx319_1, hx319_2, hx319_3, hx319_4⟩ := at_T53 HR0.out 0 p319 q319; cases e319; have qi319 : (0 < l0.length) = True := eq_true (by omega); (try rw [show ((0 : Int)).toNat = 0 from rfl] at hx319_0); (try rw [show 0 * 5 = 0 from rfl] at hx319_0); (try rw [Addr.add_zero'] at hx319_0); (try rw [show ((0 : Int)).toNat = 0 from rfl] at hx319_1); (try rw [show 0 * 5 = 0 from rfl] at hx319_1); (try rw [Addr.add_zero'] at hx319_1); (try rw [show ((0 : Int)).toNat = 0 from rfl] at hx319_2); (try rw [show 0 * 5 = 0 from rfl] at hx319_2); (try rw [Addr.add_zero'] at hx319_2); (try rw [show ((0 : Int)).toNat = 0 from rfl] at hx319_3); (try rw [show 0 * 5 = 0 from rfl] at hx319_3); (try rw [Addr.add_zero'] at hx319_3); (try rw [show ((0 : Int)).toNat = 0 from rfl] at hx319_4); (try rw [show 0 * 5 = 0 from rfl] at hx319_4); (try rw [Addr.add_zero'] at hx319_4); replace p319 := eq_true p319; replace q319 := eq_true q319; have p320 : 0 ≤ (0 : Int) := (by omega); have q320 : 0 < (l0.length : Int) := of_decide_eq_true (by first | (with_reducible assumption) | assumption); obtain ⟨ad320, e320, hx320_0, hx320_1, hx320_2, hx320_3, hx320_4⟩ := at_T53 HR0.out 0 p320 q320; obtain rfl : ad319 = ad320 := (by injection e320); have qi320 : (0 < l0.length) = True := eq_true (by omega); (try rw [show ((0 : Int)).toNat = 0 from rfl] at hx320_0); (try rw [show 0 * 5 = 0 from rfl] at hx320_0); (try rw [Addr.add_zero'] at hx320_0); (try rw [show ((0 : Int)).toNat = 0 from rfl] at hx320_1); (try rw [show 0 * 5 = 0 from rfl] at hx320_1); (try rw [Addr.add_zero'] at hx320_1); (try rw [show ((0 : Int)).toNat = 0 from rfl] at hx320_2); (try rw [show 0 * 5 = 0 from rfl] at hx320_2); (try rw [Addr.add_zero'] at hx320_2); (try rw [show ((0 : Int)).toNat = 0 from rfl] at hx320_3); (try rw [show 0 * 5 = 0 from rfl] at hx320_3); (try rw [Addr.add_zero'] at hx320_3); (try rw [show ((0 : Int)).toNat = 0 from rfl] at hx320_4); (try rw [show 0 * 5 = 0 from rfl] at hx320_4); (try rw [Addr.add_zero'] at hx320_4); replace p320 := eq_true p320; replace q320 := eq_true q320))
          go_ret
          exact ⟨by first | rfl | (simp [errW_none, errW_some] <;> rfl) | (simp [*, errW_none, errW_some] <;> rfl), by repeat (first | (with_reducible first | exact HB.out | apply below_alloc | apply pw_below_drewN | apply below_drew1) | exact HB.out)⟩
      · rw [if_neg c5] at H
        have c5b0 : (((rd_T53 l0 0).f0) == 12) = false := beq_eq_false_iff_ne.mpr c5
        have c5b1 : (((rd_T53 l0 0).f0) != 12) = true := bne_iff_ne.mpr c5
        obtain rfl := Option.some.inj H
        go_enter Try.func93, Try.ntmps93
        go_wp2_with (first | ((with_reducible refine gate_callee (f := 74) rfl ?_); refine goesL_ (some 5) rfl rfl Try.func74 (by kernel_rfl) rfl #[.int .i64 (l0.length : Int), .int .i64 1, .int .i64 1500] rfl (by (try simp only [List.map_toArray, List.map_cons, List.map_nil]); first | done | rfl | (simp only [List.length_drop, List.length_take]; rfl)) ?_; (with_reducible refine (spec_l1In.calls (l0.length : Int) 1 1500 true _ A2.out).mono ?_); rintro e w' ⟨rfl, ⟨nd, rfl⟩⟩; refine ⟨_, rfl, ?_⟩; have p319 : 0 ≤ (0 : Int) := (by omega); have q319 : 0 < (l0.length : Int) := of_decide_eq_true (by first | (with_reducible assumption) | assumption); obtain ⟨ad319, e319, hx319_0, hx319_1, hx319_2, hx319_3, hx319_4⟩ := at_T53 HR0.out 0 p319 q319; cases e319; have qi319 : (0 < l0.length) = True := eq_true (by omega); (try rw [show ((0 : Int)).toNat = 0 from rfl] at hx319_0); (try rw [show 0 * 5 = 0 from rfl] at hx319_0); (try rw [Addr.add_zero'] at hx319_0); (try rw [show ((0 : Int)).toNat = 0 from rfl] at hx319_1); (try rw [show 0 * 5 = 0 from rfl] at hx319_1); (try rw [Addr.add_zero'] at hx319_1); (try rw [show ((0 : Int)).toNat = 0 from rfl] at hx319_2); (try rw [show 0 * 5 = 0 from rfl] at hx319_2); (try rw [Addr.add_zero'] at hx319_2); (try rw [show ((0 : Int)).toNat = 0 from rfl] at hx319_3); (try rw [show 0 * 5 = 0 from rfl] at hx319_3); (try rw [Addr.add_zero'] at hx319_3); (try rw [show ((0 : Int)).toNat = 0 from rfl] at hx319_4); (try rw [show 0 * 5 = 0 from rfl] at hx319_4); (try rw [Addr.add_zero'] at hx319_4); replace p319 := eq_true p319; replace q319 := eq_true q319))
        go_ret
        exact ⟨by first | rfl | (simp [errW_none, errW_some] <;> rfl) | (simp [*, errW_none, errW_some] <;> rfl), by repeat (first | (with_reducible first | exact HB.out | apply below_alloc | apply pw_below_drewN | apply below_drew1) | exact HB.out)⟩
    · rw [if_neg c4] at H
      exact absurd H (by simp)
  · replace c3 := Bool.eq_false_iff.mpr c3
    subst c3
    have H1 : (some false) = some r := by rw [if_neg (show ¬ (false = true) by decide)] at H; exact H
    clear H
    have H := H1
    clear H1
    obtain rfl := Option.some.inj H
    go_enter Try.func93, Try.ntmps93
    go_wp2_with (first | ((with_reducible refine gate_callee (f := 74) rfl ?_); refine goesL_ (some 5) rfl rfl Try.func74 (by kernel_rfl) rfl #[.int .i64 (l0.length : Int), .int .i64 1, .int .i64 1500] rfl (by (try simp only [List.map_toArray, List.map_cons, List.map_nil]); first | done | rfl | (simp only [List.length_drop, List.length_take]; rfl)) ?_; (with_reducible refine (spec_l1In.calls (l0.length : Int) 1 1500 false _ A2.out).mono ?_); rintro e w' ⟨rfl, ⟨nd, rfl⟩⟩; refine ⟨_, rfl, ?_⟩))
    go_ret
    exact ⟨by first | rfl | (simp [errW_none, errW_some] <;> rfl) | (simp [*, errW_none, errW_some] <;> rfl), by repeat (first | (with_reducible first | exact HB.out | apply below_alloc | apply pw_below_drewN | apply below_drew1) | exact HB.out)⟩

/-! ### spec_l4After: function 94 -/
mutual
def spec_l4After.l0 : Nat → List (S53) → Int → Int → Int → Option (Int)
  | 0, _, _, _, _ => none
  | k + 1, x0, x1, x5, x6 => if 0 ≤ x1 then (if x1 < (x0.length : Int) then (if x6 < ((rd_T53 x0 x1).f4) then ((spec_l4After.f k x0 x5).bind fun t323 => (spec_l4After.l0 k x0 x1 t323 (wrap64 (x6 + 1)))) else (some x5)) else (none)) else (none)
def spec_l4After.f : Nat → List (S53) → Int → Option (Int)
  | 0, _, _ => none
  | k + 1, l0, a1 => spec_l4After.l0 k l0 a1 (wrap64 (a1 + 1)) 0
end
theorem spec_l4After.mono_l : ∀ k, (∀ y0 y1, LeO (spec_l4After.f k y0 y1) (spec_l4After.f (k + 1) y0 y1)) ∧ (∀ y0 y1 y2 y3, LeO (spec_l4After.l0 k y0 y1 y2 y3) (spec_l4After.l0 (k + 1) y0 y1 y2 y3))
  | 0 => ⟨fun _ _ r h => by simp [spec_l4After.f] at h, fun _ _ _ _ r h => by simp [spec_l4After.l0] at h⟩
  | k + 1 => by
    obtain ⟨ih0, ih1⟩ := spec_l4After.mono_l k
    refine ⟨?_, ?_⟩
    · intro y0 y1
      unfold spec_l4After.f
      repeat' first
      | (with_reducible exact ih0 _ _)
      | (with_reducible exact ih1 _ _ _ _)
      | (with_reducible exact LeO.refl _)
      | (with_reducible exact LeO.none _)
      | (with_reducible refine LeO.ite ?_ ?_)
      | (with_reducible refine LeO.bind ?_ (fun _ => ?_))
      | exact ih0 _ _
      | exact ih1 _ _ _ _
      | exact LeO.none _
      | refine LeO.ite ?_ ?_
      | refine LeO.bind ?_ (fun _ => ?_)
    · intro y0 y1 y2 y3
      unfold spec_l4After.l0
      repeat' first
      | (with_reducible exact ih0 _ _)
      | (with_reducible exact ih1 _ _ _ _)
      | (with_reducible exact LeO.refl _)
      | (with_reducible exact LeO.none _)
      | (with_reducible refine LeO.ite ?_ ?_)
      | (with_reducible refine LeO.bind ?_ (fun _ => ?_))
      | exact ih0 _ _
      | exact ih1 _ _ _ _
      | exact LeO.none _
      | refine LeO.ite ?_ ?_
      | refine LeO.bind ?_ (fun _ => ?_)
theorem spec_l4After.mono : ∀ a0 a1 k, LeO (spec_l4After.f k a0 a1) (spec_l4After.f (k + 1) a0 a1) := by
  intro a0 a1 k
  obtain ⟨ih0, ih1⟩ := spec_l4After.mono_l k
  exact ih0 a0 a1
set_option maxHeartbeats 8000000 in
set_option maxRecDepth 100000 in
theorem spec_l4After.calls (k : Nat) : ∀ (A0 : Option Addr) (c0 : Nat) (l0 : List (S53)) (a1 : Int) (r : Int) (w : World) (hr0 : Kd.C k53 w A0 l0.length l0) (hc0 : l0.length ≤ c0) (h : spec_l4After.f k l0 a1 = some r),
    Calls Try.prog 94 #[.slice A0 l0.length c0, .int .i64 a1] w fun e w' => e = .returned (.int .i64 r) ∧ Drawn0 w w' := by
  induction k using Nat.strongRecOn with
  | _ k ih =>
  intro A0 c0 l0 a1 r w hr0 hc0 h
  cases k with
  | zero => exact absurd h (by simp [spec_l4After.f])
  | succ k =>
  simp only [spec_l4After.f] at h
  have HR0 := Aside0.mk hr0
  have HC0 := Aside0.mk hc0
  clear hr0 hc0
  have H : (spec_l4After.l0 k l0 a1 (wrap64 (a1 + 1)) 0) = some r := h
  clear h
  have H' := Aside0.mk H
  clear H
  go_enter Try.func94, Try.ntmps94
  go_wp2
  go_loopg [5, 6] k (fun kq v5 v6 w' => ∃ (x5_1 : Int) (x6_1 : Int), v5 = .int .i64 x5_1 ∧ v6 = .int .i64 x6_1 ∧ Aside0 (spec_l4After.l0 kq l0 a1 x5_1 x6_1 = some r) ∧ Aside0 (kq ≤ k) ∧ Drawn0 w w')
  case atStart => exact ⟨(wrap64 (a1 + 1)), (0), (by first | rfl | (simp; done) | (simp [*]; done)), (by first | rfl | (simp; done) | (simp [*]; done)), H', ⟨Nat.le_refl _⟩, by repeat (first | exact Drawn0.refl _ | apply Drawn0.step)⟩
  case round =>
    clear H'
    try clear p2
    obtain ⟨x5_1, x6_1, rfl, rfl, HA, HK1, ⟨m1, rfl⟩⟩ := hrel
    cases gk with
    | zero => exact absurd HA.out (by simp [spec_l4After.l0])
    | succ k1 =>
      have H := HA.out
      clear HA
      simp only [spec_l4After.l0] at H
      by_cases c3 : 0 ≤ a1
      · rw [if_pos c3] at H
        have c3b0 : decide (0 ≤ a1) = true := decide_eq_true c3
        clear c3
        by_cases c4 : a1 < (l0.length : Int)
        · rw [if_pos c4] at H
          have c4b0 : decide (a1 < (l0.length : Int)) = true := decide_eq_true c4
          clear c4
          by_cases c5 : x6_1 < ((rd_T53 l0 a1).f4)
          · rw [if_pos c5] at H
            have c5b0 : decide (x6_1 < ((rd_T53 l0 a1).f4)) = true := decide_eq_true c5
            clear c5
            replace H := Option.bind_eq_some_iff.mp H
            obtain ⟨t323, A60, H⟩ := H
            replace H : (spec_l4After.l0 k1 l0 a1 t323 (wrap64 (x6_1 + 1))) = some r := H
            have A6 := Aside0.mk A60
            clear A60
            have H' := Aside0.mk H
            clear H
            have p322 : 0 ≤ (a1 : Int) := of_decide_eq_true (by first | (with_reducible assumption) | assumption)
            have q322 : a1 < (l0.length : Int) := of_decide_eq_true (by first | (with_reducible assumption) | assumption)
            obtain ⟨ad322, e322, hx322_0, hx322_1, hx322_2, hx322_3, hx322_4⟩ := at_T53 HR0.out a1 p322 q322
            cases e322
            replace p322 := eq_true p322
            replace q322 := eq_true q322
            go_wp2_with (first | ((with_reducible refine gate_callee (f := 94) rfl ?_); refine goesL_ (some 20) rfl rfl Try.func94 (by kernel_rfl) rfl #[.slice (some ad322) l0.length c0, .int .i64 x5_1] rfl (by (try simp only [List.map_toArray, List.map_cons, List.map_nil]); first | done | rfl | (simp only [List.length_drop, List.length_take]; rfl)) ?_; (with_reducible refine (ih k1 (by have := HK1.out; omega) _ _ l0 x5_1 t323 _ ?side1 ?side2 A6.out).mono ?_); (case side1 => repeat (first | exact HR0.out | (with_reducible refine Kd.C_alloc ?_ _) | (with_reducible refine Kd.C_drewN ?_ _) | (with_reducible refine Kd.C_drew ?_))); (case side2 => exact HC0.out); rintro e w' ⟨rfl, ⟨nd, rfl⟩⟩; refine ⟨_, rfl, ?_⟩))
            go_roundg k1
            case measure => have := HK1.out; omega
            case rel => exact ⟨(t323), (wrap64 (x6_1 + 1)), (by first | rfl | (simp; done) | (simp [*]; done)), (by first | rfl | (simp; done) | (simp [*]; done)), H', ⟨by have := HK1.out; omega⟩, by repeat (first | exact Drawn0.refl _ | apply Drawn0.step)⟩
          · rw [if_neg c5] at H
            have c5b0 : decide (x6_1 < ((rd_T53 l0 a1).f4)) = false := decide_eq_false c5
            clear c5
            obtain rfl := Option.some.inj H
            have p322 : 0 ≤ (a1 : Int) := of_decide_eq_true (by first | (with_reducible assumption) | assumption)
            have q322 : a1 < (l0.length : Int) := of_decide_eq_true (by first | (with_reducible assumption) | assumption)
            obtain ⟨ad322, e322, hx322_0, hx322_1, hx322_2, hx322_3, hx322_4⟩ := at_T53 HR0.out a1 p322 q322
            cases e322
            replace p322 := eq_true p322
            replace q322 := eq_true q322
            go_wp2
            go_ret
            exact ⟨by first | rfl | (simp; done) | (simp [*]; done), by repeat (first | exact Drawn0.refl _ | apply Drawn0.step)⟩
        · rw [if_neg c4] at H
          exact absurd H (by simp)
      · rw [if_neg c3] at H
        exact absurd H (by simp)

/-! ### spec_TreeAfter: function 36 -/
def spec_TreeAfter.f (k : Nat) (l0 : List (S53)) (a1 : Int) : Option (Int) := (spec_TreeOk.f k l0).bind fun t324 => (if t324 = true then ((spec_l1In.f a1 0 (wrap64 ((l0.length : Int) - 1))).bind fun t325 => (if t325 = true then ((spec_l4After.f k l0 a1).bind fun t326 => (some t326)) else (some (-1)))) else (some (-1)))
theorem spec_TreeAfter.mono : ∀ a0 a1 k, LeO (spec_TreeAfter.f k a0 a1) (spec_TreeAfter.f (k + 1) a0 a1) := by
  intro a0 a1 k
  unfold spec_TreeAfter.f
  repeat' first
      | (with_reducible exact spec_TreeOk.mono _ _)
      | (with_reducible exact spec_l4After.mono _ _ _)
      | (with_reducible exact LeO.refl _)
      | (with_reducible exact LeO.none _)
      | (with_reducible refine LeO.ite ?_ ?_)
      | (with_reducible refine LeO.bind ?_ (fun _ => ?_))
      | exact spec_TreeOk.mono _ _
      | exact spec_l4After.mono _ _ _
      | exact LeO.none _
      | refine LeO.ite ?_ ?_
      | refine LeO.bind ?_ (fun _ => ?_)
set_option maxHeartbeats 8000000 in
set_option maxRecDepth 100000 in
theorem spec_TreeAfter.calls (k : Nat) (A0 : Option Addr) (c0 : Nat) (l0 : List (S53)) (a1 : Int) (r : Int) (w : World) (hr0 : Kd.C k53 w A0 l0.length l0) (hc0 : l0.length ≤ c0) (h : spec_TreeAfter.f k l0 a1 = some r) :
    Calls Try.prog 36 #[.slice A0 l0.length c0, .int .i64 a1] w fun e w' => e = .returned (.int .i64 r) ∧ Below w.heap.size w w' := by
  have HR0 := Aside0.mk hr0
  have HC0 := Aside0.mk hc0
  clear hr0 hc0
  have HB := Aside0.mk (Below.refl w.heap.size w)
  have H : ((spec_TreeOk.f k l0).bind fun t324 => (if t324 = true then ((spec_l1In.f a1 0 (wrap64 ((l0.length : Int) - 1))).bind fun t325 => (if t325 = true then ((spec_l4After.f k l0 a1).bind fun t326 => (some t326)) else (some (-1)))) else (some (-1)))) = some r := h
  clear h
  replace H := Option.bind_eq_some_iff.mp H
  obtain ⟨t324, A30, H⟩ := H
  replace H : (if t324 = true then ((spec_l1In.f a1 0 (wrap64 ((l0.length : Int) - 1))).bind fun t325 => (if t325 = true then ((spec_l4After.f k l0 a1).bind fun t326 => (some t326)) else (some (-1)))) else (some (-1))) = some r := H
  have A3 := Aside0.mk A30
  clear A30
  by_cases c4 : t324 = true
  · subst c4
    have H1 : ((spec_l1In.f a1 0 (wrap64 ((l0.length : Int) - 1))).bind fun t325 => (if t325 = true then ((spec_l4After.f k l0 a1).bind fun t326 => (some t326)) else (some (-1)))) = some r := by rw [if_pos rfl] at H; exact H
    clear H
    have H := H1
    clear H1
    replace H := Option.bind_eq_some_iff.mp H
    obtain ⟨t325, A50, H⟩ := H
    replace H : (if t325 = true then ((spec_l4After.f k l0 a1).bind fun t326 => (some t326)) else (some (-1))) = some r := H
    have A5 := Aside0.mk A50
    clear A50
    by_cases c6 : t325 = true
    · subst c6
      have H1 : ((spec_l4After.f k l0 a1).bind fun t326 => (some t326)) = some r := by rw [if_pos rfl] at H; exact H
      clear H
      have H := H1
      clear H1
      replace H := Option.bind_eq_some_iff.mp H
      obtain ⟨t326, A70, H⟩ := H
      replace H : (some t326) = some r := H
      have A7 := Aside0.mk A70
      clear A70
      obtain rfl := Option.some.inj H
      go_enter Try.func36, Try.ntmps36
      go_wp2_with (first | ((with_reducible refine gate_callee (f := 93) rfl ?_); refine goesL_ (some 6) rfl rfl Try.func93 (by kernel_rfl) rfl #[.slice A0 l0.length c0] rfl (by (try simp only [List.map_toArray, List.map_cons, List.map_nil]); first | done | rfl | (simp only [List.length_drop, List.length_take]; rfl)) ?_; (with_reducible refine (spec_TreeOk.calls k _ _ l0 true _ ?side1 ?side2 A3.out).mono ?_); (case side1 => repeat (first | exact HR0.out | (with_reducible refine Kd.C_alloc ?_ _) | (with_reducible refine Kd.C_drewN ?_ _) | (with_reducible refine Kd.C_drew ?_))); (case side2 => exact HC0.out); rintro e w8 ⟨rfl, hb⟩; refine ⟨_, rfl, ?_⟩; have n0_ := Aside0.mk (below_step (by repeat (first | (with_reducible first | exact HB.out | apply below_alloc | apply pw_below_drewN | apply below_drew1) | exact HB.out)) hb); clear HB; have HB := n0_; clear n0_; (try clear hb); (try clear hb2); (try clear hk); (try clear hi)) | (go_at_call 74; (with_reducible refine (spec_l1In.calls a1 0 (wrap64 ((l0.length : Int) - 1)) true _ A5.out).mono ?_); rintro e w' ⟨rfl, ⟨nd, rfl⟩⟩) | ((with_reducible refine gate_callee (f := 94) rfl ?_); refine goesL_ (some 18) rfl rfl Try.func94 (by kernel_rfl) rfl #[.slice A0 l0.length c0, .int .i64 a1] rfl (by (try simp only [List.map_toArray, List.map_cons, List.map_nil]); first | done | rfl | (simp only [List.length_drop, List.length_take]; rfl)) ?_; (with_reducible refine (spec_l4After.calls k _ _ l0 a1 t326 _ ?side1 ?side2 A7.out).mono ?_); (case side1 => repeat (first | exact (Kd.C_below HR0.out (by repeat (first | (with_reducible first | exact HB.out | apply below_alloc | apply pw_below_drewN | apply below_drew1) | exact HB.out))) | (with_reducible refine Kd.C_alloc ?_ _) | (with_reducible refine Kd.C_drewN ?_ _) | (with_reducible refine Kd.C_drew ?_))); (case side2 => exact HC0.out); rintro e w' ⟨rfl, ⟨nd, rfl⟩⟩; refine ⟨_, rfl, ?_⟩))
      go_ret
      exact ⟨by first | rfl | (simp [errW_none, errW_some] <;> rfl) | (simp [*, errW_none, errW_some] <;> rfl), by repeat (first | (with_reducible first | exact HB.out | apply below_alloc | apply pw_below_drewN | apply below_drew1) | exact HB.out)⟩
    · replace c6 := Bool.eq_false_iff.mpr c6
      subst c6
      have H1 : (some (-1)) = some r := by rw [if_neg (show ¬ (false = true) by decide)] at H; exact H
      clear H
      have H := H1
      clear H1
      obtain rfl := Option.some.inj H
      go_enter Try.func36, Try.ntmps36
      go_wp2_with (first | ((with_reducible refine gate_callee (f := 93) rfl ?_); refine goesL_ (some 6) rfl rfl Try.func93 (by kernel_rfl) rfl #[.slice A0 l0.length c0] rfl (by (try simp only [List.map_toArray, List.map_cons, List.map_nil]); first | done | rfl | (simp only [List.length_drop, List.length_take]; rfl)) ?_; (with_reducible refine (spec_TreeOk.calls k _ _ l0 true _ ?side1 ?side2 A3.out).mono ?_); (case side1 => repeat (first | exact HR0.out | (with_reducible refine Kd.C_alloc ?_ _) | (with_reducible refine Kd.C_drewN ?_ _) | (with_reducible refine Kd.C_drew ?_))); (case side2 => exact HC0.out); rintro e w9 ⟨rfl, hb⟩; refine ⟨_, rfl, ?_⟩; have n0_ := Aside0.mk (below_step (by repeat (first | (with_reducible first | exact HB.out | apply below_alloc | apply pw_below_drewN | apply below_drew1) | exact HB.out)) hb); clear HB; have HB := n0_; clear n0_; (try clear hb); (try clear hb2); (try clear hk); (try clear hi)) | (go_at_call 74; (with_reducible refine (spec_l1In.calls a1 0 (wrap64 ((l0.length : Int) - 1)) false _ A5.out).mono ?_); rintro e w' ⟨rfl, ⟨nd, rfl⟩⟩))
      go_ret
      exact ⟨by first | rfl | (simp [errW_none, errW_some] <;> rfl) | (simp [*, errW_none, errW_some] <;> rfl), by repeat (first | (with_reducible first | exact HB.out | apply below_alloc | apply pw_below_drewN | apply below_drew1) | exact HB.out)⟩
  · replace c4 := Bool.eq_false_iff.mpr c4
    subst c4
    have H1 : (some (-1)) = some r := by rw [if_neg (show ¬ (false = true) by decide)] at H; exact H
    clear H
    have H := H1
    clear H1
    obtain rfl := Option.some.inj H
    go_enter Try.func36, Try.ntmps36
    go_wp2_with (first | ((with_reducible refine gate_callee (f := 93) rfl ?_); refine goesL_ (some 6) rfl rfl Try.func93 (by kernel_rfl) rfl #[.slice A0 l0.length c0] rfl (by (try simp only [List.map_toArray, List.map_cons, List.map_nil]); first | done | rfl | (simp only [List.length_drop, List.length_take]; rfl)) ?_; (with_reducible refine (spec_TreeOk.calls k _ _ l0 false _ ?side1 ?side2 A3.out).mono ?_); (case side1 => repeat (first | exact HR0.out | (with_reducible refine Kd.C_alloc ?_ _) | (with_reducible refine Kd.C_drewN ?_ _) | (with_reducible refine Kd.C_drew ?_))); (case side2 => exact HC0.out); rintro e w10 ⟨rfl, hb⟩; refine ⟨_, rfl, ?_⟩; have n0_ := Aside0.mk (below_step (by repeat (first | (with_reducible first | exact HB.out | apply below_alloc | apply pw_below_drewN | apply below_drew1) | exact HB.out)) hb); clear HB; have HB := n0_; clear n0_; (try clear hb); (try clear hb2); (try clear hk); (try clear hi)))
    go_ret
    exact ⟨by first | rfl | (simp [errW_none, errW_some] <;> rfl) | (simp [*, errW_none, errW_some] <;> rfl), by repeat (first | (with_reducible first | exact HB.out | apply below_alloc | apply pw_below_drewN | apply below_drew1) | exact HB.out)⟩

/-! ### impl_tree_find: function 95 -/
mutual
def impl_tree_find.j0 : Nat → Int → Int → Bool → List (S53) → List Int → Option (Int)
  | 0, _, _, _, _, _ => none
  | k + 1, x1, x2, x27, x1000, x1001 => if x27 = true then (some (-1)) else (if 0 ≤ x1 then (if x1 < (x1000.length : Int) then (impl_tree_find.l0 k x2 (wrap64 (x1 + 1)) ((rd_T53 x1000 x1).f4) 0 x1000 x1001) else (none)) else (none))
def impl_tree_find.l0 : Nat → Int → Int → Int → Int → List (S53) → List Int → Option (Int)
  | 0, _, _, _, _, _, _ => none
  | k + 1, x2, x7, x37, x38, x1000, x1001 => if x38 < x37 then (if 0 ≤ x7 then (if x7 < (x1000.length : Int) then (if ((rd_T53 x1000 x7).f1) = x2 then (some x7) else (if x7 < (x1001.length : Int) then (impl_tree_find.l0 k x2 (rd x1001 x7) x37 (wrap64 (x38 + 1)) x1000 x1001) else (none))) else (none)) else (none)) else (some (-1))
end
def impl_tree_find.f (k : Nat) (s0_0 : List (S53)) (s0_1 : List Int) (a1 : Int) (a2 : Int) : Option (Int) := (impl_within.f a1 0 (wrap64 ((s0_0.length : Int) - 1))).bind fun t327 => (if t327 = true then (if 0 ≤ a1 then (if a1 < (s0_0.length : Int) then (impl_tree_find.j0 k a1 a2 (((rd_T53 s0_0 a1).f0) != 12) s0_0 s0_1) else (none)) else (none)) else (impl_tree_find.j0 k a1 a2 true s0_0 s0_1))
theorem impl_tree_find.mono_l : ∀ k, (∀ y0 y1 y2 y3 y4, LeO (impl_tree_find.j0 k y0 y1 y2 y3 y4) (impl_tree_find.j0 (k + 1) y0 y1 y2 y3 y4)) ∧ (∀ y0 y1 y2 y3 y4 y5, LeO (impl_tree_find.l0 k y0 y1 y2 y3 y4 y5) (impl_tree_find.l0 (k + 1) y0 y1 y2 y3 y4 y5))
  | 0 => ⟨fun _ _ _ _ _ r h => by simp [impl_tree_find.j0] at h, fun _ _ _ _ _ _ r h => by simp [impl_tree_find.l0] at h⟩
  | k + 1 => by
    obtain ⟨ih0, ih1⟩ := impl_tree_find.mono_l k
    refine ⟨?_, ?_⟩
    · intro y0 y1 y2 y3 y4
      unfold impl_tree_find.j0
      repeat' first
      | (with_reducible exact ih0 _ _ _ _ _)
      | (with_reducible exact ih1 _ _ _ _ _ _)
      | (with_reducible exact LeO.refl _)
      | (with_reducible exact LeO.none _)
      | (with_reducible refine LeO.ite ?_ ?_)
      | (with_reducible refine LeO.bind ?_ (fun _ => ?_))
      | exact ih0 _ _ _ _ _
      | exact ih1 _ _ _ _ _ _
      | exact LeO.none _
      | refine LeO.ite ?_ ?_
      | refine LeO.bind ?_ (fun _ => ?_)
    · intro y0 y1 y2 y3 y4 y5
      unfold impl_tree_find.l0
      repeat' first
      | (with_reducible exact ih0 _ _ _ _ _)
      | (with_reducible exact ih1 _ _ _ _ _ _)
      | (with_reducible exact LeO.refl _)
      | (with_reducible exact LeO.none _)
      | (with_reducible refine LeO.ite ?_ ?_)
      | (with_reducible refine LeO.bind ?_ (fun _ => ?_))
      | exact ih0 _ _ _ _ _
      | exact ih1 _ _ _ _ _ _
      | exact LeO.none _
      | refine LeO.ite ?_ ?_
      | refine LeO.bind ?_ (fun _ => ?_)
theorem impl_tree_find.mono : ∀ a0 a1 a2 a3 k, LeO (impl_tree_find.f k a0 a1 a2 a3) (impl_tree_find.f (k + 1) a0 a1 a2 a3) := by
  intro a0 a1 a2 a3 k
  obtain ⟨ih0, ih1⟩ := impl_tree_find.mono_l k
  unfold impl_tree_find.f
  repeat' first
      | (with_reducible exact ih0 _ _ _ _ _)
      | (with_reducible exact ih1 _ _ _ _ _ _)
      | (with_reducible exact LeO.refl _)
      | (with_reducible exact LeO.none _)
      | (with_reducible refine LeO.ite ?_ ?_)
      | (with_reducible refine LeO.bind ?_ (fun _ => ?_))
      | exact ih0 _ _ _ _ _
      | exact ih1 _ _ _ _ _ _
      | exact LeO.none _
      | refine LeO.ite ?_ ?_
      | refine LeO.bind ?_ (fun _ => ?_)
set_option maxHeartbeats 8000000 in
set_option maxRecDepth 100000 in
theorem impl_tree_find.calls (k : Nat) (g : Nat) (s0_0 : List (S53)) (s0_1 : List Int) (a1 : Int) (a2 : Int) (r : Int) (w0 w : World) (hI : IsS134 w0 w g s0_0 s0_1) (hB : Below w0.heap.size w0 w) (h : impl_tree_find.f k s0_0 s0_1 a1 a2 = some r) :
    Calls Try.prog 95 #[.pointer (some ⟨g, 0, none⟩), .int .i64 a1, .int .i64 a2] w fun e w' => e = .returned (.int .i64 r) ∧ IsS134 w0 w' g s0_0 s0_1 ∧ Below w0.heap.size w0 w' ∧ KeepBut w w' g none := by
  have HI0 := Aside0.mk hI
  have HK := Aside0.mk (KeepBut.refl w g none)
  have HL := Aside0.mk hB.size
  clear hI
  have HW0 := Aside0.mk hB.size
  have HB := Aside0.mk hB
  clear hB
  have H : ((impl_within.f a1 0 (wrap64 ((s0_0.length : Int) - 1))).bind fun t327 => (if t327 = true then (if 0 ≤ a1 then (if a1 < (s0_0.length : Int) then (impl_tree_find.j0 k a1 a2 (((rd_T53 s0_0 a1).f0) != 12) s0_0 s0_1) else (none)) else (none)) else (impl_tree_find.j0 k a1 a2 true s0_0 s0_1))) = some r := h
  clear h
  have HC4 := Aside0.mk H
  clear H
  go_enter Try.func95, Try.ntmps95
  go_upto_region 1 with (fail)
  go_cut [27] (fun v27 wc => ∃ (kq : Nat) (x27_3 : Bool), v27 = .bool x27_3 ∧ Aside0 (impl_tree_find.j0 kq a1 a2 x27_3 s0_0 s0_1 = some r) ∧ Aside0 (kq ≤ k) ∧ Aside0 (IsS134 w0 wc g s0_0 s0_1) ∧ Aside0 (KeepBut w wc g none) ∧ Aside0 (Below w0.heap.size w0 wc))
  case first =>
    have H := HC4.out
    clear HC4
    replace H := Option.bind_eq_some_iff.mp H
    obtain ⟨t327, A50, H⟩ := H
    replace H : (if t327 = true then (if 0 ≤ a1 then (if a1 < (s0_0.length : Int) then (impl_tree_find.j0 k a1 a2 (((rd_T53 s0_0 a1).f0) != 12) s0_0 s0_1) else (none)) else (none)) else (impl_tree_find.j0 k a1 a2 true s0_0 s0_1)) = some r := H
    have A5 := Aside0.mk A50
    clear A50
    by_cases c6 : t327 = true
    · subst c6
      have H1 : (if 0 ≤ a1 then (if a1 < (s0_0.length : Int) then (impl_tree_find.j0 k a1 a2 (((rd_T53 s0_0 a1).f0) != 12) s0_0 s0_1) else (none)) else (none)) = some r := by rw [if_pos rfl] at H; exact H
      clear H
      have H := H1
      clear H1
      by_cases c7 : 0 ≤ a1
      · rw [if_pos c7] at H
        have c7b0 : decide (0 ≤ a1) = true := decide_eq_true c7
        clear c7
        (first | rw [c7b0] | (simp only [i64_w, i32_w]; rw [c7b0]) | skip)
        by_cases c8 : a1 < (s0_0.length : Int)
        · rw [if_pos c8] at H
          have c8b0 : decide (a1 < (s0_0.length : Int)) = true := decide_eq_true c8
          clear c8
          have H' := Aside0.mk H
          clear H
          obtain ⟨ASz9_0, cSz9_0, ASz9_1, cSz9_1, HGz9, hgz9, HSz9_0, HSz9_1⟩ := HI0.out
          have hcz9_0 := cellS134_0 HGz9
          have hcz9_1 := cellS134_1 HGz9
          clear HGz9 hgz9
          go_wp2_with (first | ((with_reducible refine gate_callee (f := 76) rfl ?_); refine goesL_ (some 15) rfl rfl Try.func76 (by kernel_rfl) rfl #[.int .i64 a1, .int .i64 0, .int .i64 (wrap64 ((s0_0.length : Int) - 1))] rfl (by (try simp only [List.map_toArray, List.map_cons, List.map_nil]); first | done | rfl | (simp only [List.length_drop, List.length_take]; rfl)) ?_; (with_reducible refine (impl_within.calls a1 0 (wrap64 ((s0_0.length : Int) - 1)) true _ A5.out).mono ?_); rintro e w' ⟨rfl, ⟨nd, rfl⟩⟩; refine ⟨_, rfl, ?_⟩; have p328 : 0 ≤ (a1 : Int) := of_decide_eq_true (by first | (with_reducible assumption) | assumption); have q328 : a1 < (s0_0.length : Int) := of_decide_eq_true (by first | (with_reducible assumption) | assumption); obtain ⟨ad328, e328, hx328_0, hx328_1, hx328_2, hx328_3, hx328_4⟩ := at_T53 HSz9_0 a1 p328 q328; cases e328; replace hx328_0 := pw_cell_below HB.out hx328_0; replace hx328_1 := pw_cell_below HB.out hx328_1; replace hx328_2 := pw_cell_below HB.out hx328_2; replace hx328_3 := pw_cell_below HB.out hx328_3; replace hx328_4 := pw_cell_below HB.out hx328_4; replace p328 := eq_true p328; replace q328 := eq_true q328))
          go_meet
          case rel => exact ⟨_, ((((rd_T53 s0_0 a1).f0) != 12)), (by first | rfl | (simp; done) | (simp [*]; done)), H', ⟨by first | omega | exact Nat.le_refl _⟩, ⟨by repeat (first | (with_reducible first | exact HI0.out | apply IsS134.alloc | apply IsS134.drewN | apply IsS134.drew) | exact HI0.out)⟩, ⟨by repeat (first | (with_reducible first | exact HK.out | apply KeepBut.set_ | apply keep_drewN | apply keep_drew | apply keep_alloc) | exact HK.out)⟩, ⟨by repeat (first | (with_reducible first | exact HB.out | apply below_alloc | apply pw_below_drewN | apply below_drew1 | refine below_set ?_ (IsS134.ge HI0.out)) | exact HB.out)⟩⟩
        · rw [if_neg c8] at H
          exact absurd H (by simp)
      · rw [if_neg c7] at H
        exact absurd H (by simp)
    · replace c6 := Bool.eq_false_iff.mpr c6
      subst c6
      have H1 : (impl_tree_find.j0 k a1 a2 true s0_0 s0_1) = some r := by rw [if_neg (show ¬ (false = true) by decide)] at H; exact H
      clear H
      have H := H1
      clear H1
      have H' := Aside0.mk H
      clear H
      obtain ⟨ASz10_0, cSz10_0, ASz10_1, cSz10_1, HGz10, hgz10, HSz10_0, HSz10_1⟩ := HI0.out
      have hcz10_0 := cellS134_0 HGz10
      have hcz10_1 := cellS134_1 HGz10
      clear HGz10 hgz10
      go_wp2_with (first | ((with_reducible refine gate_callee (f := 76) rfl ?_); refine goesL_ (some 15) rfl rfl Try.func76 (by kernel_rfl) rfl #[.int .i64 a1, .int .i64 0, .int .i64 (wrap64 ((s0_0.length : Int) - 1))] rfl (by (try simp only [List.map_toArray, List.map_cons, List.map_nil]); first | done | rfl | (simp only [List.length_drop, List.length_take]; rfl)) ?_; (with_reducible refine (impl_within.calls a1 0 (wrap64 ((s0_0.length : Int) - 1)) false _ A5.out).mono ?_); rintro e w' ⟨rfl, ⟨nd, rfl⟩⟩; refine ⟨_, rfl, ?_⟩))
      go_meet
      case rel => exact ⟨_, (true), (by first | rfl | (simp; done) | (simp [*]; done)), H', ⟨by first | omega | exact Nat.le_refl _⟩, ⟨by repeat (first | (with_reducible first | exact HI0.out | apply IsS134.alloc | apply IsS134.drewN | apply IsS134.drew) | exact HI0.out)⟩, ⟨by repeat (first | (with_reducible first | exact HK.out | apply KeepBut.set_ | apply keep_drewN | apply keep_drew | apply keep_alloc) | exact HK.out)⟩, ⟨by repeat (first | (with_reducible first | exact HB.out | apply below_alloc | apply pw_below_drewN | apply below_drew1 | refine below_set ?_ (IsS134.ge HI0.out)) | exact HB.out)⟩⟩
  case rest =>
    clear HC4
    try clear p2
    try clear p3
    try clear q3
    try clear hx3
    try clear c6
    try clear p6
    try clear c7
    try clear c7b0
    try clear c8
    try clear c8b0
    try clear c9
    try clear hcz10_0
    try clear hcz10_1
    try clear hcz9_0
    try clear hcz9_1
    try clear hx328_0
    try clear hx328_1
    try clear hx328_2
    try clear hx328_3
    try clear hx328_4
    try clear p328
    try clear q328
    obtain ⟨kq, x27_3, rfl, HA, HJ3, HI0, HK, HB⟩ := hcut
    cases kq with
    | zero => exact absurd HA.out (by simp [impl_tree_find.j0])
    | succ kj3 =>
      have H := HA.out
      clear HA
      simp only [impl_tree_find.j0] at H
      by_cases c11 : x27_3 = true
      · subst c11
        have H1 : (some (-1)) = some r := by rw [if_pos rfl] at H; exact H
        clear H
        have H := H1
        clear H1
        obtain rfl := Option.some.inj H
        go_wp2
        go_ret
        exact ⟨by first | rfl | (simp [errW_none, errW_some] <;> rfl) | (simp [*, errW_none, errW_some] <;> rfl), by repeat (first | (with_reducible first | exact HI0.out | apply IsS134.alloc | apply IsS134.drewN | apply IsS134.drew) | exact HI0.out), by repeat (first | (with_reducible first | exact HB.out | apply below_alloc | apply pw_below_drewN | apply below_drew1 | refine below_set ?_ (IsS134.ge HI0.out)) | exact HB.out), by repeat (first | (with_reducible first | exact HK.out | apply KeepBut.set_ | apply keep_drewN | apply keep_drew | apply keep_alloc) | exact HK.out)⟩
      · replace c11 := Bool.eq_false_iff.mpr c11
        subst c11
        have H1 : (if 0 ≤ a1 then (if a1 < (s0_0.length : Int) then (impl_tree_find.l0 kj3 a2 (wrap64 (a1 + 1)) ((rd_T53 s0_0 a1).f4) 0 s0_0 s0_1) else (none)) else (none)) = some r := by rw [if_neg (show ¬ (false = true) by decide)] at H; exact H
        clear H
        have H := H1
        clear H1
        by_cases c12 : 0 ≤ a1
        · rw [if_pos c12] at H
          have c12b0 : decide (0 ≤ a1) = true := decide_eq_true c12
          clear c12
          by_cases c13 : a1 < (s0_0.length : Int)
          · rw [if_pos c13] at H
            have c13b0 : decide (a1 < (s0_0.length : Int)) = true := decide_eq_true c13
            clear c13
            have H' := Aside0.mk H
            clear H
            obtain ⟨ASz14_0, cSz14_0, ASz14_1, cSz14_1, HGz14, hgz14, HSz14_0, HSz14_1⟩ := HI0.out
            have hcz14_0 := cellS134_0 HGz14
            have hcz14_1 := cellS134_1 HGz14
            clear HGz14 hgz14
            have p329 : 0 ≤ (a1 : Int) := of_decide_eq_true (by first | (with_reducible assumption) | assumption)
            have q329 : a1 < (s0_0.length : Int) := of_decide_eq_true (by first | (with_reducible assumption) | assumption)
            obtain ⟨ad329, e329, hx329_0, hx329_1, hx329_2, hx329_3, hx329_4⟩ := at_T53 HSz14_0 a1 p329 q329
            cases e329
            replace hx329_0 := pw_cell_below HB.out hx329_0
            replace hx329_1 := pw_cell_below HB.out hx329_1
            replace hx329_2 := pw_cell_below HB.out hx329_2
            replace hx329_3 := pw_cell_below HB.out hx329_3
            replace hx329_4 := pw_cell_below HB.out hx329_4
            replace p329 := eq_true p329
            replace q329 := eq_true q329
            go_wp2
            go_loopg [7, 38] kj3 (fun kq v7 v38 w' => ∃ (x7_2 : Int) (x38_2 : Int), v7 = .int .i64 x7_2 ∧ v38 = .int .i64 x38_2 ∧ Aside0 (impl_tree_find.l0 kq a2 x7_2 ((rd_T53 s0_0 a1).f4) x38_2 s0_0 s0_1 = some r) ∧ Aside0 (kq ≤ kj3) ∧ Aside0 (IsS134 w0 w' g s0_0 s0_1) ∧ Aside0 (KeepBut w w' g none) ∧ Aside0 (Below w0.heap.size w0 w'))
            case atStart => exact ⟨(wrap64 (a1 + 1)), (0), (by first | rfl | (simp; done) | (simp [*]; done)), (by first | rfl | (simp; done) | (simp [*]; done)), H', ⟨Nat.le_refl _⟩, ⟨by repeat (first | (with_reducible first | exact HI0.out | apply IsS134.alloc | apply IsS134.drewN | apply IsS134.drew) | exact HI0.out)⟩, ⟨by repeat (first | (with_reducible first | exact HK.out | apply KeepBut.set_ | apply keep_drewN | apply keep_drew | apply keep_alloc) | exact HK.out)⟩, ⟨by repeat (first | (with_reducible first | exact HB.out | apply below_alloc | apply pw_below_drewN | apply below_drew1 | refine below_set ?_ (IsS134.ge HI0.out)) | exact HB.out)⟩⟩
            case round =>
              clear H'
              try clear c1
              try clear p2
              try clear p3
              try clear q3
              try clear hx3
              try clear c6
              try clear p6
              try clear c7
              try clear c7b0
              try clear c8
              try clear c8b0
              try clear c9
              try clear c11
              try clear c12
              try clear c12b0
              try clear c13
              try clear c13b0
              try clear hcz10_0
              try clear hcz10_1
              try clear hcz14_0
              try clear hcz14_1
              try clear hcz9_0
              try clear hcz9_1
              try clear hx328_0
              try clear hx328_1
              try clear hx328_2
              try clear hx328_3
              try clear hx328_4
              try clear hx329_0
              try clear hx329_1
              try clear hx329_2
              try clear hx329_3
              try clear hx329_4
              try clear p2
              try clear p3
              try clear p328
              try clear p329
              try clear p6
              try clear q3
              try clear q328
              try clear q329
              obtain ⟨x7_2, x38_2, rfl, rfl, HA, HK2, HI0, HK, HB⟩ := hrel
              cases gk with
              | zero => exact absurd HA.out (by simp [impl_tree_find.l0])
              | succ k2 =>
                have H := HA.out
                clear HA
                simp only [impl_tree_find.l0] at H
                by_cases c15 : x38_2 < ((rd_T53 s0_0 a1).f4)
                · rw [if_pos c15] at H
                  have c15b0 : decide (x38_2 < ((rd_T53 s0_0 a1).f4)) = true := decide_eq_true c15
                  clear c15
                  by_cases c16 : 0 ≤ x7_2
                  · rw [if_pos c16] at H
                    have c16b0 : decide (0 ≤ x7_2) = true := decide_eq_true c16
                    clear c16
                    by_cases c17 : x7_2 < (s0_0.length : Int)
                    · rw [if_pos c17] at H
                      have c17b0 : decide (x7_2 < (s0_0.length : Int)) = true := decide_eq_true c17
                      clear c17
                      by_cases c18 : ((rd_T53 s0_0 x7_2).f1) = a2
                      · rw [if_pos c18] at H
                        have c18b0 : (((rd_T53 s0_0 x7_2).f1) == a2) = true := beq_iff_eq.mpr c18
                        have c18b1 : (((rd_T53 s0_0 x7_2).f1) != a2) = false := bne_eq_false_iff_eq.mpr c18
                        clear c18
                        obtain rfl := Option.some.inj H
                        obtain ⟨ASz19_0, cSz19_0, ASz19_1, cSz19_1, HGz19, hgz19, HSz19_0, HSz19_1⟩ := HI0.out
                        have hcz19_0 := cellS134_0 HGz19
                        have hcz19_1 := cellS134_1 HGz19
                        clear HGz19 hgz19
                        have p330 : 0 ≤ (x7_2 : Int) := of_decide_eq_true (by first | (with_reducible assumption) | assumption)
                        have q330 : x7_2 < (s0_0.length : Int) := of_decide_eq_true (by first | (with_reducible assumption) | assumption)
                        obtain ⟨ad330, e330, hx330_0, hx330_1, hx330_2, hx330_3, hx330_4⟩ := at_T53 HSz19_0 x7_2 p330 q330
                        cases e330
                        replace hx330_0 := pw_cell_below HB.out hx330_0
                        replace hx330_1 := pw_cell_below HB.out hx330_1
                        replace hx330_2 := pw_cell_below HB.out hx330_2
                        replace hx330_3 := pw_cell_below HB.out hx330_3
                        replace hx330_4 := pw_cell_below HB.out hx330_4
                        replace p330 := eq_true p330
                        replace q330 := eq_true q330
                        go_wp2
                        go_ret
                        exact ⟨by first | rfl | (simp [errW_none, errW_some] <;> rfl) | (simp [*, errW_none, errW_some] <;> rfl), by repeat (first | (with_reducible first | exact HI0.out | apply IsS134.alloc | apply IsS134.drewN | apply IsS134.drew) | exact HI0.out), by repeat (first | (with_reducible first | exact HB.out | apply below_alloc | apply pw_below_drewN | apply below_drew1 | refine below_set ?_ (IsS134.ge HI0.out)) | exact HB.out), by repeat (first | (with_reducible first | exact HK.out | apply KeepBut.set_ | apply keep_drewN | apply keep_drew | apply keep_alloc) | exact HK.out)⟩
                      · rw [if_neg c18] at H
                        have c18b0 : (((rd_T53 s0_0 x7_2).f1) == a2) = false := beq_eq_false_iff_ne.mpr c18
                        have c18b1 : (((rd_T53 s0_0 x7_2).f1) != a2) = true := bne_iff_ne.mpr c18
                        by_cases c20 : x7_2 < (s0_1.length : Int)
                        · rw [if_pos c20] at H
                          have c20b0 : decide (x7_2 < (s0_1.length : Int)) = true := decide_eq_true c20
                          clear c20
                          have H' := Aside0.mk H
                          clear H
                          obtain ⟨ASz21_0, cSz21_0, ASz21_1, cSz21_1, HGz21, hgz21, HSz21_0, HSz21_1⟩ := HI0.out
                          have hcz21_0 := cellS134_0 HGz21
                          have hcz21_1 := cellS134_1 HGz21
                          clear HGz21 hgz21
                          have p330 : 0 ≤ (x7_2 : Int) := of_decide_eq_true (by first | (with_reducible assumption) | assumption)
                          have q330 : x7_2 < (s0_0.length : Int) := of_decide_eq_true (by first | (with_reducible assumption) | assumption)
                          obtain ⟨ad330, e330, hx330_0, hx330_1, hx330_2, hx330_3, hx330_4⟩ := at_T53 HSz21_0 x7_2 p330 q330
                          cases e330
                          replace hx330_0 := pw_cell_below HB.out hx330_0
                          replace hx330_1 := pw_cell_below HB.out hx330_1
                          replace hx330_2 := pw_cell_below HB.out hx330_2
                          replace hx330_3 := pw_cell_below HB.out hx330_3
                          replace hx330_4 := pw_cell_below HB.out hx330_4
                          replace p330 := eq_true p330
                          replace q330 := eq_true q330
                          have p331 : 0 ≤ (x7_2 : Int) := of_decide_eq_true (by first | (with_reducible assumption) | assumption)
                          have q331 : x7_2 < (s0_1.length : Int) := of_decide_eq_true (by first | (with_reducible assumption) | assumption)
                          obtain ⟨ad331, e331, hx331_0⟩ := Kd.at_int HSz21_1 x7_2 p331 q331
                          cases e331
                          replace hx331_0 := pw_cell_below HB.out hx331_0
                          replace p331 := eq_true p331
                          replace q331 := eq_true q331
                          go_wp2
                          go_roundg k2
                          case measure => have := HJ3.out; have := HK2.out; omega
                          case rel => exact ⟨(rd s0_1 x7_2), (wrap64 (x38_2 + 1)), (by first | rfl | (simp; done) | (simp [*]; done)), (by first | rfl | (simp; done) | (simp [*]; done)), H', ⟨by have := HJ3.out; have := HK2.out; omega⟩, ⟨by repeat (first | (with_reducible first | exact HI0.out | apply IsS134.alloc | apply IsS134.drewN | apply IsS134.drew) | exact HI0.out)⟩, ⟨by repeat (first | (with_reducible first | exact HK.out | apply KeepBut.set_ | apply keep_drewN | apply keep_drew | apply keep_alloc) | exact HK.out)⟩, ⟨by repeat (first | (with_reducible first | exact HB.out | apply below_alloc | apply pw_below_drewN | apply below_drew1 | refine below_set ?_ (IsS134.ge HI0.out)) | exact HB.out)⟩⟩
                        · rw [if_neg c20] at H
                          exact absurd H (by simp)
                    · rw [if_neg c17] at H
                      exact absurd H (by simp)
                  · rw [if_neg c16] at H
                    exact absurd H (by simp)
                · rw [if_neg c15] at H
                  have c15b0 : decide (x38_2 < ((rd_T53 s0_0 a1).f4)) = false := decide_eq_false c15
                  clear c15
                  obtain rfl := Option.some.inj H
                  go_wp2
                  go_ret
                  exact ⟨by first | rfl | (simp [errW_none, errW_some] <;> rfl) | (simp [*, errW_none, errW_some] <;> rfl), by repeat (first | (with_reducible first | exact HI0.out | apply IsS134.alloc | apply IsS134.drewN | apply IsS134.drew) | exact HI0.out), by repeat (first | (with_reducible first | exact HB.out | apply below_alloc | apply pw_below_drewN | apply below_drew1 | refine below_set ?_ (IsS134.ge HI0.out)) | exact HB.out), by repeat (first | (with_reducible first | exact HK.out | apply KeepBut.set_ | apply keep_drewN | apply keep_drew | apply keep_alloc) | exact HK.out)⟩
          · rw [if_neg c13] at H
            exact absurd H (by simp)
        · rw [if_neg c12] at H
          exact absurd H (by simp)

/-! ### impl_TreeFind: function 37 -/
def impl_TreeFind.f (k : Nat) (l0 : List (S53)) (a1 : Int) (a2 : Int) : Option Int := (impl_treeOf.f k l0).bind fun t => if t.2 = true then impl_tree_find.f k l0 t.1 a1 a2 else some (-1)
theorem impl_TreeFind.mono (a0 a1 a2) (k) : LeO (impl_TreeFind.f k a0 a1 a2) (impl_TreeFind.f (k + 1) a0 a1 a2) := by
  unfold impl_TreeFind.f
  refine LeO.bind (impl_treeOf.mono _ _) (fun _ => LeO.ite (impl_tree_find.mono _ _ _ _ _) (LeO.refl _))
set_option maxHeartbeats 8000000 in
set_option maxRecDepth 100000 in
theorem impl_TreeFind.calls (k : Nat) (A0 : Option Addr) (c0 : Nat) (l0 : List (S53)) (a1 : Int) (a2 : Int) (r : Int) (w : World) (hr0 : Kd.C k53 w A0 l0.length l0) (hc0 : l0.length ≤ c0) (h : impl_TreeFind.f k l0 a1 a2 = some r) :
    Calls Try.prog 37 #[.slice A0 l0.length c0, .int .i64 a1, .int .i64 a2] w fun e w' => e = .returned (.int .i64 r) ∧ Below w.heap.size w w' := by
  unfold impl_TreeFind.f at h
  obtain ⟨⟨t1, t2⟩, ht, h⟩ := Option.bind_eq_some_iff.mp h
  have HT := Aside0.mk ht
  clear ht
  dsimp only at h
  cases t2 with
  | false =>
    rw [if_neg (by decide)] at h
    obtain rfl := Option.some.inj h
    go_enter Try.func37, Try.ntmps37
    go_wp2_with (go_at_call 92; refine (impl_treeOf.calls k _ _ l0 t1 false _ hr0 hc0 HT.out).mono ?_; rintro e w1 ⟨p, rfl, hp⟩; obtain ⟨hb, hp1, _⟩ := hp; obtain rfl := hp1 rfl; have HB := Aside0.mk hb; clear hb hp1)
    go_ret
    exact ⟨rfl, HB.out⟩
  | true =>
    rw [if_pos rfl] at h
    have HM := Aside0.mk h
    clear h
    go_enter Try.func37, Try.ntmps37
    go_wp2_with (first | (go_at_call 92; refine (impl_treeOf.calls k _ _ l0 t1 true _ hr0 hc0 HT.out).mono ?_; rintro e w1 ⟨p, rfl, hp⟩; obtain ⟨hb, _, hp2⟩ := hp; obtain ⟨g, wz, rfl, hi, hbz, hz⟩ := hp2 rfl; have HB := Aside0.mk hb; have HI := Aside0.mk hi; have HZ := Aside0.mk hbz; have HS := Aside0.mk hz; clear hb hi hbz hz hp2) | (go_at_call 95; refine (impl_tree_find.calls k g l0 t1 a1 a2 r wz _ HI.out HZ.out HM.out).mono ?_; rintro e w2 ⟨rfl, hi2, hb2, hk2⟩; have HB2 := Aside0.mk (below_via HB.out HZ.out hb2 HS.out HS.out); clear hi2 hb2 hk2))
    go_ret
    exact ⟨rfl, HB2.out⟩

/-! ### impl_tree_num: function 96 -/
def impl_tree_num.f (k : Nat) (s0_0 : List (S53)) (s0_1 : List Int) (a1 : Int) (a2 : Int) : Option (Int × Bool) := (impl_tree_find.f k s0_0 s0_1 a1 a2).bind fun t332 => (if t332 < 0 then (some (0, false)) else (if 0 ≤ t332 then (if t332 < (s0_0.length : Int) then (if ((rd_T53 s0_0 t332).f0) = 5 then (some ((rd_T53 s0_0 t332).f2, true)) else (if ((rd_T53 s0_0 t332).f0) = 6 then (some ((rd_T53 s0_0 t332).f2, true)) else (some (0, false)))) else (none)) else (none)))
theorem impl_tree_num.mono : ∀ a0 a1 a2 a3 k, LeO (impl_tree_num.f k a0 a1 a2 a3) (impl_tree_num.f (k + 1) a0 a1 a2 a3) := by
  intro a0 a1 a2 a3 k
  unfold impl_tree_num.f
  repeat' first
      | (with_reducible exact impl_tree_find.mono _ _ _ _ _)
      | (with_reducible exact LeO.refl _)
      | (with_reducible exact LeO.none _)
      | (with_reducible refine LeO.ite ?_ ?_)
      | (with_reducible refine LeO.bind ?_ (fun _ => ?_))
      | exact impl_tree_find.mono _ _ _ _ _
      | exact LeO.none _
      | refine LeO.ite ?_ ?_
      | refine LeO.bind ?_ (fun _ => ?_)
set_option maxHeartbeats 8000000 in
set_option maxRecDepth 100000 in
theorem impl_tree_num.calls (k : Nat) (g : Nat) (s0_0 : List (S53)) (s0_1 : List Int) (a1 : Int) (a2 : Int) (r1 : Int) (r2 : Bool) (w0 w : World) (hI : IsS134 w0 w g s0_0 s0_1) (hB : Below w0.heap.size w0 w) (h : impl_tree_num.f k s0_0 s0_1 a1 a2 = some (r1, r2)) :
    Calls Try.prog 96 #[.pointer (some ⟨g, 0, none⟩), .int .i64 a1, .int .i64 a2] w fun e w' => e = .returned (.tuple #[.int .i64 r1, .bool r2]) ∧ IsS134 w0 w' g s0_0 s0_1 ∧ Below w0.heap.size w0 w' ∧ KeepBut w w' g none := by
  have HI0 := Aside0.mk hI
  have HK := Aside0.mk (KeepBut.refl w g none)
  have HL := Aside0.mk hB.size
  clear hI
  have HW0 := Aside0.mk hB.size
  have HB := Aside0.mk hB
  clear hB
  have H : ((impl_tree_find.f k s0_0 s0_1 a1 a2).bind fun t332 => (if t332 < 0 then (some (0, false)) else (if 0 ≤ t332 then (if t332 < (s0_0.length : Int) then (if ((rd_T53 s0_0 t332).f0) = 5 then (some ((rd_T53 s0_0 t332).f2, true)) else (if ((rd_T53 s0_0 t332).f0) = 6 then (some ((rd_T53 s0_0 t332).f2, true)) else (some (0, false)))) else (none)) else (none)))) = some (r1, r2) := h
  clear h
  replace H := Option.bind_eq_some_iff.mp H
  obtain ⟨t332, A40, H⟩ := H
  replace H : (if t332 < 0 then (some (0, false)) else (if 0 ≤ t332 then (if t332 < (s0_0.length : Int) then (if ((rd_T53 s0_0 t332).f0) = 5 then (some ((rd_T53 s0_0 t332).f2, true)) else (if ((rd_T53 s0_0 t332).f0) = 6 then (some ((rd_T53 s0_0 t332).f2, true)) else (some (0, false)))) else (none)) else (none))) = some (r1, r2) := H
  have A4 := Aside0.mk A40
  clear A40
  by_cases c5 : t332 < 0
  · rw [if_pos c5] at H
    have c5b0 : decide (t332 < 0) = true := decide_eq_true c5
    clear c5
    simp only [Option.some.injEq, Prod.mk.injEq] at H
    obtain ⟨rfl, rfl⟩ := H
    go_enter Try.func96, Try.ntmps96
    go_wp2_with (first | ((with_reducible refine gate_callee (f := 95) rfl ?_); refine goesL_ (some 12) rfl rfl Try.func95 (by kernel_rfl) rfl #[.pointer (some ⟨g, 0, none⟩), .int .i64 a1, .int .i64 a2] rfl (by (try simp only [List.map_toArray, List.map_cons, List.map_nil]); first | done | rfl | (simp only [List.length_drop, List.length_take]; rfl)) ?_; (with_reducible refine (impl_tree_find.calls k g s0_0 s0_1 a1 a2 t332 w0 _ ?side1 ?side2 A4.out).mono ?_); (case side1 => repeat (first | (with_reducible first | exact HI0.out | apply IsS134.alloc | apply IsS134.drewN | apply IsS134.drew) | exact HI0.out)); (case side2 => repeat (first | (with_reducible first | exact HB.out | apply below_alloc | apply pw_below_drewN | apply below_drew1 | refine below_set ?_ (IsS134.ge HI0.out)) | exact HB.out)); rintro e w6 ⟨rfl, hi, hb, hk⟩; refine ⟨_, rfl, ?_⟩; have n0_ := Aside0.mk (KeepBut.trans (by repeat (first | (with_reducible first | exact HK.out | apply KeepBut.set_ | apply keep_drewN | apply keep_drew | apply keep_alloc) | exact HK.out)) hk (.inl rfl)); have n1_ := Aside0.mk (hb); have n2_ := Aside0.mk (hi); clear HK; clear HB; clear HI0; have HK := n0_; have HB := n1_; have HI0 := n2_; clear n0_ n1_ n2_; (try clear hb); (try clear hb2); (try clear hk); (try clear hi)))
    go_ret2
    exact ⟨by first | rfl | (simp [errW_none, errW_some] <;> rfl) | (simp [*, errW_none, errW_some] <;> rfl), by repeat (first | (with_reducible first | exact HI0.out | apply IsS134.alloc | apply IsS134.drewN | apply IsS134.drew) | exact HI0.out), by repeat (first | (with_reducible first | exact HB.out | apply below_alloc | apply pw_below_drewN | apply below_drew1 | refine below_set ?_ (IsS134.ge HI0.out)) | exact HB.out), by repeat (first | (with_reducible first | exact HK.out | apply KeepBut.set_ | apply keep_drewN | apply keep_drew | apply keep_alloc) | exact HK.out)⟩
  · rw [if_neg c5] at H
    have c5b0 : decide (t332 < 0) = false := decide_eq_false c5
    clear c5
    by_cases c7 : 0 ≤ t332
    · rw [if_pos c7] at H
      have c7b0 : decide (0 ≤ t332) = true := decide_eq_true c7
      clear c7
      by_cases c8 : t332 < (s0_0.length : Int)
      · rw [if_pos c8] at H
        have c8b0 : decide (t332 < (s0_0.length : Int)) = true := decide_eq_true c8
        clear c8
        by_cases c9 : ((rd_T53 s0_0 t332).f0) = 5
        · rw [if_pos c9] at H
          have c9b0 : (((rd_T53 s0_0 t332).f0) == 5) = true := beq_iff_eq.mpr c9
          have c9b1 : (((rd_T53 s0_0 t332).f0) != 5) = false := bne_eq_false_iff_eq.mpr c9
          clear c9
          simp only [Option.some.injEq, Prod.mk.injEq] at H
          obtain ⟨rfl, rfl⟩ := H
          go_enter Try.func96, Try.ntmps96
          go_wp2_with (first | ((with_reducible refine gate_callee (f := 95) rfl ?_); refine goesL_ (some 12) rfl rfl Try.func95 (by kernel_rfl) rfl #[.pointer (some ⟨g, 0, none⟩), .int .i64 a1, .int .i64 a2] rfl (by (try simp only [List.map_toArray, List.map_cons, List.map_nil]); first | done | rfl | (simp only [List.length_drop, List.length_take]; rfl)) ?_; (with_reducible refine (impl_tree_find.calls k g s0_0 s0_1 a1 a2 t332 w0 _ ?side1 ?side2 A4.out).mono ?_); (case side1 => repeat (first | (with_reducible first | exact HI0.out | apply IsS134.alloc | apply IsS134.drewN | apply IsS134.drew) | exact HI0.out)); (case side2 => repeat (first | (with_reducible first | exact HB.out | apply below_alloc | apply pw_below_drewN | apply below_drew1 | refine below_set ?_ (IsS134.ge HI0.out)) | exact HB.out)); rintro e w10 ⟨rfl, hi, hb, hk⟩; refine ⟨_, rfl, ?_⟩; have n0_ := Aside0.mk (KeepBut.trans (by repeat (first | (with_reducible first | exact HK.out | apply KeepBut.set_ | apply keep_drewN | apply keep_drew | apply keep_alloc) | exact HK.out)) hk (.inl rfl)); have n1_ := Aside0.mk (hb); have n2_ := Aside0.mk (hi); clear HK; clear HB; clear HI0; have HK := n0_; have HB := n1_; have HI0 := n2_; clear n0_ n1_ n2_; (try clear hb); (try clear hb2); (try clear hk); (try clear hi); obtain ⟨ASz11_0, cSz11_0, ASz11_1, cSz11_1, HGz11, hgz11, HSz11_0, HSz11_1⟩ := HI0.out; have hcz11_0 := cellS134_0 HGz11; have hcz11_1 := cellS134_1 HGz11; clear HGz11 hgz11; have p333 : 0 ≤ (t332 : Int) := of_decide_eq_true (by first | (with_reducible assumption) | assumption); have q333 : t332 < (s0_0.length : Int) := of_decide_eq_true (by first | (with_reducible assumption) | assumption); obtain ⟨ad333, e333, hx333_0, hx333_1, hx333_2, hx333_3, hx333_4⟩ := at_T53 HSz11_0 t332 p333 q333; cases e333; replace hx333_0 := pw_cell_below HB.out hx333_0; replace hx333_1 := pw_cell_below HB.out hx333_1; replace hx333_2 := pw_cell_below HB.out hx333_2; replace hx333_3 := pw_cell_below HB.out hx333_3; replace hx333_4 := pw_cell_below HB.out hx333_4; replace p333 := eq_true p333; replace q333 := eq_true q333; have p334 : 0 ≤ (t332 : Int) := of_decide_eq_true (by first | (with_reducible assumption) | assumption); have q334 : t332 < (s0_0.length : Int) := of_decide_eq_true (by first | (with_reducible assumption) | assumption); obtain ⟨ad334, e334, hx334_0, hx334_1, hx334_2, hx334_3, hx334_4⟩ := at_T53 HSz11_0 t332 p334 q334; obtain rfl : ad333 = ad334 := (by injection e334); replace hx334_0 := pw_cell_below HB.out hx334_0; replace hx334_1 := pw_cell_below HB.out hx334_1; replace hx334_2 := pw_cell_below HB.out hx334_2; replace hx334_3 := pw_cell_below HB.out hx334_3; replace hx334_4 := pw_cell_below HB.out hx334_4; replace p334 := eq_true p334; replace q334 := eq_true q334))
          go_ret2
          exact ⟨by first | rfl | (simp [errW_none, errW_some] <;> rfl) | (simp [*, errW_none, errW_some] <;> rfl), by repeat (first | (with_reducible first | exact HI0.out | apply IsS134.alloc | apply IsS134.drewN | apply IsS134.drew) | exact HI0.out), by repeat (first | (with_reducible first | exact HB.out | apply below_alloc | apply pw_below_drewN | apply below_drew1 | refine below_set ?_ (IsS134.ge HI0.out)) | exact HB.out), by repeat (first | (with_reducible first | exact HK.out | apply KeepBut.set_ | apply keep_drewN | apply keep_drew | apply keep_alloc) | exact HK.out)⟩
        · rw [if_neg c9] at H
          have c9b0 : (((rd_T53 s0_0 t332).f0) == 5) = false := beq_eq_false_iff_ne.mpr c9
          have c9b1 : (((rd_T53 s0_0 t332).f0) != 5) = true := bne_iff_ne.mpr c9
          by_cases c12 : ((rd_T53 s0_0 t332).f0) = 6
          · rw [if_pos c12] at H
            have c12b0 : (((rd_T53 s0_0 t332).f0) == 6) = true := beq_iff_eq.mpr c12
            have c12b1 : (((rd_T53 s0_0 t332).f0) != 6) = false := bne_eq_false_iff_eq.mpr c12
            clear c12
            simp only [Option.some.injEq, Prod.mk.injEq] at H
            obtain ⟨rfl, rfl⟩ := H
            go_enter Try.func96, Try.ntmps96
            go_wp2_with (first | ((with_reducible refine gate_callee (f := 95) rfl ?_); refine goesL_ (some 12) rfl rfl Try.func95 (by kernel_rfl) rfl #[.pointer (some ⟨g, 0, none⟩), .int .i64 a1, .int .i64 a2] rfl (by (try simp only [List.map_toArray, List.map_cons, List.map_nil]); first | done | rfl | (simp only [List.length_drop, List.length_take]; rfl)) ?_; (with_reducible refine (impl_tree_find.calls k g s0_0 s0_1 a1 a2 t332 w0 _ ?side1 ?side2 A4.out).mono ?_); (case side1 => repeat (first | (with_reducible first | exact HI0.out | apply IsS134.alloc | apply IsS134.drewN | apply IsS134.drew) | exact HI0.out)); (case side2 => repeat (first | (with_reducible first | exact HB.out | apply below_alloc | apply pw_below_drewN | apply below_drew1 | refine below_set ?_ (IsS134.ge HI0.out)) | exact HB.out)); rintro e w13 ⟨rfl, hi, hb, hk⟩; refine ⟨_, rfl, ?_⟩; have n0_ := Aside0.mk (KeepBut.trans (by repeat (first | (with_reducible first | exact HK.out | apply KeepBut.set_ | apply keep_drewN | apply keep_drew | apply keep_alloc) | exact HK.out)) hk (.inl rfl)); have n1_ := Aside0.mk (hb); have n2_ := Aside0.mk (hi); clear HK; clear HB; clear HI0; have HK := n0_; have HB := n1_; have HI0 := n2_; clear n0_ n1_ n2_; (try clear hb); (try clear hb2); (try clear hk); (try clear hi); obtain ⟨ASz14_0, cSz14_0, ASz14_1, cSz14_1, HGz14, hgz14, HSz14_0, HSz14_1⟩ := HI0.out; have hcz14_0 := cellS134_0 HGz14; have hcz14_1 := cellS134_1 HGz14; clear HGz14 hgz14; have p333 : 0 ≤ (t332 : Int) := of_decide_eq_true (by first | (with_reducible assumption) | assumption); have q333 : t332 < (s0_0.length : Int) := of_decide_eq_true (by first | (with_reducible assumption) | assumption); obtain ⟨ad333, e333, hx333_0, hx333_1, hx333_2, hx333_3, hx333_4⟩ := at_T53 HSz14_0 t332 p333 q333; cases e333; replace hx333_0 := pw_cell_below HB.out hx333_0; replace hx333_1 := pw_cell_below HB.out hx333_1; replace hx333_2 := pw_cell_below HB.out hx333_2; replace hx333_3 := pw_cell_below HB.out hx333_3; replace hx333_4 := pw_cell_below HB.out hx333_4; replace p333 := eq_true p333; replace q333 := eq_true q333; have p335 : 0 ≤ (t332 : Int) := of_decide_eq_true (by first | (with_reducible assumption) | assumption); have q335 : t332 < (s0_0.length : Int) := of_decide_eq_true (by first | (with_reducible assumption) | assumption); obtain ⟨ad335, e335, hx335_0, hx335_1, hx335_2, hx335_3, hx335_4⟩ := at_T53 HSz14_0 t332 p335 q335; obtain rfl : ad333 = ad335 := (by injection e335); replace hx335_0 := pw_cell_below HB.out hx335_0; replace hx335_1 := pw_cell_below HB.out hx335_1; replace hx335_2 := pw_cell_below HB.out hx335_2; replace hx335_3 := pw_cell_below HB.out hx335_3; replace hx335_4 := pw_cell_below HB.out hx335_4; replace p335 := eq_true p335; replace q335 := eq_true q335; have p336 : 0 ≤ (t332 : Int) := of_decide_eq_true (by first | (with_reducible assumption) | assumption); have q336 : t332 < (s0_0.length : Int) := of_decide_eq_true (by first | (with_reducible assumption) | assumption); obtain ⟨ad336, e336, hx336_0, hx336_1, hx336_2, hx336_3, hx336_4⟩ := at_T53 HSz14_0 t332 p336 q336; obtain rfl : ad333 = ad336 := (by injection e336); replace hx336_0 := pw_cell_below HB.out hx336_0; replace hx336_1 := pw_cell_below HB.out hx336_1; replace hx336_2 := pw_cell_below HB.out hx336_2; replace hx336_3 := pw_cell_below HB.out hx336_3; replace hx336_4 := pw_cell_below HB.out hx336_4; replace p336 := eq_true p336; replace q336 := eq_true q336))
            go_ret2
            exact ⟨by first | rfl | (simp [errW_none, errW_some] <;> rfl) | (simp [*, errW_none, errW_some] <;> rfl), by repeat (first | (with_reducible first | exact HI0.out | apply IsS134.alloc | apply IsS134.drewN | apply IsS134.drew) | exact HI0.out), by repeat (first | (with_reducible first | exact HB.out | apply below_alloc | apply pw_below_drewN | apply below_drew1 | refine below_set ?_ (IsS134.ge HI0.out)) | exact HB.out), by repeat (first | (with_reducible first | exact HK.out | apply KeepBut.set_ | apply keep_drewN | apply keep_drew | apply keep_alloc) | exact HK.out)⟩
          · rw [if_neg c12] at H
            have c12b0 : (((rd_T53 s0_0 t332).f0) == 6) = false := beq_eq_false_iff_ne.mpr c12
            have c12b1 : (((rd_T53 s0_0 t332).f0) != 6) = true := bne_iff_ne.mpr c12
            simp only [Option.some.injEq, Prod.mk.injEq] at H
            obtain ⟨rfl, rfl⟩ := H
            go_enter Try.func96, Try.ntmps96
            go_wp2_with (first | ((with_reducible refine gate_callee (f := 95) rfl ?_); refine goesL_ (some 12) rfl rfl Try.func95 (by kernel_rfl) rfl #[.pointer (some ⟨g, 0, none⟩), .int .i64 a1, .int .i64 a2] rfl (by (try simp only [List.map_toArray, List.map_cons, List.map_nil]); first | done | rfl | (simp only [List.length_drop, List.length_take]; rfl)) ?_; (with_reducible refine (impl_tree_find.calls k g s0_0 s0_1 a1 a2 t332 w0 _ ?side1 ?side2 A4.out).mono ?_); (case side1 => repeat (first | (with_reducible first | exact HI0.out | apply IsS134.alloc | apply IsS134.drewN | apply IsS134.drew) | exact HI0.out)); (case side2 => repeat (first | (with_reducible first | exact HB.out | apply below_alloc | apply pw_below_drewN | apply below_drew1 | refine below_set ?_ (IsS134.ge HI0.out)) | exact HB.out)); rintro e w15 ⟨rfl, hi, hb, hk⟩; refine ⟨_, rfl, ?_⟩; have n0_ := Aside0.mk (KeepBut.trans (by repeat (first | (with_reducible first | exact HK.out | apply KeepBut.set_ | apply keep_drewN | apply keep_drew | apply keep_alloc) | exact HK.out)) hk (.inl rfl)); have n1_ := Aside0.mk (hb); have n2_ := Aside0.mk (hi); clear HK; clear HB; clear HI0; have HK := n0_; have HB := n1_; have HI0 := n2_; clear n0_ n1_ n2_; (try clear hb); (try clear hb2); (try clear hk); (try clear hi); obtain ⟨ASz16_0, cSz16_0, ASz16_1, cSz16_1, HGz16, hgz16, HSz16_0, HSz16_1⟩ := HI0.out; have hcz16_0 := cellS134_0 HGz16; have hcz16_1 := cellS134_1 HGz16; clear HGz16 hgz16; have p333 : 0 ≤ (t332 : Int) := of_decide_eq_true (by first | (with_reducible assumption) | assumption); have q333 : t332 < (s0_0.length : Int) := of_decide_eq_true (by first | (with_reducible assumption) | assumption); obtain ⟨ad333, e333, hx333_0, hx333_1, hx333_2, hx333_3, hx333_4⟩ := at_T53 HSz16_0 t332 p333 q333; cases e333; replace hx333_0 := pw_cell_below HB.out hx333_0; replace hx333_1 := pw_cell_below HB.out hx333_1; replace hx333_2 := pw_cell_below HB.out hx333_2; replace hx333_3 := pw_cell_below HB.out hx333_3; replace hx333_4 := pw_cell_below HB.out hx333_4; replace p333 := eq_true p333; replace q333 := eq_true q333; have p335 : 0 ≤ (t332 : Int) := of_decide_eq_true (by first | (with_reducible assumption) | assumption); have q335 : t332 < (s0_0.length : Int) := of_decide_eq_true (by first | (with_reducible assumption) | assumption); obtain ⟨ad335, e335, hx335_0, hx335_1, hx335_2, hx335_3, hx335_4⟩ := at_T53 HSz16_0 t332 p335 q335; obtain rfl : ad333 = ad335 := (by injection e335); replace hx335_0 := pw_cell_below HB.out hx335_0; replace hx335_1 := pw_cell_below HB.out hx335_1; replace hx335_2 := pw_cell_below HB.out hx335_2; replace hx335_3 := pw_cell_below HB.out hx335_3; replace hx335_4 := pw_cell_below HB.out hx335_4; replace p335 := eq_true p335; replace q335 := eq_true q335))
            go_ret2
            exact ⟨by first | rfl | (simp [errW_none, errW_some] <;> rfl) | (simp [*, errW_none, errW_some] <;> rfl), by repeat (first | (with_reducible first | exact HI0.out | apply IsS134.alloc | apply IsS134.drewN | apply IsS134.drew) | exact HI0.out), by repeat (first | (with_reducible first | exact HB.out | apply below_alloc | apply pw_below_drewN | apply below_drew1 | refine below_set ?_ (IsS134.ge HI0.out)) | exact HB.out), by repeat (first | (with_reducible first | exact HK.out | apply KeepBut.set_ | apply keep_drewN | apply keep_drew | apply keep_alloc) | exact HK.out)⟩
      · rw [if_neg c8] at H
        exact absurd H (by simp)
    · rw [if_neg c7] at H
      exact absurd H (by simp)

/-! ### impl_TreeNumOf: function 38 -/
def impl_TreeNumOf.f (k : Nat) (l0 : List (S53)) (a1 : Int) (a2 : Int) : Option (Int × Bool) := (impl_treeOf.f k l0).bind fun t => if t.2 = true then impl_tree_num.f k l0 t.1 a1 a2 else some (0, false)
theorem impl_TreeNumOf.mono (a0 a1 a2) (k) : LeO (impl_TreeNumOf.f k a0 a1 a2) (impl_TreeNumOf.f (k + 1) a0 a1 a2) := by
  unfold impl_TreeNumOf.f
  refine LeO.bind (impl_treeOf.mono _ _) (fun _ => LeO.ite (impl_tree_num.mono _ _ _ _ _) (LeO.refl _))
set_option maxHeartbeats 8000000 in
set_option maxRecDepth 100000 in
theorem impl_TreeNumOf.calls (k : Nat) (A0 : Option Addr) (c0 : Nat) (l0 : List (S53)) (a1 : Int) (a2 : Int) (r1 : Int) (r2 : Bool) (w : World) (hr0 : Kd.C k53 w A0 l0.length l0) (hc0 : l0.length ≤ c0) (h : impl_TreeNumOf.f k l0 a1 a2 = some (r1, r2)) :
    Calls Try.prog 38 #[.slice A0 l0.length c0, .int .i64 a1, .int .i64 a2] w fun e w' => e = .returned (.tuple #[.int .i64 r1, .bool r2]) ∧ Below w.heap.size w w' := by
  unfold impl_TreeNumOf.f at h
  obtain ⟨⟨t1, t2⟩, ht, h⟩ := Option.bind_eq_some_iff.mp h
  have HT := Aside0.mk ht
  clear ht
  dsimp only at h
  cases t2 with
  | false =>
    rw [if_neg (by decide)] at h
    obtain ⟨rfl, rfl⟩ : 0 = r1 ∧ false = r2 := by simpa using h
    go_enter Try.func38, Try.ntmps38
    go_wp2_with (go_at_call 92; refine (impl_treeOf.calls k _ _ l0 t1 false _ hr0 hc0 HT.out).mono ?_; rintro e w1 ⟨p, rfl, hp⟩; obtain ⟨hb, hp1, _⟩ := hp; obtain rfl := hp1 rfl; have HB := Aside0.mk hb; clear hb hp1)
    go_ret2
    exact ⟨rfl, HB.out⟩
  | true =>
    rw [if_pos rfl] at h
    have HM := Aside0.mk h
    clear h
    go_enter Try.func38, Try.ntmps38
    go_wp2_with (first | (go_at_call 92; refine (impl_treeOf.calls k _ _ l0 t1 true _ hr0 hc0 HT.out).mono ?_; rintro e w1 ⟨p, rfl, hp⟩; obtain ⟨hb, _, hp2⟩ := hp; obtain ⟨g, wz, rfl, hi, hbz, hz⟩ := hp2 rfl; have HB := Aside0.mk hb; have HI := Aside0.mk hi; have HZ := Aside0.mk hbz; have HS := Aside0.mk hz; clear hb hi hbz hz hp2) | (go_at_call 96; refine (impl_tree_num.calls k g l0 t1 a1 a2 r1 r2 wz _ HI.out HZ.out HM.out).mono ?_; rintro e w2 ⟨rfl, hi2, hb2, hk2⟩; have HB2 := Aside0.mk (below_via HB.out HZ.out hb2 HS.out HS.out); clear hi2 hb2 hk2))
    go_ret2
    exact ⟨rfl, HB2.out⟩

end Go.Proofs.Ytnfamhegbfjggaa.PFnTreeParts
