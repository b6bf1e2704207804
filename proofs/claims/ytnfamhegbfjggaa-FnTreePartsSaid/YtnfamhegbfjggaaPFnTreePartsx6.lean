/- The machine's side of FnTreeParts, written by wip/tools/hyb.py of this repo: each Go function as a plain Lean function, and the proof that the call comes to just its answer. No condition. -/
import Derived.Test.YtnfamhegbfjggaaPFnTreePartsx0
import Derived.Test.YtnfamhegbfjggaaPFnTreePartsx4
import Derived.Test.YtnfamhegbfjggaaPFnTreePartsx5
namespace Go.Proofs.Ytnfamhegbfjggaa.PFnTreeParts
open Go.RowKit Go.Proofs.YtnfamhegbfjggaaW.PrintWords Go.Proofs.YtnfamhegbfjggaaW.PrintLast Go.Proofs.YtnfamhegbfjggaaW.PrintMore Go.Proofs.YtnfamhegbfjggaaW.PrintMore2
attribute [local go_sem] max2_int min2_int max_two min_two max_three min_three max_four min_four   -- for this text's walks alone
set_option linter.unusedVariables false
set_option linter.unusedSimpArgs false

/-! ### impl_TreeAfter: function 35 -/
def impl_TreeAfter.f (k : Nat) (l0 : List (S53)) (a1 : Int) : Option Int := (impl_treeOf.f k l0).bind fun t => if t.2 = true then (impl_within.f a1 0 (wrap64 ((l0.length : Int) - 1))).bind fun b => if b = true then (if 0 ≤ a1 then (if a1 < (t.1.length : Int) then some (rd t.1 a1) else none) else none) else some (-1) else some (-1)
theorem impl_TreeAfter.mono (a0 a1) (k) : LeO (impl_TreeAfter.f k a0 a1) (impl_TreeAfter.f (k + 1) a0 a1) := by
  unfold impl_TreeAfter.f
  refine LeO.bind (impl_treeOf.mono _ _) (fun _ => LeO.ite (LeO.refl _) (LeO.refl _))
set_option maxHeartbeats 8000000 in
set_option maxRecDepth 100000 in
theorem impl_TreeAfter.calls (k : Nat) (A0 : Option Addr) (c0 : Nat) (l0 : List (S53)) (a1 : Int) (r : Int) (w : World) (hr0 : Kd.C k53 w A0 l0.length l0) (hc0 : l0.length ≤ c0) (h : impl_TreeAfter.f k l0 a1 = some r) :
    Calls Try.prog 35 #[.slice A0 l0.length c0, .int .i64 a1] w fun e w' => e = .returned (.int .i64 r) ∧ Below w.heap.size w w' := by
  unfold impl_TreeAfter.f at h
  obtain ⟨⟨t1, t2⟩, ht, h⟩ := Option.bind_eq_some_iff.mp h
  have HT := Aside0.mk ht
  clear ht
  dsimp only at h
  cases t2 with
  | false =>
    rw [if_neg (by decide)] at h
    obtain rfl := Option.some.inj h
    go_enter Try.func35, Try.ntmps35
    go_wp2_with (go_at_call 92; refine (impl_treeOf.calls k _ _ l0 t1 false _ hr0 hc0 HT.out).mono ?_; rintro e w1 ⟨p, rfl, hp⟩; obtain ⟨hb, hp1, _⟩ := hp; obtain rfl := hp1 rfl; have HB := Aside0.mk hb; clear hb hp1)
    go_ret
    exact ⟨rfl, HB.out⟩
  | true =>
    rw [if_pos rfl] at h
    obtain ⟨b, hb, h⟩ := Option.bind_eq_some_iff.mp h
    have HW := Aside0.mk hb
    clear hb
    cases b with
    | false =>
      rw [if_neg (by decide)] at h
      obtain rfl := Option.some.inj h
      go_enter Try.func35, Try.ntmps35
      go_wp2_with (first | (go_at_call 92; refine (impl_treeOf.calls k _ _ l0 t1 true _ hr0 hc0 HT.out).mono ?_; rintro e w1 ⟨p, rfl, hp⟩; obtain ⟨hb, _, hp2⟩ := hp; obtain ⟨g, wz, rfl, hi, hbz, hz⟩ := hp2 rfl; have HB := Aside0.mk hb; have HI := Aside0.mk hi; have HZ := Aside0.mk hbz; have HS := Aside0.mk hz; clear hb hi hbz hz hp2) | (go_at_call 76; refine (impl_within.calls _ _ _ _ _ HW.out).mono ?_; rintro e w' ⟨rfl, ⟨nd, rfl⟩⟩))
      go_ret
      exact ⟨rfl, pw_below_drewN HB.out _⟩
    | true =>
      rw [if_pos rfl] at h
      by_cases c1 : 0 ≤ a1
      · rw [if_pos c1] at h
        by_cases c2 : a1 < (t1.length : Int)
        · rw [if_pos c2] at h
          obtain rfl := Option.some.inj h
          clear h
          have C1 := Aside0.mk c1
          have C2 := Aside0.mk c2
          clear c1 c2
          go_enter Try.func35, Try.ntmps35
          go_wp2_with (first | (go_at_call 92; refine (impl_treeOf.calls k _ _ l0 t1 true _ hr0 hc0 HT.out).mono ?_; rintro e w1 ⟨p, rfl, hp⟩; obtain ⟨hb, _, hp2⟩ := hp; obtain ⟨g, wz, rfl, hi, hbz, hz⟩ := hp2 rfl; have HB := Aside0.mk hb; have HI := Aside0.mk hi; have HZ := Aside0.mk hbz; have HS := Aside0.mk hz; clear hb hi hbz hz hp2) | (go_at_call 76; refine (impl_within.calls _ _ _ _ _ HW.out).mono ?_; rintro e w' ⟨rfl, ⟨nd, rfl⟩⟩; have HB2 := Aside0.mk (pw_below_drewN HB.out nd); have HZ2 := Aside0.mk (pw_below_drewN HZ.out nd); have HI2 := Aside0.mk (IsS134.drewN HI.out nd); obtain ⟨AS0, cS0, AS1, cS1, HG, hg, HS0, HS1⟩ := HI2.out; have hcz0 := cellS134_0 HG; have hcz1 := cellS134_1 HG; obtain ⟨ad, e1, hx⟩ := Kd.at_int HS1 a1 C1.out C2.out; cases e1; replace hx := pw_cell_below HZ2.out hx; have p1 := eq_true C1.out; have p2 := eq_true C2.out; clear HG hg HS0 HS1))
          go_ret
          exact ⟨rfl, HB2.out⟩
        · rw [if_neg c2] at h; cases h
      · rw [if_neg c1] at h; cases h

/-! ### spec_l1In: function 74 -/
def spec_l1In.f (a0 : Int) (a1 : Int) (a2 : Int) : Option (Bool) := if a0 ≥ a1 then (some (decide (a0 ≤ a2))) else (some false)
set_option maxHeartbeats 8000000 in
set_option maxRecDepth 100000 in
theorem spec_l1In.calls (a0 : Int) (a1 : Int) (a2 : Int) (r : Bool) (w : World) (h : spec_l1In.f a0 a1 a2 = some r) :
    Calls Try.prog 74 #[.int .i64 a0, .int .i64 a1, .int .i64 a2] w fun e w' => e = .returned (.bool r) ∧ Drawn0 w w' := by
  have H : (if a0 ≥ a1 then (some (decide (a0 ≤ a2))) else (some false)) = some r := h
  clear h
  by_cases c4 : a0 ≥ a1
  · rw [if_pos c4] at H
    have c4b0 : decide (a1 ≤ a0) = true := decide_eq_true c4
    clear c4
    obtain rfl := Option.some.inj H
    go_enter Try.func74, Try.ntmps74
    go_wp2
    go_ret
    exact ⟨by first | rfl | (simp; done) | (simp [*]; done), by repeat (first | exact Drawn0.refl _ | apply Drawn0.step)⟩
  · rw [if_neg c4] at H
    have c4b0 : decide (a1 ≤ a0) = false := decide_eq_false c4
    clear c4
    obtain rfl := Option.some.inj H
    go_enter Try.func74, Try.ntmps74
    go_wp2
    go_ret
    exact ⟨by first | rfl | (simp; done) | (simp [*]; done), by repeat (first | exact Drawn0.refl _ | apply Drawn0.step)⟩

/-! ### spec_l4Int: function 213 -/
def spec_l4Int.f (a0 : Int) : Option (Bool) := (spec_l1In.f a0 (-2147483648) 2147483647).bind fun t305 => (some t305)
set_option maxHeartbeats 8000000 in
set_option maxRecDepth 100000 in
theorem spec_l4Int.calls (a0 : Int) (r : Bool) (w : World) (h : spec_l4Int.f a0 = some r) :
    Calls Try.prog 213 #[.int .i64 a0] w fun e w' => e = .returned (.bool r) ∧ Drawn0 w w' := by
  have H : ((spec_l1In.f a0 (-2147483648) 2147483647).bind fun t305 => (some t305)) = some r := h
  clear h
  replace H := Option.bind_eq_some_iff.mp H
  obtain ⟨t305, A20, H⟩ := H
  replace H : (some t305) = some r := H
  have A2 := Aside0.mk A20
  clear A20
  obtain rfl := Option.some.inj H
  go_enter Try.func213, Try.ntmps213
  go_wp2_with (first | ((with_reducible refine gate_callee (f := 74) rfl ?_); refine goesL_ (some 4) rfl rfl Try.func74 (by kernel_rfl) rfl #[.int .i64 a0, .int .i64 (-2147483648), .int .i64 2147483647] rfl (by (try simp only [List.map_toArray, List.map_cons, List.map_nil]); first | done | rfl | (simp only [List.length_drop, List.length_take]; rfl)) ?_; (with_reducible refine (spec_l1In.calls a0 (-2147483648) 2147483647 t305 _ A2.out).mono ?_); rintro e w' ⟨rfl, ⟨nd, rfl⟩⟩; refine ⟨_, rfl, ?_⟩))
  go_ret
  exact ⟨by first | rfl | (simp; done) | (simp [*]; done), by repeat (first | exact Drawn0.refl _ | apply Drawn0.step)⟩

/-! ### spec_l4Kind: function 253 -/
def spec_l4Kind.f (a0 : Int) : Option (Bool) := if a0 = 1 then (some true) else (if a0 = 2 then (some true) else (if a0 = 5 then (some true) else (if a0 = 6 then (some true) else (if a0 = 8 then (some true) else (if a0 = 9 then (some true) else (if a0 = 12 then (some true) else (some false)))))))
set_option maxHeartbeats 8000000 in
set_option maxRecDepth 100000 in
theorem spec_l4Kind.calls (a0 : Int) (r : Bool) (w : World) (h : spec_l4Kind.f a0 = some r) :
    Calls Try.prog 253 #[.int .i64 a0] w fun e w' => e = .returned (.bool r) ∧ Drawn0 w w' := by
  have H : (if a0 = 1 then (some true) else (if a0 = 2 then (some true) else (if a0 = 5 then (some true) else (if a0 = 6 then (some true) else (if a0 = 8 then (some true) else (if a0 = 9 then (some true) else (if a0 = 12 then (some true) else (some false)))))))) = some r := h
  clear h
  by_cases c2 : a0 = 1
  · rw [if_pos c2] at H
    have c2b0 : (a0 == 1) = true := beq_iff_eq.mpr c2
    have c2b1 : (a0 != 1) = false := bne_eq_false_iff_eq.mpr c2
    clear c2
    obtain rfl := Option.some.inj H
    go_enter Try.func253, Try.ntmps253
    go_wp2
    go_ret
    exact ⟨by first | rfl | (simp; done) | (simp [*]; done), by repeat (first | exact Drawn0.refl _ | apply Drawn0.step)⟩
  · rw [if_neg c2] at H
    have c2b0 : (a0 == 1) = false := beq_eq_false_iff_ne.mpr c2
    have c2b1 : (a0 != 1) = true := bne_iff_ne.mpr c2
    by_cases c3 : a0 = 2
    · rw [if_pos c3] at H
      have c3b0 : (a0 == 2) = true := beq_iff_eq.mpr c3
      have c3b1 : (a0 != 2) = false := bne_eq_false_iff_eq.mpr c3
      clear c3
      obtain rfl := Option.some.inj H
      go_enter Try.func253, Try.ntmps253
      go_wp2
      go_ret
      exact ⟨by first | rfl | (simp; done) | (simp [*]; done), by repeat (first | exact Drawn0.refl _ | apply Drawn0.step)⟩
    · rw [if_neg c3] at H
      have c3b0 : (a0 == 2) = false := beq_eq_false_iff_ne.mpr c3
      have c3b1 : (a0 != 2) = true := bne_iff_ne.mpr c3
      by_cases c4 : a0 = 5
      · rw [if_pos c4] at H
        have c4b0 : (a0 == 5) = true := beq_iff_eq.mpr c4
        have c4b1 : (a0 != 5) = false := bne_eq_false_iff_eq.mpr c4
        clear c4
        obtain rfl := Option.some.inj H
        go_enter Try.func253, Try.ntmps253
        go_wp2
        go_ret
        exact ⟨by first | rfl | (simp; done) | (simp [*]; done), by repeat (first | exact Drawn0.refl _ | apply Drawn0.step)⟩
      · rw [if_neg c4] at H
        have c4b0 : (a0 == 5) = false := beq_eq_false_iff_ne.mpr c4
        have c4b1 : (a0 != 5) = true := bne_iff_ne.mpr c4
        by_cases c5 : a0 = 6
        · rw [if_pos c5] at H
          have c5b0 : (a0 == 6) = true := beq_iff_eq.mpr c5
          have c5b1 : (a0 != 6) = false := bne_eq_false_iff_eq.mpr c5
          clear c5
          obtain rfl := Option.some.inj H
          go_enter Try.func253, Try.ntmps253
          go_wp2
          go_ret
          exact ⟨by first | rfl | (simp; done) | (simp [*]; done), by repeat (first | exact Drawn0.refl _ | apply Drawn0.step)⟩
        · rw [if_neg c5] at H
          have c5b0 : (a0 == 6) = false := beq_eq_false_iff_ne.mpr c5
          have c5b1 : (a0 != 6) = true := bne_iff_ne.mpr c5
          by_cases c6 : a0 = 8
          · rw [if_pos c6] at H
            have c6b0 : (a0 == 8) = true := beq_iff_eq.mpr c6
            have c6b1 : (a0 != 8) = false := bne_eq_false_iff_eq.mpr c6
            clear c6
            obtain rfl := Option.some.inj H
            go_enter Try.func253, Try.ntmps253
            go_wp2
            go_ret
            exact ⟨by first | rfl | (simp; done) | (simp [*]; done), by repeat (first | exact Drawn0.refl _ | apply Drawn0.step)⟩
          · rw [if_neg c6] at H
            have c6b0 : (a0 == 8) = false := beq_eq_false_iff_ne.mpr c6
            have c6b1 : (a0 != 8) = true := bne_iff_ne.mpr c6
            by_cases c7 : a0 = 9
            · rw [if_pos c7] at H
              have c7b0 : (a0 == 9) = true := beq_iff_eq.mpr c7
              have c7b1 : (a0 != 9) = false := bne_eq_false_iff_eq.mpr c7
              clear c7
              obtain rfl := Option.some.inj H
              go_enter Try.func253, Try.ntmps253
              go_wp2
              go_ret
              exact ⟨by first | rfl | (simp; done) | (simp [*]; done), by repeat (first | exact Drawn0.refl _ | apply Drawn0.step)⟩
            · rw [if_neg c7] at H
              have c7b0 : (a0 == 9) = false := beq_eq_false_iff_ne.mpr c7
              have c7b1 : (a0 != 9) = true := bne_iff_ne.mpr c7
              by_cases c8 : a0 = 12
              · rw [if_pos c8] at H
                have c8b0 : (a0 == 12) = true := beq_iff_eq.mpr c8
                have c8b1 : (a0 != 12) = false := bne_eq_false_iff_eq.mpr c8
                clear c8
                obtain rfl := Option.some.inj H
                go_enter Try.func253, Try.ntmps253
                go_wp2
                go_ret
                exact ⟨by first | rfl | (simp; done) | (simp [*]; done), by repeat (first | exact Drawn0.refl _ | apply Drawn0.step)⟩
              · rw [if_neg c8] at H
                have c8b0 : (a0 == 12) = false := beq_eq_false_iff_ne.mpr c8
                have c8b1 : (a0 != 12) = true := bne_iff_ne.mpr c8
                obtain rfl := Option.some.inj H
                go_enter Try.func253, Try.ntmps253
                go_wp2
                go_ret
                exact ⟨by first | rfl | (simp; done) | (simp [*]; done), by repeat (first | exact Drawn0.refl _ | apply Drawn0.step)⟩

/-! ### spec_l4Item: function 237 -/
def spec_l4Item.f (a0 : Int) : Option (Bool) := (spec_l4Kind.f a0).bind fun t306 => (if t306 = true then (if a0 = 1 then (some false) else (some (a0 != 2))) else (some false))
set_option maxHeartbeats 8000000 in
set_option maxRecDepth 100000 in
theorem spec_l4Item.calls (a0 : Int) (r : Bool) (w : World) (h : spec_l4Item.f a0 = some r) :
    Calls Try.prog 237 #[.int .i64 a0] w fun e w' => e = .returned (.bool r) ∧ Drawn0 w w' := by
  have H : ((spec_l4Kind.f a0).bind fun t306 => (if t306 = true then (if a0 = 1 then (some false) else (some (a0 != 2))) else (some false))) = some r := h
  clear h
  replace H := Option.bind_eq_some_iff.mp H
  obtain ⟨t306, A20, H⟩ := H
  replace H : (if t306 = true then (if a0 = 1 then (some false) else (some (a0 != 2))) else (some false)) = some r := H
  have A2 := Aside0.mk A20
  clear A20
  by_cases c3 : t306 = true
  · subst c3
    have H1 : (if a0 = 1 then (some false) else (some (a0 != 2))) = some r := by rw [if_pos rfl] at H; exact H
    clear H
    have H := H1
    clear H1
    by_cases c4 : a0 = 1
    · rw [if_pos c4] at H
      have c4b0 : (a0 == 1) = true := beq_iff_eq.mpr c4
      have c4b1 : (a0 != 1) = false := bne_eq_false_iff_eq.mpr c4
      clear c4
      obtain rfl := Option.some.inj H
      go_enter Try.func237, Try.ntmps237
      go_wp2_with (first | ((with_reducible refine gate_callee (f := 253) rfl ?_); refine goesL_ (some 4) rfl rfl Try.func253 (by kernel_rfl) rfl #[.int .i64 a0] rfl (by (try simp only [List.map_toArray, List.map_cons, List.map_nil]); first | done | rfl | (simp only [List.length_drop, List.length_take]; rfl)) ?_; (with_reducible refine (spec_l4Kind.calls a0 true _ A2.out).mono ?_); rintro e w' ⟨rfl, ⟨nd, rfl⟩⟩; refine ⟨_, rfl, ?_⟩))
      go_ret
      exact ⟨by first | rfl | (simp; done) | (simp [*]; done), by repeat (first | exact Drawn0.refl _ | apply Drawn0.step)⟩
    · rw [if_neg c4] at H
      have c4b0 : (a0 == 1) = false := beq_eq_false_iff_ne.mpr c4
      have c4b1 : (a0 != 1) = true := bne_iff_ne.mpr c4
      obtain rfl := Option.some.inj H
      go_enter Try.func237, Try.ntmps237
      go_wp2_with (first | ((with_reducible refine gate_callee (f := 253) rfl ?_); refine goesL_ (some 4) rfl rfl Try.func253 (by kernel_rfl) rfl #[.int .i64 a0] rfl (by (try simp only [List.map_toArray, List.map_cons, List.map_nil]); first | done | rfl | (simp only [List.length_drop, List.length_take]; rfl)) ?_; (with_reducible refine (spec_l4Kind.calls a0 true _ A2.out).mono ?_); rintro e w' ⟨rfl, ⟨nd, rfl⟩⟩; refine ⟨_, rfl, ?_⟩))
      go_ret
      exact ⟨by first | rfl | (simp; done) | (simp [*]; done), by repeat (first | exact Drawn0.refl _ | apply Drawn0.step)⟩
  · replace c3 := Bool.eq_false_iff.mpr c3
    subst c3
    have H1 : (some false) = some r := by rw [if_neg (show ¬ (false = true) by decide)] at H; exact H
    clear H
    have H := H1
    clear H1
    obtain rfl := Option.some.inj H
    go_enter Try.func237, Try.ntmps237
    go_wp2_with (first | ((with_reducible refine gate_callee (f := 253) rfl ?_); refine goesL_ (some 4) rfl rfl Try.func253 (by kernel_rfl) rfl #[.int .i64 a0] rfl (by (try simp only [List.map_toArray, List.map_cons, List.map_nil]); first | done | rfl | (simp only [List.length_drop, List.length_take]; rfl)) ?_; (with_reducible refine (spec_l4Kind.calls a0 false _ A2.out).mono ?_); rintro e w' ⟨rfl, ⟨nd, rfl⟩⟩; refine ⟨_, rfl, ?_⟩))
    go_ret
    exact ⟨by first | rfl | (simp; done) | (simp [*]; done), by repeat (first | exact Drawn0.refl _ | apply Drawn0.step)⟩

/-! ### spec_l4Plain: function 212 -/
def spec_l4Plain.j0 : Nat → Int → Bool → Int → Int → Int → ByteArray → Int → Option (Bool)
  | 0, _, _, _, _, _, _, _ => none
  | k + 1, x4, x5, x308000, x308001, x308002, x308003, x308004 => if x5 = true then (if x308002 = 0 then (if x308003.toList = ([] : List UInt8) then (some (x308004 == 0)) else (some false)) else (some false)) else (if x4 = 5 then ((spec_l4Int.f x308002).bind fun t308 => (if t308 = true then (if x308003.toList = ([] : List UInt8) then (some (x308004 == 0)) else (some false)) else (some false))) else (if x4 = 6 then (if x308003.toList = ([] : List UInt8) then (some (x308004 == 0)) else (some false)) else (if x4 = 8 then (if x308002 = 0 then (if (x308003.size : Int) ≤ 300 then (some (x308004 == 0)) else (some false)) else (some false)) else (if x4 = 9 then (if x308003.toList = ([] : List UInt8) then (if x308004 ≥ 0 then (if x308004 = 0 then (if x308002 = 0 then (some true) else (if x308004 > 0 then ((spec_l4Item.f x308002).bind fun t309 => (some t309)) else (some false))) else (if x308004 > 0 then ((spec_l4Item.f x308002).bind fun t310 => (some t310)) else (some false))) else (some false)) else (some false)) else (if x4 = 12 then (if x308002 = 0 then (if x308003.toList = ([] : List UInt8) then (some (decide (x308004 ≥ 0))) else (some false)) else (some false)) else (some false))))))
def spec_l4Plain.f (k : Nat) (a0_0 : Int) (a0_1 : Int) (a0_2 : Int) (a0_3 : ByteArray) (a0_4 : Int) : Option (Bool) := if a0_0 = 1 then (spec_l4Plain.j0 k a0_0 (a0_0 == 1) a0_0 a0_1 a0_2 a0_3 a0_4) else (spec_l4Plain.j0 k a0_0 (a0_0 == 2) a0_0 a0_1 a0_2 a0_3 a0_4)
theorem spec_l4Plain.mono_l : ∀ k, (∀ y0 y1 y2 y3 y4 y5 y6, LeO (spec_l4Plain.j0 k y0 y1 y2 y3 y4 y5 y6) (spec_l4Plain.j0 (k + 1) y0 y1 y2 y3 y4 y5 y6))
  | 0 => fun _ _ _ _ _ _ _ r h => by simp [spec_l4Plain.j0] at h
  | k + 1 => by
    have ih0 := spec_l4Plain.mono_l k
    · intro y0 y1 y2 y3 y4 y5 y6
      unfold spec_l4Plain.j0
      repeat' first
      | (with_reducible exact ih0 _ _ _ _ _ _ _)
      | (with_reducible exact LeO.refl _)
      | (with_reducible exact LeO.none _)
      | (with_reducible refine LeO.ite ?_ ?_)
      | (with_reducible refine LeO.bind ?_ (fun _ => ?_))
      | exact ih0 _ _ _ _ _ _ _
      | exact LeO.none _
      | refine LeO.ite ?_ ?_
      | refine LeO.bind ?_ (fun _ => ?_)
theorem spec_l4Plain.mono : ∀ a0 a1 a2 a3 a4 k, LeO (spec_l4Plain.f k a0 a1 a2 a3 a4) (spec_l4Plain.f (k + 1) a0 a1 a2 a3 a4) := by
  intro a0 a1 a2 a3 a4 k
  have ih0 := spec_l4Plain.mono_l k
  unfold spec_l4Plain.f
  repeat' first
      | (with_reducible exact ih0 _ _ _ _ _ _ _)
      | (with_reducible exact LeO.refl _)
      | (with_reducible exact LeO.none _)
      | (with_reducible refine LeO.ite ?_ ?_)
      | (with_reducible refine LeO.bind ?_ (fun _ => ?_))
      | exact ih0 _ _ _ _ _ _ _
      | exact LeO.none _
      | refine LeO.ite ?_ ?_
      | refine LeO.bind ?_ (fun _ => ?_)
set_option maxHeartbeats 8000000 in
set_option maxRecDepth 100000 in
theorem spec_l4Plain.calls (k : Nat) (a0_0 : Int) (a0_1 : Int) (a0_2 : Int) (a0_3 : ByteArray) (a0_4 : Int) (r : Bool) (w : World) (h : spec_l4Plain.f k a0_0 a0_1 a0_2 a0_3 a0_4 = some r) :
    Calls Try.prog 212 #[.agg #[.int .i64 a0_0, .int .i64 a0_1, .int .i64 a0_2, .string a0_3, .int .i64 a0_4]] w fun e w' => e = .returned (.bool r) ∧ Below w.heap.size w w' := by
  have hu53 := Try.underlying53
  have HB := Aside0.mk (Below.refl w.heap.size w)
  have H : (if a0_0 = 1 then (spec_l4Plain.j0 k a0_0 (a0_0 == 1) a0_0 a0_1 a0_2 a0_3 a0_4) else (spec_l4Plain.j0 k a0_0 (a0_0 == 2) a0_0 a0_1 a0_2 a0_3 a0_4)) = some r := h
  clear h
  have HC2 := Aside0.mk H
  clear H
  go_enter Try.func212, Try.ntmps212
  go_upto_if 5 with (first | ((with_reducible refine gate_dst (N := 1) rfl ?_); (try (refine gate_guard (by rfl) ?_; dsimp only)); refine box_event ?hg (N := 1) ?hd (cs := #[.int .i64 a0_0, .int .i64 a0_1, .int .i64 a0_2, .string a0_3, .int .i64 a0_4]) (t := 53) ?hr ?_; (case hd => rfl); (case hg => rfl); (case hr => first | (go_simp; done) | (go_simp; rfl)); intro gb307 hg w3 hbox hb; have n0_ := Aside0.mk (below_step (by repeat (first | (with_reducible first | exact HB.out | apply below_alloc | apply pw_below_drewN | apply below_drew1) | exact HB.out)) hb); have n1_ := Aside0.mk (hbox); have n2_ := Aside0.mk ((by rw [hg]; exact (below_size (by repeat (first | (with_reducible first | exact HB.out | apply below_alloc | apply pw_below_drewN | apply below_drew1) | exact HB.out))) : w.heap.size ≤ gb307)); have n3_ := Aside0.mk ((by rw [hg]; exact (below_size (by repeat (first | (with_reducible first | exact HB.out | apply below_alloc | apply pw_below_drewN | apply below_drew1) | exact HB.out))) : w.heap.size ≤ gb307)); clear HB; have HB := n0_; have BK307 := n1_; have GW307 := n2_; have GE307 := n3_; clear n0_ n1_ n2_ n3_; clear hb hbox hg; have hcz4_0 : w3.cell? ⟨gb307, 0, none⟩ = some (.int .i64 a0_0) := (blk_cell BK307.out 0).trans rfl; have hcz4_1 : w3.cell? ⟨gb307, 1, none⟩ = some (.int .i64 a0_1) := (blk_cell BK307.out 1).trans rfl; have hcz4_2 : w3.cell? ⟨gb307, 2, none⟩ = some (.int .i64 a0_2) := (blk_cell BK307.out 2).trans rfl; have hcz4_3 : w3.cell? ⟨gb307, 3, none⟩ = some (.string a0_3) := (blk_cell BK307.out 3).trans rfl; have hcz4_4 : w3.cell? ⟨gb307, 4, none⟩ = some (.int .i64 a0_4) := (blk_cell BK307.out 4).trans rfl; have hfz4_0 := blk_frozen BK307.out 0; have hfz4_1 := blk_frozen BK307.out 1; have hfz4_2 := blk_frozen BK307.out 2; have hfz4_3 := blk_frozen BK307.out 3; have hfz4_4 := blk_frozen BK307.out 4))
  (try simp only [Act.put, List.setIfInBounds_toArray, List.set_cons_zero, List.set_cons_succ])
  go_cut [5] (fun v5 wc => ∃ (kq : Nat) (x5_1 : Bool), v5 = .bool x5_1 ∧ Aside0 (spec_l4Plain.j0 kq a0_0 x5_1 a0_0 a0_1 a0_2 a0_3 a0_4 = some r) ∧ Aside0 (kq ≤ k) ∧ Aside0 (wc.heap[gb307]? = some (.cells #[.int .i64 a0_0, .int .i64 a0_1, .int .i64 a0_2, .string a0_3, .int .i64 a0_4] 53 (0, 0))) ∧ Aside0 (Below w.heap.size w wc))
  case first =>
    have H := HC2.out
    clear HC2
    by_cases c5 : a0_0 = 1
    · rw [if_pos c5] at H
      have c5b0 : (a0_0 == 1) = true := beq_iff_eq.mpr c5
      have c5b1 : (a0_0 != 1) = false := bne_eq_false_iff_eq.mpr c5
      clear c5
      (first | rw [c5b0] | rw [c5b1] | (simp only [i64_w, i32_w]; rw [c5b0]) | skip)
      have H' := Aside0.mk H
      clear H
      go_wp2
      go_meet
      case rel => exact ⟨_, ((a0_0 == 1)), (by first | rfl | (simp; done) | (simp [*]; done)), H', ⟨by first | omega | exact Nat.le_refl _⟩, ⟨by (with_reducible repeat (first | refine blk_drewN ?_ _ | refine blk_drew ?_ | refine blk_alloc ?_ _)); exact BK307.out⟩, ⟨by repeat (first | (with_reducible first | exact HB.out | apply below_alloc | apply pw_below_drewN | apply below_drew1 | refine below_set ?_ GE307.out) | exact HB.out)⟩⟩
    · rw [if_neg c5] at H
      have c5b0 : (a0_0 == 1) = false := beq_eq_false_iff_ne.mpr c5
      have c5b1 : (a0_0 != 1) = true := bne_iff_ne.mpr c5
      (first | rw [c5b0] | rw [c5b1] | (simp only [i64_w, i32_w]; rw [c5b0]) | skip)
      have H' := Aside0.mk H
      clear H
      go_wp2
      go_meet
      case rel => exact ⟨_, ((a0_0 == 2)), (by first | rfl | (simp; done) | (simp [*]; done)), H', ⟨by first | omega | exact Nat.le_refl _⟩, ⟨by (with_reducible repeat (first | refine blk_drewN ?_ _ | refine blk_drew ?_ | refine blk_alloc ?_ _)); exact BK307.out⟩, ⟨by repeat (first | (with_reducible first | exact HB.out | apply below_alloc | apply pw_below_drewN | apply below_drew1 | refine below_set ?_ GE307.out) | exact HB.out)⟩⟩
  case rest =>
    clear HC2
    try clear c2
    try clear p2
    try clear c5
    try clear c5b0
    try clear c5b1
    try clear hcz4_0
    try clear hcz4_1
    try clear hcz4_2
    try clear hcz4_3
    try clear hcz4_4
    try clear hfz4_0
    try clear hfz4_1
    try clear hfz4_2
    try clear hfz4_3
    try clear hfz4_4
    obtain ⟨kq, x5_1, rfl, HA, HJ1, BK307, HB⟩ := hcut
    cases kq with
    | zero => exact absurd HA.out (by simp [spec_l4Plain.j0])
    | succ kj1 =>
      have H := HA.out
      clear HA
      simp only [spec_l4Plain.j0] at H
      by_cases c6 : x5_1 = true
      · subst c6
        have H1 : (if a0_2 = 0 then (if a0_3.toList = ([] : List UInt8) then (some (a0_4 == 0)) else (some false)) else (some false)) = some r := by rw [if_pos rfl] at H; exact H
        clear H
        have H := H1
        clear H1
        by_cases c7 : a0_2 = 0
        · rw [if_pos c7] at H
          have c7b0 : (a0_2 == 0) = true := beq_iff_eq.mpr c7
          have c7b1 : (a0_2 != 0) = false := bne_eq_false_iff_eq.mpr c7
          clear c7
          by_cases c8 : a0_3.toList = ([] : List UInt8)
          · rw [if_pos c8] at H
            have c8b0 : (a0_3.toList == ([] : List UInt8)) = true := beq_iff_eq.mpr c8
            have c8b1 : (a0_3.toList != ([] : List UInt8)) = false := bne_eq_false_iff_eq.mpr c8
            clear c8
            obtain rfl := Option.some.inj H
            have hcz9_0 : wc.cell? ⟨gb307, 0, none⟩ = some (.int .i64 a0_0) := (blk_cell BK307.out 0).trans rfl
            have hcz9_1 : wc.cell? ⟨gb307, 1, none⟩ = some (.int .i64 a0_1) := (blk_cell BK307.out 1).trans rfl
            have hcz9_2 : wc.cell? ⟨gb307, 2, none⟩ = some (.int .i64 a0_2) := (blk_cell BK307.out 2).trans rfl
            have hcz9_3 : wc.cell? ⟨gb307, 3, none⟩ = some (.string a0_3) := (blk_cell BK307.out 3).trans rfl
            have hcz9_4 : wc.cell? ⟨gb307, 4, none⟩ = some (.int .i64 a0_4) := (blk_cell BK307.out 4).trans rfl
            have hfz9_0 := blk_frozen BK307.out 0
            have hfz9_1 := blk_frozen BK307.out 1
            have hfz9_2 := blk_frozen BK307.out 2
            have hfz9_3 := blk_frozen BK307.out 3
            have hfz9_4 := blk_frozen BK307.out 4
            go_wp2
            go_ret
            exact ⟨by first | rfl | (simp [errW_none, errW_some] <;> rfl) | (simp [*, errW_none, errW_some] <;> rfl), by repeat (first | (with_reducible first | exact HB.out | apply below_alloc | apply pw_below_drewN | apply below_drew1 | refine below_set ?_ GE307.out) | exact HB.out)⟩
          · rw [if_neg c8] at H
            have c8b0 : (a0_3.toList == ([] : List UInt8)) = false := beq_eq_false_iff_ne.mpr c8
            have c8b1 : (a0_3.toList != ([] : List UInt8)) = true := bne_iff_ne.mpr c8
            obtain rfl := Option.some.inj H
            have hcz10_0 : wc.cell? ⟨gb307, 0, none⟩ = some (.int .i64 a0_0) := (blk_cell BK307.out 0).trans rfl
            have hcz10_1 : wc.cell? ⟨gb307, 1, none⟩ = some (.int .i64 a0_1) := (blk_cell BK307.out 1).trans rfl
            have hcz10_2 : wc.cell? ⟨gb307, 2, none⟩ = some (.int .i64 a0_2) := (blk_cell BK307.out 2).trans rfl
            have hcz10_3 : wc.cell? ⟨gb307, 3, none⟩ = some (.string a0_3) := (blk_cell BK307.out 3).trans rfl
            have hcz10_4 : wc.cell? ⟨gb307, 4, none⟩ = some (.int .i64 a0_4) := (blk_cell BK307.out 4).trans rfl
            have hfz10_0 := blk_frozen BK307.out 0
            have hfz10_1 := blk_frozen BK307.out 1
            have hfz10_2 := blk_frozen BK307.out 2
            have hfz10_3 := blk_frozen BK307.out 3
            have hfz10_4 := blk_frozen BK307.out 4
            go_wp2
            go_ret
            exact ⟨by first | rfl | (simp [errW_none, errW_some] <;> rfl) | (simp [*, errW_none, errW_some] <;> rfl), by repeat (first | (with_reducible first | exact HB.out | apply below_alloc | apply pw_below_drewN | apply below_drew1 | refine below_set ?_ GE307.out) | exact HB.out)⟩
        · rw [if_neg c7] at H
          have c7b0 : (a0_2 == 0) = false := beq_eq_false_iff_ne.mpr c7
          have c7b1 : (a0_2 != 0) = true := bne_iff_ne.mpr c7
          obtain rfl := Option.some.inj H
          have hcz11_0 : wc.cell? ⟨gb307, 0, none⟩ = some (.int .i64 a0_0) := (blk_cell BK307.out 0).trans rfl
          have hcz11_1 : wc.cell? ⟨gb307, 1, none⟩ = some (.int .i64 a0_1) := (blk_cell BK307.out 1).trans rfl
          have hcz11_2 : wc.cell? ⟨gb307, 2, none⟩ = some (.int .i64 a0_2) := (blk_cell BK307.out 2).trans rfl
          have hcz11_3 : wc.cell? ⟨gb307, 3, none⟩ = some (.string a0_3) := (blk_cell BK307.out 3).trans rfl
          have hcz11_4 : wc.cell? ⟨gb307, 4, none⟩ = some (.int .i64 a0_4) := (blk_cell BK307.out 4).trans rfl
          have hfz11_0 := blk_frozen BK307.out 0
          have hfz11_1 := blk_frozen BK307.out 1
          have hfz11_2 := blk_frozen BK307.out 2
          have hfz11_3 := blk_frozen BK307.out 3
          have hfz11_4 := blk_frozen BK307.out 4
          go_wp2
          go_ret
          exact ⟨by first | rfl | (simp [errW_none, errW_some] <;> rfl) | (simp [*, errW_none, errW_some] <;> rfl), by repeat (first | (with_reducible first | exact HB.out | apply below_alloc | apply pw_below_drewN | apply below_drew1 | refine below_set ?_ GE307.out) | exact HB.out)⟩
      · replace c6 := Bool.eq_false_iff.mpr c6
        subst c6
        have H1 : (if a0_0 = 5 then ((spec_l4Int.f a0_2).bind fun t308 => (if t308 = true then (if a0_3.toList = ([] : List UInt8) then (some (a0_4 == 0)) else (some false)) else (some false))) else (if a0_0 = 6 then (if a0_3.toList = ([] : List UInt8) then (some (a0_4 == 0)) else (some false)) else (if a0_0 = 8 then (if a0_2 = 0 then (if (a0_3.size : Int) ≤ 300 then (some (a0_4 == 0)) else (some false)) else (some false)) else (if a0_0 = 9 then (if a0_3.toList = ([] : List UInt8) then (if a0_4 ≥ 0 then (if a0_4 = 0 then (if a0_2 = 0 then (some true) else (if a0_4 > 0 then ((spec_l4Item.f a0_2).bind fun t309 => (some t309)) else (some false))) else (if a0_4 > 0 then ((spec_l4Item.f a0_2).bind fun t310 => (some t310)) else (some false))) else (some false)) else (some false)) else (if a0_0 = 12 then (if a0_2 = 0 then (if a0_3.toList = ([] : List UInt8) then (some (decide (a0_4 ≥ 0))) else (some false)) else (some false)) else (some false)))))) = some r := by rw [if_neg (show ¬ (false = true) by decide)] at H; exact H
        clear H
        have H := H1
        clear H1
        by_cases c12 : a0_0 = 5
        · rw [if_pos c12] at H
          have c12b0 : (a0_0 == 5) = true := beq_iff_eq.mpr c12
          have c12b1 : (a0_0 != 5) = false := bne_eq_false_iff_eq.mpr c12
          clear c12
          replace H := Option.bind_eq_some_iff.mp H
          obtain ⟨t308, A130, H⟩ := H
          replace H : (if t308 = true then (if a0_3.toList = ([] : List UInt8) then (some (a0_4 == 0)) else (some false)) else (some false)) = some r := H
          have A13 := Aside0.mk A130
          clear A130
          by_cases c14 : t308 = true
          · subst c14
            have H1 : (if a0_3.toList = ([] : List UInt8) then (some (a0_4 == 0)) else (some false)) = some r := by rw [if_pos rfl] at H; exact H
            clear H
            have H := H1
            clear H1
            by_cases c15 : a0_3.toList = ([] : List UInt8)
            · rw [if_pos c15] at H
              have c15b0 : (a0_3.toList == ([] : List UInt8)) = true := beq_iff_eq.mpr c15
              have c15b1 : (a0_3.toList != ([] : List UInt8)) = false := bne_eq_false_iff_eq.mpr c15
              clear c15
              obtain rfl := Option.some.inj H
              have hcz16_0 : wc.cell? ⟨gb307, 0, none⟩ = some (.int .i64 a0_0) := (blk_cell BK307.out 0).trans rfl
              have hcz16_1 : wc.cell? ⟨gb307, 1, none⟩ = some (.int .i64 a0_1) := (blk_cell BK307.out 1).trans rfl
              have hcz16_2 : wc.cell? ⟨gb307, 2, none⟩ = some (.int .i64 a0_2) := (blk_cell BK307.out 2).trans rfl
              have hcz16_3 : wc.cell? ⟨gb307, 3, none⟩ = some (.string a0_3) := (blk_cell BK307.out 3).trans rfl
              have hcz16_4 : wc.cell? ⟨gb307, 4, none⟩ = some (.int .i64 a0_4) := (blk_cell BK307.out 4).trans rfl
              have hfz16_0 := blk_frozen BK307.out 0
              have hfz16_1 := blk_frozen BK307.out 1
              have hfz16_2 := blk_frozen BK307.out 2
              have hfz16_3 := blk_frozen BK307.out 3
              have hfz16_4 := blk_frozen BK307.out 4
              go_wp2_with (first | ((with_reducible refine gate_callee (f := 213) rfl ?_); refine goesL_ (some 25) rfl rfl Try.func213 (by kernel_rfl) rfl #[.int .i64 a0_2] rfl (by (try simp only [List.map_toArray, List.map_cons, List.map_nil]); first | done | rfl | (simp only [List.length_drop, List.length_take]; rfl)) ?_; (with_reducible refine (spec_l4Int.calls a0_2 true _ A13.out).mono ?_); rintro e w' ⟨rfl, ⟨nd, rfl⟩⟩; refine ⟨_, rfl, ?_⟩))
              go_ret
              exact ⟨by first | rfl | (simp [errW_none, errW_some] <;> rfl) | (simp [*, errW_none, errW_some] <;> rfl), by repeat (first | (with_reducible first | exact HB.out | apply below_alloc | apply pw_below_drewN | apply below_drew1 | refine below_set ?_ GE307.out) | exact HB.out)⟩
            · rw [if_neg c15] at H
              have c15b0 : (a0_3.toList == ([] : List UInt8)) = false := beq_eq_false_iff_ne.mpr c15
              have c15b1 : (a0_3.toList != ([] : List UInt8)) = true := bne_iff_ne.mpr c15
              obtain rfl := Option.some.inj H
              have hcz17_0 : wc.cell? ⟨gb307, 0, none⟩ = some (.int .i64 a0_0) := (blk_cell BK307.out 0).trans rfl
              have hcz17_1 : wc.cell? ⟨gb307, 1, none⟩ = some (.int .i64 a0_1) := (blk_cell BK307.out 1).trans rfl
              have hcz17_2 : wc.cell? ⟨gb307, 2, none⟩ = some (.int .i64 a0_2) := (blk_cell BK307.out 2).trans rfl
              have hcz17_3 : wc.cell? ⟨gb307, 3, none⟩ = some (.string a0_3) := (blk_cell BK307.out 3).trans rfl
              have hcz17_4 : wc.cell? ⟨gb307, 4, none⟩ = some (.int .i64 a0_4) := (blk_cell BK307.out 4).trans rfl
              have hfz17_0 := blk_frozen BK307.out 0
              have hfz17_1 := blk_frozen BK307.out 1
              have hfz17_2 := blk_frozen BK307.out 2
              have hfz17_3 := blk_frozen BK307.out 3
              have hfz17_4 := blk_frozen BK307.out 4
              go_wp2_with (first | ((with_reducible refine gate_callee (f := 213) rfl ?_); refine goesL_ (some 25) rfl rfl Try.func213 (by kernel_rfl) rfl #[.int .i64 a0_2] rfl (by (try simp only [List.map_toArray, List.map_cons, List.map_nil]); first | done | rfl | (simp only [List.length_drop, List.length_take]; rfl)) ?_; (with_reducible refine (spec_l4Int.calls a0_2 true _ A13.out).mono ?_); rintro e w' ⟨rfl, ⟨nd, rfl⟩⟩; refine ⟨_, rfl, ?_⟩))
              go_ret
              exact ⟨by first | rfl | (simp [errW_none, errW_some] <;> rfl) | (simp [*, errW_none, errW_some] <;> rfl), by repeat (first | (with_reducible first | exact HB.out | apply below_alloc | apply pw_below_drewN | apply below_drew1 | refine below_set ?_ GE307.out) | exact HB.out)⟩
          · replace c14 := Bool.eq_false_iff.mpr c14
            subst c14
            have H1 : (some false) = some r := by rw [if_neg (show ¬ (false = true) by decide)] at H; exact H
            clear H
            have H := H1
            clear H1
            obtain rfl := Option.some.inj H
            have hcz18_0 : wc.cell? ⟨gb307, 0, none⟩ = some (.int .i64 a0_0) := (blk_cell BK307.out 0).trans rfl
            have hcz18_1 : wc.cell? ⟨gb307, 1, none⟩ = some (.int .i64 a0_1) := (blk_cell BK307.out 1).trans rfl
            have hcz18_2 : wc.cell? ⟨gb307, 2, none⟩ = some (.int .i64 a0_2) := (blk_cell BK307.out 2).trans rfl
            have hcz18_3 : wc.cell? ⟨gb307, 3, none⟩ = some (.string a0_3) := (blk_cell BK307.out 3).trans rfl
            have hcz18_4 : wc.cell? ⟨gb307, 4, none⟩ = some (.int .i64 a0_4) := (blk_cell BK307.out 4).trans rfl
            have hfz18_0 := blk_frozen BK307.out 0
            have hfz18_1 := blk_frozen BK307.out 1
            have hfz18_2 := blk_frozen BK307.out 2
            have hfz18_3 := blk_frozen BK307.out 3
            have hfz18_4 := blk_frozen BK307.out 4
            go_wp2_with (first | ((with_reducible refine gate_callee (f := 213) rfl ?_); refine goesL_ (some 25) rfl rfl Try.func213 (by kernel_rfl) rfl #[.int .i64 a0_2] rfl (by (try simp only [List.map_toArray, List.map_cons, List.map_nil]); first | done | rfl | (simp only [List.length_drop, List.length_take]; rfl)) ?_; (with_reducible refine (spec_l4Int.calls a0_2 false _ A13.out).mono ?_); rintro e w' ⟨rfl, ⟨nd, rfl⟩⟩; refine ⟨_, rfl, ?_⟩))
            go_ret
            exact ⟨by first | rfl | (simp [errW_none, errW_some] <;> rfl) | (simp [*, errW_none, errW_some] <;> rfl), by repeat (first | (with_reducible first | exact HB.out | apply below_alloc | apply pw_below_drewN | apply below_drew1 | refine below_set ?_ GE307.out) | exact HB.out)⟩
        · rw [if_neg c12] at H
          have c12b0 : (a0_0 == 5) = false := beq_eq_false_iff_ne.mpr c12
          have c12b1 : (a0_0 != 5) = true := bne_iff_ne.mpr c12
          by_cases c19 : a0_0 = 6
          · rw [if_pos c19] at H
            have c19b0 : (a0_0 == 6) = true := beq_iff_eq.mpr c19
            have c19b1 : (a0_0 != 6) = false := bne_eq_false_iff_eq.mpr c19
            clear c19
            by_cases c20 : a0_3.toList = ([] : List UInt8)
            · rw [if_pos c20] at H
              have c20b0 : (a0_3.toList == ([] : List UInt8)) = true := beq_iff_eq.mpr c20
              have c20b1 : (a0_3.toList != ([] : List UInt8)) = false := bne_eq_false_iff_eq.mpr c20
              clear c20
              obtain rfl := Option.some.inj H
              have hcz21_0 : wc.cell? ⟨gb307, 0, none⟩ = some (.int .i64 a0_0) := (blk_cell BK307.out 0).trans rfl
              have hcz21_1 : wc.cell? ⟨gb307, 1, none⟩ = some (.int .i64 a0_1) := (blk_cell BK307.out 1).trans rfl
              have hcz21_2 : wc.cell? ⟨gb307, 2, none⟩ = some (.int .i64 a0_2) := (blk_cell BK307.out 2).trans rfl
              have hcz21_3 : wc.cell? ⟨gb307, 3, none⟩ = some (.string a0_3) := (blk_cell BK307.out 3).trans rfl
              have hcz21_4 : wc.cell? ⟨gb307, 4, none⟩ = some (.int .i64 a0_4) := (blk_cell BK307.out 4).trans rfl
              have hfz21_0 := blk_frozen BK307.out 0
              have hfz21_1 := blk_frozen BK307.out 1
              have hfz21_2 := blk_frozen BK307.out 2
              have hfz21_3 := blk_frozen BK307.out 3
              have hfz21_4 := blk_frozen BK307.out 4
              go_wp2
              go_ret
              exact ⟨by first | rfl | (simp [errW_none, errW_some] <;> rfl) | (simp [*, errW_none, errW_some] <;> rfl), by repeat (first | (with_reducible first | exact HB.out | apply below_alloc | apply pw_below_drewN | apply below_drew1 | refine below_set ?_ GE307.out) | exact HB.out)⟩
            · rw [if_neg c20] at H
              have c20b0 : (a0_3.toList == ([] : List UInt8)) = false := beq_eq_false_iff_ne.mpr c20
              have c20b1 : (a0_3.toList != ([] : List UInt8)) = true := bne_iff_ne.mpr c20
              obtain rfl := Option.some.inj H
              have hcz22_0 : wc.cell? ⟨gb307, 0, none⟩ = some (.int .i64 a0_0) := (blk_cell BK307.out 0).trans rfl
              have hcz22_1 : wc.cell? ⟨gb307, 1, none⟩ = some (.int .i64 a0_1) := (blk_cell BK307.out 1).trans rfl
              have hcz22_2 : wc.cell? ⟨gb307, 2, none⟩ = some (.int .i64 a0_2) := (blk_cell BK307.out 2).trans rfl
              have hcz22_3 : wc.cell? ⟨gb307, 3, none⟩ = some (.string a0_3) := (blk_cell BK307.out 3).trans rfl
              have hcz22_4 : wc.cell? ⟨gb307, 4, none⟩ = some (.int .i64 a0_4) := (blk_cell BK307.out 4).trans rfl
              have hfz22_0 := blk_frozen BK307.out 0
              have hfz22_1 := blk_frozen BK307.out 1
              have hfz22_2 := blk_frozen BK307.out 2
              have hfz22_3 := blk_frozen BK307.out 3
              have hfz22_4 := blk_frozen BK307.out 4
              go_wp2
              go_ret
              exact ⟨by first | rfl | (simp [errW_none, errW_some] <;> rfl) | (simp [*, errW_none, errW_some] <;> rfl), by repeat (first | (with_reducible first | exact HB.out | apply below_alloc | apply pw_below_drewN | apply below_drew1 | refine below_set ?_ GE307.out) | exact HB.out)⟩
          · rw [if_neg c19] at H
            have c19b0 : (a0_0 == 6) = false := beq_eq_false_iff_ne.mpr c19
            have c19b1 : (a0_0 != 6) = true := bne_iff_ne.mpr c19
            by_cases c23 : a0_0 = 8
            · rw [if_pos c23] at H
              have c23b0 : (a0_0 == 8) = true := beq_iff_eq.mpr c23
              have c23b1 : (a0_0 != 8) = false := bne_eq_false_iff_eq.mpr c23
              clear c23
              by_cases c24 : a0_2 = 0
              · rw [if_pos c24] at H
                have c24b0 : (a0_2 == 0) = true := beq_iff_eq.mpr c24
                have c24b1 : (a0_2 != 0) = false := bne_eq_false_iff_eq.mpr c24
                clear c24
                by_cases c25 : (a0_3.size : Int) ≤ 300
                · rw [if_pos c25] at H
                  have c25b0 : decide ((a0_3.size : Int) ≤ 300) = true := decide_eq_true c25
                  have c25b1 : decide (a0_3.size ≤ 300) = true := decide_eq_true (by omega)
                  clear c25
                  obtain rfl := Option.some.inj H
                  have hcz26_0 : wc.cell? ⟨gb307, 0, none⟩ = some (.int .i64 a0_0) := (blk_cell BK307.out 0).trans rfl
                  have hcz26_1 : wc.cell? ⟨gb307, 1, none⟩ = some (.int .i64 a0_1) := (blk_cell BK307.out 1).trans rfl
                  have hcz26_2 : wc.cell? ⟨gb307, 2, none⟩ = some (.int .i64 a0_2) := (blk_cell BK307.out 2).trans rfl
                  have hcz26_3 : wc.cell? ⟨gb307, 3, none⟩ = some (.string a0_3) := (blk_cell BK307.out 3).trans rfl
                  have hcz26_4 : wc.cell? ⟨gb307, 4, none⟩ = some (.int .i64 a0_4) := (blk_cell BK307.out 4).trans rfl
                  have hfz26_0 := blk_frozen BK307.out 0
                  have hfz26_1 := blk_frozen BK307.out 1
                  have hfz26_2 := blk_frozen BK307.out 2
                  have hfz26_3 := blk_frozen BK307.out 3
                  have hfz26_4 := blk_frozen BK307.out 4
                  go_wp2
                  go_ret
                  exact ⟨by first | rfl | (simp [errW_none, errW_some] <;> rfl) | (simp [*, errW_none, errW_some] <;> rfl), by repeat (first | (with_reducible first | exact HB.out | apply below_alloc | apply pw_below_drewN | apply below_drew1 | refine below_set ?_ GE307.out) | exact HB.out)⟩
                · rw [if_neg c25] at H
                  have c25b0 : decide ((a0_3.size : Int) ≤ 300) = false := decide_eq_false c25
                  have c25b1 : decide (a0_3.size ≤ 300) = false := decide_eq_false (by omega)
                  clear c25
                  obtain rfl := Option.some.inj H
                  have hcz27_0 : wc.cell? ⟨gb307, 0, none⟩ = some (.int .i64 a0_0) := (blk_cell BK307.out 0).trans rfl
                  have hcz27_1 : wc.cell? ⟨gb307, 1, none⟩ = some (.int .i64 a0_1) := (blk_cell BK307.out 1).trans rfl
                  have hcz27_2 : wc.cell? ⟨gb307, 2, none⟩ = some (.int .i64 a0_2) := (blk_cell BK307.out 2).trans rfl
                  have hcz27_3 : wc.cell? ⟨gb307, 3, none⟩ = some (.string a0_3) := (blk_cell BK307.out 3).trans rfl
                  have hcz27_4 : wc.cell? ⟨gb307, 4, none⟩ = some (.int .i64 a0_4) := (blk_cell BK307.out 4).trans rfl
                  have hfz27_0 := blk_frozen BK307.out 0
                  have hfz27_1 := blk_frozen BK307.out 1
                  have hfz27_2 := blk_frozen BK307.out 2
                  have hfz27_3 := blk_frozen BK307.out 3
                  have hfz27_4 := blk_frozen BK307.out 4
                  go_wp2
                  go_ret
                  exact ⟨by first | rfl | (simp [errW_none, errW_some] <;> rfl) | (simp [*, errW_none, errW_some] <;> rfl), by repeat (first | (with_reducible first | exact HB.out | apply below_alloc | apply pw_below_drewN | apply below_drew1 | refine below_set ?_ GE307.out) | exact HB.out)⟩
              · rw [if_neg c24] at H
                have c24b0 : (a0_2 == 0) = false := beq_eq_false_iff_ne.mpr c24
                have c24b1 : (a0_2 != 0) = true := bne_iff_ne.mpr c24
                obtain rfl := Option.some.inj H
                have hcz28_0 : wc.cell? ⟨gb307, 0, none⟩ = some (.int .i64 a0_0) := (blk_cell BK307.out 0).trans rfl
                have hcz28_1 : wc.cell? ⟨gb307, 1, none⟩ = some (.int .i64 a0_1) := (blk_cell BK307.out 1).trans rfl
                have hcz28_2 : wc.cell? ⟨gb307, 2, none⟩ = some (.int .i64 a0_2) := (blk_cell BK307.out 2).trans rfl
                have hcz28_3 : wc.cell? ⟨gb307, 3, none⟩ = some (.string a0_3) := (blk_cell BK307.out 3).trans rfl
                have hcz28_4 : wc.cell? ⟨gb307, 4, none⟩ = some (.int .i64 a0_4) := (blk_cell BK307.out 4).trans rfl
                have hfz28_0 := blk_frozen BK307.out 0
                have hfz28_1 := blk_frozen BK307.out 1
                have hfz28_2 := blk_frozen BK307.out 2
                have hfz28_3 := blk_frozen BK307.out 3
                have hfz28_4 := blk_frozen BK307.out 4
                go_wp2
                go_ret
                exact ⟨by first | rfl | (simp [errW_none, errW_some] <;> rfl) | (simp [*, errW_none, errW_some] <;> rfl), by repeat (first | (with_reducible first | exact HB.out | apply below_alloc | apply pw_below_drewN | apply below_drew1 | refine below_set ?_ GE307.out) | exact HB.out)⟩
            · rw [if_neg c23] at H
              have c23b0 : (a0_0 == 8) = false := beq_eq_false_iff_ne.mpr c23
              have c23b1 : (a0_0 != 8) = true := bne_iff_ne.mpr c23
              by_cases c29 : a0_0 = 9
              · rw [if_pos c29] at H
                have c29b0 : (a0_0 == 9) = true := beq_iff_eq.mpr c29
                have c29b1 : (a0_0 != 9) = false := bne_eq_false_iff_eq.mpr c29
                clear c29
                by_cases c30 : a0_3.toList = ([] : List UInt8)
                · rw [if_pos c30] at H
                  have c30b0 : (a0_3.toList == ([] : List UInt8)) = true := beq_iff_eq.mpr c30
                  have c30b1 : (a0_3.toList != ([] : List UInt8)) = false := bne_eq_false_iff_eq.mpr c30
                  clear c30
                  by_cases c31 : a0_4 ≥ 0
                  · rw [if_pos c31] at H
                    have c31b0 : decide (0 ≤ a0_4) = true := decide_eq_true c31
                    clear c31
                    by_cases c32 : a0_4 = 0
                    · rw [if_pos c32] at H
                      have c32b0 : (a0_4 == 0) = true := beq_iff_eq.mpr c32
                      have c32b1 : (a0_4 != 0) = false := bne_eq_false_iff_eq.mpr c32
                      clear c32
                      by_cases c33 : a0_2 = 0
                      · rw [if_pos c33] at H
                        have c33b0 : (a0_2 == 0) = true := beq_iff_eq.mpr c33
                        have c33b1 : (a0_2 != 0) = false := bne_eq_false_iff_eq.mpr c33
                        clear c33
                        obtain rfl := Option.some.inj H
                        have hcz34_0 : wc.cell? ⟨gb307, 0, none⟩ = some (.int .i64 a0_0) := (blk_cell BK307.out 0).trans rfl
                        have hcz34_1 : wc.cell? ⟨gb307, 1, none⟩ = some (.int .i64 a0_1) := (blk_cell BK307.out 1).trans rfl
                        have hcz34_2 : wc.cell? ⟨gb307, 2, none⟩ = some (.int .i64 a0_2) := (blk_cell BK307.out 2).trans rfl
                        have hcz34_3 : wc.cell? ⟨gb307, 3, none⟩ = some (.string a0_3) := (blk_cell BK307.out 3).trans rfl
                        have hcz34_4 : wc.cell? ⟨gb307, 4, none⟩ = some (.int .i64 a0_4) := (blk_cell BK307.out 4).trans rfl
                        have hfz34_0 := blk_frozen BK307.out 0
                        have hfz34_1 := blk_frozen BK307.out 1
                        have hfz34_2 := blk_frozen BK307.out 2
                        have hfz34_3 := blk_frozen BK307.out 3
                        have hfz34_4 := blk_frozen BK307.out 4
                        go_wp2
                        go_ret
                        exact ⟨by first | rfl | (simp [errW_none, errW_some] <;> rfl) | (simp [*, errW_none, errW_some] <;> rfl), by repeat (first | (with_reducible first | exact HB.out | apply below_alloc | apply pw_below_drewN | apply below_drew1 | refine below_set ?_ GE307.out) | exact HB.out)⟩
                      · rw [if_neg c33] at H
                        have c33b0 : (a0_2 == 0) = false := beq_eq_false_iff_ne.mpr c33
                        have c33b1 : (a0_2 != 0) = true := bne_iff_ne.mpr c33
                        by_cases c35 : a0_4 > 0
                        · rw [if_pos c35] at H
                          have c35b0 : decide (0 < a0_4) = true := decide_eq_true c35
                          clear c35
                          replace H := Option.bind_eq_some_iff.mp H
                          obtain ⟨t309, A360, H⟩ := H
                          replace H : (some t309) = some r := H
                          have A36 := Aside0.mk A360
                          clear A360
                          obtain rfl := Option.some.inj H
                          have hcz37_0 : wc.cell? ⟨gb307, 0, none⟩ = some (.int .i64 a0_0) := (blk_cell BK307.out 0).trans rfl
                          have hcz37_1 : wc.cell? ⟨gb307, 1, none⟩ = some (.int .i64 a0_1) := (blk_cell BK307.out 1).trans rfl
                          have hcz37_2 : wc.cell? ⟨gb307, 2, none⟩ = some (.int .i64 a0_2) := (blk_cell BK307.out 2).trans rfl
                          have hcz37_3 : wc.cell? ⟨gb307, 3, none⟩ = some (.string a0_3) := (blk_cell BK307.out 3).trans rfl
                          have hcz37_4 : wc.cell? ⟨gb307, 4, none⟩ = some (.int .i64 a0_4) := (blk_cell BK307.out 4).trans rfl
                          have hfz37_0 := blk_frozen BK307.out 0
                          have hfz37_1 := blk_frozen BK307.out 1
                          have hfz37_2 := blk_frozen BK307.out 2
                          have hfz37_3 := blk_frozen BK307.out 3
                          have hfz37_4 := blk_frozen BK307.out 4
                          go_wp2_with (first | (go_at_call 237; (with_reducible refine (spec_l4Item.calls a0_2 t309 _ A36.out).mono ?_); rintro e w' ⟨rfl, ⟨nd, rfl⟩⟩))
                          go_ret
                          exact ⟨by first | rfl | (simp [errW_none, errW_some] <;> rfl) | (simp [*, errW_none, errW_some] <;> rfl), by repeat (first | (with_reducible first | exact HB.out | apply below_alloc | apply pw_below_drewN | apply below_drew1 | refine below_set ?_ GE307.out) | exact HB.out)⟩
                        · rw [if_neg c35] at H
                          have c35b0 : decide (0 < a0_4) = false := decide_eq_false c35
                          clear c35
                          obtain rfl := Option.some.inj H
                          have hcz38_0 : wc.cell? ⟨gb307, 0, none⟩ = some (.int .i64 a0_0) := (blk_cell BK307.out 0).trans rfl
                          have hcz38_1 : wc.cell? ⟨gb307, 1, none⟩ = some (.int .i64 a0_1) := (blk_cell BK307.out 1).trans rfl
                          have hcz38_2 : wc.cell? ⟨gb307, 2, none⟩ = some (.int .i64 a0_2) := (blk_cell BK307.out 2).trans rfl
                          have hcz38_3 : wc.cell? ⟨gb307, 3, none⟩ = some (.string a0_3) := (blk_cell BK307.out 3).trans rfl
                          have hcz38_4 : wc.cell? ⟨gb307, 4, none⟩ = some (.int .i64 a0_4) := (blk_cell BK307.out 4).trans rfl
                          have hfz38_0 := blk_frozen BK307.out 0
                          have hfz38_1 := blk_frozen BK307.out 1
                          have hfz38_2 := blk_frozen BK307.out 2
                          have hfz38_3 := blk_frozen BK307.out 3
                          have hfz38_4 := blk_frozen BK307.out 4
                          go_wp2
                          go_ret
                          exact ⟨by first | rfl | (simp [errW_none, errW_some] <;> rfl) | (simp [*, errW_none, errW_some] <;> rfl), by repeat (first | (with_reducible first | exact HB.out | apply below_alloc | apply pw_below_drewN | apply below_drew1 | refine below_set ?_ GE307.out) | exact HB.out)⟩
                    · rw [if_neg c32] at H
                      have c32b0 : (a0_4 == 0) = false := beq_eq_false_iff_ne.mpr c32
                      have c32b1 : (a0_4 != 0) = true := bne_iff_ne.mpr c32
                      by_cases c39 : a0_4 > 0
                      · rw [if_pos c39] at H
                        have c39b0 : decide (0 < a0_4) = true := decide_eq_true c39
                        clear c39
                        replace H := Option.bind_eq_some_iff.mp H
                        obtain ⟨t310, A400, H⟩ := H
                        replace H : (some t310) = some r := H
                        have A40 := Aside0.mk A400
                        clear A400
                        obtain rfl := Option.some.inj H
                        have hcz41_0 : wc.cell? ⟨gb307, 0, none⟩ = some (.int .i64 a0_0) := (blk_cell BK307.out 0).trans rfl
                        have hcz41_1 : wc.cell? ⟨gb307, 1, none⟩ = some (.int .i64 a0_1) := (blk_cell BK307.out 1).trans rfl
                        have hcz41_2 : wc.cell? ⟨gb307, 2, none⟩ = some (.int .i64 a0_2) := (blk_cell BK307.out 2).trans rfl
                        have hcz41_3 : wc.cell? ⟨gb307, 3, none⟩ = some (.string a0_3) := (blk_cell BK307.out 3).trans rfl
                        have hcz41_4 : wc.cell? ⟨gb307, 4, none⟩ = some (.int .i64 a0_4) := (blk_cell BK307.out 4).trans rfl
                        have hfz41_0 := blk_frozen BK307.out 0
                        have hfz41_1 := blk_frozen BK307.out 1
                        have hfz41_2 := blk_frozen BK307.out 2
                        have hfz41_3 := blk_frozen BK307.out 3
                        have hfz41_4 := blk_frozen BK307.out 4
                        go_wp2_with (first | (go_at_call 237; (with_reducible refine (spec_l4Item.calls a0_2 t310 _ A40.out).mono ?_); rintro e w' ⟨rfl, ⟨nd, rfl⟩⟩))
                        go_ret
                        exact ⟨by first | rfl | (simp [errW_none, errW_some] <;> rfl) | (simp [*, errW_none, errW_some] <;> rfl), by repeat (first | (with_reducible first | exact HB.out | apply below_alloc | apply pw_below_drewN | apply below_drew1 | refine below_set ?_ GE307.out) | exact HB.out)⟩
                      · rw [if_neg c39] at H
                        have c39b0 : decide (0 < a0_4) = false := decide_eq_false c39
                        clear c39
                        obtain rfl := Option.some.inj H
                        have hcz42_0 : wc.cell? ⟨gb307, 0, none⟩ = some (.int .i64 a0_0) := (blk_cell BK307.out 0).trans rfl
                        have hcz42_1 : wc.cell? ⟨gb307, 1, none⟩ = some (.int .i64 a0_1) := (blk_cell BK307.out 1).trans rfl
                        have hcz42_2 : wc.cell? ⟨gb307, 2, none⟩ = some (.int .i64 a0_2) := (blk_cell BK307.out 2).trans rfl
                        have hcz42_3 : wc.cell? ⟨gb307, 3, none⟩ = some (.string a0_3) := (blk_cell BK307.out 3).trans rfl
                        have hcz42_4 : wc.cell? ⟨gb307, 4, none⟩ = some (.int .i64 a0_4) := (blk_cell BK307.out 4).trans rfl
                        have hfz42_0 := blk_frozen BK307.out 0
                        have hfz42_1 := blk_frozen BK307.out 1
                        have hfz42_2 := blk_frozen BK307.out 2
                        have hfz42_3 := blk_frozen BK307.out 3
                        have hfz42_4 := blk_frozen BK307.out 4
                        go_wp2
                        go_ret
                        exact ⟨by first | rfl | (simp [errW_none, errW_some] <;> rfl) | (simp [*, errW_none, errW_some] <;> rfl), by repeat (first | (with_reducible first | exact HB.out | apply below_alloc | apply pw_below_drewN | apply below_drew1 | refine below_set ?_ GE307.out) | exact HB.out)⟩
                  · rw [if_neg c31] at H
                    have c31b0 : decide (0 ≤ a0_4) = false := decide_eq_false c31
                    clear c31
                    obtain rfl := Option.some.inj H
                    have hcz43_0 : wc.cell? ⟨gb307, 0, none⟩ = some (.int .i64 a0_0) := (blk_cell BK307.out 0).trans rfl
                    have hcz43_1 : wc.cell? ⟨gb307, 1, none⟩ = some (.int .i64 a0_1) := (blk_cell BK307.out 1).trans rfl
                    have hcz43_2 : wc.cell? ⟨gb307, 2, none⟩ = some (.int .i64 a0_2) := (blk_cell BK307.out 2).trans rfl
                    have hcz43_3 : wc.cell? ⟨gb307, 3, none⟩ = some (.string a0_3) := (blk_cell BK307.out 3).trans rfl
                    have hcz43_4 : wc.cell? ⟨gb307, 4, none⟩ = some (.int .i64 a0_4) := (blk_cell BK307.out 4).trans rfl
                    have hfz43_0 := blk_frozen BK307.out 0
                    have hfz43_1 := blk_frozen BK307.out 1
                    have hfz43_2 := blk_frozen BK307.out 2
                    have hfz43_3 := blk_frozen BK307.out 3
                    have hfz43_4 := blk_frozen BK307.out 4
                    go_wp2
                    go_ret
                    exact ⟨by first | rfl | (simp [errW_none, errW_some] <;> rfl) | (simp [*, errW_none, errW_some] <;> rfl), by repeat (first | (with_reducible first | exact HB.out | apply below_alloc | apply pw_below_drewN | apply below_drew1 | refine below_set ?_ GE307.out) | exact HB.out)⟩
                · rw [if_neg c30] at H
                  have c30b0 : (a0_3.toList == ([] : List UInt8)) = false := beq_eq_false_iff_ne.mpr c30
                  have c30b1 : (a0_3.toList != ([] : List UInt8)) = true := bne_iff_ne.mpr c30
                  obtain rfl := Option.some.inj H
                  have hcz44_0 : wc.cell? ⟨gb307, 0, none⟩ = some (.int .i64 a0_0) := (blk_cell BK307.out 0).trans rfl
                  have hcz44_1 : wc.cell? ⟨gb307, 1, none⟩ = some (.int .i64 a0_1) := (blk_cell BK307.out 1).trans rfl
                  have hcz44_2 : wc.cell? ⟨gb307, 2, none⟩ = some (.int .i64 a0_2) := (blk_cell BK307.out 2).trans rfl
                  have hcz44_3 : wc.cell? ⟨gb307, 3, none⟩ = some (.string a0_3) := (blk_cell BK307.out 3).trans rfl
                  have hcz44_4 : wc.cell? ⟨gb307, 4, none⟩ = some (.int .i64 a0_4) := (blk_cell BK307.out 4).trans rfl
                  have hfz44_0 := blk_frozen BK307.out 0
                  have hfz44_1 := blk_frozen BK307.out 1
                  have hfz44_2 := blk_frozen BK307.out 2
                  have hfz44_3 := blk_frozen BK307.out 3
                  have hfz44_4 := blk_frozen BK307.out 4
                  go_wp2
                  go_ret
                  exact ⟨by first | rfl | (simp [errW_none, errW_some] <;> rfl) | (simp [*, errW_none, errW_some] <;> rfl), by repeat (first | (with_reducible first | exact HB.out | apply below_alloc | apply pw_below_drewN | apply below_drew1 | refine below_set ?_ GE307.out) | exact HB.out)⟩
              · rw [if_neg c29] at H
                have c29b0 : (a0_0 == 9) = false := beq_eq_false_iff_ne.mpr c29
                have c29b1 : (a0_0 != 9) = true := bne_iff_ne.mpr c29
                by_cases c45 : a0_0 = 12
                · rw [if_pos c45] at H
                  have c45b0 : (a0_0 == 12) = true := beq_iff_eq.mpr c45
                  have c45b1 : (a0_0 != 12) = false := bne_eq_false_iff_eq.mpr c45
                  clear c45
                  by_cases c46 : a0_2 = 0
                  · rw [if_pos c46] at H
                    have c46b0 : (a0_2 == 0) = true := beq_iff_eq.mpr c46
                    have c46b1 : (a0_2 != 0) = false := bne_eq_false_iff_eq.mpr c46
                    clear c46
                    by_cases c47 : a0_3.toList = ([] : List UInt8)
                    · rw [if_pos c47] at H
                      have c47b0 : (a0_3.toList == ([] : List UInt8)) = true := beq_iff_eq.mpr c47
                      have c47b1 : (a0_3.toList != ([] : List UInt8)) = false := bne_eq_false_iff_eq.mpr c47
                      clear c47
                      obtain rfl := Option.some.inj H
                      have hcz48_0 : wc.cell? ⟨gb307, 0, none⟩ = some (.int .i64 a0_0) := (blk_cell BK307.out 0).trans rfl
                      have hcz48_1 : wc.cell? ⟨gb307, 1, none⟩ = some (.int .i64 a0_1) := (blk_cell BK307.out 1).trans rfl
                      have hcz48_2 : wc.cell? ⟨gb307, 2, none⟩ = some (.int .i64 a0_2) := (blk_cell BK307.out 2).trans rfl
                      have hcz48_3 : wc.cell? ⟨gb307, 3, none⟩ = some (.string a0_3) := (blk_cell BK307.out 3).trans rfl
                      have hcz48_4 : wc.cell? ⟨gb307, 4, none⟩ = some (.int .i64 a0_4) := (blk_cell BK307.out 4).trans rfl
                      have hfz48_0 := blk_frozen BK307.out 0
                      have hfz48_1 := blk_frozen BK307.out 1
                      have hfz48_2 := blk_frozen BK307.out 2
                      have hfz48_3 := blk_frozen BK307.out 3
                      have hfz48_4 := blk_frozen BK307.out 4
                      go_wp2
                      go_ret
                      exact ⟨by first | rfl | (simp [errW_none, errW_some] <;> rfl) | (simp [*, errW_none, errW_some] <;> rfl), by repeat (first | (with_reducible first | exact HB.out | apply below_alloc | apply pw_below_drewN | apply below_drew1 | refine below_set ?_ GE307.out) | exact HB.out)⟩
                    · rw [if_neg c47] at H
                      have c47b0 : (a0_3.toList == ([] : List UInt8)) = false := beq_eq_false_iff_ne.mpr c47
                      have c47b1 : (a0_3.toList != ([] : List UInt8)) = true := bne_iff_ne.mpr c47
                      obtain rfl := Option.some.inj H
                      have hcz49_0 : wc.cell? ⟨gb307, 0, none⟩ = some (.int .i64 a0_0) := (blk_cell BK307.out 0).trans rfl
                      have hcz49_1 : wc.cell? ⟨gb307, 1, none⟩ = some (.int .i64 a0_1) := (blk_cell BK307.out 1).trans rfl
                      have hcz49_2 : wc.cell? ⟨gb307, 2, none⟩ = some (.int .i64 a0_2) := (blk_cell BK307.out 2).trans rfl
                      have hcz49_3 : wc.cell? ⟨gb307, 3, none⟩ = some (.string a0_3) := (blk_cell BK307.out 3).trans rfl
                      have hcz49_4 : wc.cell? ⟨gb307, 4, none⟩ = some (.int .i64 a0_4) := (blk_cell BK307.out 4).trans rfl
                      have hfz49_0 := blk_frozen BK307.out 0
                      have hfz49_1 := blk_frozen BK307.out 1
                      have hfz49_2 := blk_frozen BK307.out 2
                      have hfz49_3 := blk_frozen BK307.out 3
                      have hfz49_4 := blk_frozen BK307.out 4
                      go_wp2
                      go_ret
                      exact ⟨by first | rfl | (simp [errW_none, errW_some] <;> rfl) | (simp [*, errW_none, errW_some] <;> rfl), by repeat (first | (with_reducible first | exact HB.out | apply below_alloc | apply pw_below_drewN | apply below_drew1 | refine below_set ?_ GE307.out) | exact HB.out)⟩
                  · rw [if_neg c46] at H
                    have c46b0 : (a0_2 == 0) = false := beq_eq_false_iff_ne.mpr c46
                    have c46b1 : (a0_2 != 0) = true := bne_iff_ne.mpr c46
                    obtain rfl := Option.some.inj H
                    have hcz50_0 : wc.cell? ⟨gb307, 0, none⟩ = some (.int .i64 a0_0) := (blk_cell BK307.out 0).trans rfl
                    have hcz50_1 : wc.cell? ⟨gb307, 1, none⟩ = some (.int .i64 a0_1) := (blk_cell BK307.out 1).trans rfl
                    have hcz50_2 : wc.cell? ⟨gb307, 2, none⟩ = some (.int .i64 a0_2) := (blk_cell BK307.out 2).trans rfl
                    have hcz50_3 : wc.cell? ⟨gb307, 3, none⟩ = some (.string a0_3) := (blk_cell BK307.out 3).trans rfl
                    have hcz50_4 : wc.cell? ⟨gb307, 4, none⟩ = some (.int .i64 a0_4) := (blk_cell BK307.out 4).trans rfl
                    have hfz50_0 := blk_frozen BK307.out 0
                    have hfz50_1 := blk_frozen BK307.out 1
                    have hfz50_2 := blk_frozen BK307.out 2
                    have hfz50_3 := blk_frozen BK307.out 3
                    have hfz50_4 := blk_frozen BK307.out 4
                    go_wp2
                    go_ret
                    exact ⟨by first | rfl | (simp [errW_none, errW_some] <;> rfl) | (simp [*, errW_none, errW_some] <;> rfl), by repeat (first | (with_reducible first | exact HB.out | apply below_alloc | apply pw_below_drewN | apply below_drew1 | refine below_set ?_ GE307.out) | exact HB.out)⟩
                · rw [if_neg c45] at H
                  have c45b0 : (a0_0 == 12) = false := beq_eq_false_iff_ne.mpr c45
                  have c45b1 : (a0_0 != 12) = true := bne_iff_ne.mpr c45
                  obtain rfl := Option.some.inj H
                  go_wp2
                  go_ret
                  exact ⟨by first | rfl | (simp [errW_none, errW_some] <;> rfl) | (simp [*, errW_none, errW_some] <;> rfl), by repeat (first | (with_reducible first | exact HB.out | apply below_alloc | apply pw_below_drewN | apply below_drew1 | refine below_set ?_ GE307.out) | exact HB.out)⟩

end Go.Proofs.Ytnfamhegbfjggaa.PFnTreeParts
