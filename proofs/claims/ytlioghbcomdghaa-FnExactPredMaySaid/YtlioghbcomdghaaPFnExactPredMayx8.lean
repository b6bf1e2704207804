/- The machine's side of FnExactPredMay, written by wip/tools/hyb.py of this repo: each Go function as a plain Lean function, and the proof that the call comes to just its answer. No condition. -/
import Derived.Test.YtlioghbcomdghaaPFnExactPredMayx0
namespace Go.Proofs.Ytlioghbcomdghaa.PFnExactPredMay
open Go.RowKit Go.Proofs.YtlioghbcomdghaaW.PrintWords Go.Proofs.YtlioghbcomdghaaW.PrintLast Go.Proofs.YtlioghbcomdghaaW.PrintMore Go.Proofs.YtlioghbcomdghaaW.PrintMore2
attribute [local go_sem] max2_int min2_int max_two min_two max_three min_three max_four min_four   -- for this text's walks alone
set_option linter.unusedVariables false
set_option linter.unusedSimpArgs false

/-! ### impl_within: function 42 -/
def impl_within.f (a0 : Int) (a1 : Int) (a2 : Int) : Option (Bool) := if a0 ≥ a1 then (some (decide (a0 ≤ a2))) else (some false)
set_option maxHeartbeats 8000000 in
set_option maxRecDepth 100000 in
theorem impl_within.calls (a0 : Int) (a1 : Int) (a2 : Int) (r : Bool) (w : World) (h : impl_within.f a0 a1 a2 = some r) :
    Calls Try.prog 42 #[.int .i64 a0, .int .i64 a1, .int .i64 a2] w fun e w' => e = .returned (.bool r) ∧ Drawn0 w w' := by
  have H : (if a0 ≥ a1 then (some (decide (a0 ≤ a2))) else (some false)) = some r := h
  clear h
  by_cases c4 : a0 ≥ a1
  · rw [if_pos c4] at H
    have c4b0 : decide (a1 ≤ a0) = true := decide_eq_true c4
    clear c4
    obtain rfl := Option.some.inj H
    go_enter Try.func42, Try.ntmps42
    go_wp2
    go_ret
    exact ⟨by first | rfl | (simp; done) | (simp [*]; done), by repeat (first | exact Drawn0.refl _ | apply Drawn0.step)⟩
  · rw [if_neg c4] at H
    have c4b0 : decide (a1 ≤ a0) = false := decide_eq_false c4
    clear c4
    obtain rfl := Option.some.inj H
    go_enter Try.func42, Try.ntmps42
    go_wp2
    go_ret
    exact ⟨by first | rfl | (simp; done) | (simp [*]; done), by repeat (first | exact Drawn0.refl _ | apply Drawn0.step)⟩

/-! ### impl_TypeOk: function 67 -/
def impl_TypeOk.f (a0 : Int) : Option (Bool) := (impl_within.f a0 0 2).bind fun t280 => (if t280 = true then (some true) else (if a0 = 5 then (some true) else (some (a0 == 6))))
set_option maxHeartbeats 8000000 in
set_option maxRecDepth 100000 in
theorem impl_TypeOk.calls (a0 : Int) (r : Bool) (w : World) (h : impl_TypeOk.f a0 = some r) :
    Calls Try.prog 67 #[.int .i64 a0] w fun e w' => e = .returned (.bool r) ∧ Drawn0 w w' := by
  have H : ((impl_within.f a0 0 2).bind fun t280 => (if t280 = true then (some true) else (if a0 = 5 then (some true) else (some (a0 == 6))))) = some r := h
  clear h
  replace H := bnd H
  obtain ⟨t280, A2, H⟩ := H
  by_cases c3 : t280 = true
  · subst c3
    replace H := ifp rfl H
    obtain rfl := Option.some.inj H
    go_enter Try.func67, Try.ntmps67
    go_wp2_with (first | ((with_reducible refine gate_callee (f := 42) rfl ?_); refine gl_ (some 4) Try.func42 #[.int .i64 a0, .int .i64 0, .int .i64 2] rfl ?_; (with_reducible refine (impl_within.calls a0 0 2 true _ A2.out).mono ?_); rintro e w' ⟨rfl, ⟨nd, rfl⟩⟩; refine ⟨_, rfl, ?_⟩))
    go_ret
    exact ⟨by first | rfl | (simp; done) | (simp [*]; done), by repeat (first | exact Drawn0.refl _ | apply Drawn0.step)⟩
  · replace c3 := Bool.eq_false_iff.mpr c3
    subst c3
    replace H := ifn Bool.false_ne_true H
    by_cases c4 : a0 = 5
    · rw [if_pos c4] at H
      have c4b0 : (a0 == 5) = true := beq_iff_eq.mpr c4
      have c4b1 : (a0 != 5) = false := bne_eq_false_iff_eq.mpr c4
      clear c4
      obtain rfl := Option.some.inj H
      go_enter Try.func67, Try.ntmps67
      go_wp2_with (first | ((with_reducible refine gate_callee (f := 42) rfl ?_); refine gl_ (some 4) Try.func42 #[.int .i64 a0, .int .i64 0, .int .i64 2] rfl ?_; (with_reducible refine (impl_within.calls a0 0 2 false _ A2.out).mono ?_); rintro e w' ⟨rfl, ⟨nd, rfl⟩⟩; refine ⟨_, rfl, ?_⟩))
      go_ret
      exact ⟨by first | rfl | (simp; done) | (simp [*]; done), by repeat (first | exact Drawn0.refl _ | apply Drawn0.step)⟩
    · rw [if_neg c4] at H
      have c4b0 : (a0 == 5) = false := beq_eq_false_iff_ne.mpr c4
      have c4b1 : (a0 != 5) = true := bne_iff_ne.mpr c4
      obtain rfl := Option.some.inj H
      go_enter Try.func67, Try.ntmps67
      go_wp2_with (first | ((with_reducible refine gate_callee (f := 42) rfl ?_); refine gl_ (some 4) Try.func42 #[.int .i64 a0, .int .i64 0, .int .i64 2] rfl ?_; (with_reducible refine (impl_within.calls a0 0 2 false _ A2.out).mono ?_); rintro e w' ⟨rfl, ⟨nd, rfl⟩⟩; refine ⟨_, rfl, ?_⟩))
      go_ret
      exact ⟨by first | rfl | (simp; done) | (simp [*]; done), by repeat (first | exact Drawn0.refl _ | apply Drawn0.step)⟩

/-! ### impl_colOk: function 63 -/
def impl_colOk.f (a0_0 : ByteArray) (a0_1 : Int) (a0_2 : Int) (a0_3 : Int) : Option (Bool) := if a0_1 = 7 then ((impl_TypeOk.f a0_1).bind fun t282 => (if t282 = true then (if a0_3 > 0 then ((impl_within.f a0_2 0 2).bind fun t283 => (some t283)) else (if a0_3 = 0 then ((impl_within.f a0_2 0 2).bind fun t284 => (some t284)) else (some false))) else (if a0_3 > 0 then ((impl_within.f a0_2 0 2).bind fun t285 => (some t285)) else (some false)))) else ((impl_TypeOk.f a0_1).bind fun t286 => (if t286 = true then (if a0_3 = 0 then ((impl_within.f a0_2 0 2).bind fun t287 => (some t287)) else (some false)) else (some false)))
set_option maxHeartbeats 8000000 in
set_option maxRecDepth 100000 in
theorem impl_colOk.calls (a0_0 : ByteArray) (a0_1 : Int) (a0_2 : Int) (a0_3 : Int) (r : Bool) (w : World) (h : impl_colOk.f a0_0 a0_1 a0_2 a0_3 = some r) :
    Calls Try.prog 63 #[.agg #[.string a0_0, .int .i64 a0_1, .int .i64 a0_2, .int .i64 a0_3]] w fun e w' => e = .returned (.bool r) ∧ Below w.heap.size w w' := by
  have hu57 := Try.underlying57
  have HB := Aside0.mk (Below.refl w.heap.size w)
  have H : (if a0_1 = 7 then ((impl_TypeOk.f a0_1).bind fun t282 => (if t282 = true then (if a0_3 > 0 then ((impl_within.f a0_2 0 2).bind fun t283 => (some t283)) else (if a0_3 = 0 then ((impl_within.f a0_2 0 2).bind fun t284 => (some t284)) else (some false))) else (if a0_3 > 0 then ((impl_within.f a0_2 0 2).bind fun t285 => (some t285)) else (some false)))) else ((impl_TypeOk.f a0_1).bind fun t286 => (if t286 = true then (if a0_3 = 0 then ((impl_within.f a0_2 0 2).bind fun t287 => (some t287)) else (some false)) else (some false)))) = some r := h
  clear h
  by_cases c2 : a0_1 = 7
  · rw [if_pos c2] at H
    have c2b0 : (a0_1 == 7) = true := beq_iff_eq.mpr c2
    have c2b1 : (a0_1 != 7) = false := bne_eq_false_iff_eq.mpr c2
    clear c2
    replace H := bnd H
    obtain ⟨t282, A3, H⟩ := H
    by_cases c4 : t282 = true
    · subst c4
      replace H := ifp rfl H
      by_cases c5 : a0_3 > 0
      · rw [if_pos c5] at H
        have c5b0 : decide (0 < a0_3) = true := decide_eq_true c5
        clear c5
        replace H := bnd H
        obtain ⟨t283, A6, H⟩ := H
        obtain rfl := Option.some.inj H
        go_enter Try.func63, Try.ntmps63
        go_wp2_with (first | ((with_reducible refine gate_dst (N := 1) rfl ?_); refine bx_ 1 #[.string a0_0, .int .i64 a0_1, .int .i64 a0_2, .int .i64 a0_3] 57 ?_; intro gb281 hg w7 hbox hb; have BK281 := Aside0.mk (hbox); have GW281 := gwe HB hg; have GE281 := GW281; replace HB := bst HB hb; clear hb hbox hg; obtain ⟨hcz8_0, hcz8_1, hcz8_2, hcz8_3, hfz8_0, hfz8_1, hfz8_2, hfz8_3⟩ := cl4 BK281) | ((with_reducible refine gate_callee (f := 67) rfl ?_); refine gl_ (some 15) Try.func67 #[.int .i64 a0_1] rfl ?_; (with_reducible refine (impl_TypeOk.calls a0_1 true _ A3.out).mono ?_); rintro e w' ⟨rfl, ⟨nd, rfl⟩⟩; refine ⟨_, rfl, ?_⟩) | (go_at_call 42; (with_reducible refine (impl_within.calls a0_2 0 2 t283 _ A6.out).mono ?_); rintro e w' ⟨rfl, ⟨nd, rfl⟩⟩))
        go_ret
        exact fin_ (below_later HB.out)
      · rw [if_neg c5] at H
        have c5b0 : decide (0 < a0_3) = false := decide_eq_false c5
        clear c5
        by_cases c9 : a0_3 = 0
        · rw [if_pos c9] at H
          have c9b0 : (a0_3 == 0) = true := beq_iff_eq.mpr c9
          have c9b1 : (a0_3 != 0) = false := bne_eq_false_iff_eq.mpr c9
          clear c9
          replace H := bnd H
          obtain ⟨t284, A10, H⟩ := H
          obtain rfl := Option.some.inj H
          go_enter Try.func63, Try.ntmps63
          go_wp2_with (first | ((with_reducible refine gate_dst (N := 1) rfl ?_); refine bx_ 1 #[.string a0_0, .int .i64 a0_1, .int .i64 a0_2, .int .i64 a0_3] 57 ?_; intro gb281 hg w11 hbox hb; have BK281 := Aside0.mk (hbox); have GW281 := gwe HB hg; have GE281 := GW281; replace HB := bst HB hb; clear hb hbox hg; obtain ⟨hcz12_0, hcz12_1, hcz12_2, hcz12_3, hfz12_0, hfz12_1, hfz12_2, hfz12_3⟩ := cl4 BK281) | ((with_reducible refine gate_callee (f := 67) rfl ?_); refine gl_ (some 15) Try.func67 #[.int .i64 a0_1] rfl ?_; (with_reducible refine (impl_TypeOk.calls a0_1 true _ A3.out).mono ?_); rintro e w' ⟨rfl, ⟨nd, rfl⟩⟩; refine ⟨_, rfl, ?_⟩) | (go_at_call 42; (with_reducible refine (impl_within.calls a0_2 0 2 t284 _ A10.out).mono ?_); rintro e w' ⟨rfl, ⟨nd, rfl⟩⟩))
          go_ret
          exact fin_ (below_later HB.out)
        · rw [if_neg c9] at H
          have c9b0 : (a0_3 == 0) = false := beq_eq_false_iff_ne.mpr c9
          have c9b1 : (a0_3 != 0) = true := bne_iff_ne.mpr c9
          obtain rfl := Option.some.inj H
          go_enter Try.func63, Try.ntmps63
          go_wp2_with (first | ((with_reducible refine gate_dst (N := 1) rfl ?_); refine bx_ 1 #[.string a0_0, .int .i64 a0_1, .int .i64 a0_2, .int .i64 a0_3] 57 ?_; intro gb281 hg w13 hbox hb; have BK281 := Aside0.mk (hbox); have GW281 := gwe HB hg; have GE281 := GW281; replace HB := bst HB hb; clear hb hbox hg; obtain ⟨hcz14_0, hcz14_1, hcz14_2, hcz14_3, hfz14_0, hfz14_1, hfz14_2, hfz14_3⟩ := cl4 BK281) | ((with_reducible refine gate_callee (f := 67) rfl ?_); refine gl_ (some 15) Try.func67 #[.int .i64 a0_1] rfl ?_; (with_reducible refine (impl_TypeOk.calls a0_1 true _ A3.out).mono ?_); rintro e w' ⟨rfl, ⟨nd, rfl⟩⟩; refine ⟨_, rfl, ?_⟩))
          go_ret
          exact fin_ (below_later HB.out)
    · replace c4 := Bool.eq_false_iff.mpr c4
      subst c4
      replace H := ifn Bool.false_ne_true H
      by_cases c15 : a0_3 > 0
      · rw [if_pos c15] at H
        have c15b0 : decide (0 < a0_3) = true := decide_eq_true c15
        clear c15
        replace H := bnd H
        obtain ⟨t285, A16, H⟩ := H
        obtain rfl := Option.some.inj H
        go_enter Try.func63, Try.ntmps63
        go_wp2_with (first | ((with_reducible refine gate_dst (N := 1) rfl ?_); refine bx_ 1 #[.string a0_0, .int .i64 a0_1, .int .i64 a0_2, .int .i64 a0_3] 57 ?_; intro gb281 hg w17 hbox hb; have BK281 := Aside0.mk (hbox); have GW281 := gwe HB hg; have GE281 := GW281; replace HB := bst HB hb; clear hb hbox hg; obtain ⟨hcz18_0, hcz18_1, hcz18_2, hcz18_3, hfz18_0, hfz18_1, hfz18_2, hfz18_3⟩ := cl4 BK281) | ((with_reducible refine gate_callee (f := 67) rfl ?_); refine gl_ (some 15) Try.func67 #[.int .i64 a0_1] rfl ?_; (with_reducible refine (impl_TypeOk.calls a0_1 false _ A3.out).mono ?_); rintro e w' ⟨rfl, ⟨nd, rfl⟩⟩; refine ⟨_, rfl, ?_⟩) | (go_at_call 42; (with_reducible refine (impl_within.calls a0_2 0 2 t285 _ A16.out).mono ?_); rintro e w' ⟨rfl, ⟨nd, rfl⟩⟩))
        go_ret
        exact fin_ (below_later HB.out)
      · rw [if_neg c15] at H
        have c15b0 : decide (0 < a0_3) = false := decide_eq_false c15
        clear c15
        obtain rfl := Option.some.inj H
        go_enter Try.func63, Try.ntmps63
        go_wp2_with (first | ((with_reducible refine gate_dst (N := 1) rfl ?_); refine bx_ 1 #[.string a0_0, .int .i64 a0_1, .int .i64 a0_2, .int .i64 a0_3] 57 ?_; intro gb281 hg w19 hbox hb; have BK281 := Aside0.mk (hbox); have GW281 := gwe HB hg; have GE281 := GW281; replace HB := bst HB hb; clear hb hbox hg; obtain ⟨hcz20_0, hcz20_1, hcz20_2, hcz20_3, hfz20_0, hfz20_1, hfz20_2, hfz20_3⟩ := cl4 BK281) | ((with_reducible refine gate_callee (f := 67) rfl ?_); refine gl_ (some 15) Try.func67 #[.int .i64 a0_1] rfl ?_; (with_reducible refine (impl_TypeOk.calls a0_1 false _ A3.out).mono ?_); rintro e w' ⟨rfl, ⟨nd, rfl⟩⟩; refine ⟨_, rfl, ?_⟩))
        go_ret
        exact fin_ (below_later HB.out)
  · rw [if_neg c2] at H
    have c2b0 : (a0_1 == 7) = false := beq_eq_false_iff_ne.mpr c2
    have c2b1 : (a0_1 != 7) = true := bne_iff_ne.mpr c2
    replace H := bnd H
    obtain ⟨t286, A21, H⟩ := H
    by_cases c22 : t286 = true
    · subst c22
      replace H := ifp rfl H
      by_cases c23 : a0_3 = 0
      · rw [if_pos c23] at H
        have c23b0 : (a0_3 == 0) = true := beq_iff_eq.mpr c23
        have c23b1 : (a0_3 != 0) = false := bne_eq_false_iff_eq.mpr c23
        clear c23
        replace H := bnd H
        obtain ⟨t287, A24, H⟩ := H
        obtain rfl := Option.some.inj H
        go_enter Try.func63, Try.ntmps63
        go_wp2_with (first | ((with_reducible refine gate_dst (N := 1) rfl ?_); refine bx_ 1 #[.string a0_0, .int .i64 a0_1, .int .i64 a0_2, .int .i64 a0_3] 57 ?_; intro gb281 hg w25 hbox hb; have BK281 := Aside0.mk (hbox); have GW281 := gwe HB hg; have GE281 := GW281; replace HB := bst HB hb; clear hb hbox hg; obtain ⟨hcz26_0, hcz26_1, hcz26_2, hcz26_3, hfz26_0, hfz26_1, hfz26_2, hfz26_3⟩ := cl4 BK281) | ((with_reducible refine gate_callee (f := 67) rfl ?_); refine gl_ (some 15) Try.func67 #[.int .i64 a0_1] rfl ?_; (with_reducible refine (impl_TypeOk.calls a0_1 true _ A21.out).mono ?_); rintro e w' ⟨rfl, ⟨nd, rfl⟩⟩; refine ⟨_, rfl, ?_⟩) | (go_at_call 42; (with_reducible refine (impl_within.calls a0_2 0 2 t287 _ A24.out).mono ?_); rintro e w' ⟨rfl, ⟨nd, rfl⟩⟩))
        go_ret
        exact fin_ (below_later HB.out)
      · rw [if_neg c23] at H
        have c23b0 : (a0_3 == 0) = false := beq_eq_false_iff_ne.mpr c23
        have c23b1 : (a0_3 != 0) = true := bne_iff_ne.mpr c23
        obtain rfl := Option.some.inj H
        go_enter Try.func63, Try.ntmps63
        go_wp2_with (first | ((with_reducible refine gate_dst (N := 1) rfl ?_); refine bx_ 1 #[.string a0_0, .int .i64 a0_1, .int .i64 a0_2, .int .i64 a0_3] 57 ?_; intro gb281 hg w27 hbox hb; have BK281 := Aside0.mk (hbox); have GW281 := gwe HB hg; have GE281 := GW281; replace HB := bst HB hb; clear hb hbox hg; obtain ⟨hcz28_0, hcz28_1, hcz28_2, hcz28_3, hfz28_0, hfz28_1, hfz28_2, hfz28_3⟩ := cl4 BK281) | ((with_reducible refine gate_callee (f := 67) rfl ?_); refine gl_ (some 15) Try.func67 #[.int .i64 a0_1] rfl ?_; (with_reducible refine (impl_TypeOk.calls a0_1 true _ A21.out).mono ?_); rintro e w' ⟨rfl, ⟨nd, rfl⟩⟩; refine ⟨_, rfl, ?_⟩))
        go_ret
        exact fin_ (below_later HB.out)
    · replace c22 := Bool.eq_false_iff.mpr c22
      subst c22
      replace H := ifn Bool.false_ne_true H
      obtain rfl := Option.some.inj H
      go_enter Try.func63, Try.ntmps63
      go_wp2_with (first | ((with_reducible refine gate_dst (N := 1) rfl ?_); refine bx_ 1 #[.string a0_0, .int .i64 a0_1, .int .i64 a0_2, .int .i64 a0_3] 57 ?_; intro gb281 hg w29 hbox hb; have BK281 := Aside0.mk (hbox); have GW281 := gwe HB hg; have GE281 := GW281; replace HB := bst HB hb; clear hb hbox hg; obtain ⟨hcz30_0, hcz30_1, hcz30_2, hcz30_3, hfz30_0, hfz30_1, hfz30_2, hfz30_3⟩ := cl4 BK281) | ((with_reducible refine gate_callee (f := 67) rfl ?_); refine gl_ (some 15) Try.func67 #[.int .i64 a0_1] rfl ?_; (with_reducible refine (impl_TypeOk.calls a0_1 false _ A21.out).mono ?_); rintro e w' ⟨rfl, ⟨nd, rfl⟩⟩; refine ⟨_, rfl, ?_⟩))
      go_ret
      exact fin_ (below_later HB.out)

/-! ### impl_isColName: function 64 -/
def impl_isColName.l0 : Nat → ByteArray → Int → Int → Option (Bool)
  | 0, _, _, _ => none
  | k + 1, x0, x5, x6 => if x6 < x5 then (if 0 ≤ x6 then (if x6 < (x0.size : Int) then ((impl_within.f (wrap64 (bt x0 x6)) 97 122).bind fun t288 => (if t288 = true then (impl_isColName.l0 k x0 x5 (wrap64 (x6 + 1))) else (some false))) else (none)) else (none)) else ((impl_within.f (x0.size : Int) 1 20).bind fun t289 => (some t289))
def impl_isColName.f (k : Nat) (a0 : ByteArray) : Option (Bool) := impl_isColName.l0 k a0 (a0.size : Int) 0
set_option maxHeartbeats 8000000 in
set_option maxRecDepth 100000 in
theorem impl_isColName.calls (k : Nat) (a0 : ByteArray) (r : Bool) (w : World) (h : impl_isColName.f k a0 = some r) :
    Calls Try.prog 64 #[.string a0] w fun e w' => e = .returned (.bool r) ∧ Drawn0 w w' := by
  have H : (impl_isColName.l0 k a0 (a0.size : Int) 0) = some r := h
  clear h
  have H' := Aside0.mk H
  clear H
  go_enter Try.func64, Try.ntmps64
  go_wp2
  go_loopg [6] k (fun kq v6 w' => ∃ (x6_1 : Int), v6 = .int .i64 x6_1 ∧ Aside0 (impl_isColName.l0 kq a0 (a0.size : Int) x6_1 = some r) ∧ Aside0 (kq ≤ k) ∧ Drawn0 w w')
  case atStart => exact ⟨(0), sr, H', ⟨Nat.le_refl _⟩, by repeat (first | exact Drawn0.refl _ | apply Drawn0.step)⟩
  case round =>
    clear H'
    obtain ⟨x6_1, rfl, HA, HK1, ⟨m1, rfl⟩⟩ := hrel
    cases gk with
    | zero => exact absurd HA.out (by simp [impl_isColName.l0])
    | succ k1 =>
      have H := HA.out
      clear HA
      simp only [impl_isColName.l0] at H
      by_cases c2 : x6_1 < (a0.size : Int)
      · rw [if_pos c2] at H
        have c2b0 := decide_eq_true c2
        clear c2
        replace H := ifd H
        obtain ⟨c3b0, H⟩ := H
        replace H := ifd H
        obtain ⟨c4b0, H⟩ := H
        replace H := bnd H
        obtain ⟨t288, A6, H⟩ := H
        by_cases c7 : t288 = true
        · subst c7
          replace H := ifp rfl H
          have H' := Aside0.mk H
          clear H
          have p5 : 0 ≤ (x6_1 : Int) := dcd
          have q5 : x6_1 < (a0.size : Int) := dcd
          have hx5 := bt_at a0 x6_1
          replace p5 := eq_true p5
          replace q5 := eq_true q5
          go_wp2_with (first | ((with_reducible refine gate_callee (f := 42) rfl ?_); refine gl_ (some 13) Try.func42 #[.int .i64 (wrap64 (bt a0 x6_1)), .int .i64 97, .int .i64 122] rfl ?_; (with_reducible refine (impl_within.calls (wrap64 (bt a0 x6_1)) 97 122 true _ A6.out).mono ?_); rintro e w' ⟨rfl, ⟨nd, rfl⟩⟩; refine ⟨_, rfl, ?_⟩))
          go_roundg k1
          case measure => have := HK1.out; omega
          case rel => exact ⟨(wrap64 (x6_1 + 1)), sr, H', ⟨by have := HK1.out; omega⟩, by repeat (first | exact Drawn0.refl _ | apply Drawn0.step)⟩
        · replace c7 := Bool.eq_false_iff.mpr c7
          subst c7
          replace H := ifn Bool.false_ne_true H
          obtain rfl := Option.some.inj H
          have p5 : 0 ≤ (x6_1 : Int) := dcd
          have q5 : x6_1 < (a0.size : Int) := dcd
          have hx5 := bt_at a0 x6_1
          replace p5 := eq_true p5
          replace q5 := eq_true q5
          go_wp2_with (first | ((with_reducible refine gate_callee (f := 42) rfl ?_); refine gl_ (some 13) Try.func42 #[.int .i64 (wrap64 (bt a0 x6_1)), .int .i64 97, .int .i64 122] rfl ?_; (with_reducible refine (impl_within.calls (wrap64 (bt a0 x6_1)) 97 122 false _ A6.out).mono ?_); rintro e w' ⟨rfl, ⟨nd, rfl⟩⟩; refine ⟨_, rfl, ?_⟩))
          go_ret
          exact ⟨by first | rfl | (simp; done) | (simp [*]; done), by repeat (first | exact Drawn0.refl _ | apply Drawn0.step)⟩
      · rw [if_neg c2] at H
        have c2b0 := decide_eq_false c2
        clear c2
        replace H := bnd H
        obtain ⟨t289, A8, H⟩ := H
        obtain rfl := Option.some.inj H
        go_wp2_with (first | ((with_reducible refine gate_callee (f := 42) rfl ?_); refine gl_ (some 18) Try.func42 #[.int .i64 (a0.size : Int), .int .i64 1, .int .i64 20] rfl ?_; (with_reducible refine (impl_within.calls (a0.size : Int) 1 20 t289 _ A8.out).mono ?_); rintro e w' ⟨rfl, ⟨nd, rfl⟩⟩; refine ⟨_, rfl, ?_⟩))
        go_ret
        exact ⟨by first | rfl | (simp; done) | (simp [*]; done), by repeat (first | exact Drawn0.refl _ | apply Drawn0.step)⟩

/-! ### impl_colAfter: function 55 -/
mutual
def impl_colAfter.j0 : Nat → List (S57) → Int → Int → Bool → Option (Int)
  | 0, _, _, _, _ => none
  | k + 1, x0, x1, x2, x39 => if x39 = true then (some (-1)) else (if 0 ≤ x1 then (if x1 < (x0.length : Int) then (impl_colAfter.l0 k x0 x2 (wrap64 (x1 + 1)) (([] : List ByteArray)) ((rd_T57 x0 x1).f3) 0) else (none)) else (none))
def impl_colAfter.l0 : Nat → List (S57) → Int → Int → List ByteArray → Int → Int → Option (Int)
  | 0, _, _, _, _, _, _ => none
  | k + 1, x0, x2, x7, x8, x47, x48 => if x48 < x47 then (if x7 ≥ (x0.length : Int) then (some (-1)) else (impl_colAfter.l1 k x0 x2 x7 x8 x47 x48 (x8.length : Int) 0)) else (some x7)
def impl_colAfter.l1 : Nat → List (S57) → Int → Int → List ByteArray → Int → Int → Int → Int → Option (Int)
  | 0, _, _, _, _, _, _, _, _ => none
  | k + 1, x0, x2, x7, x8, x47, x48, x55, x56 => if x56 < x55 then (if 0 ≤ x56 then (if x56 < (x8.length : Int) then (if 0 ≤ x7 then (if x7 < (x0.length : Int) then (if (rdOf ByteArray.empty x8 x56).toList = ((rd_T57 x0 x7).f0).toList then (some (-1)) else (impl_colAfter.l1 k x0 x2 x7 x8 x47 x48 x55 (wrap64 (x56 + 1)))) else (none)) else (none)) else (none)) else (none)) else (if 0 ≤ x7 then (if x7 < (x0.length : Int) then (if x8.length < 8796093022208 then ((impl_colAfter.f k x0 x7 (wrap64 (x2 + 1))).bind fun t304 => (if t304 < 0 then (some (-1)) else (impl_colAfter.l0 k x0 x2 t304 (x8 ++ [(rd_T57 x0 x7).f0]) x47 (wrap64 (x48 + 1))))) else (none)) else (none)) else (none))
def impl_colAfter.f : Nat → List (S57) → Int → Int → Option (Int)
  | 0, _, _, _ => none
  | k + 1, l0, a1, a2 => if a1 ≥ (l0.length : Int) then (impl_colAfter.j0 k l0 a1 a2 true) else (if a2 > 6 then (impl_colAfter.j0 k l0 a1 a2 true) else (if 0 ≤ a1 then (if a1 < (l0.length : Int) then ((impl_colOk.f ((rd_T57 l0 a1).f0) ((rd_T57 l0 a1).f1) ((rd_T57 l0 a1).f2) ((rd_T57 l0 a1).f3)).bind fun t291 => (if t291 = true then (if a1 > 0 then ((impl_isColName.f k ((rd_T57 l0 a1).f0)).bind fun t293 => (impl_colAfter.j0 k l0 a1 a2 (!t293))) else (impl_colAfter.j0 k l0 a1 a2 false)) else (impl_colAfter.j0 k l0 a1 a2 true))) else (none)) else (none)))
end
set_option maxHeartbeats 8000000 in
set_option maxRecDepth 100000 in
theorem impl_colAfter.calls (k : Nat) : ∀ (A0 : Option Addr) (c0 : Nat) (l0 : List (S57)) (a1 : Int) (a2 : Int) (r : Int) (w : World) (hr0 : Kd.C k57 w A0 l0.length l0) (hc0 : l0.length ≤ c0) (h : impl_colAfter.f k l0 a1 a2 = some r),
    Calls Try.prog 55 #[.slice A0 l0.length c0, .int .i64 a1, .int .i64 a2] w fun e w' => e = .returned (.int .i64 r) ∧ Below w.heap.size w w' := by
  induction k using Nat.strongRecOn with
  | _ k ih =>
  intro A0 c0 l0 a1 a2 r w hr0 hc0 h
  cases k with
  | zero => exact absurd h (by simp [impl_colAfter.f])
  | succ k =>
  simp only [impl_colAfter.f] at h
  have hu57 := Try.underlying57
  have HR0 := Aside0.mk hr0
  have HC0 := Aside0.mk hc0
  clear hr0 hc0
  have HB := Aside0.mk (Below.refl w.heap.size w)
  have H : (if a1 ≥ (l0.length : Int) then (impl_colAfter.j0 k l0 a1 a2 true) else (if a2 > 6 then (impl_colAfter.j0 k l0 a1 a2 true) else (if 0 ≤ a1 then (if a1 < (l0.length : Int) then ((impl_colOk.f ((rd_T57 l0 a1).f0) ((rd_T57 l0 a1).f1) ((rd_T57 l0 a1).f2) ((rd_T57 l0 a1).f3)).bind fun t291 => (if t291 = true then (if a1 > 0 then ((impl_isColName.f k ((rd_T57 l0 a1).f0)).bind fun t293 => (impl_colAfter.j0 k l0 a1 a2 (!t293))) else (impl_colAfter.j0 k l0 a1 a2 false)) else (impl_colAfter.j0 k l0 a1 a2 true))) else (none)) else (none)))) = some r := h
  clear h
  have HC4 := Aside0.mk H
  clear H
  go_enter Try.func55, Try.ntmps55
  go_upto_region 1 with (fail)
  go_cut [39] (fun v39 wc => ∃ (kq : Nat) (x39_3 : Bool), v39 = .bool x39_3 ∧ Aside0 (impl_colAfter.j0 kq l0 a1 a2 x39_3 = some r) ∧ Aside0 (kq ≤ k) ∧ Aside0 (Below w.heap.size w wc))
  case first =>
    have H := HC4.out
    clear HC4
    by_cases c5 : a1 ≥ (l0.length : Int)
    · rw [if_pos c5] at H
      have c5b0 : decide ((l0.length : Int) ≤ a1) = true := decide_eq_true c5
      clear c5
      (first | rw [c5b0] | (simp only [i64_w, i32_w]; rw [c5b0]) | skip)
      have H' := Aside0.mk H
      clear H
      go_wp2
      go_meet
      case rel => exact ⟨_, (true), sr, H', ⟨by first | omega | exact Nat.le_refl _⟩, ⟨below_later HB.out⟩⟩
    · rw [if_neg c5] at H
      have c5b0 : decide ((l0.length : Int) ≤ a1) = false := decide_eq_false c5
      clear c5
      (first | rw [c5b0] | (simp only [i64_w, i32_w]; rw [c5b0]) | skip)
      by_cases c6 : a2 > 6
      · rw [if_pos c6] at H
        have c6b0 : decide (6 < a2) = true := decide_eq_true c6
        clear c6
        have H' := Aside0.mk H
        clear H
        go_wp2
        go_meet
        case rel => exact ⟨_, (true), sr, H', ⟨by first | omega | exact Nat.le_refl _⟩, ⟨below_later HB.out⟩⟩
      · rw [if_neg c6] at H
        have c6b0 : decide (6 < a2) = false := decide_eq_false c6
        clear c6
        replace H := ifd H
        obtain ⟨c7b0, H⟩ := H
        replace H := ifd H
        obtain ⟨c8b0, H⟩ := H
        replace H := bnd H
        obtain ⟨t291, A9, H⟩ := H
        by_cases c10 : t291 = true
        · subst c10
          replace H := ifp rfl H
          by_cases c11 : a1 > 0
          · rw [if_pos c11] at H
            have c11b0 : decide (0 < a1) = true := decide_eq_true c11
            clear c11
            replace H := bnd H
            obtain ⟨t293, A12, H⟩ := H
            have H' := Aside0.mk H
            clear H
            have p290 : 0 ≤ (a1 : Int) := dcd
            have q290 : a1 < (l0.length : Int) := dcd
            obtain ⟨ad290, e290, hx290_0, hx290_1, hx290_2, hx290_3⟩ := at_T57 HR0.out a1 p290 q290
            cases e290
            replace hx290_0 := crd HB hx290_0
            replace hx290_1 := crd HB hx290_1
            replace hx290_2 := crd HB hx290_2
            replace hx290_3 := crd HB hx290_3
            replace p290 := eq_true p290
            replace q290 := eq_true q290
            go_wp2_with (first | (go_at_call 63; (with_reducible refine (impl_colOk.calls ((rd_T57 l0 a1).f0) ((rd_T57 l0 a1).f1) ((rd_T57 l0 a1).f2) ((rd_T57 l0 a1).f3) true _ A9.out).mono ?_); rintro e w13 ⟨rfl, hb⟩; replace HB := bst HB hb; (try clear hb); have p292 : 0 ≤ (a1 : Int) := dcd; have q292 : a1 < (l0.length : Int) := dcd; obtain ⟨ad292, e292, hx292_0, hx292_1, hx292_2, hx292_3⟩ := at_T57 HR0.out a1 p292 q292; obtain rfl : ad290 = ad292 := (by injection e292); replace hx292_0 := crd HB hx292_0; replace hx292_1 := crd HB hx292_1; replace hx292_2 := crd HB hx292_2; replace hx292_3 := crd HB hx292_3; replace p292 := eq_true p292; replace q292 := eq_true q292) | (go_at_call 64; (with_reducible refine (impl_isColName.calls k ((rd_T57 l0 a1).f0) t293 _ A12.out).mono ?_); rintro e w' ⟨rfl, ⟨nd, rfl⟩⟩))
            go_meet
            case rel => exact ⟨_, (!t293), sr, H', ⟨by first | omega | exact Nat.le_refl _⟩, ⟨below_later HB.out⟩⟩
          · rw [if_neg c11] at H
            have c11b0 : decide (0 < a1) = false := decide_eq_false c11
            clear c11
            have H' := Aside0.mk H
            clear H
            have p290 : 0 ≤ (a1 : Int) := dcd
            have q290 : a1 < (l0.length : Int) := dcd
            obtain ⟨ad290, e290, hx290_0, hx290_1, hx290_2, hx290_3⟩ := at_T57 HR0.out a1 p290 q290
            cases e290
            replace hx290_0 := crd HB hx290_0
            replace hx290_1 := crd HB hx290_1
            replace hx290_2 := crd HB hx290_2
            replace hx290_3 := crd HB hx290_3
            replace p290 := eq_true p290
            replace q290 := eq_true q290
            go_wp2_with (first | (go_at_call 63; (with_reducible refine (impl_colOk.calls ((rd_T57 l0 a1).f0) ((rd_T57 l0 a1).f1) ((rd_T57 l0 a1).f2) ((rd_T57 l0 a1).f3) true _ A9.out).mono ?_); rintro e w14 ⟨rfl, hb⟩; replace HB := bst HB hb; (try clear hb)))
            go_meet
            case rel => exact ⟨_, (false), sr, H', ⟨by first | omega | exact Nat.le_refl _⟩, ⟨below_later HB.out⟩⟩
        · replace c10 := Bool.eq_false_iff.mpr c10
          subst c10
          replace H := ifn Bool.false_ne_true H
          have H' := Aside0.mk H
          clear H
          have p290 : 0 ≤ (a1 : Int) := dcd
          have q290 : a1 < (l0.length : Int) := dcd
          obtain ⟨ad290, e290, hx290_0, hx290_1, hx290_2, hx290_3⟩ := at_T57 HR0.out a1 p290 q290
          cases e290
          replace hx290_0 := crd HB hx290_0
          replace hx290_1 := crd HB hx290_1
          replace hx290_2 := crd HB hx290_2
          replace hx290_3 := crd HB hx290_3
          replace p290 := eq_true p290
          replace q290 := eq_true q290
          go_wp2_with (first | (go_at_call 63; (with_reducible refine (impl_colOk.calls ((rd_T57 l0 a1).f0) ((rd_T57 l0 a1).f1) ((rd_T57 l0 a1).f2) ((rd_T57 l0 a1).f3) false _ A9.out).mono ?_); rintro e w15 ⟨rfl, hb⟩; replace HB := bst HB hb; (try clear hb)))
          go_meet
          case rel => exact ⟨_, (true), sr, H', ⟨by first | omega | exact Nat.le_refl _⟩, ⟨below_later HB.out⟩⟩
  case rest =>
    clear HC4
    obtain ⟨kq, x39_3, rfl, HA, HJ3, HB⟩ := hcut
    cases kq with
    | zero => exact absurd HA.out (by simp [impl_colAfter.j0])
    | succ kj3 =>
      have H := HA.out
      clear HA
      simp only [impl_colAfter.j0] at H
      by_cases c16 : x39_3 = true
      · subst c16
        replace H := ifp rfl H
        obtain rfl := Option.some.inj H
        go_wp2
        go_ret
        exact fin_ (below_later HB.out)
      · replace c16 := Bool.eq_false_iff.mpr c16
        subst c16
        replace H := ifn Bool.false_ne_true H
        obtain ⟨y294, hy294⟩ : ∃ y_ : List ByteArray, y_ = (([] : List ByteArray)) := ⟨_, rfl⟩
        replace H : (if 0 ≤ a1 then (if a1 < (l0.length : Int) then (impl_colAfter.l0 kj3 l0 a2 (wrap64 (a1 + 1)) y294 ((rd_T57 l0 a1).f3) 0) else (none)) else (none)) = some r := by first | (rw [hy294]; with_reducible exact H) | (rw [hy294]; exact H) | exact H
        have Ny294 := Aside0.mk hy294
        clear hy294
        replace H := ifd H
        obtain ⟨c17b0, H⟩ := H
        replace H := ifd H
        obtain ⟨c18b0, H⟩ := H
        have H' := Aside0.mk H
        clear H
        go_wp2_with (first | ((with_reducible refine gate_dst (N := 42) rfl ?_); refine Kd.R_lit Kd.string _ 9 ?hg (N := 42) ?hd (xs := ([] : List ByteArray)) (inner := []) (ok := fun _ => True) (okp := fun _ => True) ?hr ?hp (fun _ hk => hk) trivial (Below.refl _ _) (Nat.le_refl _) (by simp) ?_; (case hd => rfl); (case hg => rfl); (case hr => first | (go_simp; done) | (go_simp; rfl)); (case hp => exact (Reps.none _ _)); intro v295 w19 ho20 hb hg_ hnew_; clear hg_ hnew_; (first | rw [← Ny294.out] at ho20 | (simp only [Int.reduceToNat] at ho20; rw [← Ny294.out] at ho20)); have HO296 := Aside0.mk (Kd.R_lower ho20 (below_size (below_later HB.out))); replace HB := bst HB hb; clear hb ho20; have p297 : 0 ≤ (a1 : Int) := dcd; have q297 : a1 < (l0.length : Int) := dcd; obtain ⟨ad297, e297, hx297_0, hx297_1, hx297_2, hx297_3⟩ := at_T57 HR0.out a1 p297 q297; cases e297; replace hx297_0 := crd HB hx297_0; replace hx297_1 := crd HB hx297_1; replace hx297_2 := crd HB hx297_2; replace hx297_3 := crd HB hx297_3; replace p297 := eq_true p297; replace q297 := eq_true q297))
        go_loopg [7, 8, 48] kj3 (fun kq v7 v8 v48 w' => ∃ (x7_2 : Int) (x8_2 : List ByteArray) (x48_2 : Int), v7 = .int .i64 x7_2 ∧ v48 = .int .i64 x48_2 ∧ Aside0 (impl_colAfter.l0 kq l0 a2 x7_2 x8_2 ((rd_T57 l0 a1).f3) x48_2 = some r) ∧ Aside0 (kq ≤ kj3) ∧ Aside0 (Kd.R Kd.string 9 w' w.heap.size (fun _ => True) v8 x8_2) ∧ Aside0 (Below w.heap.size w w'))
        case atStart => exact ⟨(wrap64 (a1 + 1)), (y294), (0), sr, sr, H', ⟨Nat.le_refl _⟩, ⟨R_later HO296.out⟩, ⟨below_later HB.out⟩⟩
        case round =>
          clear H'
          try clear c16
          try clear c17b0
          try clear c18b0
          try clear hx297_0
          try clear hx297_1
          try clear hx297_2
          try clear hx297_3
          try clear p297
          try clear q297
          obtain ⟨x7_2, x8_2, x48_2, rfl, rfl, HA, HK2, HO_8, HB⟩ := hrel
          cases gk with
          | zero => exact absurd HA.out (by simp [impl_colAfter.l0])
          | succ k2 =>
            have H := HA.out
            clear HA
            simp only [impl_colAfter.l0] at H
            by_cases c21 : x48_2 < ((rd_T57 l0 a1).f3)
            · rw [if_pos c21] at H
              have c21b0 := decide_eq_true c21
              clear c21
              by_cases c22 : x7_2 ≥ (l0.length : Int)
              · rw [if_pos c22] at H
                have c22b0 : decide ((l0.length : Int) ≤ x7_2) = true := decide_eq_true c22
                clear c22
                obtain rfl := Option.some.inj H
                go_wp2
                go_ret
                exact fin_ (below_later HB.out)
              · rw [if_neg c22] at H
                have c22b0 : decide ((l0.length : Int) ≤ x7_2) = false := decide_eq_false c22
                clear c22
                have H' := Aside0.mk H
                clear H
                obtain ⟨Ao23, co23, eo23⟩ := Kd.R_slice HO_8.out
                subst eo23
                go_wp2
                go_loopg [56] k2 (fun kq v56 w' => ∃ (x56_3 : Int), v56 = .int .i64 x56_3 ∧ Aside0 (impl_colAfter.l1 kq l0 a2 x7_2 x8_2 ((rd_T57 l0 a1).f3) x48_2 (x8_2.length : Int) x56_3 = some r) ∧ Aside0 (kq ≤ k2) ∧ Aside0 (Kd.R Kd.string 9 w' w.heap.size (fun _ => True) (.slice Ao23 x8_2.length co23) x8_2) ∧ Aside0 (Below w.heap.size w w'))
                case atStart => exact ⟨(0), sr, H', ⟨Nat.le_refl _⟩, ⟨R_later HO_8.out⟩, ⟨below_later HB.out⟩⟩
                case round =>
                  clear H'
                  try clear c16
                  try clear c17b0
                  try clear c18b0
                  try clear c21
                  try clear c21b0
                  try clear c22
                  try clear c22b0
                  try clear hx297_0
                  try clear hx297_1
                  try clear hx297_2
                  try clear hx297_3
                  try clear p297
                  try clear q297
                  obtain ⟨x56_3, rfl, HA, HK3, HO_8, HB⟩ := hrel
                  cases gk with
                  | zero => exact absurd HA.out (by simp [impl_colAfter.l1])
                  | succ k3 =>
                    have H := HA.out
                    clear HA
                    simp only [impl_colAfter.l1] at H
                    by_cases c24 : x56_3 < (x8_2.length : Int)
                    · rw [if_pos c24] at H
                      have c24b0 := decide_eq_true c24
                      clear c24
                      replace H := ifd H
                      obtain ⟨c25b0, H⟩ := H
                      replace H := ifd H
                      obtain ⟨c26b0, H⟩ := H
                      replace H := ifd H
                      obtain ⟨c27b0, H⟩ := H
                      replace H := ifd H
                      obtain ⟨c28b0, H⟩ := H
                      by_cases c29 : (rdOf ByteArray.empty x8_2 x56_3).toList = ((rd_T57 l0 x7_2).f0).toList
                      · rw [if_pos c29] at H
                        have c29b0 : ((rdOf ByteArray.empty x8_2 x56_3).toList == ((rd_T57 l0 x7_2).f0).toList) = true := beq_iff_eq.mpr c29
                        have c29b1 : ((rdOf ByteArray.empty x8_2 x56_3).toList != ((rd_T57 l0 x7_2).f0).toList) = false := bne_eq_false_iff_eq.mpr c29
                        clear c29
                        obtain rfl := Option.some.inj H
                        have p298 : 0 ≤ (x56_3 : Int) := dcd
                        have q298 : x56_3 < (x8_2.length : Int) := dcd
                        obtain ⟨ad298, e298, hx298_0⟩ := Kd.at_string (Kd.R_reads' HO_8.out).2.2 x56_3 p298 q298
                        cases e298
                        replace p298 := eq_true p298
                        replace q298 := eq_true q298
                        have p299 : 0 ≤ (x7_2 : Int) := dcd
                        have q299 : x7_2 < (l0.length : Int) := dcd
                        obtain ⟨ad299, e299, hx299_0, hx299_1, hx299_2, hx299_3⟩ := at_T57 HR0.out x7_2 p299 q299
                        obtain rfl : ad297 = ad299 := (by injection e299)
                        replace hx299_0 := crd HB hx299_0
                        replace hx299_1 := crd HB hx299_1
                        replace hx299_2 := crd HB hx299_2
                        replace hx299_3 := crd HB hx299_3
                        replace p299 := eq_true p299
                        replace q299 := eq_true q299
                        go_wp2
                        go_ret
                        exact fin_ (below_later HB.out)
                      · rw [if_neg c29] at H
                        have c29b0 : ((rdOf ByteArray.empty x8_2 x56_3).toList == ((rd_T57 l0 x7_2).f0).toList) = false := beq_eq_false_iff_ne.mpr c29
                        have c29b1 : ((rdOf ByteArray.empty x8_2 x56_3).toList != ((rd_T57 l0 x7_2).f0).toList) = true := bne_iff_ne.mpr c29
                        have H' := Aside0.mk H
                        clear H
                        have p298 : 0 ≤ (x56_3 : Int) := dcd
                        have q298 : x56_3 < (x8_2.length : Int) := dcd
                        obtain ⟨ad298, e298, hx298_0⟩ := Kd.at_string (Kd.R_reads' HO_8.out).2.2 x56_3 p298 q298
                        cases e298
                        replace p298 := eq_true p298
                        replace q298 := eq_true q298
                        have p299 : 0 ≤ (x7_2 : Int) := dcd
                        have q299 : x7_2 < (l0.length : Int) := dcd
                        obtain ⟨ad299, e299, hx299_0, hx299_1, hx299_2, hx299_3⟩ := at_T57 HR0.out x7_2 p299 q299
                        obtain rfl : ad297 = ad299 := (by injection e299)
                        replace hx299_0 := crd HB hx299_0
                        replace hx299_1 := crd HB hx299_1
                        replace hx299_2 := crd HB hx299_2
                        replace hx299_3 := crd HB hx299_3
                        replace p299 := eq_true p299
                        replace q299 := eq_true q299
                        go_wp2
                        go_roundg k3
                        case measure => have := HJ3.out; have := HK2.out; have := HK3.out; omega
                        case rel => exact ⟨(wrap64 (x56_3 + 1)), sr, H', ⟨by have := HJ3.out; have := HK2.out; have := HK3.out; omega⟩, ⟨R_later HO_8.out⟩, ⟨below_later HB.out⟩⟩
                    · rw [if_neg c24] at H
                      have c24b0 := decide_eq_false c24
                      clear c24
                      replace H := ifd H
                      obtain ⟨c30b0, H⟩ := H
                      replace H := ifd H
                      obtain ⟨c31b0, H⟩ := H
                      replace H := ifs H
                      obtain ⟨c32, H⟩ := H
                      have LMc32 := Aside0.mk c32
                      clear c32
                      obtain ⟨y301, hy301⟩ : ∃ y_ : List ByteArray, y_ = (x8_2 ++ [(rd_T57 l0 x7_2).f0]) := ⟨_, rfl⟩
                      replace H : ((impl_colAfter.f k3 l0 x7_2 (wrap64 (a2 + 1))).bind fun t304 => (if t304 < 0 then (some (-1)) else (impl_colAfter.l0 k3 l0 a2 t304 y301 ((rd_T57 l0 a1).f3) (wrap64 (x48_2 + 1))))) = some r := by first | (rw [hy301]; with_reducible exact H) | (rw [hy301]; exact H) | exact H
                      have Ny301 := Aside0.mk hy301
                      clear hy301
                      replace H := bnd H
                      obtain ⟨t304, A33, H⟩ := H
                      by_cases c34 : t304 < 0
                      · rw [if_pos c34] at H
                        have c34b0 := decide_eq_true c34
                        clear c34
                        obtain rfl := Option.some.inj H
                        have p300 : 0 ≤ (x7_2 : Int) := dcd
                        have q300 : x7_2 < (l0.length : Int) := dcd
                        obtain ⟨ad300, e300, hx300_0, hx300_1, hx300_2, hx300_3⟩ := at_T57 HR0.out x7_2 p300 q300
                        obtain rfl : ad297 = ad300 := (by injection e300)
                        replace hx300_0 := crd HB hx300_0
                        replace hx300_1 := crd HB hx300_1
                        replace hx300_2 := crd HB hx300_2
                        replace hx300_3 := crd HB hx300_3
                        replace p300 := eq_true p300
                        replace q300 := eq_true q300
                        go_wp2_with (first | ((with_reducible refine gate_builtin (b := .append) (xs := #[.tmp 68, .tmp 74]) rfl ?_); at_builtin; refine Kd.R_append Kd.string (w0 := w) w.heap.size rfl (.tmp 68) (.tmp 74) 96 9 (.string ⟨#[]⟩) 16 rfl Try.underlying96 info9 rfl (by decide) (by omega) (.slice Ao23 x8_2.length co23) x8_2 ((rd_T57 l0 x7_2).f0) [.string ((rd_T57 l0 x7_2).f0)] (fun _ => True) (fun _ => False) rfl rfl ?aP (fun _ hk => hk.elim) ?aF ?aO ?aB ?aS ?aL ?_; (case aP => exact rfl); (case aB => exact (below_later HB.out)); (case aF => exact (fun _ _ => trivial)); (case aO => exact (R_later HO_8.out)); (case aS => exact (below_size (below_later HB.out))); (case aL => have := LMc32.out; omega); intro v302 w35 ho hb hg hat; rw [← Ny301.out] at ho; have n0_ := Aside0.mk (hb); have n1_ := Aside0.mk (ho); clear HB; clear HO_8; have HB := n0_; have HO303 := n1_; clear n0_ n1_; clear ho hb hg hat) | ((with_reducible refine gate_callee (f := 55) rfl ?_); refine gl_ (some 80) Try.func55 #[.slice (some ad297) l0.length c0, .int .i64 x7_2, .int .i64 (wrap64 (a2 + 1))] rfl ?_; (with_reducible refine (ih k3 (by have := HJ3.out; have := HK2.out; have := HK3.out; omega) _ _ l0 x7_2 (wrap64 (a2 + 1)) t304 _ ?side1 ?side2 A33.out).mono ?_); (case side1 => repeat (first | exact (Kd.C_below HR0.out HB.out) | (with_reducible refine Kd.C_alloc ?_ _) | (with_reducible refine Kd.C_drewN ?_ _) | (with_reducible refine Kd.C_drew ?_))); (case side2 => exact HC0.out); rintro e w36 ⟨rfl, hb⟩; refine ⟨_, rfl, ?_⟩; replace HO303 := Aside0.mk (Kd.R_below (R_later HO303.out) hb); replace HB := bst HB hb; (try clear hb); (try clear hk)))
                        go_ret
                        exact fin_ (below_later HB.out)
                      · rw [if_neg c34] at H
                        have c34b0 := decide_eq_false c34
                        clear c34
                        have H' := Aside0.mk H
                        clear H
                        have p300 : 0 ≤ (x7_2 : Int) := dcd
                        have q300 : x7_2 < (l0.length : Int) := dcd
                        obtain ⟨ad300, e300, hx300_0, hx300_1, hx300_2, hx300_3⟩ := at_T57 HR0.out x7_2 p300 q300
                        obtain rfl : ad297 = ad300 := (by injection e300)
                        replace hx300_0 := crd HB hx300_0
                        replace hx300_1 := crd HB hx300_1
                        replace hx300_2 := crd HB hx300_2
                        replace hx300_3 := crd HB hx300_3
                        replace p300 := eq_true p300
                        replace q300 := eq_true q300
                        go_wp2_with (first | ((with_reducible refine gate_builtin (b := .append) (xs := #[.tmp 68, .tmp 74]) rfl ?_); at_builtin; refine Kd.R_append Kd.string (w0 := w) w.heap.size rfl (.tmp 68) (.tmp 74) 96 9 (.string ⟨#[]⟩) 16 rfl Try.underlying96 info9 rfl (by decide) (by omega) (.slice Ao23 x8_2.length co23) x8_2 ((rd_T57 l0 x7_2).f0) [.string ((rd_T57 l0 x7_2).f0)] (fun _ => True) (fun _ => False) rfl rfl ?aP (fun _ hk => hk.elim) ?aF ?aO ?aB ?aS ?aL ?_; (case aP => exact rfl); (case aB => exact (below_later HB.out)); (case aF => exact (fun _ _ => trivial)); (case aO => exact (R_later HO_8.out)); (case aS => exact (below_size (below_later HB.out))); (case aL => have := LMc32.out; omega); intro v302 w37 ho hb hg hat; rw [← Ny301.out] at ho; have n0_ := Aside0.mk (hb); have n1_ := Aside0.mk (ho); clear HB; clear HO_8; have HB := n0_; have HO303 := n1_; clear n0_ n1_; clear ho hb hg hat) | ((with_reducible refine gate_callee (f := 55) rfl ?_); refine gl_ (some 80) Try.func55 #[.slice (some ad297) l0.length c0, .int .i64 x7_2, .int .i64 (wrap64 (a2 + 1))] rfl ?_; (with_reducible refine (ih k3 (by have := HJ3.out; have := HK2.out; have := HK3.out; omega) _ _ l0 x7_2 (wrap64 (a2 + 1)) t304 _ ?side1 ?side2 A33.out).mono ?_); (case side1 => repeat (first | exact (Kd.C_below HR0.out HB.out) | (with_reducible refine Kd.C_alloc ?_ _) | (with_reducible refine Kd.C_drewN ?_ _) | (with_reducible refine Kd.C_drew ?_))); (case side2 => exact HC0.out); rintro e w38 ⟨rfl, hb⟩; refine ⟨_, rfl, ?_⟩; replace HO303 := Aside0.mk (Kd.R_below (R_later HO303.out) hb); replace HB := bst HB hb; (try clear hb); (try clear hk)))
                        go_roundg k3
                        case measure => have := HJ3.out; have := HK2.out; have := HK3.out; omega
                        case rel => exact ⟨(t304), (y301), (wrap64 (x48_2 + 1)), sr, sr, H', ⟨by have := HJ3.out; have := HK2.out; have := HK3.out; omega⟩, ⟨R_later HO303.out⟩, ⟨below_later HB.out⟩⟩
            · rw [if_neg c21] at H
              have c21b0 := decide_eq_false c21
              clear c21
              obtain rfl := Option.some.inj H
              go_wp2
              go_ret
              exact fin_ (below_later HB.out)
/-! ### impl_SchemaOk: function 41 -/
def impl_SchemaOk.f (k : Nat) (l0 : List (S57)) : Option (Bool) := (impl_within.f (l0.length : Int) 2 20).bind fun t305 => (if t305 = true then (if 0 < (l0.length : Int) then (if ((rd_T57 l0 0).f1) = 7 then (if ((rd_T57 l0 0).f2) = 0 then (if ((rd_T57 l0 0).f0).toList = ([] : List UInt8) then ((impl_colAfter.f k l0 0 1).bind fun t309 => (some (t309 == (l0.length : Int)))) else (some false)) else (some false)) else (some false)) else (none)) else (some false))
set_option maxHeartbeats 8000000 in
set_option maxRecDepth 100000 in
theorem impl_SchemaOk.calls (k : Nat) (A0 : Option Addr) (c0 : Nat) (l0 : List (S57)) (r : Bool) (w : World) (hr0 : Kd.C k57 w A0 l0.length l0) (hc0 : l0.length ≤ c0) (h : impl_SchemaOk.f k l0 = some r) :
    Calls Try.prog 41 #[.slice A0 l0.length c0] w fun e w' => e = .returned (.bool r) ∧ Below w.heap.size w w' := by
  have HR0 := Aside0.mk hr0
  have HC0 := Aside0.mk hc0
  clear hr0 hc0
  have HB := Aside0.mk (Below.refl w.heap.size w)
  have H : ((impl_within.f (l0.length : Int) 2 20).bind fun t305 => (if t305 = true then (if 0 < (l0.length : Int) then (if ((rd_T57 l0 0).f1) = 7 then (if ((rd_T57 l0 0).f2) = 0 then (if ((rd_T57 l0 0).f0).toList = ([] : List UInt8) then ((impl_colAfter.f k l0 0 1).bind fun t309 => (some (t309 == (l0.length : Int)))) else (some false)) else (some false)) else (some false)) else (none)) else (some false))) = some r := h
  clear h
  replace H := bnd H
  obtain ⟨t305, A2, H⟩ := H
  by_cases c3 : t305 = true
  · subst c3
    replace H := ifp rfl H
    replace H := ifs H
    obtain ⟨c4, H⟩ := H
    have c4b0 := decide_eq_true c4
    have c4b1 : decide (0 < l0.length) = true := decide_eq_true (by omega)
    clear c4
    by_cases c5 : ((rd_T57 l0 0).f1) = 7
    · rw [if_pos c5] at H
      have c5b0 : (((rd_T57 l0 0).f1) == 7) = true := beq_iff_eq.mpr c5
      have c5b1 : (((rd_T57 l0 0).f1) != 7) = false := bne_eq_false_iff_eq.mpr c5
      clear c5
      by_cases c6 : ((rd_T57 l0 0).f2) = 0
      · rw [if_pos c6] at H
        have c6b0 : (((rd_T57 l0 0).f2) == 0) = true := beq_iff_eq.mpr c6
        have c6b1 : (((rd_T57 l0 0).f2) != 0) = false := bne_eq_false_iff_eq.mpr c6
        clear c6
        by_cases c7 : ((rd_T57 l0 0).f0).toList = ([] : List UInt8)
        · rw [if_pos c7] at H
          have c7b0 : (((rd_T57 l0 0).f0).toList == ([] : List UInt8)) = true := beq_iff_eq.mpr c7
          have c7b1 : (((rd_T57 l0 0).f0).toList != ([] : List UInt8)) = false := bne_eq_false_iff_eq.mpr c7
          clear c7
          replace H := bnd H
          obtain ⟨t309, A8, H⟩ := H
          obtain rfl := Option.some.inj H
          go_enter Try.func41, Try.ntmps41
          go_wp2_with (first | ((with_reducible refine gate_callee (f := 42) rfl ?_); refine gl_ (some 5) Try.func42 #[.int .i64 (l0.length : Int), .int .i64 2, .int .i64 20] rfl ?_; (with_reducible refine (impl_within.calls (l0.length : Int) 2 20 true _ A2.out).mono ?_); rintro e w' ⟨rfl, ⟨nd, rfl⟩⟩; refine ⟨_, rfl, ?_⟩; have p306 : 0 ≤ (0 : Int) := (by omega); have q306 : 0 < (l0.length : Int) := dcd; obtain ⟨ad306, e306, hx306_0, hx306_1, hx306_2, hx306_3⟩ := at_T57 HR0.out 0 p306 q306; cases e306; have qi306 : (0 < l0.length) = True := eq_true (by omega); (try rw [show ((0 : Int)).toNat = 0 from rfl] at hx306_0); (try rw [show 0 * 4 = 0 from rfl] at hx306_0); (try rw [Addr.add_zero'] at hx306_0); (try rw [show ((0 : Int)).toNat = 0 from rfl] at hx306_1); (try rw [show 0 * 4 = 0 from rfl] at hx306_1); (try rw [Addr.add_zero'] at hx306_1); (try rw [show ((0 : Int)).toNat = 0 from rfl] at hx306_2); (try rw [show 0 * 4 = 0 from rfl] at hx306_2); (try rw [Addr.add_zero'] at hx306_2); (try rw [show ((0 : Int)).toNat = 0 from rfl] at hx306_3); (try rw [show 0 * 4 = 0 from rfl] at hx306_3); (try rw [Addr.add_zero'] at hx306_3); replace p306 := eq_true p306; replace q306 := eq_true q306; have p307 : 0 ≤ (0 : Int) := (by omega); have q307 : 0 < (l0.length : Int) := dcd; obtain ⟨ad307, e307, hx307_0, hx307_1, hx307_2, hx307_3⟩ := at_T57 HR0.out 0 p307 q307; obtain rfl : ad306 = ad307 := (by injection e307); have qi307 : (0 < l0.length) = True := eq_true (by omega); (try rw [show ((0 : Int)).toNat = 0 from rfl] at hx307_0); (try rw [show 0 * 4 = 0 from rfl] at hx307_0); (try rw [Addr.add_zero'] at hx307_0); (try rw [show ((0 : Int)).toNat = 0 from rfl] at hx307_1); (try rw [show 0 * 4 = 0 from rfl] at hx307_1); (try rw [Addr.add_zero'] at hx307_1); (try rw [show ((0 : Int)).toNat = 0 from rfl] at hx307_2); (try rw [show 0 * 4 = 0 from rfl] at hx307_2); (try rw [Addr.add_zero'] at hx307_2); (try rw [show ((0 : Int)).toNat = 0 from rfl] at hx307_3); (try rw [show 0 * 4 = 0 from rfl] at hx307_3); (try rw [Addr.add_zero'] at hx307_3); replace p307 := eq_true p307; replace q307 := eq_true q307; have p308 : 0 ≤ (0 : Int) := (by omega); have q308 : 0 < (l0.length : Int) := dcd; obtain ⟨ad308, e308, hx308_0, hx308_1, hx308_2, hx308_3⟩ := at_T57 HR0.out 0 p308 q308; obtain rfl : ad306 = ad308 := (by injection e308); have qi308 : (0 < l0.length) = True := eq_true (by omega); (try rw [show ((0 : Int)).toNat = 0 from rfl] at hx308_0); (try rw [show 0 * 4 = 0 from rfl] at hx308_0); (try rw [Addr.add_zero'] at hx308_0); (try rw [show ((0 : Int)).toNat = 0 from rfl] at hx308_1); (try rw [show 0 * 4 = 0 from rfl] at hx308_1); (try rw [Addr.add_zero'] at hx308_1); (try rw [show ((0 : Int)).toNat = 0 from rfl] at hx308_2); (try rw [show 0 * 4 = 0 from rfl] at hx308_2); (try rw [Addr.add_zero'] at hx308_2); (try rw [show ((0 : Int)).toNat = 0 from rfl] at hx308_3); (try rw [show 0 * 4 = 0 from rfl] at hx308_3); (try rw [Addr.add_zero'] at hx308_3); replace p308 := eq_true p308; replace q308 := eq_true q308) | ((with_reducible refine gate_callee (f := 55) rfl ?_); refine gl_ (some 29) Try.func55 #[.slice (some ad306) l0.length c0, .int .i64 0, .int .i64 1] rfl ?_; (with_reducible refine (impl_colAfter.calls k _ _ l0 0 1 t309 _ ?side1 ?side2 A8.out).mono ?_); (case side1 => exact C_later HR0.out); (case side2 => exact HC0.out); rintro e w9 ⟨rfl, hb⟩; refine ⟨_, rfl, ?_⟩; replace HB := bst HB hb; (try clear hb)))
          go_ret
          exact fin_ (below_later HB.out)
        · rw [if_neg c7] at H
          have c7b0 : (((rd_T57 l0 0).f0).toList == ([] : List UInt8)) = false := beq_eq_false_iff_ne.mpr c7
          have c7b1 : (((rd_T57 l0 0).f0).toList != ([] : List UInt8)) = true := bne_iff_ne.mpr c7
          obtain rfl := Option.some.inj H
          go_enter Try.func41, Try.ntmps41
          go_wp2_with (first | ((with_reducible refine gate_callee (f := 42) rfl ?_); refine gl_ (some 5) Try.func42 #[.int .i64 (l0.length : Int), .int .i64 2, .int .i64 20] rfl ?_; (with_reducible refine (impl_within.calls (l0.length : Int) 2 20 true _ A2.out).mono ?_); rintro e w' ⟨rfl, ⟨nd, rfl⟩⟩; refine ⟨_, rfl, ?_⟩; have p306 : 0 ≤ (0 : Int) := (by omega); have q306 : 0 < (l0.length : Int) := dcd; obtain ⟨ad306, e306, hx306_0, hx306_1, hx306_2, hx306_3⟩ := at_T57 HR0.out 0 p306 q306; cases e306; have qi306 : (0 < l0.length) = True := eq_true (by omega); (try rw [show ((0 : Int)).toNat = 0 from rfl] at hx306_0); (try rw [show 0 * 4 = 0 from rfl] at hx306_0); (try rw [Addr.add_zero'] at hx306_0); (try rw [show ((0 : Int)).toNat = 0 from rfl] at hx306_1); (try rw [show 0 * 4 = 0 from rfl] at hx306_1); (try rw [Addr.add_zero'] at hx306_1); (try rw [show ((0 : Int)).toNat = 0 from rfl] at hx306_2); (try rw [show 0 * 4 = 0 from rfl] at hx306_2); (try rw [Addr.add_zero'] at hx306_2); (try rw [show ((0 : Int)).toNat = 0 from rfl] at hx306_3); (try rw [show 0 * 4 = 0 from rfl] at hx306_3); (try rw [Addr.add_zero'] at hx306_3); replace p306 := eq_true p306; replace q306 := eq_true q306; have p307 : 0 ≤ (0 : Int) := (by omega); have q307 : 0 < (l0.length : Int) := dcd; obtain ⟨ad307, e307, hx307_0, hx307_1, hx307_2, hx307_3⟩ := at_T57 HR0.out 0 p307 q307; obtain rfl : ad306 = ad307 := (by injection e307); have qi307 : (0 < l0.length) = True := eq_true (by omega); (try rw [show ((0 : Int)).toNat = 0 from rfl] at hx307_0); (try rw [show 0 * 4 = 0 from rfl] at hx307_0); (try rw [Addr.add_zero'] at hx307_0); (try rw [show ((0 : Int)).toNat = 0 from rfl] at hx307_1); (try rw [show 0 * 4 = 0 from rfl] at hx307_1); (try rw [Addr.add_zero'] at hx307_1); (try rw [show ((0 : Int)).toNat = 0 from rfl] at hx307_2); (try rw [show 0 * 4 = 0 from rfl] at hx307_2); (try rw [Addr.add_zero'] at hx307_2); (try rw [show ((0 : Int)).toNat = 0 from rfl] at hx307_3); (try rw [show 0 * 4 = 0 from rfl] at hx307_3); (try rw [Addr.add_zero'] at hx307_3); replace p307 := eq_true p307; replace q307 := eq_true q307; have p308 : 0 ≤ (0 : Int) := (by omega); have q308 : 0 < (l0.length : Int) := dcd; obtain ⟨ad308, e308, hx308_0, hx308_1, hx308_2, hx308_3⟩ := at_T57 HR0.out 0 p308 q308; obtain rfl : ad306 = ad308 := (by injection e308); have qi308 : (0 < l0.length) = True := eq_true (by omega); (try rw [show ((0 : Int)).toNat = 0 from rfl] at hx308_0); (try rw [show 0 * 4 = 0 from rfl] at hx308_0); (try rw [Addr.add_zero'] at hx308_0); (try rw [show ((0 : Int)).toNat = 0 from rfl] at hx308_1); (try rw [show 0 * 4 = 0 from rfl] at hx308_1); (try rw [Addr.add_zero'] at hx308_1); (try rw [show ((0 : Int)).toNat = 0 from rfl] at hx308_2); (try rw [show 0 * 4 = 0 from rfl] at hx308_2); (try rw [Addr.add_zero'] at hx308_2); (try rw [show ((0 : Int)).toNat = 0 from rfl] at hx308_3); (try rw [show 0 * 4 = 0 from rfl] at hx308_3); (try rw [Addr.add_zero'] at hx308_3); replace p308 := eq_true p308; replace q308 := eq_true q308))
          go_ret
          exact fin_ (below_later HB.out)
      · rw [if_neg c6] at H
        have c6b0 : (((rd_T57 l0 0).f2) == 0) = false := beq_eq_false_iff_ne.mpr c6
        have c6b1 : (((rd_T57 l0 0).f2) != 0) = true := bne_iff_ne.mpr c6
        obtain rfl := Option.some.inj H
        go_enter Try.func41, Try.ntmps41
        go_wp2_with (first | ((with_reducible refine gate_callee (f := 42) rfl ?_); refine gl_ (some 5) Try.func42 #[.int .i64 (l0.length : Int), .int .i64 2, .int .i64 20] rfl ?_; (with_reducible refine (impl_within.calls (l0.length : Int) 2 20 true _ A2.out).mono ?_); rintro e w' ⟨rfl, ⟨nd, rfl⟩⟩; refine ⟨_, rfl, ?_⟩; have p306 : 0 ≤ (0 : Int) := (by omega); have q306 : 0 < (l0.length : Int) := dcd; obtain ⟨ad306, e306, hx306_0, hx306_1, hx306_2, hx306_3⟩ := at_T57 HR0.out 0 p306 q306; cases e306; have qi306 : (0 < l0.length) = True := eq_true (by omega); (try rw [show ((0 : Int)).toNat = 0 from rfl] at hx306_0); (try rw [show 0 * 4 = 0 from rfl] at hx306_0); (try rw [Addr.add_zero'] at hx306_0); (try rw [show ((0 : Int)).toNat = 0 from rfl] at hx306_1); (try rw [show 0 * 4 = 0 from rfl] at hx306_1); (try rw [Addr.add_zero'] at hx306_1); (try rw [show ((0 : Int)).toNat = 0 from rfl] at hx306_2); (try rw [show 0 * 4 = 0 from rfl] at hx306_2); (try rw [Addr.add_zero'] at hx306_2); (try rw [show ((0 : Int)).toNat = 0 from rfl] at hx306_3); (try rw [show 0 * 4 = 0 from rfl] at hx306_3); (try rw [Addr.add_zero'] at hx306_3); replace p306 := eq_true p306; replace q306 := eq_true q306; have p307 : 0 ≤ (0 : Int) := (by omega); have q307 : 0 < (l0.length : Int) := dcd; obtain ⟨ad307, e307, hx307_0, hx307_1, hx307_2, hx307_3⟩ := at_T57 HR0.out 0 p307 q307; obtain rfl : ad306 = ad307 := (by injection e307); have qi307 : (0 < l0.length) = True := eq_true (by omega); (try rw [show ((0 : Int)).toNat = 0 from rfl] at hx307_0); (try rw [show 0 * 4 = 0 from rfl] at hx307_0); (try rw [Addr.add_zero'] at hx307_0); (try rw [show ((0 : Int)).toNat = 0 from rfl] at hx307_1); (try rw [show 0 * 4 = 0 from rfl] at hx307_1); (try rw [Addr.add_zero'] at hx307_1); (try rw [show ((0 : Int)).toNat = 0 from rfl] at hx307_2); (try rw [show 0 * 4 = 0 from rfl] at hx307_2); (try rw [Addr.add_zero'] at hx307_2); (try rw [show ((0 : Int)).toNat = 0 from rfl] at hx307_3); (try rw [show 0 * 4 = 0 from rfl] at hx307_3); (try rw [Addr.add_zero'] at hx307_3); replace p307 := eq_true p307; replace q307 := eq_true q307))
        go_ret
        exact fin_ (below_later HB.out)
    · rw [if_neg c5] at H
      have c5b0 : (((rd_T57 l0 0).f1) == 7) = false := beq_eq_false_iff_ne.mpr c5
      have c5b1 : (((rd_T57 l0 0).f1) != 7) = true := bne_iff_ne.mpr c5
      obtain rfl := Option.some.inj H
      go_enter Try.func41, Try.ntmps41
      go_wp2_with (first | ((with_reducible refine gate_callee (f := 42) rfl ?_); refine gl_ (some 5) Try.func42 #[.int .i64 (l0.length : Int), .int .i64 2, .int .i64 20] rfl ?_; (with_reducible refine (impl_within.calls (l0.length : Int) 2 20 true _ A2.out).mono ?_); rintro e w' ⟨rfl, ⟨nd, rfl⟩⟩; refine ⟨_, rfl, ?_⟩; have p306 : 0 ≤ (0 : Int) := (by omega); have q306 : 0 < (l0.length : Int) := dcd; obtain ⟨ad306, e306, hx306_0, hx306_1, hx306_2, hx306_3⟩ := at_T57 HR0.out 0 p306 q306; cases e306; have qi306 : (0 < l0.length) = True := eq_true (by omega); (try rw [show ((0 : Int)).toNat = 0 from rfl] at hx306_0); (try rw [show 0 * 4 = 0 from rfl] at hx306_0); (try rw [Addr.add_zero'] at hx306_0); (try rw [show ((0 : Int)).toNat = 0 from rfl] at hx306_1); (try rw [show 0 * 4 = 0 from rfl] at hx306_1); (try rw [Addr.add_zero'] at hx306_1); (try rw [show ((0 : Int)).toNat = 0 from rfl] at hx306_2); (try rw [show 0 * 4 = 0 from rfl] at hx306_2); (try rw [Addr.add_zero'] at hx306_2); (try rw [show ((0 : Int)).toNat = 0 from rfl] at hx306_3); (try rw [show 0 * 4 = 0 from rfl] at hx306_3); (try rw [Addr.add_zero'] at hx306_3); replace p306 := eq_true p306; replace q306 := eq_true q306))
      go_ret
      exact fin_ (below_later HB.out)
  · replace c3 := Bool.eq_false_iff.mpr c3
    subst c3
    replace H := ifn Bool.false_ne_true H
    obtain rfl := Option.some.inj H
    go_enter Try.func41, Try.ntmps41
    go_wp2_with (first | ((with_reducible refine gate_callee (f := 42) rfl ?_); refine gl_ (some 5) Try.func42 #[.int .i64 (l0.length : Int), .int .i64 2, .int .i64 20] rfl ?_; (with_reducible refine (impl_within.calls (l0.length : Int) 2 20 false _ A2.out).mono ?_); rintro e w' ⟨rfl, ⟨nd, rfl⟩⟩; refine ⟨_, rfl, ?_⟩))
    go_ret
    exact fin_ (below_later HB.out)

/-! ### impl_leavesOf: function 25 -/
def impl_leavesOf.l0 : Nat → List Int → List (S57) → Int → Int → Option (List Int)
  | 0, _, _, _, _ => none
  | k + 1, x3, x7, x8, x9 => if x9 < x8 then (if 0 ≤ x9 then (if x9 < (x7.length : Int) then (if ((rd_T57 x7 x9).f1) = 7 then (impl_leavesOf.l0 k x3 x7 x8 (wrap64 (x9 + 1))) else (if x3.length < 17592186044416 then (impl_leavesOf.l0 k (x3 ++ [x9]) x7 x8 (wrap64 (x9 + 1))) else (none))) else (none)) else (none)) else (some x3)
def impl_leavesOf.f (k : Nat) (l0 : List (S57)) : Option (List Int) := impl_leavesOf.l0 k (([] : List Int)) l0 (l0.length : Int) 0
set_option maxHeartbeats 8000000 in
set_option maxRecDepth 100000 in
theorem impl_leavesOf.calls (k : Nat) (A0 : Option Addr) (c0 : Nat) (l0 : List (S57)) (r : List Int) (w : World) (hr0 : Kd.C k57 w A0 l0.length l0) (hc0 : l0.length ≤ c0) (h : impl_leavesOf.f k l0 = some r) :
    Calls Try.prog 25 #[.slice A0 l0.length c0] w fun e w' => ∃ v0_ : Value, e = .returned (v0_) ∧ Kd.R (Kd.int .i64) 3 w' w.heap.size (fun _ => True) v0_ r ∧ Below w.heap.size w w' := by
  have hu57 := Try.underlying57
  have HR0 := Aside0.mk hr0
  have HC0 := Aside0.mk hc0
  clear hr0 hc0
  have HB := Aside0.mk (Below.refl w.heap.size w)
  have H : (impl_leavesOf.l0 k (([] : List Int)) l0 (l0.length : Int) 0) = some r := h
  clear h
  obtain ⟨y310, hy310⟩ : ∃ y_ : List Int, y_ = (([] : List Int)) := ⟨_, rfl⟩
  replace H : (impl_leavesOf.l0 k y310 l0 (l0.length : Int) 0) = some r := by first | (rw [hy310]; with_reducible exact H) | (rw [hy310]; exact H) | exact H
  have Ny310 := Aside0.mk hy310
  clear hy310
  have H' := Aside0.mk H
  clear H
  go_enter Try.func25, Try.ntmps25
  go_wp2_with (first | ((with_reducible refine gate_dst (N := 6) rfl ?_); refine Kd.R_lit (Kd.int .i64) _ 3 ?hg (N := 6) ?hd (xs := ([] : List Int)) (inner := []) (ok := fun _ => True) (okp := fun _ => True) ?hr ?hp (fun _ hk => hk) trivial (Below.refl _ _) (Nat.le_refl _) (by simp) ?_; (case hd => rfl); (case hg => rfl); (case hr => first | (go_simp; done) | (go_simp; rfl)); (case hp => exact (Reps.none _ _)); intro v311 w2 ho3 hb hg_ hnew_; clear hg_ hnew_; (first | rw [← Ny310.out] at ho3 | (simp only [Int.reduceToNat] at ho3; rw [← Ny310.out] at ho3)); have HO312 := Aside0.mk (Kd.R_lower ho3 (below_size (below_later HB.out))); replace HB := bst HB hb; clear hb ho3))
  go_loopg [3, 9] k (fun kq v3 v9 w' => ∃ (x3_1 : List Int) (x9_1 : Int), v9 = .int .i64 x9_1 ∧ Aside0 (impl_leavesOf.l0 kq x3_1 l0 (l0.length : Int) x9_1 = some r) ∧ Aside0 (kq ≤ k) ∧ Aside0 (Kd.R (Kd.int .i64) 3 w' w.heap.size (fun _ => True) v3 x3_1) ∧ Aside0 (Below w.heap.size w w'))
  case atStart => exact ⟨(y310), (0), sr, H', ⟨Nat.le_refl _⟩, ⟨R_later HO312.out⟩, ⟨below_later HB.out⟩⟩
  case round =>
    clear H'
    obtain ⟨x3_1, x9_1, rfl, HA, HK1, HO_3, HB⟩ := hrel
    cases gk with
    | zero => exact absurd HA.out (by simp [impl_leavesOf.l0])
    | succ k1 =>
      have H := HA.out
      clear HA
      simp only [impl_leavesOf.l0] at H
      by_cases c4 : x9_1 < (l0.length : Int)
      · rw [if_pos c4] at H
        have c4b0 := decide_eq_true c4
        clear c4
        replace H := ifd H
        obtain ⟨c5b0, H⟩ := H
        replace H := ifd H
        obtain ⟨c6b0, H⟩ := H
        by_cases c7 : ((rd_T57 l0 x9_1).f1) = 7
        · rw [if_pos c7] at H
          have c7b0 : (((rd_T57 l0 x9_1).f1) == 7) = true := beq_iff_eq.mpr c7
          have c7b1 : (((rd_T57 l0 x9_1).f1) != 7) = false := bne_eq_false_iff_eq.mpr c7
          clear c7
          have H' := Aside0.mk H
          clear H
          have p313 : 0 ≤ (x9_1 : Int) := dcd
          have q313 : x9_1 < (l0.length : Int) := dcd
          obtain ⟨ad313, e313, hx313_0, hx313_1, hx313_2, hx313_3⟩ := at_T57 HR0.out x9_1 p313 q313
          cases e313
          replace hx313_0 := crd HB hx313_0
          replace hx313_1 := crd HB hx313_1
          replace hx313_2 := crd HB hx313_2
          replace hx313_3 := crd HB hx313_3
          replace p313 := eq_true p313
          replace q313 := eq_true q313
          go_wp2_with (first | ((with_reducible refine gate_dst (N := 5) rfl ?_); refine bx_ 5 #[.string (⟨#[]⟩ : ByteArray), .int .i64 0, .int .i64 0, .int .i64 0] 57 ?_; intro gb314 hg w8 hbox hb; have BK314 := Aside0.mk (hbox); have GW314 := gwe HB hg; have GE314 := GW314; replace HO_3 := Aside0.mk (Kd.R_below (R_later HO_3.out) hb); replace HB := bst HB hb; clear hb hbox hg; obtain ⟨hcz9_0, hcz9_1, hcz9_2, hcz9_3, hfz9_0, hfz9_1, hfz9_2, hfz9_3⟩ := cl4 BK314))
          go_roundg k1
          case measure => have := HK1.out; omega
          case rel => exact ⟨(x3_1), (wrap64 (x9_1 + 1)), sr, H', ⟨by have := HK1.out; omega⟩, ⟨R_later (Kd.R_mono (Kd.R_far (p := ⟨gb314, 3, none⟩) (Kd.R_far (p := ⟨gb314, 2, none⟩) (Kd.R_far (p := ⟨gb314, 1, none⟩) (Kd.R_far (p := ⟨gb314, 0, none⟩) (Kd.R_types HO_3.out BK314.out (by decide)) (fun _ hk => hk.2) (.string ((rd_T57 l0 x9_1).f0))) (fun _ hk => hk.2) (.int .i64 ((rd_T57 l0 x9_1).f1))) (fun _ hk => hk.2) (.int .i64 ((rd_T57 l0 x9_1).f2))) (fun _ hk => hk.2) (.int .i64 ((rd_T57 l0 x9_1).f3))) (fun _ hk => trivial))⟩, ⟨below_later HB.out⟩⟩
        · rw [if_neg c7] at H
          have c7b0 : (((rd_T57 l0 x9_1).f1) == 7) = false := beq_eq_false_iff_ne.mpr c7
          have c7b1 : (((rd_T57 l0 x9_1).f1) != 7) = true := bne_iff_ne.mpr c7
          replace H := ifs H
          obtain ⟨c10, H⟩ := H
          have LMc10 := Aside0.mk c10
          clear c10
          obtain ⟨y315, hy315⟩ : ∃ y_ : List Int, y_ = (x3_1 ++ [x9_1]) := ⟨_, rfl⟩
          replace H : (impl_leavesOf.l0 k1 y315 l0 (l0.length : Int) (wrap64 (x9_1 + 1))) = some r := by first | (rw [hy315]; with_reducible exact H) | (rw [hy315]; exact H) | exact H
          have Ny315 := Aside0.mk hy315
          clear hy315
          have H' := Aside0.mk H
          clear H
          have p313 : 0 ≤ (x9_1 : Int) := dcd
          have q313 : x9_1 < (l0.length : Int) := dcd
          obtain ⟨ad313, e313, hx313_0, hx313_1, hx313_2, hx313_3⟩ := at_T57 HR0.out x9_1 p313 q313
          cases e313
          replace hx313_0 := crd HB hx313_0
          replace hx313_1 := crd HB hx313_1
          replace hx313_2 := crd HB hx313_2
          replace hx313_3 := crd HB hx313_3
          replace p313 := eq_true p313
          replace q313 := eq_true q313
          go_wp2_with (first | ((with_reducible refine gate_dst (N := 5) rfl ?_); refine bx_ 5 #[.string (⟨#[]⟩ : ByteArray), .int .i64 0, .int .i64 0, .int .i64 0] 57 ?_; intro gb314 hg w11 hbox hb; have BK314 := Aside0.mk (hbox); have GW314 := gwe HB hg; have GE314 := GW314; replace HO_3 := Aside0.mk (Kd.R_below (R_later HO_3.out) hb); replace HB := bst HB hb; clear hb hbox hg; obtain ⟨hcz12_0, hcz12_1, hcz12_2, hcz12_3, hfz12_0, hfz12_1, hfz12_2, hfz12_3⟩ := cl4 BK314) | ((with_reducible refine gate_builtin (b := .append) (xs := #[.tmp 17, .tmp 19]) rfl ?_); at_builtin; refine Kd.R_append (Kd.int .i64) (w0 := w) w.heap.size rfl (.tmp 17) (.tmp 19) 54 3 (.int .i64 0) 8 rfl Try.underlying54 info3 rfl (by decide) (by omega) u3 x3_1 x9_1 [.int .i64 x9_1] (fun _ => True) (fun _ => False) rfl (by first | (go_simp; done) | (go_simp; rfl)) ?aP (fun _ hk => hk.elim) ?aF ?aO ?aB ?aS ?aL ?_; (case aP => exact rfl); (case aB => exact (below_later HB.out)); (case aF => exact (fun _ _ => trivial)); (case aO => exact (by (with_reducible repeat (first | apply Kd.R_alloc | apply Kd.R_drewN | apply Kd.R_drew)); exact Kd.R_mono (Kd.R_far (p := ⟨gb314, 3, none⟩) (Kd.R_far (p := ⟨gb314, 2, none⟩) (Kd.R_far (p := ⟨gb314, 1, none⟩) (Kd.R_far (p := ⟨gb314, 0, none⟩) (Kd.R_types HO_3.out BK314.out (by decide)) (fun _ hk => hk.2) (.string ((rd_T57 l0 x9_1).f0))) (fun _ hk => hk.2) (.int .i64 ((rd_T57 l0 x9_1).f1))) (fun _ hk => hk.2) (.int .i64 ((rd_T57 l0 x9_1).f2))) (fun _ hk => hk.2) (.int .i64 ((rd_T57 l0 x9_1).f3))) (fun _ hk => trivial))); (case aS => exact (below_size (below_later HB.out))); (case aL => have := LMc10.out; omega); intro v316 w13 ho hb hg hat; rw [← Ny315.out] at ho; have n0_ := Aside0.mk (blk_grown (g := gb314) (o := .cells #[.string ((rd_T57 l0 x9_1).f0), .int .i64 ((rd_T57 l0 x9_1).f1), .int .i64 ((rd_T57 l0 x9_1).f2), .int .i64 ((rd_T57 l0 x9_1).f3)] 57 (0, 0)) (blk_later BK314.out) hg (Kd.R_ne HO_3.out BK314.out (by decide))); have n1_ := Aside0.mk (hb); have n2_ := Aside0.mk (ho); clear BK314; clear HB; clear HO_3; have BK314 := n0_; have HB := n1_; have HO317 := n2_; clear n0_ n1_ n2_; clear ho hb hg hat))
          go_roundg k1
          case measure => have := HK1.out; omega
          case rel => exact ⟨(y315), (wrap64 (x9_1 + 1)), sr, H', ⟨by have := HK1.out; omega⟩, ⟨R_later HO317.out⟩, ⟨below_later HB.out⟩⟩
      · rw [if_neg c4] at H
        have c4b0 := decide_eq_false c4
        clear c4
        obtain rfl := Option.some.inj H
        go_wp2
        go_ret
        exact ⟨_, by first | rfl | (simp [errW_none, errW_some] <;> rfl) | (simp [*, errW_none, errW_some] <;> rfl), by (with_reducible repeat (first | apply Kd.R_alloc | apply Kd.R_drewN | apply Kd.R_drew)); exact HO_3.out, below_later HB.out⟩

/-! ### impl_SchemaLeaves: function 45 -/
def impl_SchemaLeaves.f (k : Nat) (l0 : List (S57)) : Option (List Int) := (impl_SchemaOk.f k l0).bind fun t318 => (if t318 = true then ((impl_leavesOf.f k l0).bind fun t319 => (some t319)) else (some ([] : List Int)))
set_option maxHeartbeats 8000000 in
set_option maxRecDepth 100000 in
theorem impl_SchemaLeaves.calls (k : Nat) (A0 : Option Addr) (c0 : Nat) (l0 : List (S57)) (r : List Int) (w : World) (hr0 : Kd.C k57 w A0 l0.length l0) (hc0 : l0.length ≤ c0) (h : impl_SchemaLeaves.f k l0 = some r) :
    Calls Try.prog 45 #[.slice A0 l0.length c0] w fun e w' => ∃ v0_ : Value, e = .returned (v0_) ∧ Kd.R (Kd.int .i64) 3 w' w.heap.size (fun _ => True) v0_ r ∧ Below w.heap.size w w' := by
  have HR0 := Aside0.mk hr0
  have HC0 := Aside0.mk hc0
  clear hr0 hc0
  have HB := Aside0.mk (Below.refl w.heap.size w)
  have H : ((impl_SchemaOk.f k l0).bind fun t318 => (if t318 = true then ((impl_leavesOf.f k l0).bind fun t319 => (some t319)) else (some ([] : List Int)))) = some r := h
  clear h
  replace H := bnd H
  obtain ⟨t318, A2, H⟩ := H
  by_cases c3 : t318 = true
  · subst c3
    replace H := ifp rfl H
    replace H := bnd H
    obtain ⟨t319, A4, H⟩ := H
    obtain rfl := Option.some.inj H
    go_enter Try.func45, Try.ntmps45
    go_wp2_with (first | ((with_reducible refine gate_callee (f := 41) rfl ?_); refine gl_ (some 4) Try.func41 #[.slice A0 l0.length c0] rfl ?_; (with_reducible refine (impl_SchemaOk.calls k _ _ l0 true _ ?side1 ?side2 A2.out).mono ?_); (case side1 => exact C_later HR0.out); (case side2 => exact HC0.out); rintro e w5 ⟨rfl, hb⟩; refine ⟨_, rfl, ?_⟩; replace HB := bst HB hb; (try clear hb)) | ((with_reducible refine gate_callee (f := 25) rfl ?_); refine gl_ (some 7) Try.func25 #[.slice A0 l0.length c0] rfl ?_; (with_reducible refine (impl_leavesOf.calls k _ _ l0 t319 _ ?side1 ?side2 A4.out).mono ?_); (case side1 => repeat (first | exact (Kd.C_below HR0.out HB.out) | (with_reducible refine Kd.C_alloc ?_ _) | (with_reducible refine Kd.C_drewN ?_ _) | (with_reducible refine Kd.C_drew ?_))); (case side2 => exact HC0.out); rintro e w6 ⟨v320, rfl, ho0, hb⟩; refine ⟨_, rfl, ?_⟩; have HO321 := Aside0.mk (Kd.R_lower ho0 (below_size (below_later HB.out))); replace HB := bst HB hb; (try clear hb); (try clear ho0)))
    go_ret
    exact ⟨_, by first | rfl | (simp [errW_none, errW_some] <;> rfl) | (simp [*, errW_none, errW_some] <;> rfl), by (with_reducible repeat (first | apply Kd.R_alloc | apply Kd.R_drewN | apply Kd.R_drew)); exact HO321.out, below_later HB.out⟩
  · replace c3 := Bool.eq_false_iff.mpr c3
    subst c3
    replace H := ifn Bool.false_ne_true H
    obtain rfl := Option.some.inj H
    go_enter Try.func45, Try.ntmps45
    go_wp2_with (first | ((with_reducible refine gate_callee (f := 41) rfl ?_); refine gl_ (some 4) Try.func41 #[.slice A0 l0.length c0] rfl ?_; (with_reducible refine (impl_SchemaOk.calls k _ _ l0 false _ ?side1 ?side2 A2.out).mono ?_); (case side1 => exact C_later HR0.out); (case side2 => exact HC0.out); rintro e w7 ⟨rfl, hb⟩; refine ⟨_, rfl, ?_⟩; replace HB := bst HB hb; (try clear hb)))
    go_ret
    exact ⟨_, by first | rfl | (simp [errW_none, errW_some] <;> rfl) | (simp [*, errW_none, errW_some] <;> rfl), by first | exact Kd.R_nil _ _ _ _ _ | exact Kd.N_nil _ _ _ _ _ | exact Kd.V_nil _ _ _ _ _ | exact Kd.Q_nil _ _ _ _ _ | exact Kd.S_nil _ _ _ _ _, below_later HB.out⟩

end Go.Proofs.Ytlioghbcomdghaa.PFnExactPredMay
