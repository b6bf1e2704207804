/- The machine's side of FnExactRecOk, written by wip/tools/hyb.py of this repo: each Go function as a plain Lean function, and the proof that the call comes to just its answer. No condition. -/
import Derived.Test.YtfaaoljihmlbmaaPFnExactRecOkx0
import Derived.Test.YtfaaoljihmlbmaaPFnExactRecOkx5
namespace Go.Proofs.Ytfaaoljihmlbmaa.PFnExactRecOk
open Go.RowKit Go.Proofs.YtfaaoljihmlbmaaW.PrintWords Go.Proofs.YtfaaoljihmlbmaaW.PrintLast Go.Proofs.YtfaaoljihmlbmaaW.PrintMore Go.Proofs.YtfaaoljihmlbmaaW.PrintMore2
attribute [local go_sem] max2_int min2_int max_two min_two max_three min_three max_four min_four   -- for this text's walks alone
set_option linter.unusedVariables false
set_option linter.unusedSimpArgs false

/-! ### impl_colOk: function 39 -/
def impl_colOk.f (a0_0 : ByteArray) (a0_1 : Int) (a0_2 : Int) (a0_3 : Int) : Option (Bool) := if a0_1 = 7 then ((impl_TypeOk.f a0_1).bind fun t184 => (if t184 = true then (if a0_3 > 0 then ((impl_within.f a0_2 0 2).bind fun t185 => (some t185)) else (if a0_3 = 0 then ((impl_within.f a0_2 0 2).bind fun t186 => (some t186)) else (some false))) else (if a0_3 > 0 then ((impl_within.f a0_2 0 2).bind fun t187 => (some t187)) else (some false)))) else ((impl_TypeOk.f a0_1).bind fun t188 => (if t188 = true then (if a0_3 = 0 then ((impl_within.f a0_2 0 2).bind fun t189 => (some t189)) else (some false)) else (some false)))
set_option maxHeartbeats 8000000 in
set_option maxRecDepth 100000 in
theorem impl_colOk.calls (a0_0 : ByteArray) (a0_1 : Int) (a0_2 : Int) (a0_3 : Int) (r : Bool) (w : World) (h : impl_colOk.f a0_0 a0_1 a0_2 a0_3 = some r) :
    Calls Try.prog 39 #[.agg #[.string a0_0, .int .i64 a0_1, .int .i64 a0_2, .int .i64 a0_3]] w fun e w' => e = .returned (.bool r) ∧ Below w.heap.size w w' := by
  have hu44 := Try.underlying44
  have HB := Aside0.mk (Below.refl w.heap.size w)
  have H : (if a0_1 = 7 then ((impl_TypeOk.f a0_1).bind fun t184 => (if t184 = true then (if a0_3 > 0 then ((impl_within.f a0_2 0 2).bind fun t185 => (some t185)) else (if a0_3 = 0 then ((impl_within.f a0_2 0 2).bind fun t186 => (some t186)) else (some false))) else (if a0_3 > 0 then ((impl_within.f a0_2 0 2).bind fun t187 => (some t187)) else (some false)))) else ((impl_TypeOk.f a0_1).bind fun t188 => (if t188 = true then (if a0_3 = 0 then ((impl_within.f a0_2 0 2).bind fun t189 => (some t189)) else (some false)) else (some false)))) = some r := h
  clear h
  by_cases c2 : a0_1 = 7
  · rw [if_pos c2] at H
    have c2b0 : (a0_1 == 7) = true := beq_iff_eq.mpr c2
    have c2b1 : (a0_1 != 7) = false := bne_eq_false_iff_eq.mpr c2
    clear c2
    replace H := bnd H
    obtain ⟨t184, A3, H⟩ := H
    by_cases c4 : t184 = true
    · subst c4
      replace H := ifp rfl H
      by_cases c5 : a0_3 > 0
      · rw [if_pos c5] at H
        have c5b0 : decide (0 < a0_3) = true := decide_eq_true c5
        clear c5
        replace H := bnd H
        obtain ⟨t185, A6, H⟩ := H
        obtain rfl := Option.some.inj H
        go_enter Try.func39, Try.ntmps39
        go_wp2_with (first | ((with_reducible refine gate_dst (N := 1) rfl ?_); refine bx_ 1 #[.string a0_0, .int .i64 a0_1, .int .i64 a0_2, .int .i64 a0_3] 44 ?_; intro gb183 hg w7 hbox hb; have BK183 := Aside0.mk (hbox); have GW183 := gwe HB hg; have GE183 := GW183; replace HB := bst HB hb; clear hb hbox hg; obtain ⟨hcz8_0, hcz8_1, hcz8_2, hcz8_3, hfz8_0, hfz8_1, hfz8_2, hfz8_3⟩ := cl4 BK183) | ((with_reducible refine gate_callee (f := 44) rfl ?_); refine gl_ (some 15) Try.func44 #[.int .i64 a0_1] rfl ?_; (with_reducible refine (impl_TypeOk.calls a0_1 true _ A3.out).mono ?_); rintro e w' ⟨rfl, ⟨nd, rfl⟩⟩; refine ⟨_, rfl, ?_⟩) | (go_at_call 31; (with_reducible refine (impl_within.calls a0_2 0 2 t185 _ A6.out).mono ?_); rintro e w' ⟨rfl, ⟨nd, rfl⟩⟩))
        go_ret
        exact fin_ (below_later HB.out)
      · rw [if_neg c5] at H
        have c5b0 : decide (0 < a0_3) = false := decide_eq_false c5
        clear c5
        by_cases c9 : a0_3 = 0
        · rw [if_pos c9] at H
          have c9b0 : (a0_3 == 0) = true := beq_iff_eq.mpr c9
          have c9b1 : (a0_3 != 0) = false := bne_eq_false_iff_eq.mpr c9
          clear c9
          replace H := bnd H
          obtain ⟨t186, A10, H⟩ := H
          obtain rfl := Option.some.inj H
          go_enter Try.func39, Try.ntmps39
          go_wp2_with (first | ((with_reducible refine gate_dst (N := 1) rfl ?_); refine bx_ 1 #[.string a0_0, .int .i64 a0_1, .int .i64 a0_2, .int .i64 a0_3] 44 ?_; intro gb183 hg w11 hbox hb; have BK183 := Aside0.mk (hbox); have GW183 := gwe HB hg; have GE183 := GW183; replace HB := bst HB hb; clear hb hbox hg; obtain ⟨hcz12_0, hcz12_1, hcz12_2, hcz12_3, hfz12_0, hfz12_1, hfz12_2, hfz12_3⟩ := cl4 BK183) | ((with_reducible refine gate_callee (f := 44) rfl ?_); refine gl_ (some 15) Try.func44 #[.int .i64 a0_1] rfl ?_; (with_reducible refine (impl_TypeOk.calls a0_1 true _ A3.out).mono ?_); rintro e w' ⟨rfl, ⟨nd, rfl⟩⟩; refine ⟨_, rfl, ?_⟩) | (go_at_call 31; (with_reducible refine (impl_within.calls a0_2 0 2 t186 _ A10.out).mono ?_); rintro e w' ⟨rfl, ⟨nd, rfl⟩⟩))
          go_ret
          exact fin_ (below_later HB.out)
        · rw [if_neg c9] at H
          have c9b0 : (a0_3 == 0) = false := beq_eq_false_iff_ne.mpr c9
          have c9b1 : (a0_3 != 0) = true := bne_iff_ne.mpr c9
          obtain rfl := Option.some.inj H
          go_enter Try.func39, Try.ntmps39
          go_wp2_with (first | ((with_reducible refine gate_dst (N := 1) rfl ?_); refine bx_ 1 #[.string a0_0, .int .i64 a0_1, .int .i64 a0_2, .int .i64 a0_3] 44 ?_; intro gb183 hg w13 hbox hb; have BK183 := Aside0.mk (hbox); have GW183 := gwe HB hg; have GE183 := GW183; replace HB := bst HB hb; clear hb hbox hg; obtain ⟨hcz14_0, hcz14_1, hcz14_2, hcz14_3, hfz14_0, hfz14_1, hfz14_2, hfz14_3⟩ := cl4 BK183) | ((with_reducible refine gate_callee (f := 44) rfl ?_); refine gl_ (some 15) Try.func44 #[.int .i64 a0_1] rfl ?_; (with_reducible refine (impl_TypeOk.calls a0_1 true _ A3.out).mono ?_); rintro e w' ⟨rfl, ⟨nd, rfl⟩⟩; refine ⟨_, rfl, ?_⟩))
          go_ret
          exact fin_ (below_later HB.out)
    · replace c4 := Bool.eq_false_iff.mpr c4
      subst c4
      replace H := ifn Bool.false_ne_true H
      by_cases c15 : a0_3 > 0
      · rw [if_pos c15] at H
        have c15b0 : decide (0 < a0_3) = true := decide_eq_true c15
        clear c15
        replace H := bnd H
        obtain ⟨t187, A16, H⟩ := H
        obtain rfl := Option.some.inj H
        go_enter Try.func39, Try.ntmps39
        go_wp2_with (first | ((with_reducible refine gate_dst (N := 1) rfl ?_); refine bx_ 1 #[.string a0_0, .int .i64 a0_1, .int .i64 a0_2, .int .i64 a0_3] 44 ?_; intro gb183 hg w17 hbox hb; have BK183 := Aside0.mk (hbox); have GW183 := gwe HB hg; have GE183 := GW183; replace HB := bst HB hb; clear hb hbox hg; obtain ⟨hcz18_0, hcz18_1, hcz18_2, hcz18_3, hfz18_0, hfz18_1, hfz18_2, hfz18_3⟩ := cl4 BK183) | ((with_reducible refine gate_callee (f := 44) rfl ?_); refine gl_ (some 15) Try.func44 #[.int .i64 a0_1] rfl ?_; (with_reducible refine (impl_TypeOk.calls a0_1 false _ A3.out).mono ?_); rintro e w' ⟨rfl, ⟨nd, rfl⟩⟩; refine ⟨_, rfl, ?_⟩) | (go_at_call 31; (with_reducible refine (impl_within.calls a0_2 0 2 t187 _ A16.out).mono ?_); rintro e w' ⟨rfl, ⟨nd, rfl⟩⟩))
        go_ret
        exact fin_ (below_later HB.out)
      · rw [if_neg c15] at H
        have c15b0 : decide (0 < a0_3) = false := decide_eq_false c15
        clear c15
        obtain rfl := Option.some.inj H
        go_enter Try.func39, Try.ntmps39
        go_wp2_with (first | ((with_reducible refine gate_dst (N := 1) rfl ?_); refine bx_ 1 #[.string a0_0, .int .i64 a0_1, .int .i64 a0_2, .int .i64 a0_3] 44 ?_; intro gb183 hg w19 hbox hb; have BK183 := Aside0.mk (hbox); have GW183 := gwe HB hg; have GE183 := GW183; replace HB := bst HB hb; clear hb hbox hg; obtain ⟨hcz20_0, hcz20_1, hcz20_2, hcz20_3, hfz20_0, hfz20_1, hfz20_2, hfz20_3⟩ := cl4 BK183) | ((with_reducible refine gate_callee (f := 44) rfl ?_); refine gl_ (some 15) Try.func44 #[.int .i64 a0_1] rfl ?_; (with_reducible refine (impl_TypeOk.calls a0_1 false _ A3.out).mono ?_); rintro e w' ⟨rfl, ⟨nd, rfl⟩⟩; refine ⟨_, rfl, ?_⟩))
        go_ret
        exact fin_ (below_later HB.out)
  · rw [if_neg c2] at H
    have c2b0 : (a0_1 == 7) = false := beq_eq_false_iff_ne.mpr c2
    have c2b1 : (a0_1 != 7) = true := bne_iff_ne.mpr c2
    replace H := bnd H
    obtain ⟨t188, A21, H⟩ := H
    by_cases c22 : t188 = true
    · subst c22
      replace H := ifp rfl H
      by_cases c23 : a0_3 = 0
      · rw [if_pos c23] at H
        have c23b0 : (a0_3 == 0) = true := beq_iff_eq.mpr c23
        have c23b1 : (a0_3 != 0) = false := bne_eq_false_iff_eq.mpr c23
        clear c23
        replace H := bnd H
        obtain ⟨t189, A24, H⟩ := H
        obtain rfl := Option.some.inj H
        go_enter Try.func39, Try.ntmps39
        go_wp2_with (first | ((with_reducible refine gate_dst (N := 1) rfl ?_); refine bx_ 1 #[.string a0_0, .int .i64 a0_1, .int .i64 a0_2, .int .i64 a0_3] 44 ?_; intro gb183 hg w25 hbox hb; have BK183 := Aside0.mk (hbox); have GW183 := gwe HB hg; have GE183 := GW183; replace HB := bst HB hb; clear hb hbox hg; obtain ⟨hcz26_0, hcz26_1, hcz26_2, hcz26_3, hfz26_0, hfz26_1, hfz26_2, hfz26_3⟩ := cl4 BK183) | ((with_reducible refine gate_callee (f := 44) rfl ?_); refine gl_ (some 15) Try.func44 #[.int .i64 a0_1] rfl ?_; (with_reducible refine (impl_TypeOk.calls a0_1 true _ A21.out).mono ?_); rintro e w' ⟨rfl, ⟨nd, rfl⟩⟩; refine ⟨_, rfl, ?_⟩) | (go_at_call 31; (with_reducible refine (impl_within.calls a0_2 0 2 t189 _ A24.out).mono ?_); rintro e w' ⟨rfl, ⟨nd, rfl⟩⟩))
        go_ret
        exact fin_ (below_later HB.out)
      · rw [if_neg c23] at H
        have c23b0 : (a0_3 == 0) = false := beq_eq_false_iff_ne.mpr c23
        have c23b1 : (a0_3 != 0) = true := bne_iff_ne.mpr c23
        obtain rfl := Option.some.inj H
        go_enter Try.func39, Try.ntmps39
        go_wp2_with (first | ((with_reducible refine gate_dst (N := 1) rfl ?_); refine bx_ 1 #[.string a0_0, .int .i64 a0_1, .int .i64 a0_2, .int .i64 a0_3] 44 ?_; intro gb183 hg w27 hbox hb; have BK183 := Aside0.mk (hbox); have GW183 := gwe HB hg; have GE183 := GW183; replace HB := bst HB hb; clear hb hbox hg; obtain ⟨hcz28_0, hcz28_1, hcz28_2, hcz28_3, hfz28_0, hfz28_1, hfz28_2, hfz28_3⟩ := cl4 BK183) | ((with_reducible refine gate_callee (f := 44) rfl ?_); refine gl_ (some 15) Try.func44 #[.int .i64 a0_1] rfl ?_; (with_reducible refine (impl_TypeOk.calls a0_1 true _ A21.out).mono ?_); rintro e w' ⟨rfl, ⟨nd, rfl⟩⟩; refine ⟨_, rfl, ?_⟩))
        go_ret
        exact fin_ (below_later HB.out)
    · replace c22 := Bool.eq_false_iff.mpr c22
      subst c22
      replace H := ifn Bool.false_ne_true H
      obtain rfl := Option.some.inj H
      go_enter Try.func39, Try.ntmps39
      go_wp2_with (first | ((with_reducible refine gate_dst (N := 1) rfl ?_); refine bx_ 1 #[.string a0_0, .int .i64 a0_1, .int .i64 a0_2, .int .i64 a0_3] 44 ?_; intro gb183 hg w29 hbox hb; have BK183 := Aside0.mk (hbox); have GW183 := gwe HB hg; have GE183 := GW183; replace HB := bst HB hb; clear hb hbox hg; obtain ⟨hcz30_0, hcz30_1, hcz30_2, hcz30_3, hfz30_0, hfz30_1, hfz30_2, hfz30_3⟩ := cl4 BK183) | ((with_reducible refine gate_callee (f := 44) rfl ?_); refine gl_ (some 15) Try.func44 #[.int .i64 a0_1] rfl ?_; (with_reducible refine (impl_TypeOk.calls a0_1 false _ A21.out).mono ?_); rintro e w' ⟨rfl, ⟨nd, rfl⟩⟩; refine ⟨_, rfl, ?_⟩))
      go_ret
      exact fin_ (below_later HB.out)

/-! ### impl_isColName: function 40 -/
def impl_isColName.l0 : Nat → ByteArray → Int → Int → Option (Bool)
  | 0, _, _, _ => none
  | k + 1, x0, x5, x6 => if x6 < x5 then (if 0 ≤ x6 then (if x6 < (x0.size : Int) then ((impl_within.f (wrap64 (bt x0 x6)) 97 122).bind fun t190 => (if t190 = true then (impl_isColName.l0 k x0 x5 (wrap64 (x6 + 1))) else (some false))) else (none)) else (none)) else ((impl_within.f (x0.size : Int) 1 20).bind fun t191 => (some t191))
def impl_isColName.f (k : Nat) (a0 : ByteArray) : Option (Bool) := impl_isColName.l0 k a0 (a0.size : Int) 0
set_option maxHeartbeats 8000000 in
set_option maxRecDepth 100000 in
theorem impl_isColName.calls (k : Nat) (a0 : ByteArray) (r : Bool) (w : World) (h : impl_isColName.f k a0 = some r) :
    Calls Try.prog 40 #[.string a0] w fun e w' => e = .returned (.bool r) ∧ Drawn0 w w' := by
  have H : (impl_isColName.l0 k a0 (a0.size : Int) 0) = some r := h
  clear h
  have H' := Aside0.mk H
  clear H
  go_enter Try.func40, Try.ntmps40
  go_wp2
  go_loopg [6] k (fun kq v6 w' => ∃ (x6_1 : Int), v6 = .int .i64 x6_1 ∧ Aside0 (impl_isColName.l0 kq a0 (a0.size : Int) x6_1 = some r) ∧ Aside0 (kq ≤ k) ∧ Drawn0 w w')
  case atStart => exact ⟨(0), sr, H', ⟨Nat.le_refl _⟩, by repeat (first | exact Drawn0.refl _ | apply Drawn0.step)⟩
  case round =>
    clear H'
    obtain ⟨x6_1, rfl, HA, HK1, ⟨m1, rfl⟩⟩ := hrel
    cases gk with
    | zero => exact absurd HA.out (by simp [impl_isColName.l0])
    | succ k1 =>
      have H := HA.out
      clear HA
      simp only [impl_isColName.l0] at H
      by_cases c2 : x6_1 < (a0.size : Int)
      · rw [if_pos c2] at H
        have c2b0 := decide_eq_true c2
        clear c2
        replace H := ifd H
        obtain ⟨c3b0, H⟩ := H
        replace H := ifd H
        obtain ⟨c4b0, H⟩ := H
        replace H := bnd H
        obtain ⟨t190, A6, H⟩ := H
        by_cases c7 : t190 = true
        · subst c7
          replace H := ifp rfl H
          have H' := Aside0.mk H
          clear H
          have p5 : 0 ≤ (x6_1 : Int) := dcd
          have q5 : x6_1 < (a0.size : Int) := dcd
          have hx5 := bt_at a0 x6_1
          replace p5 := eq_true p5
          replace q5 := eq_true q5
          go_wp2_with (first | ((with_reducible refine gate_callee (f := 31) rfl ?_); refine gl_ (some 13) Try.func31 #[.int .i64 (wrap64 (bt a0 x6_1)), .int .i64 97, .int .i64 122] rfl ?_; (with_reducible refine (impl_within.calls (wrap64 (bt a0 x6_1)) 97 122 true _ A6.out).mono ?_); rintro e w' ⟨rfl, ⟨nd, rfl⟩⟩; refine ⟨_, rfl, ?_⟩))
          go_roundg k1
          case measure => have := HK1.out; omega
          case rel => exact ⟨(wrap64 (x6_1 + 1)), sr, H', ⟨by have := HK1.out; omega⟩, by repeat (first | exact Drawn0.refl _ | apply Drawn0.step)⟩
        · replace c7 := Bool.eq_false_iff.mpr c7
          subst c7
          replace H := ifn Bool.false_ne_true H
          obtain rfl := Option.some.inj H
          have p5 : 0 ≤ (x6_1 : Int) := dcd
          have q5 : x6_1 < (a0.size : Int) := dcd
          have hx5 := bt_at a0 x6_1
          replace p5 := eq_true p5
          replace q5 := eq_true q5
          go_wp2_with (first | ((with_reducible refine gate_callee (f := 31) rfl ?_); refine gl_ (some 13) Try.func31 #[.int .i64 (wrap64 (bt a0 x6_1)), .int .i64 97, .int .i64 122] rfl ?_; (with_reducible refine (impl_within.calls (wrap64 (bt a0 x6_1)) 97 122 false _ A6.out).mono ?_); rintro e w' ⟨rfl, ⟨nd, rfl⟩⟩; refine ⟨_, rfl, ?_⟩))
          go_ret
          exact ⟨by first | rfl | (simp; done) | (simp [*]; done), by repeat (first | exact Drawn0.refl _ | apply Drawn0.step)⟩
      · rw [if_neg c2] at H
        have c2b0 := decide_eq_false c2
        clear c2
        replace H := bnd H
        obtain ⟨t191, A8, H⟩ := H
        obtain rfl := Option.some.inj H
        go_wp2_with (first | ((with_reducible refine gate_callee (f := 31) rfl ?_); refine gl_ (some 18) Try.func31 #[.int .i64 (a0.size : Int), .int .i64 1, .int .i64 20] rfl ?_; (with_reducible refine (impl_within.calls (a0.size : Int) 1 20 t191 _ A8.out).mono ?_); rintro e w' ⟨rfl, ⟨nd, rfl⟩⟩; refine ⟨_, rfl, ?_⟩))
        go_ret
        exact ⟨by first | rfl | (simp; done) | (simp [*]; done), by repeat (first | exact Drawn0.refl _ | apply Drawn0.step)⟩

/-! ### impl_colAfter: function 32 -/
mutual
def impl_colAfter.j0 : Nat → List (S44) → Int → Int → Bool → Option (Int)
  | 0, _, _, _, _ => none
  | k + 1, x0, x1, x2, x39 => if x39 = true then (some (-1)) else (if 0 ≤ x1 then (if x1 < (x0.length : Int) then (impl_colAfter.l0 k x0 x2 (wrap64 (x1 + 1)) (([] : List ByteArray)) ((rd_T44 x0 x1).f3) 0) else (none)) else (none))
def impl_colAfter.l0 : Nat → List (S44) → Int → Int → List ByteArray → Int → Int → Option (Int)
  | 0, _, _, _, _, _, _ => none
  | k + 1, x0, x2, x7, x8, x47, x48 => if x48 < x47 then (if x7 ≥ (x0.length : Int) then (some (-1)) else (impl_colAfter.l1 k x0 x2 x7 x8 x47 x48 (x8.length : Int) 0)) else (some x7)
def impl_colAfter.l1 : Nat → List (S44) → Int → Int → List ByteArray → Int → Int → Int → Int → Option (Int)
  | 0, _, _, _, _, _, _, _, _ => none
  | k + 1, x0, x2, x7, x8, x47, x48, x55, x56 => if x56 < x55 then (if 0 ≤ x56 then (if x56 < (x8.length : Int) then (if 0 ≤ x7 then (if x7 < (x0.length : Int) then (if (rdOf ByteArray.empty x8 x56).toList = ((rd_T44 x0 x7).f0).toList then (some (-1)) else (impl_colAfter.l1 k x0 x2 x7 x8 x47 x48 x55 (wrap64 (x56 + 1)))) else (none)) else (none)) else (none)) else (none)) else (if 0 ≤ x7 then (if x7 < (x0.length : Int) then (if x8.length < 8796093022208 then ((impl_colAfter.f k x0 x7 (wrap64 (x2 + 1))).bind fun t206 => (if t206 < 0 then (some (-1)) else (impl_colAfter.l0 k x0 x2 t206 (x8 ++ [(rd_T44 x0 x7).f0]) x47 (wrap64 (x48 + 1))))) else (none)) else (none)) else (none))
def impl_colAfter.f : Nat → List (S44) → Int → Int → Option (Int)
  | 0, _, _, _ => none
  | k + 1, l0, a1, a2 => if a1 ≥ (l0.length : Int) then (impl_colAfter.j0 k l0 a1 a2 true) else (if a2 > 6 then (impl_colAfter.j0 k l0 a1 a2 true) else (if 0 ≤ a1 then (if a1 < (l0.length : Int) then ((impl_colOk.f ((rd_T44 l0 a1).f0) ((rd_T44 l0 a1).f1) ((rd_T44 l0 a1).f2) ((rd_T44 l0 a1).f3)).bind fun t193 => (if t193 = true then (if a1 > 0 then ((impl_isColName.f k ((rd_T44 l0 a1).f0)).bind fun t195 => (impl_colAfter.j0 k l0 a1 a2 (!t195))) else (impl_colAfter.j0 k l0 a1 a2 false)) else (impl_colAfter.j0 k l0 a1 a2 true))) else (none)) else (none)))
end
set_option maxHeartbeats 8000000 in
set_option maxRecDepth 100000 in
theorem impl_colAfter.calls (k : Nat) : ∀ (A0 : Option Addr) (c0 : Nat) (l0 : List (S44)) (a1 : Int) (a2 : Int) (r : Int) (w : World) (hr0 : Kd.C k44 w A0 l0.length l0) (hc0 : l0.length ≤ c0) (h : impl_colAfter.f k l0 a1 a2 = some r),
    Calls Try.prog 32 #[.slice A0 l0.length c0, .int .i64 a1, .int .i64 a2] w fun e w' => e = .returned (.int .i64 r) ∧ Below w.heap.size w w' := by
  induction k using Nat.strongRecOn with
  | _ k ih =>
  intro A0 c0 l0 a1 a2 r w hr0 hc0 h
  cases k with
  | zero => exact absurd h (by simp [impl_colAfter.f])
  | succ k =>
  simp only [impl_colAfter.f] at h
  have hu44 := Try.underlying44
  have HR0 := Aside0.mk hr0
  have HC0 := Aside0.mk hc0
  clear hr0 hc0
  have HB := Aside0.mk (Below.refl w.heap.size w)
  have H : (if a1 ≥ (l0.length : Int) then (impl_colAfter.j0 k l0 a1 a2 true) else (if a2 > 6 then (impl_colAfter.j0 k l0 a1 a2 true) else (if 0 ≤ a1 then (if a1 < (l0.length : Int) then ((impl_colOk.f ((rd_T44 l0 a1).f0) ((rd_T44 l0 a1).f1) ((rd_T44 l0 a1).f2) ((rd_T44 l0 a1).f3)).bind fun t193 => (if t193 = true then (if a1 > 0 then ((impl_isColName.f k ((rd_T44 l0 a1).f0)).bind fun t195 => (impl_colAfter.j0 k l0 a1 a2 (!t195))) else (impl_colAfter.j0 k l0 a1 a2 false)) else (impl_colAfter.j0 k l0 a1 a2 true))) else (none)) else (none)))) = some r := h
  clear h
  have HC4 := Aside0.mk H
  clear H
  go_enter Try.func32, Try.ntmps32
  go_upto_region 1 with (fail)
  go_cut [39] (fun v39 wc => ∃ (kq : Nat) (x39_3 : Bool), v39 = .bool x39_3 ∧ Aside0 (impl_colAfter.j0 kq l0 a1 a2 x39_3 = some r) ∧ Aside0 (kq ≤ k) ∧ Aside0 (Below w.heap.size w wc))
  case first =>
    have H := HC4.out
    clear HC4
    by_cases c5 : a1 ≥ (l0.length : Int)
    · rw [if_pos c5] at H
      have c5b0 : decide ((l0.length : Int) ≤ a1) = true := decide_eq_true c5
      clear c5
      (first | rw [c5b0] | (simp only [i64_w, i32_w]; rw [c5b0]) | skip)
      have H' := Aside0.mk H
      clear H
      go_wp2
      go_meet
      case rel => exact ⟨_, (true), sr, H', ⟨by first | omega | exact Nat.le_refl _⟩, ⟨below_later HB.out⟩⟩
    · rw [if_neg c5] at H
      have c5b0 : decide ((l0.length : Int) ≤ a1) = false := decide_eq_false c5
      clear c5
      (first | rw [c5b0] | (simp only [i64_w, i32_w]; rw [c5b0]) | skip)
      by_cases c6 : a2 > 6
      · rw [if_pos c6] at H
        have c6b0 : decide (6 < a2) = true := decide_eq_true c6
        clear c6
        have H' := Aside0.mk H
        clear H
        go_wp2
        go_meet
        case rel => exact ⟨_, (true), sr, H', ⟨by first | omega | exact Nat.le_refl _⟩, ⟨below_later HB.out⟩⟩
      · rw [if_neg c6] at H
        have c6b0 : decide (6 < a2) = false := decide_eq_false c6
        clear c6
        replace H := ifd H
        obtain ⟨c7b0, H⟩ := H
        replace H := ifd H
        obtain ⟨c8b0, H⟩ := H
        replace H := bnd H
        obtain ⟨t193, A9, H⟩ := H
        by_cases c10 : t193 = true
        · subst c10
          replace H := ifp rfl H
          by_cases c11 : a1 > 0
          · rw [if_pos c11] at H
            have c11b0 : decide (0 < a1) = true := decide_eq_true c11
            clear c11
            replace H := bnd H
            obtain ⟨t195, A12, H⟩ := H
            have H' := Aside0.mk H
            clear H
            have p192 : 0 ≤ (a1 : Int) := dcd
            have q192 : a1 < (l0.length : Int) := dcd
            obtain ⟨ad192, e192, hx192_0, hx192_1, hx192_2, hx192_3⟩ := at_T44 HR0.out a1 p192 q192
            cases e192
            replace hx192_0 := crd HB hx192_0
            replace hx192_1 := crd HB hx192_1
            replace hx192_2 := crd HB hx192_2
            replace hx192_3 := crd HB hx192_3
            replace p192 := eq_true p192
            replace q192 := eq_true q192
            go_wp2_with (first | (go_at_call 39; (with_reducible refine (impl_colOk.calls ((rd_T44 l0 a1).f0) ((rd_T44 l0 a1).f1) ((rd_T44 l0 a1).f2) ((rd_T44 l0 a1).f3) true _ A9.out).mono ?_); rintro e w13 ⟨rfl, hb⟩; replace HB := bst HB hb; (try clear hb); have p194 : 0 ≤ (a1 : Int) := dcd; have q194 : a1 < (l0.length : Int) := dcd; obtain ⟨ad194, e194, hx194_0, hx194_1, hx194_2, hx194_3⟩ := at_T44 HR0.out a1 p194 q194; obtain rfl : ad192 = ad194 := (by injection e194); replace hx194_0 := crd HB hx194_0; replace hx194_1 := crd HB hx194_1; replace hx194_2 := crd HB hx194_2; replace hx194_3 := crd HB hx194_3; replace p194 := eq_true p194; replace q194 := eq_true q194) | (go_at_call 40; (with_reducible refine (impl_isColName.calls k ((rd_T44 l0 a1).f0) t195 _ A12.out).mono ?_); rintro e w' ⟨rfl, ⟨nd, rfl⟩⟩))
            go_meet
            case rel => exact ⟨_, (!t195), sr, H', ⟨by first | omega | exact Nat.le_refl _⟩, ⟨below_later HB.out⟩⟩
          · rw [if_neg c11] at H
            have c11b0 : decide (0 < a1) = false := decide_eq_false c11
            clear c11
            have H' := Aside0.mk H
            clear H
            have p192 : 0 ≤ (a1 : Int) := dcd
            have q192 : a1 < (l0.length : Int) := dcd
            obtain ⟨ad192, e192, hx192_0, hx192_1, hx192_2, hx192_3⟩ := at_T44 HR0.out a1 p192 q192
            cases e192
            replace hx192_0 := crd HB hx192_0
            replace hx192_1 := crd HB hx192_1
            replace hx192_2 := crd HB hx192_2
            replace hx192_3 := crd HB hx192_3
            replace p192 := eq_true p192
            replace q192 := eq_true q192
            go_wp2_with (first | (go_at_call 39; (with_reducible refine (impl_colOk.calls ((rd_T44 l0 a1).f0) ((rd_T44 l0 a1).f1) ((rd_T44 l0 a1).f2) ((rd_T44 l0 a1).f3) true _ A9.out).mono ?_); rintro e w14 ⟨rfl, hb⟩; replace HB := bst HB hb; (try clear hb)))
            go_meet
            case rel => exact ⟨_, (false), sr, H', ⟨by first | omega | exact Nat.le_refl _⟩, ⟨below_later HB.out⟩⟩
        · replace c10 := Bool.eq_false_iff.mpr c10
          subst c10
          replace H := ifn Bool.false_ne_true H
          have H' := Aside0.mk H
          clear H
          have p192 : 0 ≤ (a1 : Int) := dcd
          have q192 : a1 < (l0.length : Int) := dcd
          obtain ⟨ad192, e192, hx192_0, hx192_1, hx192_2, hx192_3⟩ := at_T44 HR0.out a1 p192 q192
          cases e192
          replace hx192_0 := crd HB hx192_0
          replace hx192_1 := crd HB hx192_1
          replace hx192_2 := crd HB hx192_2
          replace hx192_3 := crd HB hx192_3
          replace p192 := eq_true p192
          replace q192 := eq_true q192
          go_wp2_with (first | (go_at_call 39; (with_reducible refine (impl_colOk.calls ((rd_T44 l0 a1).f0) ((rd_T44 l0 a1).f1) ((rd_T44 l0 a1).f2) ((rd_T44 l0 a1).f3) false _ A9.out).mono ?_); rintro e w15 ⟨rfl, hb⟩; replace HB := bst HB hb; (try clear hb)))
          go_meet
          case rel => exact ⟨_, (true), sr, H', ⟨by first | omega | exact Nat.le_refl _⟩, ⟨below_later HB.out⟩⟩
  case rest =>
    clear HC4
    obtain ⟨kq, x39_3, rfl, HA, HJ3, HB⟩ := hcut
    cases kq with
    | zero => exact absurd HA.out (by simp [impl_colAfter.j0])
    | succ kj3 =>
      have H := HA.out
      clear HA
      simp only [impl_colAfter.j0] at H
      by_cases c16 : x39_3 = true
      · subst c16
        replace H := ifp rfl H
        obtain rfl := Option.some.inj H
        go_wp2
        go_ret
        exact fin_ (below_later HB.out)
      · replace c16 := Bool.eq_false_iff.mpr c16
        subst c16
        replace H := ifn Bool.false_ne_true H
        obtain ⟨y196, hy196⟩ : ∃ y_ : List ByteArray, y_ = (([] : List ByteArray)) := ⟨_, rfl⟩
        replace H : (if 0 ≤ a1 then (if a1 < (l0.length : Int) then (impl_colAfter.l0 kj3 l0 a2 (wrap64 (a1 + 1)) y196 ((rd_T44 l0 a1).f3) 0) else (none)) else (none)) = some r := by first | (rw [hy196]; with_reducible exact H) | (rw [hy196]; exact H) | exact H
        have Ny196 := Aside0.mk hy196
        clear hy196
        replace H := ifd H
        obtain ⟨c17b0, H⟩ := H
        replace H := ifd H
        obtain ⟨c18b0, H⟩ := H
        have H' := Aside0.mk H
        clear H
        go_wp2_with (first | ((with_reducible refine gate_dst (N := 42) rfl ?_); refine Kd.R_lit Kd.string _ 9 ?hg (N := 42) ?hd (xs := ([] : List ByteArray)) (inner := []) (ok := fun _ => True) (okp := fun _ => True) ?hr ?hp (fun _ hk => hk) trivial (Below.refl _ _) (Nat.le_refl _) (by simp) ?_; (case hd => rfl); (case hg => rfl); (case hr => first | (go_simp; done) | (go_simp; rfl)); (case hp => exact (Reps.none _ _)); intro v197 w19 ho20 hb hg_ hnew_; clear hg_ hnew_; (first | rw [← Ny196.out] at ho20 | (simp only [Int.reduceToNat] at ho20; rw [← Ny196.out] at ho20)); have HO198 := Aside0.mk (Kd.R_lower ho20 (below_size (below_later HB.out))); replace HB := bst HB hb; clear hb ho20; have p199 : 0 ≤ (a1 : Int) := dcd; have q199 : a1 < (l0.length : Int) := dcd; obtain ⟨ad199, e199, hx199_0, hx199_1, hx199_2, hx199_3⟩ := at_T44 HR0.out a1 p199 q199; cases e199; replace hx199_0 := crd HB hx199_0; replace hx199_1 := crd HB hx199_1; replace hx199_2 := crd HB hx199_2; replace hx199_3 := crd HB hx199_3; replace p199 := eq_true p199; replace q199 := eq_true q199))
        go_loopg [7, 8, 48] kj3 (fun kq v7 v8 v48 w' => ∃ (x7_2 : Int) (x8_2 : List ByteArray) (x48_2 : Int), v7 = .int .i64 x7_2 ∧ v48 = .int .i64 x48_2 ∧ Aside0 (impl_colAfter.l0 kq l0 a2 x7_2 x8_2 ((rd_T44 l0 a1).f3) x48_2 = some r) ∧ Aside0 (kq ≤ kj3) ∧ Aside0 (Kd.R Kd.string 9 w' w.heap.size (fun _ => True) v8 x8_2) ∧ Aside0 (Below w.heap.size w w'))
        case atStart => exact ⟨(wrap64 (a1 + 1)), (y196), (0), sr, sr, H', ⟨Nat.le_refl _⟩, ⟨R_later HO198.out⟩, ⟨below_later HB.out⟩⟩
        case round =>
          clear H'
          try clear c16
          try clear c17b0
          try clear c18b0
          try clear hx199_0
          try clear hx199_1
          try clear hx199_2
          try clear hx199_3
          try clear p199
          try clear q199
          obtain ⟨x7_2, x8_2, x48_2, rfl, rfl, HA, HK2, HO_8, HB⟩ := hrel
          cases gk with
          | zero => exact absurd HA.out (by simp [impl_colAfter.l0])
          | succ k2 =>
            have H := HA.out
            clear HA
            simp only [impl_colAfter.l0] at H
            by_cases c21 : x48_2 < ((rd_T44 l0 a1).f3)
            · rw [if_pos c21] at H
              have c21b0 := decide_eq_true c21
              clear c21
              by_cases c22 : x7_2 ≥ (l0.length : Int)
              · rw [if_pos c22] at H
                have c22b0 : decide ((l0.length : Int) ≤ x7_2) = true := decide_eq_true c22
                clear c22
                obtain rfl := Option.some.inj H
                go_wp2
                go_ret
                exact fin_ (below_later HB.out)
              · rw [if_neg c22] at H
                have c22b0 : decide ((l0.length : Int) ≤ x7_2) = false := decide_eq_false c22
                clear c22
                have H' := Aside0.mk H
                clear H
                obtain ⟨Ao23, co23, eo23⟩ := Kd.R_slice HO_8.out
                subst eo23
                go_wp2
                go_loopg [56] k2 (fun kq v56 w' => ∃ (x56_3 : Int), v56 = .int .i64 x56_3 ∧ Aside0 (impl_colAfter.l1 kq l0 a2 x7_2 x8_2 ((rd_T44 l0 a1).f3) x48_2 (x8_2.length : Int) x56_3 = some r) ∧ Aside0 (kq ≤ k2) ∧ Aside0 (Kd.R Kd.string 9 w' w.heap.size (fun _ => True) (.slice Ao23 x8_2.length co23) x8_2) ∧ Aside0 (Below w.heap.size w w'))
                case atStart => exact ⟨(0), sr, H', ⟨Nat.le_refl _⟩, ⟨R_later HO_8.out⟩, ⟨below_later HB.out⟩⟩
                case round =>
                  clear H'
                  try clear c16
                  try clear c17b0
                  try clear c18b0
                  try clear c21
                  try clear c21b0
                  try clear c22
                  try clear c22b0
                  try clear hx199_0
                  try clear hx199_1
                  try clear hx199_2
                  try clear hx199_3
                  try clear p199
                  try clear q199
                  obtain ⟨x56_3, rfl, HA, HK3, HO_8, HB⟩ := hrel
                  cases gk with
                  | zero => exact absurd HA.out (by simp [impl_colAfter.l1])
                  | succ k3 =>
                    have H := HA.out
                    clear HA
                    simp only [impl_colAfter.l1] at H
                    by_cases c24 : x56_3 < (x8_2.length : Int)
                    · rw [if_pos c24] at H
                      have c24b0 := decide_eq_true c24
                      clear c24
                      replace H := ifd H
                      obtain ⟨c25b0, H⟩ := H
                      replace H := ifd H
                      obtain ⟨c26b0, H⟩ := H
                      replace H := ifd H
                      obtain ⟨c27b0, H⟩ := H
                      replace H := ifd H
                      obtain ⟨c28b0, H⟩ := H
                      by_cases c29 : (rdOf ByteArray.empty x8_2 x56_3).toList = ((rd_T44 l0 x7_2).f0).toList
                      · rw [if_pos c29] at H
                        have c29b0 : ((rdOf ByteArray.empty x8_2 x56_3).toList == ((rd_T44 l0 x7_2).f0).toList) = true := beq_iff_eq.mpr c29
                        have c29b1 : ((rdOf ByteArray.empty x8_2 x56_3).toList != ((rd_T44 l0 x7_2).f0).toList) = false := bne_eq_false_iff_eq.mpr c29
                        clear c29
                        obtain rfl := Option.some.inj H
                        have p200 : 0 ≤ (x56_3 : Int) := dcd
                        have q200 : x56_3 < (x8_2.length : Int) := dcd
                        obtain ⟨ad200, e200, hx200_0⟩ := Kd.at_string (Kd.R_reads' HO_8.out).2.2 x56_3 p200 q200
                        cases e200
                        replace p200 := eq_true p200
                        replace q200 := eq_true q200
                        have p201 : 0 ≤ (x7_2 : Int) := dcd
                        have q201 : x7_2 < (l0.length : Int) := dcd
                        obtain ⟨ad201, e201, hx201_0, hx201_1, hx201_2, hx201_3⟩ := at_T44 HR0.out x7_2 p201 q201
                        obtain rfl : ad199 = ad201 := (by injection e201)
                        replace hx201_0 := crd HB hx201_0
                        replace hx201_1 := crd HB hx201_1
                        replace hx201_2 := crd HB hx201_2
                        replace hx201_3 := crd HB hx201_3
                        replace p201 := eq_true p201
                        replace q201 := eq_true q201
                        go_wp2
                        go_ret
                        exact fin_ (below_later HB.out)
                      · rw [if_neg c29] at H
                        have c29b0 : ((rdOf ByteArray.empty x8_2 x56_3).toList == ((rd_T44 l0 x7_2).f0).toList) = false := beq_eq_false_iff_ne.mpr c29
                        have c29b1 : ((rdOf ByteArray.empty x8_2 x56_3).toList != ((rd_T44 l0 x7_2).f0).toList) = true := bne_iff_ne.mpr c29
                        have H' := Aside0.mk H
                        clear H
                        have p200 : 0 ≤ (x56_3 : Int) := dcd
                        have q200 : x56_3 < (x8_2.length : Int) := dcd
                        obtain ⟨ad200, e200, hx200_0⟩ := Kd.at_string (Kd.R_reads' HO_8.out).2.2 x56_3 p200 q200
                        cases e200
                        replace p200 := eq_true p200
                        replace q200 := eq_true q200
                        have p201 : 0 ≤ (x7_2 : Int) := dcd
                        have q201 : x7_2 < (l0.length : Int) := dcd
                        obtain ⟨ad201, e201, hx201_0, hx201_1, hx201_2, hx201_3⟩ := at_T44 HR0.out x7_2 p201 q201
                        obtain rfl : ad199 = ad201 := (by injection e201)
                        replace hx201_0 := crd HB hx201_0
                        replace hx201_1 := crd HB hx201_1
                        replace hx201_2 := crd HB hx201_2
                        replace hx201_3 := crd HB hx201_3
                        replace p201 := eq_true p201
                        replace q201 := eq_true q201
                        go_wp2
                        go_roundg k3
                        case measure => have := HJ3.out; have := HK2.out; have := HK3.out; omega
                        case rel => exact ⟨(wrap64 (x56_3 + 1)), sr, H', ⟨by have := HJ3.out; have := HK2.out; have := HK3.out; omega⟩, ⟨R_later HO_8.out⟩, ⟨below_later HB.out⟩⟩
                    · rw [if_neg c24] at H
                      have c24b0 := decide_eq_false c24
                      clear c24
                      replace H := ifd H
                      obtain ⟨c30b0, H⟩ := H
                      replace H := ifd H
                      obtain ⟨c31b0, H⟩ := H
                      replace H := ifs H
                      obtain ⟨c32, H⟩ := H
                      have LMc32 := Aside0.mk c32
                      clear c32
                      obtain ⟨y203, hy203⟩ : ∃ y_ : List ByteArray, y_ = (x8_2 ++ [(rd_T44 l0 x7_2).f0]) := ⟨_, rfl⟩
                      replace H : ((impl_colAfter.f k3 l0 x7_2 (wrap64 (a2 + 1))).bind fun t206 => (if t206 < 0 then (some (-1)) else (impl_colAfter.l0 k3 l0 a2 t206 y203 ((rd_T44 l0 a1).f3) (wrap64 (x48_2 + 1))))) = some r := by first | (rw [hy203]; with_reducible exact H) | (rw [hy203]; exact H) | exact H
                      have Ny203 := Aside0.mk hy203
                      clear hy203
                      replace H := bnd H
                      obtain ⟨t206, A33, H⟩ := H
                      by_cases c34 : t206 < 0
                      · rw [if_pos c34] at H
                        have c34b0 := decide_eq_true c34
                        clear c34
                        obtain rfl := Option.some.inj H
                        have p202 : 0 ≤ (x7_2 : Int) := dcd
                        have q202 : x7_2 < (l0.length : Int) := dcd
                        obtain ⟨ad202, e202, hx202_0, hx202_1, hx202_2, hx202_3⟩ := at_T44 HR0.out x7_2 p202 q202
                        obtain rfl : ad199 = ad202 := (by injection e202)
                        replace hx202_0 := crd HB hx202_0
                        replace hx202_1 := crd HB hx202_1
                        replace hx202_2 := crd HB hx202_2
                        replace hx202_3 := crd HB hx202_3
                        replace p202 := eq_true p202
                        replace q202 := eq_true q202
                        go_wp2_with (first | ((with_reducible refine gate_builtin (b := .append) (xs := #[.tmp 68, .tmp 74]) rfl ?_); at_builtin; refine Kd.R_append Kd.string (w0 := w) w.heap.size rfl (.tmp 68) (.tmp 74) 68 9 (.string ⟨#[]⟩) 16 rfl Try.underlying68 info9 rfl (by decide) (by omega) (.slice Ao23 x8_2.length co23) x8_2 ((rd_T44 l0 x7_2).f0) [.string ((rd_T44 l0 x7_2).f0)] (fun _ => True) (fun _ => False) rfl rfl ?aP (fun _ hk => hk.elim) ?aF ?aO ?aB ?aS ?aL ?_; (case aP => exact rfl); (case aB => exact (below_later HB.out)); (case aF => exact (fun _ _ => trivial)); (case aO => exact (R_later HO_8.out)); (case aS => exact (below_size (below_later HB.out))); (case aL => have := LMc32.out; omega); intro v204 w35 ho hb hg hat; rw [← Ny203.out] at ho; have n0_ := Aside0.mk (hb); have n1_ := Aside0.mk (ho); clear HB; clear HO_8; have HB := n0_; have HO205 := n1_; clear n0_ n1_; clear ho hb hg hat) | ((with_reducible refine gate_callee (f := 32) rfl ?_); refine gl_ (some 80) Try.func32 #[.slice (some ad199) l0.length c0, .int .i64 x7_2, .int .i64 (wrap64 (a2 + 1))] rfl ?_; (with_reducible refine (ih k3 (by have := HJ3.out; have := HK2.out; have := HK3.out; omega) _ _ l0 x7_2 (wrap64 (a2 + 1)) t206 _ ?side1 ?side2 A33.out).mono ?_); (case side1 => repeat (first | exact (Kd.C_below HR0.out HB.out) | (with_reducible refine Kd.C_alloc ?_ _) | (with_reducible refine Kd.C_drewN ?_ _) | (with_reducible refine Kd.C_drew ?_))); (case side2 => exact HC0.out); rintro e w36 ⟨rfl, hb⟩; refine ⟨_, rfl, ?_⟩; replace HO205 := Aside0.mk (Kd.R_below (R_later HO205.out) hb); replace HB := bst HB hb; (try clear hb); (try clear hk)))
                        go_ret
                        exact fin_ (below_later HB.out)
                      · rw [if_neg c34] at H
                        have c34b0 := decide_eq_false c34
                        clear c34
                        have H' := Aside0.mk H
                        clear H
                        have p202 : 0 ≤ (x7_2 : Int) := dcd
                        have q202 : x7_2 < (l0.length : Int) := dcd
                        obtain ⟨ad202, e202, hx202_0, hx202_1, hx202_2, hx202_3⟩ := at_T44 HR0.out x7_2 p202 q202
                        obtain rfl : ad199 = ad202 := (by injection e202)
                        replace hx202_0 := crd HB hx202_0
                        replace hx202_1 := crd HB hx202_1
                        replace hx202_2 := crd HB hx202_2
                        replace hx202_3 := crd HB hx202_3
                        replace p202 := eq_true p202
                        replace q202 := eq_true q202
                        go_wp2_with (first | ((with_reducible refine gate_builtin (b := .append) (xs := #[.tmp 68, .tmp 74]) rfl ?_); at_builtin; refine Kd.R_append Kd.string (w0 := w) w.heap.size rfl (.tmp 68) (.tmp 74) 68 9 (.string ⟨#[]⟩) 16 rfl Try.underlying68 info9 rfl (by decide) (by omega) (.slice Ao23 x8_2.length co23) x8_2 ((rd_T44 l0 x7_2).f0) [.string ((rd_T44 l0 x7_2).f0)] (fun _ => True) (fun _ => False) rfl rfl ?aP (fun _ hk => hk.elim) ?aF ?aO ?aB ?aS ?aL ?_; (case aP => exact rfl); (case aB => exact (below_later HB.out)); (case aF => exact (fun _ _ => trivial)); (case aO => exact (R_later HO_8.out)); (case aS => exact (below_size (below_later HB.out))); (case aL => have := LMc32.out; omega); intro v204 w37 ho hb hg hat; rw [← Ny203.out] at ho; have n0_ := Aside0.mk (hb); have n1_ := Aside0.mk (ho); clear HB; clear HO_8; have HB := n0_; have HO205 := n1_; clear n0_ n1_; clear ho hb hg hat) | ((with_reducible refine gate_callee (f := 32) rfl ?_); refine gl_ (some 80) Try.func32 #[.slice (some ad199) l0.length c0, .int .i64 x7_2, .int .i64 (wrap64 (a2 + 1))] rfl ?_; (with_reducible refine (ih k3 (by have := HJ3.out; have := HK2.out; have := HK3.out; omega) _ _ l0 x7_2 (wrap64 (a2 + 1)) t206 _ ?side1 ?side2 A33.out).mono ?_); (case side1 => repeat (first | exact (Kd.C_below HR0.out HB.out) | (with_reducible refine Kd.C_alloc ?_ _) | (with_reducible refine Kd.C_drewN ?_ _) | (with_reducible refine Kd.C_drew ?_))); (case side2 => exact HC0.out); rintro e w38 ⟨rfl, hb⟩; refine ⟨_, rfl, ?_⟩; replace HO205 := Aside0.mk (Kd.R_below (R_later HO205.out) hb); replace HB := bst HB hb; (try clear hb); (try clear hk)))
                        go_roundg k3
                        case measure => have := HJ3.out; have := HK2.out; have := HK3.out; omega
                        case rel => exact ⟨(t206), (y203), (wrap64 (x48_2 + 1)), sr, sr, H', ⟨by have := HJ3.out; have := HK2.out; have := HK3.out; omega⟩, ⟨R_later HO205.out⟩, ⟨below_later HB.out⟩⟩
            · rw [if_neg c21] at H
              have c21b0 := decide_eq_false c21
              clear c21
              obtain rfl := Option.some.inj H
              go_wp2
              go_ret
              exact fin_ (below_later HB.out)
/-! ### impl_SchemaOk: function 18 -/
def impl_SchemaOk.f (k : Nat) (l0 : List (S44)) : Option (Bool) := (impl_within.f (l0.length : Int) 2 20).bind fun t207 => (if t207 = true then (if 0 < (l0.length : Int) then (if ((rd_T44 l0 0).f1) = 7 then (if ((rd_T44 l0 0).f2) = 0 then (if ((rd_T44 l0 0).f0).toList = ([] : List UInt8) then ((impl_colAfter.f k l0 0 1).bind fun t211 => (some (t211 == (l0.length : Int)))) else (some false)) else (some false)) else (some false)) else (none)) else (some false))
set_option maxHeartbeats 8000000 in
set_option maxRecDepth 100000 in
theorem impl_SchemaOk.calls (k : Nat) (A0 : Option Addr) (c0 : Nat) (l0 : List (S44)) (r : Bool) (w : World) (hr0 : Kd.C k44 w A0 l0.length l0) (hc0 : l0.length ≤ c0) (h : impl_SchemaOk.f k l0 = some r) :
    Calls Try.prog 18 #[.slice A0 l0.length c0] w fun e w' => e = .returned (.bool r) ∧ Below w.heap.size w w' := by
  have HR0 := Aside0.mk hr0
  have HC0 := Aside0.mk hc0
  clear hr0 hc0
  have HB := Aside0.mk (Below.refl w.heap.size w)
  have H : ((impl_within.f (l0.length : Int) 2 20).bind fun t207 => (if t207 = true then (if 0 < (l0.length : Int) then (if ((rd_T44 l0 0).f1) = 7 then (if ((rd_T44 l0 0).f2) = 0 then (if ((rd_T44 l0 0).f0).toList = ([] : List UInt8) then ((impl_colAfter.f k l0 0 1).bind fun t211 => (some (t211 == (l0.length : Int)))) else (some false)) else (some false)) else (some false)) else (none)) else (some false))) = some r := h
  clear h
  replace H := bnd H
  obtain ⟨t207, A2, H⟩ := H
  by_cases c3 : t207 = true
  · subst c3
    replace H := ifp rfl H
    replace H := ifs H
    obtain ⟨c4, H⟩ := H
    have c4b0 := decide_eq_true c4
    have c4b1 : decide (0 < l0.length) = true := decide_eq_true (by omega)
    clear c4
    by_cases c5 : ((rd_T44 l0 0).f1) = 7
    · rw [if_pos c5] at H
      have c5b0 : (((rd_T44 l0 0).f1) == 7) = true := beq_iff_eq.mpr c5
      have c5b1 : (((rd_T44 l0 0).f1) != 7) = false := bne_eq_false_iff_eq.mpr c5
      clear c5
      by_cases c6 : ((rd_T44 l0 0).f2) = 0
      · rw [if_pos c6] at H
        have c6b0 : (((rd_T44 l0 0).f2) == 0) = true := beq_iff_eq.mpr c6
        have c6b1 : (((rd_T44 l0 0).f2) != 0) = false := bne_eq_false_iff_eq.mpr c6
        clear c6
        by_cases c7 : ((rd_T44 l0 0).f0).toList = ([] : List UInt8)
        · rw [if_pos c7] at H
          have c7b0 : (((rd_T44 l0 0).f0).toList == ([] : List UInt8)) = true := beq_iff_eq.mpr c7
          have c7b1 : (((rd_T44 l0 0).f0).toList != ([] : List UInt8)) = false := bne_eq_false_iff_eq.mpr c7
          clear c7
          replace H := bnd H
          obtain ⟨t211, A8, H⟩ := H
          obtain rfl := Option.some.inj H
          go_enter Try.func18, Try.ntmps18
          go_wp2_with (first | ((with_reducible refine gate_callee (f := 31) rfl ?_); refine gl_ (some 5) Try.func31 #[.int .i64 (l0.length : Int), .int .i64 2, .int .i64 20] rfl ?_; (with_reducible refine (impl_within.calls (l0.length : Int) 2 20 true _ A2.out).mono ?_); rintro e w' ⟨rfl, ⟨nd, rfl⟩⟩; refine ⟨_, rfl, ?_⟩; have p208 : 0 ≤ (0 : Int) := (by omega); have q208 : 0 < (l0.length : Int) := dcd; obtain ⟨ad208, e208, hx208_0, hx208_1, hx208_2, hx208_3⟩ := at_T44 HR0.out 0 p208 q208; cases e208; have qi208 : (0 < l0.length) = True := eq_true (by omega); (try rw [show ((0 : Int)).toNat = 0 from rfl] at hx208_0); (try rw [show 0 * 4 = 0 from rfl] at hx208_0); (try rw [Addr.add_zero'] at hx208_0); (try rw [show ((0 : Int)).toNat = 0 from rfl] at hx208_1); (try rw [show 0 * 4 = 0 from rfl] at hx208_1); (try rw [Addr.add_zero'] at hx208_1); (try rw [show ((0 : Int)).toNat = 0 from rfl] at hx208_2); (try rw [show 0 * 4 = 0 from rfl] at hx208_2); (try rw [Addr.add_zero'] at hx208_2); (try rw [show ((0 : Int)).toNat = 0 from rfl] at hx208_3); (try rw [show 0 * 4 = 0 from rfl] at hx208_3); (try rw [Addr.add_zero'] at hx208_3); replace p208 := eq_true p208; replace q208 := eq_true q208; have p209 : 0 ≤ (0 : Int) := (by omega); have q209 : 0 < (l0.length : Int) := dcd; obtain ⟨ad209, e209, hx209_0, hx209_1, hx209_2, hx209_3⟩ := at_T44 HR0.out 0 p209 q209; obtain rfl : ad208 = ad209 := (by injection e209); have qi209 : (0 < l0.length) = True := eq_true (by omega); (try rw [show ((0 : Int)).toNat = 0 from rfl] at hx209_0); (try rw [show 0 * 4 = 0 from rfl] at hx209_0); (try rw [Addr.add_zero'] at hx209_0); (try rw [show ((0 : Int)).toNat = 0 from rfl] at hx209_1); (try rw [show 0 * 4 = 0 from rfl] at hx209_1); (try rw [Addr.add_zero'] at hx209_1); (try rw [show ((0 : Int)).toNat = 0 from rfl] at hx209_2); (try rw [show 0 * 4 = 0 from rfl] at hx209_2); (try rw [Addr.add_zero'] at hx209_2); (try rw [show ((0 : Int)).toNat = 0 from rfl] at hx209_3); (try rw [show 0 * 4 = 0 from rfl] at hx209_3); (try rw [Addr.add_zero'] at hx209_3); replace p209 := eq_true p209; replace q209 := eq_true q209; have p210 : 0 ≤ (0 : Int) := (by omega); have q210 : 0 < (l0.length : Int) := dcd; obtain ⟨ad210, e210, hx210_0, hx210_1, hx210_2, hx210_3⟩ := at_T44 HR0.out 0 p210 q210; obtain rfl : ad208 = ad210 := (by injection e210); have qi210 : (0 < l0.length) = True := eq_true (by omega); (try rw [show ((0 : Int)).toNat = 0 from rfl] at hx210_0); (try rw [show 0 * 4 = 0 from rfl] at hx210_0); (try rw [Addr.add_zero'] at hx210_0); (try rw [show ((0 : Int)).toNat = 0 from rfl] at hx210_1); (try rw [show 0 * 4 = 0 from rfl] at hx210_1); (try rw [Addr.add_zero'] at hx210_1); (try rw [show ((0 : Int)).toNat = 0 from rfl] at hx210_2); (try rw [show 0 * 4 = 0 from rfl] at hx210_2); (try rw [Addr.add_zero'] at hx210_2); (try rw [show ((0 : Int)).toNat = 0 from rfl] at hx210_3); (try rw [show 0 * 4 = 0 from rfl] at hx210_3); (try rw [Addr.add_zero'] at hx210_3); replace p210 := eq_true p210; replace q210 := eq_true q210) | ((with_reducible refine gate_callee (f := 32) rfl ?_); refine gl_ (some 29) Try.func32 #[.slice (some ad208) l0.length c0, .int .i64 0, .int .i64 1] rfl ?_; (with_reducible refine (impl_colAfter.calls k _ _ l0 0 1 t211 _ ?side1 ?side2 A8.out).mono ?_); (case side1 => exact C_later HR0.out); (case side2 => exact HC0.out); rintro e w9 ⟨rfl, hb⟩; refine ⟨_, rfl, ?_⟩; replace HB := bst HB hb; (try clear hb)))
          go_ret
          exact fin_ (below_later HB.out)
        · rw [if_neg c7] at H
          have c7b0 : (((rd_T44 l0 0).f0).toList == ([] : List UInt8)) = false := beq_eq_false_iff_ne.mpr c7
          have c7b1 : (((rd_T44 l0 0).f0).toList != ([] : List UInt8)) = true := bne_iff_ne.mpr c7
          obtain rfl := Option.some.inj H
          go_enter Try.func18, Try.ntmps18
          go_wp2_with (first | ((with_reducible refine gate_callee (f := 31) rfl ?_); refine gl_ (some 5) Try.func31 #[.int .i64 (l0.length : Int), .int .i64 2, .int .i64 20] rfl ?_; (with_reducible refine (impl_within.calls (l0.length : Int) 2 20 true _ A2.out).mono ?_); rintro e w' ⟨rfl, ⟨nd, rfl⟩⟩; refine ⟨_, rfl, ?_⟩; have p208 : 0 ≤ (0 : Int) := (by omega); have q208 : 0 < (l0.length : Int) := dcd; obtain ⟨ad208, e208, hx208_0, hx208_1, hx208_2, hx208_3⟩ := at_T44 HR0.out 0 p208 q208; cases e208; have qi208 : (0 < l0.length) = True := eq_true (by omega); (try rw [show ((0 : Int)).toNat = 0 from rfl] at hx208_0); (try rw [show 0 * 4 = 0 from rfl] at hx208_0); (try rw [Addr.add_zero'] at hx208_0); (try rw [show ((0 : Int)).toNat = 0 from rfl] at hx208_1); (try rw [show 0 * 4 = 0 from rfl] at hx208_1); (try rw [Addr.add_zero'] at hx208_1); (try rw [show ((0 : Int)).toNat = 0 from rfl] at hx208_2); (try rw [show 0 * 4 = 0 from rfl] at hx208_2); (try rw [Addr.add_zero'] at hx208_2); (try rw [show ((0 : Int)).toNat = 0 from rfl] at hx208_3); (try rw [show 0 * 4 = 0 from rfl] at hx208_3); (try rw [Addr.add_zero'] at hx208_3); replace p208 := eq_true p208; replace q208 := eq_true q208; have p209 : 0 ≤ (0 : Int) := (by omega); have q209 : 0 < (l0.length : Int) := dcd; obtain ⟨ad209, e209, hx209_0, hx209_1, hx209_2, hx209_3⟩ := at_T44 HR0.out 0 p209 q209; obtain rfl : ad208 = ad209 := (by injection e209); have qi209 : (0 < l0.length) = True := eq_true (by omega); (try rw [show ((0 : Int)).toNat = 0 from rfl] at hx209_0); (try rw [show 0 * 4 = 0 from rfl] at hx209_0); (try rw [Addr.add_zero'] at hx209_0); (try rw [show ((0 : Int)).toNat = 0 from rfl] at hx209_1); (try rw [show 0 * 4 = 0 from rfl] at hx209_1); (try rw [Addr.add_zero'] at hx209_1); (try rw [show ((0 : Int)).toNat = 0 from rfl] at hx209_2); (try rw [show 0 * 4 = 0 from rfl] at hx209_2); (try rw [Addr.add_zero'] at hx209_2); (try rw [show ((0 : Int)).toNat = 0 from rfl] at hx209_3); (try rw [show 0 * 4 = 0 from rfl] at hx209_3); (try rw [Addr.add_zero'] at hx209_3); replace p209 := eq_true p209; replace q209 := eq_true q209; have p210 : 0 ≤ (0 : Int) := (by omega); have q210 : 0 < (l0.length : Int) := dcd; obtain ⟨ad210, e210, hx210_0, hx210_1, hx210_2, hx210_3⟩ := at_T44 HR0.out 0 p210 q210; obtain rfl : ad208 = ad210 := (by injection e210); have qi210 : (0 < l0.length) = True := eq_true (by omega); (try rw [show ((0 : Int)).toNat = 0 from rfl] at hx210_0); (try rw [show 0 * 4 = 0 from rfl] at hx210_0); (try rw [Addr.add_zero'] at hx210_0); (try rw [show ((0 : Int)).toNat = 0 from rfl] at hx210_1); (try rw [show 0 * 4 = 0 from rfl] at hx210_1); (try rw [Addr.add_zero'] at hx210_1); (try rw [show ((0 : Int)).toNat = 0 from rfl] at hx210_2); (try rw [show 0 * 4 = 0 from rfl] at hx210_2); (try rw [Addr.add_zero'] at hx210_2); (try rw [show ((0 : Int)).toNat = 0 from rfl] at hx210_3); (try rw [show 0 * 4 = 0 from rfl] at hx210_3); (try rw [Addr.add_zero'] at hx210_3); replace p210 := eq_true p210; replace q210 := eq_true q210))
          go_ret
          exact fin_ (below_later HB.out)
      · rw [if_neg c6] at H
        have c6b0 : (((rd_T44 l0 0).f2) == 0) = false := beq_eq_false_iff_ne.mpr c6
        have c6b1 : (((rd_T44 l0 0).f2) != 0) = true := bne_iff_ne.mpr c6
        obtain rfl := Option.some.inj H
        go_enter Try.func18, Try.ntmps18
        go_wp2_with (first | ((with_reducible refine gate_callee (f := 31) rfl ?_); refine gl_ (some 5) Try.func31 #[.int .i64 (l0.length : Int), .int .i64 2, .int .i64 20] rfl ?_; (with_reducible refine (impl_within.calls (l0.length : Int) 2 20 true _ A2.out).mono ?_); rintro e w' ⟨rfl, ⟨nd, rfl⟩⟩; refine ⟨_, rfl, ?_⟩; have p208 : 0 ≤ (0 : Int) := (by omega); have q208 : 0 < (l0.length : Int) := dcd; obtain ⟨ad208, e208, hx208_0, hx208_1, hx208_2, hx208_3⟩ := at_T44 HR0.out 0 p208 q208; cases e208; have qi208 : (0 < l0.length) = True := eq_true (by omega); (try rw [show ((0 : Int)).toNat = 0 from rfl] at hx208_0); (try rw [show 0 * 4 = 0 from rfl] at hx208_0); (try rw [Addr.add_zero'] at hx208_0); (try rw [show ((0 : Int)).toNat = 0 from rfl] at hx208_1); (try rw [show 0 * 4 = 0 from rfl] at hx208_1); (try rw [Addr.add_zero'] at hx208_1); (try rw [show ((0 : Int)).toNat = 0 from rfl] at hx208_2); (try rw [show 0 * 4 = 0 from rfl] at hx208_2); (try rw [Addr.add_zero'] at hx208_2); (try rw [show ((0 : Int)).toNat = 0 from rfl] at hx208_3); (try rw [show 0 * 4 = 0 from rfl] at hx208_3); (try rw [Addr.add_zero'] at hx208_3); replace p208 := eq_true p208; replace q208 := eq_true q208; have p209 : 0 ≤ (0 : Int) := (by omega); have q209 : 0 < (l0.length : Int) := dcd; obtain ⟨ad209, e209, hx209_0, hx209_1, hx209_2, hx209_3⟩ := at_T44 HR0.out 0 p209 q209; obtain rfl : ad208 = ad209 := (by injection e209); have qi209 : (0 < l0.length) = True := eq_true (by omega); (try rw [show ((0 : Int)).toNat = 0 from rfl] at hx209_0); (try rw [show 0 * 4 = 0 from rfl] at hx209_0); (try rw [Addr.add_zero'] at hx209_0); (try rw [show ((0 : Int)).toNat = 0 from rfl] at hx209_1); (try rw [show 0 * 4 = 0 from rfl] at hx209_1); (try rw [Addr.add_zero'] at hx209_1); (try rw [show ((0 : Int)).toNat = 0 from rfl] at hx209_2); (try rw [show 0 * 4 = 0 from rfl] at hx209_2); (try rw [Addr.add_zero'] at hx209_2); (try rw [show ((0 : Int)).toNat = 0 from rfl] at hx209_3); (try rw [show 0 * 4 = 0 from rfl] at hx209_3); (try rw [Addr.add_zero'] at hx209_3); replace p209 := eq_true p209; replace q209 := eq_true q209))
        go_ret
        exact fin_ (below_later HB.out)
    · rw [if_neg c5] at H
      have c5b0 : (((rd_T44 l0 0).f1) == 7) = false := beq_eq_false_iff_ne.mpr c5
      have c5b1 : (((rd_T44 l0 0).f1) != 7) = true := bne_iff_ne.mpr c5
      obtain rfl := Option.some.inj H
      go_enter Try.func18, Try.ntmps18
      go_wp2_with (first | ((with_reducible refine gate_callee (f := 31) rfl ?_); refine gl_ (some 5) Try.func31 #[.int .i64 (l0.length : Int), .int .i64 2, .int .i64 20] rfl ?_; (with_reducible refine (impl_within.calls (l0.length : Int) 2 20 true _ A2.out).mono ?_); rintro e w' ⟨rfl, ⟨nd, rfl⟩⟩; refine ⟨_, rfl, ?_⟩; have p208 : 0 ≤ (0 : Int) := (by omega); have q208 : 0 < (l0.length : Int) := dcd; obtain ⟨ad208, e208, hx208_0, hx208_1, hx208_2, hx208_3⟩ := at_T44 HR0.out 0 p208 q208; cases e208; have qi208 : (0 < l0.length) = True := eq_true (by omega); (try rw [show ((0 : Int)).toNat = 0 from rfl] at hx208_0); (try rw [show 0 * 4 = 0 from rfl] at hx208_0); (try rw [Addr.add_zero'] at hx208_0); (try rw [show ((0 : Int)).toNat = 0 from rfl] at hx208_1); (try rw [show 0 * 4 = 0 from rfl] at hx208_1); (try rw [Addr.add_zero'] at hx208_1); (try rw [show ((0 : Int)).toNat = 0 from rfl] at hx208_2); (try rw [show 0 * 4 = 0 from rfl] at hx208_2); (try rw [Addr.add_zero'] at hx208_2); (try rw [show ((0 : Int)).toNat = 0 from rfl] at hx208_3); (try rw [show 0 * 4 = 0 from rfl] at hx208_3); (try rw [Addr.add_zero'] at hx208_3); replace p208 := eq_true p208; replace q208 := eq_true q208))
      go_ret
      exact fin_ (below_later HB.out)
  · replace c3 := Bool.eq_false_iff.mpr c3
    subst c3
    replace H := ifn Bool.false_ne_true H
    obtain rfl := Option.some.inj H
    go_enter Try.func18, Try.ntmps18
    go_wp2_with (first | ((with_reducible refine gate_callee (f := 31) rfl ?_); refine gl_ (some 5) Try.func31 #[.int .i64 (l0.length : Int), .int .i64 2, .int .i64 20] rfl ?_; (with_reducible refine (impl_within.calls (l0.length : Int) 2 20 false _ A2.out).mono ?_); rintro e w' ⟨rfl, ⟨nd, rfl⟩⟩; refine ⟨_, rfl, ?_⟩))
    go_ret
    exact fin_ (below_later HB.out)

-- NOT PRINTED: function 41 (impl_walker_next)

/-! ### impl_isInt32: function 45 -/
def impl_isInt32.f (a0 : Int) : Option (Bool) := (impl_within.f a0 (-2147483648) 2147483647).bind fun t212 => (some t212)
set_option maxHeartbeats 8000000 in
set_option maxRecDepth 100000 in
theorem impl_isInt32.calls (a0 : Int) (r : Bool) (w : World) (h : impl_isInt32.f a0 = some r) :
    Calls Try.prog 45 #[.int .i64 a0] w fun e w' => e = .returned (.bool r) ∧ Drawn0 w w' := by
  have H : ((impl_within.f a0 (-2147483648) 2147483647).bind fun t212 => (some t212)) = some r := h
  clear h
  replace H := bnd H
  obtain ⟨t212, A2, H⟩ := H
  obtain rfl := Option.some.inj H
  go_enter Try.func45, Try.ntmps45
  go_wp2_with (first | ((with_reducible refine gate_callee (f := 31) rfl ?_); refine gl_ (some 4) Try.func31 #[.int .i64 a0, .int .i64 (-2147483648), .int .i64 2147483647] rfl ?_; (with_reducible refine (impl_within.calls a0 (-2147483648) 2147483647 t212 _ A2.out).mono ?_); rintro e w' ⟨rfl, ⟨nd, rfl⟩⟩; refine ⟨_, rfl, ?_⟩))
  go_ret
  exact ⟨by first | rfl | (simp; done) | (simp [*]; done), by repeat (first | exact Drawn0.refl _ | apply Drawn0.step)⟩

/-! ### impl_ValOk: function 42 -/
def impl_ValOk.f (a0 : Int) (a1_0 : Int) (a1_1 : ByteArray) : Option (Bool) := if a0 = 0 then ((impl_within.f a1_0 0 1).bind fun t214 => (if t214 = true then (some (a1_1.toList == ([] : List UInt8))) else (some false))) else (if a0 = 1 then ((impl_isInt32.f a1_0).bind fun t215 => (if t215 = true then (some (a1_1.toList == ([] : List UInt8))) else (some false))) else (if a0 = 2 then (some (a1_1.toList == ([] : List UInt8))) else (if a0 = 5 then (some (a1_1.toList == ([] : List UInt8))) else (if a0 = 6 then (if a1_0 = 0 then (some (decide ((a1_1.size : Int) ≤ 40))) else (some false)) else (some false)))))
set_option maxHeartbeats 8000000 in
set_option maxRecDepth 100000 in
theorem impl_ValOk.calls (a0 : Int) (a1_0 : Int) (a1_1 : ByteArray) (r : Bool) (w : World) (h : impl_ValOk.f a0 a1_0 a1_1 = some r) :
    Calls Try.prog 42 #[.int .i64 a0, .agg #[.int .i64 a1_0, .string a1_1]] w fun e w' => e = .returned (.bool r) ∧ Below w.heap.size w w' := by
  have hu49 := Try.underlying49
  have HB := Aside0.mk (Below.refl w.heap.size w)
  have H : (if a0 = 0 then ((impl_within.f a1_0 0 1).bind fun t214 => (if t214 = true then (some (a1_1.toList == ([] : List UInt8))) else (some false))) else (if a0 = 1 then ((impl_isInt32.f a1_0).bind fun t215 => (if t215 = true then (some (a1_1.toList == ([] : List UInt8))) else (some false))) else (if a0 = 2 then (some (a1_1.toList == ([] : List UInt8))) else (if a0 = 5 then (some (a1_1.toList == ([] : List UInt8))) else (if a0 = 6 then (if a1_0 = 0 then (some (decide ((a1_1.size : Int) ≤ 40))) else (some false)) else (some false)))))) = some r := h
  clear h
  by_cases c3 : a0 = 0
  · rw [if_pos c3] at H
    have c3b0 : (a0 == 0) = true := beq_iff_eq.mpr c3
    have c3b1 : (a0 != 0) = false := bne_eq_false_iff_eq.mpr c3
    clear c3
    replace H := bnd H
    obtain ⟨t214, A4, H⟩ := H
    by_cases c5 : t214 = true
    · subst c5
      replace H := ifp rfl H
      obtain rfl := Option.some.inj H
      go_enter Try.func42, Try.ntmps42
      go_wp2_with (first | ((with_reducible refine gate_dst (N := 3) rfl ?_); (try (refine gate_guard (by rfl) ?_; dsimp only)); refine bx_ 3 #[.int .i64 a1_0, .string a1_1] 49 ?_; intro gb213 hg w6 hbox hb; have BK213 := Aside0.mk (hbox); have GW213 := gwe HB hg; have GE213 := GW213; replace HB := bst HB hb; clear hb hbox hg; obtain ⟨hcz7_0, hcz7_1, hfz7_0, hfz7_1⟩ := cl2 BK213) | ((with_reducible refine gate_callee (f := 31) rfl ?_); refine gl_ (some 10) Try.func31 #[.int .i64 a1_0, .int .i64 0, .int .i64 1] rfl ?_; (with_reducible refine (impl_within.calls a1_0 0 1 true _ A4.out).mono ?_); rintro e w' ⟨rfl, ⟨nd, rfl⟩⟩; refine ⟨_, rfl, ?_⟩))
      go_ret
      exact fin_ (below_later HB.out)
    · replace c5 := Bool.eq_false_iff.mpr c5
      subst c5
      replace H := ifn Bool.false_ne_true H
      obtain rfl := Option.some.inj H
      go_enter Try.func42, Try.ntmps42
      go_wp2_with (first | ((with_reducible refine gate_dst (N := 3) rfl ?_); (try (refine gate_guard (by rfl) ?_; dsimp only)); refine bx_ 3 #[.int .i64 a1_0, .string a1_1] 49 ?_; intro gb213 hg w8 hbox hb; have BK213 := Aside0.mk (hbox); have GW213 := gwe HB hg; have GE213 := GW213; replace HB := bst HB hb; clear hb hbox hg; obtain ⟨hcz9_0, hcz9_1, hfz9_0, hfz9_1⟩ := cl2 BK213) | ((with_reducible refine gate_callee (f := 31) rfl ?_); refine gl_ (some 10) Try.func31 #[.int .i64 a1_0, .int .i64 0, .int .i64 1] rfl ?_; (with_reducible refine (impl_within.calls a1_0 0 1 false _ A4.out).mono ?_); rintro e w' ⟨rfl, ⟨nd, rfl⟩⟩; refine ⟨_, rfl, ?_⟩))
      go_ret
      exact fin_ (below_later HB.out)
  · rw [if_neg c3] at H
    have c3b0 : (a0 == 0) = false := beq_eq_false_iff_ne.mpr c3
    have c3b1 : (a0 != 0) = true := bne_iff_ne.mpr c3
    by_cases c10 : a0 = 1
    · rw [if_pos c10] at H
      have c10b0 : (a0 == 1) = true := beq_iff_eq.mpr c10
      have c10b1 : (a0 != 1) = false := bne_eq_false_iff_eq.mpr c10
      clear c10
      replace H := bnd H
      obtain ⟨t215, A11, H⟩ := H
      by_cases c12 : t215 = true
      · subst c12
        replace H := ifp rfl H
        obtain rfl := Option.some.inj H
        go_enter Try.func42, Try.ntmps42
        go_wp2_with (first | ((with_reducible refine gate_dst (N := 3) rfl ?_); (try (refine gate_guard (by rfl) ?_; dsimp only)); refine bx_ 3 #[.int .i64 a1_0, .string a1_1] 49 ?_; intro gb213 hg w13 hbox hb; have BK213 := Aside0.mk (hbox); have GW213 := gwe HB hg; have GE213 := GW213; replace HB := bst HB hb; clear hb hbox hg; obtain ⟨hcz14_0, hcz14_1, hfz14_0, hfz14_1⟩ := cl2 BK213) | ((with_reducible refine gate_callee (f := 45) rfl ?_); refine gl_ (some 20) Try.func45 #[.int .i64 a1_0] rfl ?_; (with_reducible refine (impl_isInt32.calls a1_0 true _ A11.out).mono ?_); rintro e w' ⟨rfl, ⟨nd, rfl⟩⟩; refine ⟨_, rfl, ?_⟩))
        go_ret
        exact fin_ (below_later HB.out)
      · replace c12 := Bool.eq_false_iff.mpr c12
        subst c12
        replace H := ifn Bool.false_ne_true H
        obtain rfl := Option.some.inj H
        go_enter Try.func42, Try.ntmps42
        go_wp2_with (first | ((with_reducible refine gate_dst (N := 3) rfl ?_); (try (refine gate_guard (by rfl) ?_; dsimp only)); refine bx_ 3 #[.int .i64 a1_0, .string a1_1] 49 ?_; intro gb213 hg w15 hbox hb; have BK213 := Aside0.mk (hbox); have GW213 := gwe HB hg; have GE213 := GW213; replace HB := bst HB hb; clear hb hbox hg; obtain ⟨hcz16_0, hcz16_1, hfz16_0, hfz16_1⟩ := cl2 BK213) | ((with_reducible refine gate_callee (f := 45) rfl ?_); refine gl_ (some 20) Try.func45 #[.int .i64 a1_0] rfl ?_; (with_reducible refine (impl_isInt32.calls a1_0 false _ A11.out).mono ?_); rintro e w' ⟨rfl, ⟨nd, rfl⟩⟩; refine ⟨_, rfl, ?_⟩))
        go_ret
        exact fin_ (below_later HB.out)
    · rw [if_neg c10] at H
      have c10b0 : (a0 == 1) = false := beq_eq_false_iff_ne.mpr c10
      have c10b1 : (a0 != 1) = true := bne_iff_ne.mpr c10
      by_cases c17 : a0 = 2
      · rw [if_pos c17] at H
        have c17b0 : (a0 == 2) = true := beq_iff_eq.mpr c17
        have c17b1 : (a0 != 2) = false := bne_eq_false_iff_eq.mpr c17
        clear c17
        obtain rfl := Option.some.inj H
        go_enter Try.func42, Try.ntmps42
        go_wp2_with (first | ((with_reducible refine gate_dst (N := 3) rfl ?_); (try (refine gate_guard (by rfl) ?_; dsimp only)); refine bx_ 3 #[.int .i64 a1_0, .string a1_1] 49 ?_; intro gb213 hg w18 hbox hb; have BK213 := Aside0.mk (hbox); have GW213 := gwe HB hg; have GE213 := GW213; replace HB := bst HB hb; clear hb hbox hg; obtain ⟨hcz19_0, hcz19_1, hfz19_0, hfz19_1⟩ := cl2 BK213))
        go_ret
        exact fin_ (below_later HB.out)
      · rw [if_neg c17] at H
        have c17b0 : (a0 == 2) = false := beq_eq_false_iff_ne.mpr c17
        have c17b1 : (a0 != 2) = true := bne_iff_ne.mpr c17
        by_cases c20 : a0 = 5
        · rw [if_pos c20] at H
          have c20b0 : (a0 == 5) = true := beq_iff_eq.mpr c20
          have c20b1 : (a0 != 5) = false := bne_eq_false_iff_eq.mpr c20
          clear c20
          obtain rfl := Option.some.inj H
          go_enter Try.func42, Try.ntmps42
          go_wp2_with (first | ((with_reducible refine gate_dst (N := 3) rfl ?_); (try (refine gate_guard (by rfl) ?_; dsimp only)); refine bx_ 3 #[.int .i64 a1_0, .string a1_1] 49 ?_; intro gb213 hg w21 hbox hb; have BK213 := Aside0.mk (hbox); have GW213 := gwe HB hg; have GE213 := GW213; replace HB := bst HB hb; clear hb hbox hg; obtain ⟨hcz22_0, hcz22_1, hfz22_0, hfz22_1⟩ := cl2 BK213))
          go_ret
          exact fin_ (below_later HB.out)
        · rw [if_neg c20] at H
          have c20b0 : (a0 == 5) = false := beq_eq_false_iff_ne.mpr c20
          have c20b1 : (a0 != 5) = true := bne_iff_ne.mpr c20
          by_cases c23 : a0 = 6
          · rw [if_pos c23] at H
            have c23b0 : (a0 == 6) = true := beq_iff_eq.mpr c23
            have c23b1 : (a0 != 6) = false := bne_eq_false_iff_eq.mpr c23
            clear c23
            by_cases c24 : a1_0 = 0
            · rw [if_pos c24] at H
              have c24b0 : (a1_0 == 0) = true := beq_iff_eq.mpr c24
              have c24b1 : (a1_0 != 0) = false := bne_eq_false_iff_eq.mpr c24
              clear c24
              obtain rfl := Option.some.inj H
              go_enter Try.func42, Try.ntmps42
              go_wp2_with (first | ((with_reducible refine gate_dst (N := 3) rfl ?_); (try (refine gate_guard (by rfl) ?_; dsimp only)); refine bx_ 3 #[.int .i64 a1_0, .string a1_1] 49 ?_; intro gb213 hg w25 hbox hb; have BK213 := Aside0.mk (hbox); have GW213 := gwe HB hg; have GE213 := GW213; replace HB := bst HB hb; clear hb hbox hg; obtain ⟨hcz26_0, hcz26_1, hfz26_0, hfz26_1⟩ := cl2 BK213))
              go_ret
              exact fin_ (below_later HB.out)
            · rw [if_neg c24] at H
              have c24b0 : (a1_0 == 0) = false := beq_eq_false_iff_ne.mpr c24
              have c24b1 : (a1_0 != 0) = true := bne_iff_ne.mpr c24
              obtain rfl := Option.some.inj H
              go_enter Try.func42, Try.ntmps42
              go_wp2_with (first | ((with_reducible refine gate_dst (N := 3) rfl ?_); (try (refine gate_guard (by rfl) ?_; dsimp only)); refine bx_ 3 #[.int .i64 a1_0, .string a1_1] 49 ?_; intro gb213 hg w27 hbox hb; have BK213 := Aside0.mk (hbox); have GW213 := gwe HB hg; have GE213 := GW213; replace HB := bst HB hb; clear hb hbox hg; obtain ⟨hcz28_0, hcz28_1, hfz28_0, hfz28_1⟩ := cl2 BK213))
              go_ret
              exact fin_ (below_later HB.out)
          · rw [if_neg c23] at H
            have c23b0 : (a0 == 6) = false := beq_eq_false_iff_ne.mpr c23
            have c23b1 : (a0 != 6) = true := bne_iff_ne.mpr c23
            obtain rfl := Option.some.inj H
            go_enter Try.func42, Try.ntmps42
            go_wp2_with (first | ((with_reducible refine gate_dst (N := 3) rfl ?_); (try (refine gate_guard (by rfl) ?_; dsimp only)); refine bx_ 3 #[.int .i64 a1_0, .string a1_1] 49 ?_; intro gb213 hg w29 hbox hb; have BK213 := Aside0.mk (hbox); have GW213 := gwe HB hg; have GE213 := GW213; replace HB := bst HB hb; clear hb hbox hg))
            go_ret
            exact fin_ (below_later HB.out)

-- NOT PRINTED: function 46 (impl_walker_count)

-- NOT PRINTED: function 47 (impl_walker_missing)

-- NOT PRINTED: function 43 (impl_walker_col)

-- NOT PRINTED: function 33 (impl_walker_body)

-- NOT PRINTED: function 19 (impl_walk)

end Go.Proofs.Ytfaaoljihmlbmaa.PFnExactRecOk
