/- The machine's side of FnCut, written by wip/tools/hyb.py of this repo: each Go function as a plain Lean function, and the proof that the call comes to just its answer. No condition. -/
import Derived.Test.YtbiobenhhnbbaaaPFnCutx0
import Derived.Test.YtbiobenhhnbbaaaPFnCutx2
namespace Go.Proofs.Ytbiobenhhnbbaaa.PFnCut
open Go.RowKit Go.Proofs.YtbiobenhhnbbaaaW.PrintWords Go.Proofs.YtbiobenhhnbbaaaW.PrintLast Go.Proofs.YtbiobenhhnbbaaaW.PrintMore Go.Proofs.YtbiobenhhnbbaaaW.PrintMore2
attribute [local go_sem] max2_int min2_int max_two min_two max_three min_three max_four min_four   -- for this text's walks alone
set_option linter.unusedVariables false
set_option linter.unusedSimpArgs false

/-! ### spec_l5After: function 33 -/
mutual
def spec_l5After.l0 : Nat → List (S61) → Int → Int → Int → Option (Int)
  | 0, _, _, _, _ => none
  | k + 1, x0, x1, x5, x6 => if 0 ≤ x1 then (if x1 < (x0.length : Int) then (if x6 < ((rd_T61 x0 x1).f3) then ((spec_l5After.f k x0 x5).bind fun t204 => (spec_l5After.l0 k x0 x1 t204 (wrap64 (x6 + 1)))) else (some x5)) else (none)) else (none)
def spec_l5After.f : Nat → List (S61) → Int → Option (Int)
  | 0, _, _ => none
  | k + 1, l0, a1 => spec_l5After.l0 k l0 a1 (wrap64 (a1 + 1)) 0
end
set_option maxHeartbeats 8000000 in
set_option maxRecDepth 100000 in
theorem spec_l5After.calls (k : Nat) : ∀ (A0 : Option Addr) (c0 : Nat) (l0 : List (S61)) (a1 : Int) (r : Int) (w : World) (hr0 : Kd.C k61 w A0 l0.length l0) (hc0 : l0.length ≤ c0) (h : spec_l5After.f k l0 a1 = some r),
    Calls Try.prog 33 #[.slice A0 l0.length c0, .int .i64 a1] w fun e w' => e = .returned (.int .i64 r) ∧ Drawn0 w w' := by
  induction k using Nat.strongRecOn with
  | _ k ih =>
  intro A0 c0 l0 a1 r w hr0 hc0 h
  cases k with
  | zero => exact absurd h (by simp [spec_l5After.f])
  | succ k =>
  simp only [spec_l5After.f] at h
  have HR0 := Aside0.mk hr0
  have HC0 := Aside0.mk hc0
  clear hr0 hc0
  have H : (spec_l5After.l0 k l0 a1 (wrap64 (a1 + 1)) 0) = some r := h
  clear h
  have H' := Aside0.mk H
  clear H
  go_enter Try.func33, Try.ntmps33
  go_wp2
  go_loopg [5, 6] k (fun kq v5 v6 w' => ∃ (x5_1 : Int) (x6_1 : Int), v5 = .int .i64 x5_1 ∧ v6 = .int .i64 x6_1 ∧ Aside0 (spec_l5After.l0 kq l0 a1 x5_1 x6_1 = some r) ∧ Aside0 (kq ≤ k) ∧ Drawn0 w w')
  case atStart => exact ⟨(wrap64 (a1 + 1)), (0), sr, sr, H', ⟨Nat.le_refl _⟩, by repeat (first | exact Drawn0.refl _ | apply Drawn0.step)⟩
  case round =>
    clear H'
    obtain ⟨x5_1, x6_1, rfl, rfl, HA, HK1, ⟨m1, rfl⟩⟩ := hrel
    cases gk with
    | zero => exact absurd HA.out (by simp [spec_l5After.l0])
    | succ k1 =>
      have H := HA.out
      clear HA
      simp only [spec_l5After.l0] at H
      replace H := ifd H
      obtain ⟨c3b0, H⟩ := H
      replace H := ifd H
      obtain ⟨c4b0, H⟩ := H
      by_cases c5 : x6_1 < ((rd_T61 l0 a1).f3)
      · rw [if_pos c5] at H
        have c5b0 := decide_eq_true c5
        clear c5
        replace H := bnd H
        obtain ⟨t204, A6, H⟩ := H
        have H' := Aside0.mk H
        clear H
        have p203 : 0 ≤ (a1 : Int) := dcd
        have q203 : a1 < (l0.length : Int) := dcd
        obtain ⟨ad203, e203, hx203_0, hx203_1, hx203_2, hx203_3⟩ := at_T61 HR0.out a1 p203 q203
        cases e203
        replace p203 := eq_true p203
        replace q203 := eq_true q203
        go_wp2_with (first | ((with_reducible refine gate_callee (f := 33) rfl ?_); refine gl_ (some 20) Try.func33 #[.slice (some ad203) l0.length c0, .int .i64 x5_1] rfl ?_; (with_reducible refine (ih k1 (by have := HK1.out; omega) _ _ l0 x5_1 t204 _ ?side1 ?side2 A6.out).mono ?_); (case side1 => exact C_later HR0.out); (case side2 => exact HC0.out); rintro e w' ⟨rfl, ⟨nd, rfl⟩⟩; refine ⟨_, rfl, ?_⟩))
        go_roundg k1
        case measure => have := HK1.out; omega
        case rel => exact ⟨(t204), (wrap64 (x6_1 + 1)), sr, sr, H', ⟨by have := HK1.out; omega⟩, by repeat (first | exact Drawn0.refl _ | apply Drawn0.step)⟩
      · rw [if_neg c5] at H
        have c5b0 := decide_eq_false c5
        clear c5
        obtain rfl := Option.some.inj H
        have p203 : 0 ≤ (a1 : Int) := dcd
        have q203 : a1 < (l0.length : Int) := dcd
        obtain ⟨ad203, e203, hx203_0, hx203_1, hx203_2, hx203_3⟩ := at_T61 HR0.out a1 p203 q203
        cases e203
        replace p203 := eq_true p203
        replace q203 := eq_true q203
        go_wp2
        go_ret
        exact ⟨by first | rfl | (simp; done) | (simp [*]; done), by repeat (first | exact Drawn0.refl _ | apply Drawn0.step)⟩
/-! ### spec_l4Int: function 44 -/
def spec_l4Int.f (a0 : Int) : Option (Bool) := (spec_l1In.f a0 (-2147483648) 2147483647).bind fun t205 => (some t205)
set_option maxHeartbeats 8000000 in
set_option maxRecDepth 100000 in
theorem spec_l4Int.calls (a0 : Int) (r : Bool) (w : World) (h : spec_l4Int.f a0 = some r) :
    Calls Try.prog 44 #[.int .i64 a0] w fun e w' => e = .returned (.bool r) ∧ Drawn0 w w' := by
  have H : ((spec_l1In.f a0 (-2147483648) 2147483647).bind fun t205 => (some t205)) = some r := h
  clear h
  replace H := bnd H
  obtain ⟨t205, A2, H⟩ := H
  obtain rfl := Option.some.inj H
  go_enter Try.func44, Try.ntmps44
  go_wp2_with (first | ((with_reducible refine gate_callee (f := 14) rfl ?_); refine gl_ (some 4) Try.func14 #[.int .i64 a0, .int .i64 (-2147483648), .int .i64 2147483647] rfl ?_; (with_reducible refine (spec_l1In.calls a0 (-2147483648) 2147483647 t205 _ A2.out).mono ?_); rintro e w' ⟨rfl, ⟨nd, rfl⟩⟩; refine ⟨_, rfl, ?_⟩))
  go_ret
  exact ⟨by first | rfl | (simp; done) | (simp [*]; done), by repeat (first | exact Drawn0.refl _ | apply Drawn0.step)⟩

/-! ### spec_ValOk: function 39 -/
def spec_ValOk.j0 : Nat → Int → Bool → Int → ByteArray → Option (Bool)
  | 0, _, _, _, _ => none
  | k + 1, x5, x26, x207000, x207001 => if x26 = true then (some (x207001.toList == ([] : List UInt8))) else (if x5 = 6 then (if x207000 = 0 then (some (decide ((x207001.size : Int) ≤ 40))) else (some false)) else (some false))
def spec_ValOk.f (k : Nat) (a0 : Int) (a1_0 : Int) (a1_1 : ByteArray) : Option (Bool) := if a0 = 0 then ((spec_l1In.f a1_0 0 1).bind fun t207 => (if t207 = true then (some (a1_1.toList == ([] : List UInt8))) else (some false))) else (if a0 = 1 then ((spec_l4Int.f a1_0).bind fun t208 => (if t208 = true then (some (a1_1.toList == ([] : List UInt8))) else (some false))) else (if a0 = 2 then (spec_ValOk.j0 k a0 (a0 == 2) a1_0 a1_1) else (spec_ValOk.j0 k a0 (a0 == 5) a1_0 a1_1)))
set_option maxHeartbeats 8000000 in
set_option maxRecDepth 100000 in
theorem spec_ValOk.calls (k : Nat) (a0 : Int) (a1_0 : Int) (a1_1 : ByteArray) (r : Bool) (w : World) (h : spec_ValOk.f k a0 a1_0 a1_1 = some r) :
    Calls Try.prog 39 #[.int .i64 a0, .agg #[.int .i64 a1_0, .string a1_1]] w fun e w' => e = .returned (.bool r) ∧ Below w.heap.size w w' := by
  have hu33 := Try.underlying33
  have HB := Aside0.mk (Below.refl w.heap.size w)
  have H : (if a0 = 0 then ((spec_l1In.f a1_0 0 1).bind fun t207 => (if t207 = true then (some (a1_1.toList == ([] : List UInt8))) else (some false))) else (if a0 = 1 then ((spec_l4Int.f a1_0).bind fun t208 => (if t208 = true then (some (a1_1.toList == ([] : List UInt8))) else (some false))) else (if a0 = 2 then (spec_ValOk.j0 k a0 (a0 == 2) a1_0 a1_1) else (spec_ValOk.j0 k a0 (a0 == 5) a1_0 a1_1)))) = some r := h
  clear h
  by_cases c3 : a0 = 0
  · rw [if_pos c3] at H
    have c3b0 : (a0 == 0) = true := beq_iff_eq.mpr c3
    have c3b1 : (a0 != 0) = false := bne_eq_false_iff_eq.mpr c3
    clear c3
    replace H := bnd H
    obtain ⟨t207, A4, H⟩ := H
    by_cases c5 : t207 = true
    · subst c5
      replace H := ifp rfl H
      obtain rfl := Option.some.inj H
      go_enter Try.func39, Try.ntmps39
      go_wp2_with (first | ((with_reducible refine gate_dst (N := 3) rfl ?_); (try (refine gate_guard (by rfl) ?_; dsimp only)); refine bx_ 3 #[.int .i64 a1_0, .string a1_1] 33 ?_; intro gb206 hg w6 hbox hb; have BK206 := Aside0.mk (hbox); have GW206 := gwe HB hg; have GE206 := GW206; replace HB := bst HB hb; clear hb hbox hg; obtain ⟨hcz7_0, hcz7_1, hfz7_0, hfz7_1⟩ := cl2 BK206) | ((with_reducible refine gate_callee (f := 14) rfl ?_); refine gl_ (some 10) Try.func14 #[.int .i64 a1_0, .int .i64 0, .int .i64 1] rfl ?_; (with_reducible refine (spec_l1In.calls a1_0 0 1 true _ A4.out).mono ?_); rintro e w' ⟨rfl, ⟨nd, rfl⟩⟩; refine ⟨_, rfl, ?_⟩))
      go_ret
      exact fin_ (below_later HB.out)
    · replace c5 := Bool.eq_false_iff.mpr c5
      subst c5
      replace H := ifn Bool.false_ne_true H
      obtain rfl := Option.some.inj H
      go_enter Try.func39, Try.ntmps39
      go_wp2_with (first | ((with_reducible refine gate_dst (N := 3) rfl ?_); (try (refine gate_guard (by rfl) ?_; dsimp only)); refine bx_ 3 #[.int .i64 a1_0, .string a1_1] 33 ?_; intro gb206 hg w8 hbox hb; have BK206 := Aside0.mk (hbox); have GW206 := gwe HB hg; have GE206 := GW206; replace HB := bst HB hb; clear hb hbox hg; obtain ⟨hcz9_0, hcz9_1, hfz9_0, hfz9_1⟩ := cl2 BK206) | ((with_reducible refine gate_callee (f := 14) rfl ?_); refine gl_ (some 10) Try.func14 #[.int .i64 a1_0, .int .i64 0, .int .i64 1] rfl ?_; (with_reducible refine (spec_l1In.calls a1_0 0 1 false _ A4.out).mono ?_); rintro e w' ⟨rfl, ⟨nd, rfl⟩⟩; refine ⟨_, rfl, ?_⟩))
      go_ret
      exact fin_ (below_later HB.out)
  · rw [if_neg c3] at H
    have c3b0 : (a0 == 0) = false := beq_eq_false_iff_ne.mpr c3
    have c3b1 : (a0 != 0) = true := bne_iff_ne.mpr c3
    by_cases c10 : a0 = 1
    · rw [if_pos c10] at H
      have c10b0 : (a0 == 1) = true := beq_iff_eq.mpr c10
      have c10b1 : (a0 != 1) = false := bne_eq_false_iff_eq.mpr c10
      clear c10
      replace H := bnd H
      obtain ⟨t208, A11, H⟩ := H
      by_cases c12 : t208 = true
      · subst c12
        replace H := ifp rfl H
        obtain rfl := Option.some.inj H
        go_enter Try.func39, Try.ntmps39
        go_wp2_with (first | ((with_reducible refine gate_dst (N := 3) rfl ?_); (try (refine gate_guard (by rfl) ?_; dsimp only)); refine bx_ 3 #[.int .i64 a1_0, .string a1_1] 33 ?_; intro gb206 hg w13 hbox hb; have BK206 := Aside0.mk (hbox); have GW206 := gwe HB hg; have GE206 := GW206; replace HB := bst HB hb; clear hb hbox hg; obtain ⟨hcz14_0, hcz14_1, hfz14_0, hfz14_1⟩ := cl2 BK206) | ((with_reducible refine gate_callee (f := 44) rfl ?_); refine gl_ (some 20) Try.func44 #[.int .i64 a1_0] rfl ?_; (with_reducible refine (spec_l4Int.calls a1_0 true _ A11.out).mono ?_); rintro e w' ⟨rfl, ⟨nd, rfl⟩⟩; refine ⟨_, rfl, ?_⟩))
        go_ret
        exact fin_ (below_later HB.out)
      · replace c12 := Bool.eq_false_iff.mpr c12
        subst c12
        replace H := ifn Bool.false_ne_true H
        obtain rfl := Option.some.inj H
        go_enter Try.func39, Try.ntmps39
        go_wp2_with (first | ((with_reducible refine gate_dst (N := 3) rfl ?_); (try (refine gate_guard (by rfl) ?_; dsimp only)); refine bx_ 3 #[.int .i64 a1_0, .string a1_1] 33 ?_; intro gb206 hg w15 hbox hb; have BK206 := Aside0.mk (hbox); have GW206 := gwe HB hg; have GE206 := GW206; replace HB := bst HB hb; clear hb hbox hg; obtain ⟨hcz16_0, hcz16_1, hfz16_0, hfz16_1⟩ := cl2 BK206) | ((with_reducible refine gate_callee (f := 44) rfl ?_); refine gl_ (some 20) Try.func44 #[.int .i64 a1_0] rfl ?_; (with_reducible refine (spec_l4Int.calls a1_0 false _ A11.out).mono ?_); rintro e w' ⟨rfl, ⟨nd, rfl⟩⟩; refine ⟨_, rfl, ?_⟩))
        go_ret
        exact fin_ (below_later HB.out)
    · rw [if_neg c10] at H
      have c10b0 : (a0 == 1) = false := beq_eq_false_iff_ne.mpr c10
      have c10b1 : (a0 != 1) = true := bne_iff_ne.mpr c10
      have HC17 := Aside0.mk H
      clear H
      go_enter Try.func39, Try.ntmps39
      go_upto_if 26 with (first | ((with_reducible refine gate_dst (N := 3) rfl ?_); (try (refine gate_guard (by rfl) ?_; dsimp only)); refine bx_ 3 #[.int .i64 a1_0, .string a1_1] 33 ?_; intro gb206 hg w18 hbox hb; have BK206 := Aside0.mk (hbox); have GW206 := gwe HB hg; have GE206 := GW206; replace HB := bst HB hb; clear hb hbox hg))
      (try simp only [Act.put, List.setIfInBounds_toArray, List.set_cons_zero, List.set_cons_succ])
      go_cut [26] (fun v26 wc => ∃ (kq : Nat) (x26_16 : Bool), v26 = .bool x26_16 ∧ Aside0 (spec_ValOk.j0 kq a0 x26_16 a1_0 a1_1 = some r) ∧ Aside0 (kq ≤ k) ∧ Aside0 (wc.heap[gb206]? = some (.cells #[.int .i64 a1_0, .string a1_1] 33 (0, 0))) ∧ Aside0 (Below w.heap.size w wc))
      case first =>
        have H := HC17.out
        clear HC17
        by_cases c19 : a0 = 2
        · rw [if_pos c19] at H
          have c19b0 : (a0 == 2) = true := beq_iff_eq.mpr c19
          have c19b1 : (a0 != 2) = false := bne_eq_false_iff_eq.mpr c19
          clear c19
          (first | rw [c19b0] | rw [c19b1] | (simp only [i64_w, i32_w]; rw [c19b0]) | skip)
          have H' := Aside0.mk H
          clear H
          go_wp2
          go_meet
          case rel => exact ⟨_, ((a0 == 2)), sr, H', ⟨by first | omega | exact Nat.le_refl _⟩, ⟨blk_later BK206.out⟩, ⟨below_later HB.out⟩⟩
        · rw [if_neg c19] at H
          have c19b0 : (a0 == 2) = false := beq_eq_false_iff_ne.mpr c19
          have c19b1 : (a0 != 2) = true := bne_iff_ne.mpr c19
          (first | rw [c19b0] | rw [c19b1] | (simp only [i64_w, i32_w]; rw [c19b0]) | skip)
          have H' := Aside0.mk H
          clear H
          go_wp2
          go_meet
          case rel => exact ⟨_, ((a0 == 5)), sr, H', ⟨by first | omega | exact Nat.le_refl _⟩, ⟨blk_later BK206.out⟩, ⟨below_later HB.out⟩⟩
      case rest =>
        clear HC17
        try clear c3
        try clear c3b0
        try clear c3b1
        try clear c10
        try clear c10b0
        try clear c10b1
        obtain ⟨kq, x26_16, rfl, HA, HJ16, BK206, HB⟩ := hcut
        cases kq with
        | zero => exact absurd HA.out (by simp [spec_ValOk.j0])
        | succ kj16 =>
          have H := HA.out
          clear HA
          simp only [spec_ValOk.j0] at H
          by_cases c20 : x26_16 = true
          · subst c20
            replace H := ifp rfl H
            obtain rfl := Option.some.inj H
            obtain ⟨hcz21_0, hcz21_1, hfz21_0, hfz21_1⟩ := cl2 BK206
            go_wp2
            go_ret
            exact fin_ (below_later HB.out)
          · replace c20 := Bool.eq_false_iff.mpr c20
            subst c20
            replace H := ifn Bool.false_ne_true H
            by_cases c22 : a0 = 6
            · rw [if_pos c22] at H
              have c22b0 : (a0 == 6) = true := beq_iff_eq.mpr c22
              have c22b1 : (a0 != 6) = false := bne_eq_false_iff_eq.mpr c22
              clear c22
              by_cases c23 : a1_0 = 0
              · rw [if_pos c23] at H
                have c23b0 : (a1_0 == 0) = true := beq_iff_eq.mpr c23
                have c23b1 : (a1_0 != 0) = false := bne_eq_false_iff_eq.mpr c23
                clear c23
                obtain rfl := Option.some.inj H
                obtain ⟨hcz24_0, hcz24_1, hfz24_0, hfz24_1⟩ := cl2 BK206
                go_wp2
                go_ret
                exact fin_ (below_later HB.out)
              · rw [if_neg c23] at H
                have c23b0 : (a1_0 == 0) = false := beq_eq_false_iff_ne.mpr c23
                have c23b1 : (a1_0 != 0) = true := bne_iff_ne.mpr c23
                obtain rfl := Option.some.inj H
                obtain ⟨hcz25_0, hcz25_1, hfz25_0, hfz25_1⟩ := cl2 BK206
                go_wp2
                go_ret
                exact fin_ (below_later HB.out)
            · rw [if_neg c22] at H
              have c22b0 : (a0 == 6) = false := beq_eq_false_iff_ne.mpr c22
              have c22b1 : (a0 != 6) = true := bne_iff_ne.mpr c22
              obtain rfl := Option.some.inj H
              go_wp2
              go_ret
              exact fin_ (below_later HB.out)

/-! ### spec_l13Count: function 45 -/
def spec_l13Count.f (a0_0 : Int) (a0_1 : ByteArray) (a1 : Int) : Option (Int) := if a0_1.toList = ([] : List UInt8) then ((spec_l1In.f a0_0 0 a1).bind fun t210 => (if t210 = true then (some a0_0) else (some (-1)))) else (some (-1))
set_option maxHeartbeats 8000000 in
set_option maxRecDepth 100000 in
theorem spec_l13Count.calls (a0_0 : Int) (a0_1 : ByteArray) (a1 : Int) (r : Int) (w : World) (h : spec_l13Count.f a0_0 a0_1 a1 = some r) :
    Calls Try.prog 45 #[.agg #[.int .i64 a0_0, .string a0_1], .int .i64 a1] w fun e w' => e = .returned (.int .i64 r) ∧ Below w.heap.size w w' := by
  have hu33 := Try.underlying33
  have HB := Aside0.mk (Below.refl w.heap.size w)
  have H : (if a0_1.toList = ([] : List UInt8) then ((spec_l1In.f a0_0 0 a1).bind fun t210 => (if t210 = true then (some a0_0) else (some (-1)))) else (some (-1))) = some r := h
  clear h
  by_cases c3 : a0_1.toList = ([] : List UInt8)
  · rw [if_pos c3] at H
    have c3b0 : (a0_1.toList == ([] : List UInt8)) = true := beq_iff_eq.mpr c3
    try have c3b7 : a0_1.toList.isEmpty = true := by simpa using c3
    have c3b1 : (a0_1.toList != ([] : List UInt8)) = false := bne_eq_false_iff_eq.mpr c3
    clear c3
    replace H := bnd H
    obtain ⟨t210, A4, H⟩ := H
    by_cases c5 : t210 = true
    · subst c5
      replace H := ifp rfl H
      obtain rfl := Option.some.inj H
      go_enter Try.func45, Try.ntmps45
      go_wp2_with (first | ((with_reducible refine gate_dst (N := 2) rfl ?_); refine bx_ 2 #[.int .i64 a0_0, .string a0_1] 33 ?_; intro gb209 hg w6 hbox hb; have BK209 := Aside0.mk (hbox); have GW209 := gwe HB hg; have GE209 := GW209; replace HB := bst HB hb; clear hb hbox hg; obtain ⟨hcz7_0, hcz7_1, hfz7_0, hfz7_1⟩ := cl2 BK209) | (go_at_call 14; (with_reducible refine (spec_l1In.calls a0_0 0 a1 true _ A4.out).mono ?_); rintro e w' ⟨rfl, ⟨nd, rfl⟩⟩))
      go_ret
      exact fin_ (below_later HB.out)
    · replace c5 := Bool.eq_false_iff.mpr c5
      subst c5
      replace H := ifn Bool.false_ne_true H
      obtain rfl := Option.some.inj H
      go_enter Try.func45, Try.ntmps45
      go_wp2_with (first | ((with_reducible refine gate_dst (N := 2) rfl ?_); refine bx_ 2 #[.int .i64 a0_0, .string a0_1] 33 ?_; intro gb209 hg w8 hbox hb; have BK209 := Aside0.mk (hbox); have GW209 := gwe HB hg; have GE209 := GW209; replace HB := bst HB hb; clear hb hbox hg; obtain ⟨hcz9_0, hcz9_1, hfz9_0, hfz9_1⟩ := cl2 BK209) | (go_at_call 14; (with_reducible refine (spec_l1In.calls a0_0 0 a1 false _ A4.out).mono ?_); rintro e w' ⟨rfl, ⟨nd, rfl⟩⟩))
      go_ret
      exact fin_ (below_later HB.out)
  · rw [if_neg c3] at H
    have c3b0 : (a0_1.toList == ([] : List UInt8)) = false := beq_eq_false_iff_ne.mpr c3
    try have c3b7 : a0_1.toList.isEmpty = false := by simpa using c3
    have c3b1 : (a0_1.toList != ([] : List UInt8)) = true := bne_iff_ne.mpr c3
    obtain rfl := Option.some.inj H
    go_enter Try.func45, Try.ntmps45
    go_wp2_with (first | ((with_reducible refine gate_dst (N := 2) rfl ?_); refine bx_ 2 #[.int .i64 a0_0, .string a0_1] 33 ?_; intro gb209 hg w10 hbox hb; have BK209 := Aside0.mk (hbox); have GW209 := gwe HB hg; have GE209 := GW209; replace HB := bst HB hb; clear hb hbox hg; obtain ⟨hcz11_0, hcz11_1, hfz11_0, hfz11_1⟩ := cl2 BK209))
    go_ret
    exact fin_ (below_later HB.out)


/-! ### spec_l13Part: function 40 -/
/-! ### spec_l13Content: function 30 -/
mutual
def spec_l13Part.j1 : Nat → List (S61) → Int → List (S33) → Int → Int → Option (Int)
  | 0, _, _, _, _, _ => none
  | k + 1, x0, x1, x2, x3, x9 => spec_l13Part.l0 k x0 x1 x2 x3 x9 0
def spec_l13Part.l0 : Nat → List (S61) → Int → List (S33) → Int → Int → Int → Option (Int)
  | 0, _, _, _, _, _, _ => none
  | k + 1, x0, x1, x2, x3, x9, x11 => if x11 < x9 then ((spec_l13Content.f k x0 x1 x2 x3).bind fun t215 => (if t215 < 0 then (some (-1)) else (spec_l13Part.l0 k x0 x1 x2 t215 x9 (wrap64 (x11 + 1))))) else (some x3)
def spec_l13Part.j0 : Nat → List (S61) → Int → List (S33) → Int → Int → Option (Int)
  | 0, _, _, _, _, _ => none
  | k + 1, x0, x1, x2, x3, x10 => if x3 ≥ (x2.length : Int) then (some (-1)) else (if 0 ≤ x3 then (if x3 < (x2.length : Int) then ((spec_l13Count.f ((rd_T33 x2 x3).f0) ((rd_T33 x2 x3).f1) x10).bind fun t214 => (if t214 < 0 then (some (-1)) else (spec_l13Part.j1 k x0 x1 x2 (wrap64 (x3 + 1)) t214))) else (none)) else (none))
def spec_l13Part.f : Nat → List (S61) → Int → List (S33) → Int → Option (Int)
  | 0, _, _, _, _ => none
  | k + 1, l0, a1, l2, a3 => if 0 ≤ a1 then (if a1 < (l0.length : Int) then (if ((rd_T61 l0 a1).f2) = 0 then (spec_l13Part.j1 k l0 a1 l2 a3 1) else (if ((rd_T61 l0 a1).f2) = 2 then (spec_l13Part.j0 k l0 a1 l2 a3 20) else (spec_l13Part.j0 k l0 a1 l2 a3 1))) else (none)) else (none)
def spec_l13Content.l0 : Nat → List (S61) → Int → List (S33) → Int → Int → Int → Option (Int)
  | 0, _, _, _, _, _, _ => none
  | k + 1, x0, x1, x2, x3, x9, x10 => if 0 ≤ x1 then (if x1 < (x0.length : Int) then (if x10 < ((rd_T61 x0 x1).f3) then ((spec_l13Part.f k x0 x9 x2 x3).bind fun t221 => (if t221 < 0 then (some (-1)) else ((spec_l5After.f k x0 x9).bind fun t222 => (spec_l13Content.l0 k x0 x1 x2 t221 t222 (wrap64 (x10 + 1)))))) else (some x3)) else (none)) else (none)
def spec_l13Content.f : Nat → List (S61) → Int → List (S33) → Int → Option (Int)
  | 0, _, _, _, _ => none
  | k + 1, l0, a1, l2, a3 => if 0 ≤ a1 then (if a1 < (l0.length : Int) then (if ((rd_T61 l0 a1).f1) = 7 then (spec_l13Content.l0 k l0 a1 l2 a3 (wrap64 (a1 + 1)) 0) else (if a3 ≥ (l2.length : Int) then (some (-1)) else (if 0 ≤ a3 then (if a3 < (l2.length : Int) then ((spec_ValOk.f k ((rd_T61 l0 a1).f1) ((rd_T33 l2 a3).f0) ((rd_T33 l2 a3).f1)).bind fun t219 => (if t219 = true then (some (wrap64 (a3 + 1))) else (some (-1)))) else (none)) else (none)))) else (none)) else (none)
end
set_option maxHeartbeats 8000000 in
set_option maxRecDepth 100000 in
theorem spec_l13Part.calls_ (k : Nat) (ih : ∀ j, j < k → (∀ (P0_ : Nat → Prop) (A0 : Option Addr) (c0 : Nat) (l0 : List (S61)) (a1 : Int) (P2_ : Nat → Prop) (A2 : Option Addr) (c2 : Nat) (l2 : List (S33)) (a3 : Int) (r : Int) (w : World) (hs0 : Kd.V k61 61 w w.heap.size (fun k_ => P0_ k_) (.slice A0 l0.length c0) l0) (hs2 : Kd.V k33 33 w w.heap.size (fun k_ => P2_ k_) (.slice A2 l2.length c2) l2) (h : spec_l13Part.f j l0 a1 l2 a3 = some r),
    Calls Try.prog 40 #[.slice A0 l0.length c0, .int .i64 a1, .slice A2 l2.length c2, .int .i64 a3] w fun e w' => e = .returned (.int .i64 r) ∧ Below w.heap.size w w')) (ihP : ∀ j, j < k → (∀ (A0 : Option Addr) (c0 : Nat) (l0 : List (S61)) (a1 : Int) (A2 : Option Addr) (c2 : Nat) (l2 : List (S33)) (a3 : Int) (r : Int) (w : World) (hr0 : Kd.C k61 w A0 l0.length l0) (hc0 : l0.length ≤ c0) (hr2 : Kd.C k33 w A2 l2.length l2) (hc2 : l2.length ≤ c2) (h : spec_l13Content.f j l0 a1 l2 a3 = some r),
    Calls Try.prog 30 #[.slice A0 l0.length c0, .int .i64 a1, .slice A2 l2.length c2, .int .i64 a3] w fun e w' => e = .returned (.int .i64 r) ∧ Below w.heap.size w w')) : ∀ (P0_ : Nat → Prop) (A0 : Option Addr) (c0 : Nat) (l0 : List (S61)) (a1 : Int) (P2_ : Nat → Prop) (A2 : Option Addr) (c2 : Nat) (l2 : List (S33)) (a3 : Int) (r : Int) (w : World) (hs0 : Kd.V k61 61 w w.heap.size (fun k_ => P0_ k_) (.slice A0 l0.length c0) l0) (hs2 : Kd.V k33 33 w w.heap.size (fun k_ => P2_ k_) (.slice A2 l2.length c2) l2) (h : spec_l13Part.f k l0 a1 l2 a3 = some r),
    Calls Try.prog 40 #[.slice A0 l0.length c0, .int .i64 a1, .slice A2 l2.length c2, .int .i64 a3] w fun e w' => e = .returned (.int .i64 r) ∧ Below w.heap.size w w' := by
  intro P0_ A0 c0 l0 a1 P2_ A2 c2 l2 a3 r w hs0 hs2 h
  cases k with
  | zero => exact absurd h (by simp [spec_l13Part.f])
  | succ k =>
  simp only [spec_l13Part.f] at h
  have hu33 := Try.underlying33
  have HO0 := Aside0.mk (show Kd.V k61 61 w w.heap.size (fun k_ => ((P0_ k_ ∨ P2_ k_) ∨ w.heap.size ≤ k_)) (.slice A0 l0.length c0) l0 from Kd.V_mono hs0 (fun k_ hk => .inl (.inl hk)))
  have HO2 := Aside0.mk (show Kd.V k33 33 w w.heap.size (fun k_ => ((P0_ k_ ∨ P2_ k_) ∨ w.heap.size ≤ k_)) (.slice A2 l2.length c2) l2 from Kd.V_mono hs2 (fun k_ hk => .inl (.inr hk)))
  have HB := Aside0.mk (Below.refl w.heap.size w)
  have H : (if 0 ≤ a1 then (if a1 < (l0.length : Int) then (if ((rd_T61 l0 a1).f2) = 0 then (spec_l13Part.j1 k l0 a1 l2 a3 1) else (if ((rd_T61 l0 a1).f2) = 2 then (spec_l13Part.j0 k l0 a1 l2 a3 20) else (spec_l13Part.j0 k l0 a1 l2 a3 1))) else (none)) else (none)) = some r := h
  clear h
  replace H := ifd H
  obtain ⟨c5b0, H⟩ := H
  replace H := ifd H
  obtain ⟨c6b0, H⟩ := H
  have HC7 := Aside0.mk H
  clear H
  have p211 : 0 ≤ (a1 : Int) := dcd
  have q211 : a1 < (l0.length : Int) := dcd
  obtain ⟨ad211, e211, hx211_0, hx211_1, hx211_2, hx211_3⟩ := at_T61 (Kd.V_reads' HO0.out).2.2 a1 p211 q211
  cases e211
  replace p211 := eq_true p211
  replace q211 := eq_true q211
  go_enter Try.func40, Try.ntmps40
  go_upto_if 17 with (fail)
  go_cut [3, 9] (fun v3 v9 wc => ∃ (kq : Nat) (x3_6 : Int) (x9_6 : Int), v3 = .int .i64 x3_6 ∧ v9 = .int .i64 x9_6 ∧ Aside0 (spec_l13Part.j1 kq l0 a1 l2 x3_6 x9_6 = some r) ∧ Aside0 (kq ≤ k) ∧ Aside0 (Kd.V k61 61 wc w.heap.size (fun k_ => ((P0_ k_ ∨ P2_ k_) ∨ w.heap.size ≤ k_)) (.slice (some ad211) l0.length c0) l0) ∧ Aside0 (Kd.V k33 33 wc w.heap.size (fun k_ => ((P0_ k_ ∨ P2_ k_) ∨ w.heap.size ≤ k_)) (.slice A2 l2.length c2) l2) ∧ Aside0 (Below w.heap.size w wc))
  case first =>
    have H := HC7.out
    clear HC7
    by_cases c8 : ((rd_T61 l0 a1).f2) = 0
    · rw [if_pos c8] at H
      have c8b0 : (((rd_T61 l0 a1).f2) == 0) = true := beq_iff_eq.mpr c8
      have c8b1 : (((rd_T61 l0 a1).f2) != 0) = false := bne_eq_false_iff_eq.mpr c8
      clear c8
      (first | rw [c8b0] | rw [c8b1] | (simp only [i64_w, i32_w]; rw [c8b0]) | skip)
      have H' := Aside0.mk H
      clear H
      go_wp2
      go_meet
      case rel => exact ⟨_, (a3), (1), sr, sr, H', ⟨by first | omega | exact Nat.le_refl _⟩, ⟨by (with_reducible repeat (first | apply Kd.V_alloc | apply Kd.V_drewN | apply Kd.V_drew)); exact HO0.out⟩, ⟨by (with_reducible repeat (first | apply Kd.V_alloc | apply Kd.V_drewN | apply Kd.V_drew)); exact HO2.out⟩, ⟨below_later HB.out⟩⟩
    · rw [if_neg c8] at H
      have c8b0 : (((rd_T61 l0 a1).f2) == 0) = false := beq_eq_false_iff_ne.mpr c8
      have c8b1 : (((rd_T61 l0 a1).f2) != 0) = true := bne_iff_ne.mpr c8
      (first | rw [c8b0] | rw [c8b1] | (simp only [i64_w, i32_w]; rw [c8b0]) | skip)
      have HC9 := Aside0.mk H
      clear H
      have p212 : 0 ≤ (a1 : Int) := dcd
      have q212 : a1 < (l0.length : Int) := dcd
      obtain ⟨ad212, e212, hx212_0, hx212_1, hx212_2, hx212_3⟩ := at_T61 (Kd.V_reads' HO0.out).2.2 a1 p212 q212
      obtain rfl : ad211 = ad212 := (by injection e212)
      replace p212 := eq_true p212
      replace q212 := eq_true q212
      go_upto_if 23 with (fail)
      go_cut [10] (fun v10 wc => ∃ (kq : Nat) (x10_8 : Int), v10 = .int .i64 x10_8 ∧ Aside0 (spec_l13Part.j0 kq l0 a1 l2 a3 x10_8 = some r) ∧ Aside0 (kq ≤ k) ∧ Aside0 (Kd.V k61 61 wc w.heap.size (fun k_ => ((P0_ k_ ∨ P2_ k_) ∨ w.heap.size ≤ k_)) (.slice (some ad211) l0.length c0) l0) ∧ Aside0 (Kd.V k33 33 wc w.heap.size (fun k_ => ((P0_ k_ ∨ P2_ k_) ∨ w.heap.size ≤ k_)) (.slice A2 l2.length c2) l2) ∧ Aside0 (Below w.heap.size w wc))
      case first =>
        have H := HC9.out
        clear HC9
        by_cases c10 : ((rd_T61 l0 a1).f2) = 2
        · rw [if_pos c10] at H
          have c10b0 : (((rd_T61 l0 a1).f2) == 2) = true := beq_iff_eq.mpr c10
          have c10b1 : (((rd_T61 l0 a1).f2) != 2) = false := bne_eq_false_iff_eq.mpr c10
          clear c10
          (first | rw [c10b0] | rw [c10b1] | (simp only [i64_w, i32_w]; rw [c10b0]) | skip)
          have H' := Aside0.mk H
          clear H
          go_wp2
          go_meet
          case rel => exact ⟨_, (20), sr, H', ⟨by first | omega | exact Nat.le_refl _⟩, ⟨by (with_reducible repeat (first | apply Kd.V_alloc | apply Kd.V_drewN | apply Kd.V_drew)); exact HO0.out⟩, ⟨by (with_reducible repeat (first | apply Kd.V_alloc | apply Kd.V_drewN | apply Kd.V_drew)); exact HO2.out⟩, ⟨below_later HB.out⟩⟩
        · rw [if_neg c10] at H
          have c10b0 : (((rd_T61 l0 a1).f2) == 2) = false := beq_eq_false_iff_ne.mpr c10
          have c10b1 : (((rd_T61 l0 a1).f2) != 2) = true := bne_iff_ne.mpr c10
          (first | rw [c10b0] | rw [c10b1] | (simp only [i64_w, i32_w]; rw [c10b0]) | skip)
          have H' := Aside0.mk H
          clear H
          go_wp2
          go_meet
          case rel => exact ⟨_, (1), sr, H', ⟨by first | omega | exact Nat.le_refl _⟩, ⟨by (with_reducible repeat (first | apply Kd.V_alloc | apply Kd.V_drewN | apply Kd.V_drew)); exact HO0.out⟩, ⟨by (with_reducible repeat (first | apply Kd.V_alloc | apply Kd.V_drewN | apply Kd.V_drew)); exact HO2.out⟩, ⟨below_later HB.out⟩⟩
      case rest =>
        clear HC9
        try clear c2
        try clear c5b0
        try clear c6b0
        try clear c8
        try clear c8b0
        try clear c8b1
        try clear hx211_0
        try clear hx211_1
        try clear hx211_2
        try clear hx211_3
        try clear hx212_0
        try clear hx212_1
        try clear hx212_2
        try clear hx212_3
        try clear p211
        try clear p212
        try clear q211
        try clear q212
        obtain ⟨kq, x10_8, rfl, HA, HJ8, HO_0, HO_2, HB⟩ := hcut
        cases kq with
        | zero => exact absurd HA.out (by simp [spec_l13Part.j0])
        | succ kj8 =>
          have H := HA.out
          clear HA
          simp only [spec_l13Part.j0] at H
          by_cases c11 : a3 ≥ (l2.length : Int)
          · rw [if_pos c11] at H
            have c11b0 : decide ((l2.length : Int) ≤ a3) = true := decide_eq_true c11
            clear c11
            obtain rfl := Option.some.inj H
            go_wp2
            go_ret
            exact fin_ (below_later HB.out)
          · rw [if_neg c11] at H
            have c11b0 : decide ((l2.length : Int) ≤ a3) = false := decide_eq_false c11
            clear c11
            replace H := ifd H
            obtain ⟨c12b0, H⟩ := H
            replace H := ifd H
            obtain ⟨c13b0, H⟩ := H
            replace H := bnd H
            obtain ⟨t214, A14, H⟩ := H
            by_cases c15 : t214 < 0
            · rw [if_pos c15] at H
              have c15b0 := decide_eq_true c15
              clear c15
              obtain rfl := Option.some.inj H
              have p213 : 0 ≤ (a3 : Int) := dcd
              have q213 : a3 < (l2.length : Int) := dcd
              obtain ⟨ad213, e213, hx213_0, hx213_1⟩ := at_T33 (Kd.V_reads' HO_2.out).2.2 a3 p213 q213
              cases e213
              replace p213 := eq_true p213
              replace q213 := eq_true q213
              go_wp2_with (first | ((with_reducible refine gate_callee (f := 45) rfl ?_); refine gl_ (some 33) Try.func45 #[.agg #[.int .i64 ((rd_T33 l2 a3).f0), .string ((rd_T33 l2 a3).f1)], .int .i64 x10_8] rfl ?_; (with_reducible refine (spec_l13Count.calls ((rd_T33 l2 a3).f0) ((rd_T33 l2 a3).f1) x10_8 t214 _ A14.out).mono ?_); rintro e w16 ⟨rfl, hb⟩; refine ⟨_, rfl, ?_⟩; replace HO_0 := Aside0.mk (Kd.V_below (by (with_reducible repeat (first | apply Kd.V_alloc | apply Kd.V_drewN | apply Kd.V_drew)); exact HO_0.out) hb); replace HO_2 := Aside0.mk (Kd.V_below (by (with_reducible repeat (first | apply Kd.V_alloc | apply Kd.V_drewN | apply Kd.V_drew)); exact HO_2.out) hb); replace HB := bst HB hb; (try clear hb)))
              go_ret
              exact fin_ (below_later HB.out)
            · rw [if_neg c15] at H
              have c15b0 := decide_eq_false c15
              clear c15
              have H' := Aside0.mk H
              clear H
              have p213 : 0 ≤ (a3 : Int) := dcd
              have q213 : a3 < (l2.length : Int) := dcd
              obtain ⟨ad213, e213, hx213_0, hx213_1⟩ := at_T33 (Kd.V_reads' HO_2.out).2.2 a3 p213 q213
              cases e213
              replace p213 := eq_true p213
              replace q213 := eq_true q213
              go_wp2_with (first | ((with_reducible refine gate_callee (f := 45) rfl ?_); refine gl_ (some 33) Try.func45 #[.agg #[.int .i64 ((rd_T33 l2 a3).f0), .string ((rd_T33 l2 a3).f1)], .int .i64 x10_8] rfl ?_; (with_reducible refine (spec_l13Count.calls ((rd_T33 l2 a3).f0) ((rd_T33 l2 a3).f1) x10_8 t214 _ A14.out).mono ?_); rintro e w17 ⟨rfl, hb⟩; refine ⟨_, rfl, ?_⟩; replace HO_0 := Aside0.mk (Kd.V_below (by (with_reducible repeat (first | apply Kd.V_alloc | apply Kd.V_drewN | apply Kd.V_drew)); exact HO_0.out) hb); replace HO_2 := Aside0.mk (Kd.V_below (by (with_reducible repeat (first | apply Kd.V_alloc | apply Kd.V_drewN | apply Kd.V_drew)); exact HO_2.out) hb); replace HB := bst HB hb; (try clear hb)))
              go_meet
              case rel => exact ⟨_, (wrap64 (a3 + 1)), (t214), sr, sr, H', ⟨by have := HJ8.out; first | omega | exact Nat.le_refl _⟩, ⟨by (with_reducible repeat (first | apply Kd.V_alloc | apply Kd.V_drewN | apply Kd.V_drew)); exact HO_0.out⟩, ⟨by (with_reducible repeat (first | apply Kd.V_alloc | apply Kd.V_drewN | apply Kd.V_drew)); exact HO_2.out⟩, ⟨below_later HB.out⟩⟩
  case rest =>
    clear HC7
    try clear c2
    try clear c5b0
    try clear c6b0
    try clear hx211_0
    try clear hx211_1
    try clear hx211_2
    try clear hx211_3
    try clear p211
    try clear q211
    obtain ⟨kq, x3_6, x9_6, rfl, rfl, HA, HJ6, HO_0, HO_2, HB⟩ := hcut
    cases kq with
    | zero => exact absurd HA.out (by simp [spec_l13Part.j1])
    | succ kj6 =>
      have H := HA.out
      clear HA
      simp only [spec_l13Part.j1] at H
      have H' := Aside0.mk H
      clear H
      go_wp2
      go_loopg [3, 11] kj6 (fun kq v3 v11 w' => ∃ (x3_2 : Int) (x11_2 : Int), v3 = .int .i64 x3_2 ∧ v11 = .int .i64 x11_2 ∧ Aside0 (spec_l13Part.l0 kq l0 a1 l2 x3_2 x9_6 x11_2 = some r) ∧ Aside0 (kq ≤ kj6) ∧ Aside0 (Kd.V k61 61 w' w.heap.size (fun k_ => ((P0_ k_ ∨ P2_ k_) ∨ w.heap.size ≤ k_)) (.slice (some ad211) l0.length c0) l0) ∧ Aside0 (Kd.V k33 33 w' w.heap.size (fun k_ => ((P0_ k_ ∨ P2_ k_) ∨ w.heap.size ≤ k_)) (.slice A2 l2.length c2) l2) ∧ Aside0 (Below w.heap.size w w'))
      case atStart => exact ⟨(x3_6), (0), sr, sr, H', ⟨Nat.le_refl _⟩, ⟨by (with_reducible repeat (first | apply Kd.V_alloc | apply Kd.V_drewN | apply Kd.V_drew)); exact HO_0.out⟩, ⟨by (with_reducible repeat (first | apply Kd.V_alloc | apply Kd.V_drewN | apply Kd.V_drew)); exact HO_2.out⟩, ⟨below_later HB.out⟩⟩
      case round =>
        clear H'
        try clear c2
        try clear c5b0
        try clear c6b0
        try clear hx211_0
        try clear hx211_1
        try clear hx211_2
        try clear hx211_3
        try clear p211
        try clear q211
        obtain ⟨x3_2, x11_2, rfl, rfl, HA, HK2, HO_0, HO_2, HB⟩ := hrel
        cases gk with
        | zero => exact absurd HA.out (by simp [spec_l13Part.l0])
        | succ k2 =>
          have H := HA.out
          clear HA
          simp only [spec_l13Part.l0] at H
          by_cases c18 : x11_2 < x9_6
          · rw [if_pos c18] at H
            have c18b0 := decide_eq_true c18
            clear c18
            replace H := bnd H
            obtain ⟨t215, A19, H⟩ := H
            by_cases c20 : t215 < 0
            · rw [if_pos c20] at H
              have c20b0 := decide_eq_true c20
              clear c20
              obtain rfl := Option.some.inj H
              go_wp2_with (first | ((with_reducible refine gate_callee (f := 30) rfl ?_); refine gl_ (some 47) Try.func30 #[.slice (some ad211) l0.length c0, .int .i64 a1, .slice A2 l2.length c2, .int .i64 x3_2] rfl ?_; (with_reducible refine (ihP k2 (by have := HJ6.out; have := HK2.out; omega) _ _ l0 a1 _ _ l2 x3_2 t215 _ ?side1 ?side2 ?side3 ?side4 A19.out).mono ?_); (case side1 => repeat (first | exact (Kd.V_reads' HO_0.out).2.2 | (with_reducible refine Kd.C_alloc ?_ _) | (with_reducible refine Kd.C_drewN ?_ _) | (with_reducible refine Kd.C_drew ?_))); (case side2 => exact (Kd.V_reads' HO_0.out).2.1); (case side3 => repeat (first | exact (Kd.V_reads' HO_2.out).2.2 | (with_reducible refine Kd.C_alloc ?_ _) | (with_reducible refine Kd.C_drewN ?_ _) | (with_reducible refine Kd.C_drew ?_))); (case side4 => exact (Kd.V_reads' HO_2.out).2.1); rintro e w21 ⟨rfl, hb⟩; refine ⟨_, rfl, ?_⟩; replace HO_0 := Aside0.mk (Kd.V_below (by (with_reducible repeat (first | apply Kd.V_alloc | apply Kd.V_drewN | apply Kd.V_drew)); exact HO_0.out) hb); replace HO_2 := Aside0.mk (Kd.V_below (by (with_reducible repeat (first | apply Kd.V_alloc | apply Kd.V_drewN | apply Kd.V_drew)); exact HO_2.out) hb); replace HB := bst HB hb; (try clear hb)))
              go_ret
              exact fin_ (below_later HB.out)
            · rw [if_neg c20] at H
              have c20b0 := decide_eq_false c20
              clear c20
              have H' := Aside0.mk H
              clear H
              go_wp2_with (first | ((with_reducible refine gate_callee (f := 30) rfl ?_); refine gl_ (some 47) Try.func30 #[.slice (some ad211) l0.length c0, .int .i64 a1, .slice A2 l2.length c2, .int .i64 x3_2] rfl ?_; (with_reducible refine (ihP k2 (by have := HJ6.out; have := HK2.out; omega) _ _ l0 a1 _ _ l2 x3_2 t215 _ ?side1 ?side2 ?side3 ?side4 A19.out).mono ?_); (case side1 => repeat (first | exact (Kd.V_reads' HO_0.out).2.2 | (with_reducible refine Kd.C_alloc ?_ _) | (with_reducible refine Kd.C_drewN ?_ _) | (with_reducible refine Kd.C_drew ?_))); (case side2 => exact (Kd.V_reads' HO_0.out).2.1); (case side3 => repeat (first | exact (Kd.V_reads' HO_2.out).2.2 | (with_reducible refine Kd.C_alloc ?_ _) | (with_reducible refine Kd.C_drewN ?_ _) | (with_reducible refine Kd.C_drew ?_))); (case side4 => exact (Kd.V_reads' HO_2.out).2.1); rintro e w22 ⟨rfl, hb⟩; refine ⟨_, rfl, ?_⟩; replace HO_0 := Aside0.mk (Kd.V_below (by (with_reducible repeat (first | apply Kd.V_alloc | apply Kd.V_drewN | apply Kd.V_drew)); exact HO_0.out) hb); replace HO_2 := Aside0.mk (Kd.V_below (by (with_reducible repeat (first | apply Kd.V_alloc | apply Kd.V_drewN | apply Kd.V_drew)); exact HO_2.out) hb); replace HB := bst HB hb; (try clear hb)))
              go_roundg k2
              case measure => have := HJ6.out; have := HK2.out; omega
              case rel => exact ⟨(t215), (wrap64 (x11_2 + 1)), sr, sr, H', ⟨by have := HJ6.out; have := HK2.out; omega⟩, ⟨by (with_reducible repeat (first | apply Kd.V_alloc | apply Kd.V_drewN | apply Kd.V_drew)); exact HO_0.out⟩, ⟨by (with_reducible repeat (first | apply Kd.V_alloc | apply Kd.V_drewN | apply Kd.V_drew)); exact HO_2.out⟩, ⟨below_later HB.out⟩⟩
          · rw [if_neg c18] at H
            have c18b0 := decide_eq_false c18
            clear c18
            obtain rfl := Option.some.inj H
            go_wp2
            go_ret
            exact fin_ (below_later HB.out)
def spec_l13Content.T2 : Bool × List (List Nat × List Nat) := (true, [([], []), ([], []), ([1], [1]), ([0, 2], [0, 2]), ([3], [3]), ([4], [4]), ([4], [4]), ([5, 6, 4], [4, 5, 6]), ([7, 4], [4, 7]), ([8, 4], [4, 8]), ([4], [4]), ([4], [4]), ([10, 11, 4], [4, 10, 11]), ([12, 4], [4, 12]), ([9, 13, 4, 4], [4, 9, 13]), ([14, 4], [4, 14]), ([4, 15], [4, 15])])
def spec_l13Content.B2 : List Nat := [0, 0, 2, 7, 15, 31, 31, 127, 255, 511, 31, 31, 3103, 7199, 16383, 32767, 65535]
theorem spec_l13Content.tab2 : rtab .any (opsOf Try.f30 2) = spec_l13Content.T2 := by kernel_rfl
theorem spec_l13Content.bits2 : waitsOk spec_l13Content.T2.2 spec_l13Content.B2 = true := by kernel_rfl
set_option maxHeartbeats 8000000 in
set_option maxRecDepth 100000 in
theorem spec_l13Content.calls_ (k : Nat) (ih : ∀ j, j < k → (∀ (A0 : Option Addr) (c0 : Nat) (l0 : List (S61)) (a1 : Int) (A2 : Option Addr) (c2 : Nat) (l2 : List (S33)) (a3 : Int) (r : Int) (w : World) (hr0 : Kd.C k61 w A0 l0.length l0) (hc0 : l0.length ≤ c0) (hr2 : Kd.C k33 w A2 l2.length l2) (hc2 : l2.length ≤ c2) (h : spec_l13Content.f j l0 a1 l2 a3 = some r),
    Calls Try.prog 30 #[.slice A0 l0.length c0, .int .i64 a1, .slice A2 l2.length c2, .int .i64 a3] w fun e w' => e = .returned (.int .i64 r) ∧ Below w.heap.size w w')) (ihP : ∀ j, j < k → (∀ (P0_ : Nat → Prop) (A0 : Option Addr) (c0 : Nat) (l0 : List (S61)) (a1 : Int) (P2_ : Nat → Prop) (A2 : Option Addr) (c2 : Nat) (l2 : List (S33)) (a3 : Int) (r : Int) (w : World) (hs0 : Kd.V k61 61 w w.heap.size (fun k_ => P0_ k_) (.slice A0 l0.length c0) l0) (hs2 : Kd.V k33 33 w w.heap.size (fun k_ => P2_ k_) (.slice A2 l2.length c2) l2) (h : spec_l13Part.f j l0 a1 l2 a3 = some r),
    Calls Try.prog 40 #[.slice A0 l0.length c0, .int .i64 a1, .slice A2 l2.length c2, .int .i64 a3] w fun e w' => e = .returned (.int .i64 r) ∧ Below w.heap.size w w')) : ∀ (A0 : Option Addr) (c0 : Nat) (l0 : List (S61)) (a1 : Int) (A2 : Option Addr) (c2 : Nat) (l2 : List (S33)) (a3 : Int) (r : Int) (w : World) (hr0 : Kd.C k61 w A0 l0.length l0) (hc0 : l0.length ≤ c0) (hr2 : Kd.C k33 w A2 l2.length l2) (hc2 : l2.length ≤ c2) (h : spec_l13Content.f k l0 a1 l2 a3 = some r),
    Calls Try.prog 30 #[.slice A0 l0.length c0, .int .i64 a1, .slice A2 l2.length c2, .int .i64 a3] w fun e w' => e = .returned (.int .i64 r) ∧ Below w.heap.size w w' := by
  intro A0 c0 l0 a1 A2 c2 l2 a3 r w hr0 hc0 hr2 hc2 h
  cases k with
  | zero => exact absurd h (by simp [spec_l13Content.f])
  | succ k =>
  simp only [spec_l13Content.f] at h
  have hu33 := Try.underlying33
  have HR0 := Aside0.mk hr0
  have HC0 := Aside0.mk hc0
  clear hr0 hc0
  have HR2 := Aside0.mk hr2
  have HC2 := Aside0.mk hc2
  clear hr2 hc2
  have HB := Aside0.mk (Below.refl w.heap.size w)
  have H : (if 0 ≤ a1 then (if a1 < (l0.length : Int) then (if ((rd_T61 l0 a1).f1) = 7 then (spec_l13Content.l0 k l0 a1 l2 a3 (wrap64 (a1 + 1)) 0) else (if a3 ≥ (l2.length : Int) then (some (-1)) else (if 0 ≤ a3 then (if a3 < (l2.length : Int) then ((spec_ValOk.f k ((rd_T61 l0 a1).f1) ((rd_T33 l2 a3).f0) ((rd_T33 l2 a3).f1)).bind fun t219 => (if t219 = true then (some (wrap64 (a3 + 1))) else (some (-1)))) else (none)) else (none)))) else (none)) else (none)) = some r := h
  clear h
  replace H := ifd H
  obtain ⟨c5b0, H⟩ := H
  replace H := ifd H
  obtain ⟨c6b0, H⟩ := H
  by_cases c7 : ((rd_T61 l0 a1).f1) = 7
  · rw [if_pos c7] at H
    have c7b0 : (((rd_T61 l0 a1).f1) == 7) = true := beq_iff_eq.mpr c7
    have c7b1 : (((rd_T61 l0 a1).f1) != 7) = false := bne_eq_false_iff_eq.mpr c7
    clear c7
    have H' := Aside0.mk H
    clear H
    have p216 : 0 ≤ (a1 : Int) := dcd
    have q216 : a1 < (l0.length : Int) := dcd
    obtain ⟨ad216, e216, hx216_0, hx216_1, hx216_2, hx216_3⟩ := at_T61 HR0.out a1 p216 q216
    cases e216
    replace p216 := eq_true p216
    replace q216 := eq_true q216
    go_enter Try.func30, Try.ntmps30
    go_wp2
    go_loopg [3, 9, 10] k (fun kq v3 v9 v10 w' => ∃ (x3_1 : Int) (x9_1 : Int) (x10_1 : Int), v3 = .int .i64 x3_1 ∧ v9 = .int .i64 x9_1 ∧ v10 = .int .i64 x10_1 ∧ Aside0 (spec_l13Content.l0 kq l0 a1 l2 x3_1 x9_1 x10_1 = some r) ∧ Aside0 (kq ≤ k) ∧ Aside0 (Below w.heap.size w w'))
    case atStart => exact ⟨(a3), (wrap64 (a1 + 1)), (0), sr, sr, sr, H', ⟨Nat.le_refl _⟩, ⟨below_later HB.out⟩⟩
    case round =>
      clear H'
      try clear c2
      try clear c5b0
      try clear c6b0
      try clear c7
      try clear c7b0
      try clear c7b1
      try clear hx216_0
      try clear hx216_1
      try clear hx216_2
      try clear hx216_3
      try clear p216
      try clear q216
      obtain ⟨x3_1, x9_1, x10_1, rfl, rfl, rfl, HA, HK1, HB⟩ := hrel
      cases gk with
      | zero => exact absurd HA.out (by simp [spec_l13Content.l0])
      | succ k1 =>
        have H := HA.out
        clear HA
        simp only [spec_l13Content.l0] at H
        replace H := ifd H
        obtain ⟨c8b0, H⟩ := H
        replace H := ifd H
        obtain ⟨c9b0, H⟩ := H
        by_cases c10 : x10_1 < ((rd_T61 l0 a1).f3)
        · rw [if_pos c10] at H
          have c10b0 := decide_eq_true c10
          clear c10
          replace H := bnd H
          obtain ⟨t221, A11, H⟩ := H
          by_cases c12 : t221 < 0
          · rw [if_pos c12] at H
            have c12b0 := decide_eq_true c12
            clear c12
            obtain rfl := Option.some.inj H
            have p220 : 0 ≤ (a1 : Int) := dcd
            have q220 : a1 < (l0.length : Int) := dcd
            obtain ⟨ad220, e220, hx220_0, hx220_1, hx220_2, hx220_3⟩ := at_T61 HR0.out a1 p220 q220
            obtain rfl : ad216 = ad220 := (by injection e220)
            replace hx220_0 := crd HB hx220_0
            replace hx220_1 := crd HB hx220_1
            replace hx220_2 := crd HB hx220_2
            replace hx220_3 := crd HB hx220_3
            replace p220 := eq_true p220
            replace q220 := eq_true q220
            go_wp2_with (first | ((with_reducible refine gate_callee (f := 40) rfl ?_); refine gl_ (some 51) Try.func40 #[.slice (some ad216) l0.length c0, .int .i64 x9_1, .slice A2 l2.length c2, .int .i64 x3_1] rfl ?_; (with_reducible refine (ihP k1 (by have := HK1.out; omega) (fun k_ => k_ < w.heap.size) _ _ l0 x9_1 (fun k_ => k_ < w.heap.size) _ _ l2 x3_1 t221 _ ?side1 ?side2 A11.out).mono ?_); (case side1 => exact Kd.V_mk HC0.out (Kd.F_below (Kd.C_F k61_heap HR0.out) (below_later HB.out))); (case side2 => exact Kd.V_mk HC2.out (Kd.F_below (Kd.C_F k33_heap HR2.out) (below_later HB.out))); rintro e w13 ⟨rfl, hb⟩; refine ⟨_, rfl, ?_⟩; replace HB := bst HB hb; (try clear hb)))
            go_ret
            exact fin_ (below_later HB.out)
          · rw [if_neg c12] at H
            have c12b0 := decide_eq_false c12
            clear c12
            replace H := bnd H
            obtain ⟨t222, A14, H⟩ := H
            have H' := Aside0.mk H
            clear H
            have p220 : 0 ≤ (a1 : Int) := dcd
            have q220 : a1 < (l0.length : Int) := dcd
            obtain ⟨ad220, e220, hx220_0, hx220_1, hx220_2, hx220_3⟩ := at_T61 HR0.out a1 p220 q220
            obtain rfl : ad216 = ad220 := (by injection e220)
            replace hx220_0 := crd HB hx220_0
            replace hx220_1 := crd HB hx220_1
            replace hx220_2 := crd HB hx220_2
            replace hx220_3 := crd HB hx220_3
            replace p220 := eq_true p220
            replace q220 := eq_true q220
            go_wp2_with (first | ((with_reducible refine gate_callee (f := 40) rfl ?_); refine gl_ (some 51) Try.func40 #[.slice (some ad216) l0.length c0, .int .i64 x9_1, .slice A2 l2.length c2, .int .i64 x3_1] rfl ?_; (with_reducible refine (ihP k1 (by have := HK1.out; omega) (fun k_ => k_ < w.heap.size) _ _ l0 x9_1 (fun k_ => k_ < w.heap.size) _ _ l2 x3_1 t221 _ ?side1 ?side2 A11.out).mono ?_); (case side1 => exact Kd.V_mk HC0.out (Kd.F_below (Kd.C_F k61_heap HR0.out) (below_later HB.out))); (case side2 => exact Kd.V_mk HC2.out (Kd.F_below (Kd.C_F k33_heap HR2.out) (below_later HB.out))); rintro e w15 ⟨rfl, hb⟩; refine ⟨_, rfl, ?_⟩; replace HB := bst HB hb; (try clear hb)) | ((with_reducible refine gate_callee (f := 33) rfl ?_); refine gl_ (some 56) Try.func33 #[.slice (some ad216) l0.length c0, .int .i64 x9_1] rfl ?_; (with_reducible refine (spec_l5After.calls k1 _ _ l0 x9_1 t222 _ ?side1 ?side2 A14.out).mono ?_); (case side1 => repeat (first | exact (Kd.C_below HR0.out HB.out) | (with_reducible refine Kd.C_alloc ?_ _) | (with_reducible refine Kd.C_drewN ?_ _) | (with_reducible refine Kd.C_drew ?_))); (case side2 => exact HC0.out); rintro e w' ⟨rfl, ⟨nd, rfl⟩⟩; refine ⟨_, rfl, ?_⟩))
            go_roundg k1
            case measure => have := HK1.out; omega
            case rel => exact ⟨(t221), (t222), (wrap64 (x10_1 + 1)), sr, sr, sr, H', ⟨by have := HK1.out; omega⟩, ⟨below_later HB.out⟩⟩
        · rw [if_neg c10] at H
          have c10b0 := decide_eq_false c10
          clear c10
          obtain rfl := Option.some.inj H
          have p220 : 0 ≤ (a1 : Int) := dcd
          have q220 : a1 < (l0.length : Int) := dcd
          obtain ⟨ad220, e220, hx220_0, hx220_1, hx220_2, hx220_3⟩ := at_T61 HR0.out a1 p220 q220
          obtain rfl : ad216 = ad220 := (by injection e220)
          replace hx220_0 := crd HB hx220_0
          replace hx220_1 := crd HB hx220_1
          replace hx220_2 := crd HB hx220_2
          replace hx220_3 := crd HB hx220_3
          replace p220 := eq_true p220
          replace q220 := eq_true q220
          go_wp2
          go_ret
          exact fin_ (below_later HB.out)
  · rw [if_neg c7] at H
    have c7b0 : (((rd_T61 l0 a1).f1) == 7) = false := beq_eq_false_iff_ne.mpr c7
    have c7b1 : (((rd_T61 l0 a1).f1) != 7) = true := bne_iff_ne.mpr c7
    by_cases c16 : a3 ≥ (l2.length : Int)
    · rw [if_pos c16] at H
      have c16b0 : decide ((l2.length : Int) ≤ a3) = true := decide_eq_true c16
      clear c16
      obtain rfl := Option.some.inj H
      have p216 : 0 ≤ (a1 : Int) := dcd
      have q216 : a1 < (l0.length : Int) := dcd
      obtain ⟨ad216, e216, hx216_0, hx216_1, hx216_2, hx216_3⟩ := at_T61 HR0.out a1 p216 q216
      cases e216
      replace p216 := eq_true p216
      replace q216 := eq_true q216
      go_enter Try.func30, Try.ntmps30
      try go_wp2
      replace HB := Aside0.mk (below_drew1 HB.out)
      refine start_ (n := 17) (S := fun w' => True) (ds := []) #[false, false, false, false, false, false, false, false, false, false, false, false, false, false, false, false, false] (by kernel_rfl) rfl rfl trivial (fun hHeld => ?_); refine with_tabW spec_l13Content.tab2 spec_l13Content.bits2 (fun HT_ HW_ => ?_)
      generalize w.drew = w17 at HB hHeld ⊢
      refine pu_ 0 17 ?_; refine pu_ 1 18 ?_; refine pu_ 2 19 ?_; refine pu_ 3 20 ?_; refine pu_ 4 21 ?_; refine pn_ 5 22 ?_; refine pn_ 6 23 ?_; refine pn_ 7 24 ?_; refine pn_ 8 25 ?_; refine pn_ 9 26 ?_; refine pn_ 10 27 ?_; refine pn_ 11 28 ?_; refine pn_ 12 29 ?_; refine pn_ 13 30 ?_; refine pn_ 14 31 ?_; refine pn_ 15 32 ?_; refine pu_ 16 33 ?_
      refine done_ (done_of HT_.out (by kernel_rfl)) ?_
      try go_wp2
      go_ret
      exact fin_ (below_later HB.out)
    · rw [if_neg c16] at H
      have c16b0 : decide ((l2.length : Int) ≤ a3) = false := decide_eq_false c16
      clear c16
      replace H := ifd H
      obtain ⟨c18b0, H⟩ := H
      replace H := ifd H
      obtain ⟨c19b0, H⟩ := H
      replace H := bnd H
      obtain ⟨t219, A20, H⟩ := H
      by_cases c21 : t219 = true
      · subst c21
        replace H := ifp rfl H
        obtain rfl := Option.some.inj H
        have p216 : 0 ≤ (a1 : Int) := dcd
        have q216 : a1 < (l0.length : Int) := dcd
        obtain ⟨ad216, e216, hx216_0, hx216_1, hx216_2, hx216_3⟩ := at_T61 HR0.out a1 p216 q216
        cases e216
        replace p216 := eq_true p216
        replace q216 := eq_true q216
        go_enter Try.func30, Try.ntmps30
        try go_wp2
        replace HB := Aside0.mk (below_drew1 HB.out)
        have p217 : 0 ≤ (a1 : Int) := dcd
        have q217 : a1 < (l0.length : Int) := dcd
        obtain ⟨ad217, e217, hx217_0, hx217_1, hx217_2, hx217_3⟩ := at_T61 HR0.out a1 p217 q217
        have hw217_3 := hx217_3
        have hw217_2 := hx217_2
        have hw217_1 := hx217_1
        have hw217_0 := hx217_0
        obtain rfl : ad216 = ad217 := (by injection e217)
        replace hx217_0 := crd HB hx217_0
        replace hx217_1 := crd HB hx217_1
        replace hx217_2 := crd HB hx217_2
        replace hx217_3 := crd HB hx217_3
        replace p217 := eq_true p217
        replace q217 := eq_true q217
        have p218 : 0 ≤ (a3 : Int) := dcd
        have q218 : a3 < (l2.length : Int) := dcd
        obtain ⟨ad218, e218, hx218_0, hx218_1⟩ := at_T33 HR2.out a3 p218 q218
        have hw218_1 := hx218_1
        have hw218_0 := hx218_0
        cases e218
        replace hx218_0 := crd HB hx218_0
        replace hx218_1 := crd HB hx218_1
        replace p218 := eq_true p218
        replace q218 := eq_true q218
        refine start_ (n := 17) (S := fun w' => w'.cell? (ad216.add ((a1).toNat * 4)) = some (.string ((rd_T61 l0 a1).f0)) ∧ w'.cell? ⟨(ad216.add ((a1).toNat * 4)).block, (ad216.add ((a1).toNat * 4)).off + 1, none⟩ = some (.int .i64 ((rd_T61 l0 a1).f1)) ∧ w'.cell? ⟨(ad216.add ((a1).toNat * 4)).block, (ad216.add ((a1).toNat * 4)).off + 2, none⟩ = some (.int .i64 ((rd_T61 l0 a1).f2)) ∧ w'.cell? ⟨(ad216.add ((a1).toNat * 4)).block, (ad216.add ((a1).toNat * 4)).off + 3, none⟩ = some (.int .i64 ((rd_T61 l0 a1).f3)) ∧ w'.cell? (ad218.add ((a3).toNat * 2)) = some (.int .i64 ((rd_T33 l2 a3).f0)) ∧ w'.cell? ⟨(ad218.add ((a3).toNat * 2)).block, (ad218.add ((a3).toNat * 2)).off + 1, none⟩ = some (.string ((rd_T33 l2 a3).f1))) (ds := []) #[false, false, false, false, false, false, false, false, false, false, false, false, false, false, false, false, false] (by kernel_rfl) rfl rfl ⟨((HB.out.cell (World.block_lt_of_cell? w _ hw217_0)).trans hw217_0), ((HB.out.cell (World.block_lt_of_cell? w _ hw217_1)).trans hw217_1), ((HB.out.cell (World.block_lt_of_cell? w _ hw217_2)).trans hw217_2), ((HB.out.cell (World.block_lt_of_cell? w _ hw217_3)).trans hw217_3), ((HB.out.cell (World.block_lt_of_cell? w _ hw218_0)).trans hw218_0), ((HB.out.cell (World.block_lt_of_cell? w _ hw218_1)).trans hw218_1)⟩ (fun hHeld => ?_); refine with_tabW spec_l13Content.tab2 spec_l13Content.bits2 (fun HT_ HW_ => ?_)
        generalize w.drew = w22 at HB hx217_0 hx217_1 hx217_2 hx217_3 hx218_0 hx218_1 hHeld ⊢
        refine pu_ 0 17 ?_; refine pu_ 1 18 ?_; refine pu_ 2 19 ?_; refine pu_ 3 20 ?_; refine pu_ 4 21 ?_; refine pu_ 5 22 ?_; refine pu_ 6 23 ?_; refine pu_ 7 24 ?_; refine pu_ 8 25 ?_; refine pu_ 10 27 ?_; refine pu_ 11 28 ?_; refine pu_ 12 29 ?_; refine tk_ 9 26 hHeld ?_; refine tk_ 13 30 hHeld ?_
        refine on_ 14 31 (fun K hK => ?_)
        refine gs_ Try.func39 #[.int .i64 ((rd_T61 l0 a1).f1), .agg #[.int .i64 ((rd_T33 l2 a3).f0), .string ((rd_T33 l2 a3).f1)]] rfl ?_
        with_reducible refine (spec_ValOk.calls k ((rd_T61 l0 a1).f1) ((rd_T33 l2 a3).f0) ((rd_T33 l2 a3).f1) true _ A20.out).mono ?_
        rintro e w23 ⟨rfl, hb⟩
        refine ⟨_, rfl, ?_⟩
        replace HB := bst HB hb
        (try clear hb)
        (try clear hb2)
        (try clear hk)
        (try clear hi)
        refine hK.out _ _ ⟨((HB.out.cell (World.block_lt_of_cell? w _ hw217_0)).trans hw217_0), ((HB.out.cell (World.block_lt_of_cell? w _ hw217_1)).trans hw217_1), ((HB.out.cell (World.block_lt_of_cell? w _ hw217_2)).trans hw217_2), ((HB.out.cell (World.block_lt_of_cell? w _ hw217_3)).trans hw217_3), ((HB.out.cell (World.block_lt_of_cell? w _ hw218_0)).trans hw218_0), ((HB.out.cell (World.block_lt_of_cell? w _ hw218_1)).trans hw218_1)⟩ (fun hHeld => ?_)
        clear hK K
        refine no_ (some 31) ?_; refine pu_ 15 32 ?_; refine pu_ 16 33 ?_
        refine done_ (done_of HT_.out (by kernel_rfl)) ?_
        try go_wp2
        go_ret
        exact fin_ (below_later HB.out)
      · replace c21 := Bool.eq_false_iff.mpr c21
        subst c21
        replace H := ifn Bool.false_ne_true H
        obtain rfl := Option.some.inj H
        have p216 : 0 ≤ (a1 : Int) := dcd
        have q216 : a1 < (l0.length : Int) := dcd
        obtain ⟨ad216, e216, hx216_0, hx216_1, hx216_2, hx216_3⟩ := at_T61 HR0.out a1 p216 q216
        cases e216
        replace p216 := eq_true p216
        replace q216 := eq_true q216
        go_enter Try.func30, Try.ntmps30
        try go_wp2
        replace HB := Aside0.mk (below_drew1 HB.out)
        have p217 : 0 ≤ (a1 : Int) := dcd
        have q217 : a1 < (l0.length : Int) := dcd
        obtain ⟨ad217, e217, hx217_0, hx217_1, hx217_2, hx217_3⟩ := at_T61 HR0.out a1 p217 q217
        have hw217_3 := hx217_3
        have hw217_2 := hx217_2
        have hw217_1 := hx217_1
        have hw217_0 := hx217_0
        obtain rfl : ad216 = ad217 := (by injection e217)
        replace hx217_0 := crd HB hx217_0
        replace hx217_1 := crd HB hx217_1
        replace hx217_2 := crd HB hx217_2
        replace hx217_3 := crd HB hx217_3
        replace p217 := eq_true p217
        replace q217 := eq_true q217
        have p218 : 0 ≤ (a3 : Int) := dcd
        have q218 : a3 < (l2.length : Int) := dcd
        obtain ⟨ad218, e218, hx218_0, hx218_1⟩ := at_T33 HR2.out a3 p218 q218
        have hw218_1 := hx218_1
        have hw218_0 := hx218_0
        cases e218
        replace hx218_0 := crd HB hx218_0
        replace hx218_1 := crd HB hx218_1
        replace p218 := eq_true p218
        replace q218 := eq_true q218
        refine start_ (n := 17) (S := fun w' => w'.cell? (ad216.add ((a1).toNat * 4)) = some (.string ((rd_T61 l0 a1).f0)) ∧ w'.cell? ⟨(ad216.add ((a1).toNat * 4)).block, (ad216.add ((a1).toNat * 4)).off + 1, none⟩ = some (.int .i64 ((rd_T61 l0 a1).f1)) ∧ w'.cell? ⟨(ad216.add ((a1).toNat * 4)).block, (ad216.add ((a1).toNat * 4)).off + 2, none⟩ = some (.int .i64 ((rd_T61 l0 a1).f2)) ∧ w'.cell? ⟨(ad216.add ((a1).toNat * 4)).block, (ad216.add ((a1).toNat * 4)).off + 3, none⟩ = some (.int .i64 ((rd_T61 l0 a1).f3)) ∧ w'.cell? (ad218.add ((a3).toNat * 2)) = some (.int .i64 ((rd_T33 l2 a3).f0)) ∧ w'.cell? ⟨(ad218.add ((a3).toNat * 2)).block, (ad218.add ((a3).toNat * 2)).off + 1, none⟩ = some (.string ((rd_T33 l2 a3).f1))) (ds := []) #[false, false, false, false, false, false, false, false, false, false, false, false, false, false, false, false, false] (by kernel_rfl) rfl rfl ⟨((HB.out.cell (World.block_lt_of_cell? w _ hw217_0)).trans hw217_0), ((HB.out.cell (World.block_lt_of_cell? w _ hw217_1)).trans hw217_1), ((HB.out.cell (World.block_lt_of_cell? w _ hw217_2)).trans hw217_2), ((HB.out.cell (World.block_lt_of_cell? w _ hw217_3)).trans hw217_3), ((HB.out.cell (World.block_lt_of_cell? w _ hw218_0)).trans hw218_0), ((HB.out.cell (World.block_lt_of_cell? w _ hw218_1)).trans hw218_1)⟩ (fun hHeld => ?_); refine with_tabW spec_l13Content.tab2 spec_l13Content.bits2 (fun HT_ HW_ => ?_)
        generalize w.drew = w24 at HB hx217_0 hx217_1 hx217_2 hx217_3 hx218_0 hx218_1 hHeld ⊢
        refine pu_ 0 17 ?_; refine pu_ 1 18 ?_; refine pu_ 2 19 ?_; refine pu_ 3 20 ?_; refine pu_ 4 21 ?_; refine pu_ 5 22 ?_; refine pu_ 6 23 ?_; refine pu_ 7 24 ?_; refine pu_ 8 25 ?_; refine pu_ 10 27 ?_; refine pu_ 11 28 ?_; refine pu_ 12 29 ?_; refine tk_ 9 26 hHeld ?_; refine tk_ 13 30 hHeld ?_
        refine on_ 14 31 (fun K hK => ?_)
        refine gs_ Try.func39 #[.int .i64 ((rd_T61 l0 a1).f1), .agg #[.int .i64 ((rd_T33 l2 a3).f0), .string ((rd_T33 l2 a3).f1)]] rfl ?_
        with_reducible refine (spec_ValOk.calls k ((rd_T61 l0 a1).f1) ((rd_T33 l2 a3).f0) ((rd_T33 l2 a3).f1) false _ A20.out).mono ?_
        rintro e w25 ⟨rfl, hb⟩
        refine ⟨_, rfl, ?_⟩
        replace HB := bst HB hb
        (try clear hb)
        (try clear hb2)
        (try clear hk)
        (try clear hi)
        refine hK.out _ _ ⟨((HB.out.cell (World.block_lt_of_cell? w _ hw217_0)).trans hw217_0), ((HB.out.cell (World.block_lt_of_cell? w _ hw217_1)).trans hw217_1), ((HB.out.cell (World.block_lt_of_cell? w _ hw217_2)).trans hw217_2), ((HB.out.cell (World.block_lt_of_cell? w _ hw217_3)).trans hw217_3), ((HB.out.cell (World.block_lt_of_cell? w _ hw218_0)).trans hw218_0), ((HB.out.cell (World.block_lt_of_cell? w _ hw218_1)).trans hw218_1)⟩ (fun hHeld => ?_)
        clear hK K
        refine no_ (some 31) ?_; refine pu_ 15 32 ?_; refine pu_ 16 33 ?_
        refine done_ (done_of HT_.out (by kernel_rfl)) ?_
        try go_wp2
        go_ret
        exact fin_ (below_later HB.out)
theorem spec_l13Part.pair (k : Nat) : (∀ (P0_ : Nat → Prop) (A0 : Option Addr) (c0 : Nat) (l0 : List (S61)) (a1 : Int) (P2_ : Nat → Prop) (A2 : Option Addr) (c2 : Nat) (l2 : List (S33)) (a3 : Int) (r : Int) (w : World) (hs0 : Kd.V k61 61 w w.heap.size (fun k_ => P0_ k_) (.slice A0 l0.length c0) l0) (hs2 : Kd.V k33 33 w w.heap.size (fun k_ => P2_ k_) (.slice A2 l2.length c2) l2) (h : spec_l13Part.f k l0 a1 l2 a3 = some r),
    Calls Try.prog 40 #[.slice A0 l0.length c0, .int .i64 a1, .slice A2 l2.length c2, .int .i64 a3] w fun e w' => e = .returned (.int .i64 r) ∧ Below w.heap.size w w') ∧ (∀ (A0 : Option Addr) (c0 : Nat) (l0 : List (S61)) (a1 : Int) (A2 : Option Addr) (c2 : Nat) (l2 : List (S33)) (a3 : Int) (r : Int) (w : World) (hr0 : Kd.C k61 w A0 l0.length l0) (hc0 : l0.length ≤ c0) (hr2 : Kd.C k33 w A2 l2.length l2) (hc2 : l2.length ≤ c2) (h : spec_l13Content.f k l0 a1 l2 a3 = some r),
    Calls Try.prog 30 #[.slice A0 l0.length c0, .int .i64 a1, .slice A2 l2.length c2, .int .i64 a3] w fun e w' => e = .returned (.int .i64 r) ∧ Below w.heap.size w w') := by
  induction k using Nat.strongRecOn with
  | _ k ih => exact ⟨spec_l13Part.calls_ k (fun j hj => (ih j hj).1) (fun j hj => (ih j hj).2), spec_l13Content.calls_ k (fun j hj => (ih j hj).2) (fun j hj => (ih j hj).1)⟩
theorem spec_l13Part.calls (k : Nat) : ∀ (P0_ : Nat → Prop) (A0 : Option Addr) (c0 : Nat) (l0 : List (S61)) (a1 : Int) (P2_ : Nat → Prop) (A2 : Option Addr) (c2 : Nat) (l2 : List (S33)) (a3 : Int) (r : Int) (w : World) (hs0 : Kd.V k61 61 w w.heap.size (fun k_ => P0_ k_) (.slice A0 l0.length c0) l0) (hs2 : Kd.V k33 33 w w.heap.size (fun k_ => P2_ k_) (.slice A2 l2.length c2) l2) (h : spec_l13Part.f k l0 a1 l2 a3 = some r),
    Calls Try.prog 40 #[.slice A0 l0.length c0, .int .i64 a1, .slice A2 l2.length c2, .int .i64 a3] w fun e w' => e = .returned (.int .i64 r) ∧ Below w.heap.size w w' := (spec_l13Part.pair k).1
theorem spec_l13Content.calls (k : Nat) : ∀ (A0 : Option Addr) (c0 : Nat) (l0 : List (S61)) (a1 : Int) (A2 : Option Addr) (c2 : Nat) (l2 : List (S33)) (a3 : Int) (r : Int) (w : World) (hr0 : Kd.C k61 w A0 l0.length l0) (hc0 : l0.length ≤ c0) (hr2 : Kd.C k33 w A2 l2.length l2) (hc2 : l2.length ≤ c2) (h : spec_l13Content.f k l0 a1 l2 a3 = some r),
    Calls Try.prog 30 #[.slice A0 l0.length c0, .int .i64 a1, .slice A2 l2.length c2, .int .i64 a3] w fun e w' => e = .returned (.int .i64 r) ∧ Below w.heap.size w w' := (spec_l13Part.pair k).2

end Go.Proofs.Ytbiobenhhnbbaaa.PFnCut
