/- The machine's side of FnExactChunkCut, written by wip/tools/hyb.py of this repo: each Go function as a plain Lean function, and the proof that the call comes to just its answer. No condition. -/
import Derived.Test.YtcnfnjfbacmmaaaPFnExactChunkCutx0
namespace Go.Proofs.Ytcnfnjfbacmmaaa.PFnExactChunkCut
open Go.RowKit Go.Proofs.YtcnfnjfbacmmaaaW.PrintWords Go.Proofs.YtcnfnjfbacmmaaaW.PrintLast Go.Proofs.YtcnfnjfbacmmaaaW.PrintMore Go.Proofs.YtcnfnjfbacmmaaaW.PrintMore2
attribute [local go_sem] max2_int min2_int max_two min_two max_three min_three max_four min_four   -- for this text's walks alone
set_option linter.unusedVariables false
set_option linter.unusedSimpArgs false

/-! ### laws_szVal: function 20 -/
def laws_szVal.f (a0_0 : Int) (a0_1 : ByteArray) (a1 : Int) : Option (Int) := if (wrap64 (a1 - (a0_1.size : Int))) < 0 then (some (-1)) else (some (wrap64 (a1 - (a0_1.size : Int))))
set_option maxHeartbeats 8000000 in
set_option maxRecDepth 100000 in
theorem laws_szVal.calls (a0_0 : Int) (a0_1 : ByteArray) (a1 : Int) (r : Int) (w : World) (h : laws_szVal.f a0_0 a0_1 a1 = some r) :
    Calls Try.prog 20 #[.agg #[.int .i64 a0_0, .string a0_1], .int .i64 a1] w fun e w' => e = .returned (.int .i64 r) ∧ Below w.heap.size w w' := by
  have hu35 := Try.underlying35
  have HB := Aside0.mk (Below.refl w.heap.size w)
  have H : (if (wrap64 (a1 - (a0_1.size : Int))) < 0 then (some (-1)) else (some (wrap64 (a1 - (a0_1.size : Int))))) = some r := h
  clear h
  by_cases c3 : (wrap64 (a1 - (a0_1.size : Int))) < 0
  · rw [if_pos c3] at H
    have c3b0 := decide_eq_true c3
    clear c3
    obtain rfl := Option.some.inj H
    go_enter Try.func20, Try.ntmps20
    go_wp2_with (first | ((with_reducible refine gate_dst (N := 2) rfl ?_); refine bx_ 2 #[.int .i64 a0_0, .string a0_1] 35 ?_; intro gb101 hg w4 hbox hb; have BK101 := Aside0.mk (hbox); have GW101 := gwe HB hg; have GE101 := GW101; replace HB := bst HB hb; clear hb hbox hg; obtain ⟨hcz5_0, hcz5_1, hfz5_0, hfz5_1⟩ := cl2 BK101))
    go_ret
    exact fin_ (below_later HB.out)
  · rw [if_neg c3] at H
    have c3b0 := decide_eq_false c3
    clear c3
    obtain rfl := Option.some.inj H
    go_enter Try.func20, Try.ntmps20
    go_wp2_with (first | ((with_reducible refine gate_dst (N := 2) rfl ?_); refine bx_ 2 #[.int .i64 a0_0, .string a0_1] 35 ?_; intro gb101 hg w6 hbox hb; have BK101 := Aside0.mk (hbox); have GW101 := gwe HB hg; have GE101 := GW101; replace HB := bst HB hb; clear hb hbox hg; obtain ⟨hcz7_0, hcz7_1, hfz7_0, hfz7_1⟩ := cl2 BK101))
    go_ret
    exact fin_ (below_later HB.out)

/-! ### laws_szTriple: function 13 -/
def laws_szTriple.f (a0_0 : Int) (a0_1 : Int) (a0_2 : Int) (a0_3 : ByteArray) (a1 : Int) : Option (Int) := (laws_szVal.f a0_2 a0_3 a1).bind fun t103 => (if t103 < 0 then (some (-1)) else (some t103))
set_option maxHeartbeats 8000000 in
set_option maxRecDepth 100000 in
theorem laws_szTriple.calls (a0_0 : Int) (a0_1 : Int) (a0_2 : Int) (a0_3 : ByteArray) (a1 : Int) (r : Int) (w : World) (h : laws_szTriple.f a0_0 a0_1 a0_2 a0_3 a1 = some r) :
    Calls Try.prog 13 #[.agg #[.int .i64 a0_0, .int .i64 a0_1, .int .i64 a0_2, .string a0_3], .int .i64 a1] w fun e w' => e = .returned (.int .i64 r) ∧ Below w.heap.size w w' := by
  have hu37 := Try.underlying37
  have hu35 := Try.underlying35
  have HB := Aside0.mk (Below.refl w.heap.size w)
  have H : ((laws_szVal.f a0_2 a0_3 a1).bind fun t103 => (if t103 < 0 then (some (-1)) else (some t103))) = some r := h
  clear h
  replace H := bnd H
  obtain ⟨t103, A3, H⟩ := H
  by_cases c4 : t103 < 0
  · rw [if_pos c4] at H
    have c4b0 := decide_eq_true c4
    clear c4
    obtain rfl := Option.some.inj H
    go_enter Try.func13, Try.ntmps13
    go_wp2_with (first | ((with_reducible refine gate_dst (N := 2) rfl ?_); refine bx_ 2 #[.int .i64 a0_0, .int .i64 a0_1, .int .i64 a0_2, .string a0_3] 37 ?_; intro gb102 hg w5 hbox hb; have BK102 := Aside0.mk (hbox); have GW102 := gwe HB hg; have GE102 := GW102; replace HB := bst HB hb; clear hb hbox hg; obtain ⟨hcz6_0, hcz6_1, hcz6_2, hcz6_3, hfz6_0, hfz6_1, hfz6_2, hfz6_3⟩ := cl4 BK102) | ((with_reducible refine gate_callee (f := 20) rfl ?_); refine gl_ (some 8) Try.func20 #[.agg #[.int .i64 a0_2, .string a0_3], .int .i64 a1] rfl ?_; (with_reducible refine (laws_szVal.calls a0_2 a0_3 a1 t103 _ A3.out).mono ?_); rintro e w7 ⟨rfl, hb⟩; refine ⟨_, rfl, ?_⟩; replace BK102 := bkb BK102 hb; replace HB := bst HB hb; (try clear hb)))
    go_ret
    exact fin_ (below_later HB.out)
  · rw [if_neg c4] at H
    have c4b0 := decide_eq_false c4
    clear c4
    obtain rfl := Option.some.inj H
    go_enter Try.func13, Try.ntmps13
    go_wp2_with (first | ((with_reducible refine gate_dst (N := 2) rfl ?_); refine bx_ 2 #[.int .i64 a0_0, .int .i64 a0_1, .int .i64 a0_2, .string a0_3] 37 ?_; intro gb102 hg w8 hbox hb; have BK102 := Aside0.mk (hbox); have GW102 := gwe HB hg; have GE102 := GW102; replace HB := bst HB hb; clear hb hbox hg; obtain ⟨hcz9_0, hcz9_1, hcz9_2, hcz9_3, hfz9_0, hfz9_1, hfz9_2, hfz9_3⟩ := cl4 BK102) | ((with_reducible refine gate_callee (f := 20) rfl ?_); refine gl_ (some 8) Try.func20 #[.agg #[.int .i64 a0_2, .string a0_3], .int .i64 a1] rfl ?_; (with_reducible refine (laws_szVal.calls a0_2 a0_3 a1 t103 _ A3.out).mono ?_); rintro e w10 ⟨rfl, hb⟩; refine ⟨_, rfl, ?_⟩; replace BK102 := bkb BK102 hb; replace HB := bst HB hb; (try clear hb)))
    go_ret
    exact fin_ (below_later HB.out)

/-! ### laws_szTripleS: function 4 -/
def laws_szTripleS.l0 : Nat → List (S37) → Int → Int → Option (Int)
  | 0, _, _, _ => none
  | k + 1, x0, x1, x5 => if x5 < (x0.length : Int) then (if 0 ≤ x5 then ((laws_szTriple.f ((rd_T37 x0 x5).f0) ((rd_T37 x0 x5).f1) ((rd_T37 x0 x5).f2.f0) ((rd_T37 x0 x5).f2.f1) x1).bind fun t105 => (if t105 < 0 then (some (-1)) else (laws_szTripleS.l0 k x0 t105 (wrap64 (x5 + 1))))) else (none)) else (some x1)
def laws_szTripleS.f (k : Nat) (l0 : List (S37)) (a1 : Int) : Option (Int) := if (wrap64 (a1 - (l0.length : Int))) < 0 then (some (-1)) else (laws_szTripleS.l0 k l0 (wrap64 (a1 - (l0.length : Int))) 0)
set_option maxHeartbeats 8000000 in
set_option maxRecDepth 100000 in
theorem laws_szTripleS.calls (k : Nat) (A0 : Option Addr) (c0 : Nat) (l0 : List (S37)) (a1 : Int) (r : Int) (w : World) (hr0 : Kd.C k37 w A0 l0.length l0) (hc0 : l0.length ≤ c0) (h : laws_szTripleS.f k l0 a1 = some r) :
    Calls Try.prog 4 #[.slice A0 l0.length c0, .int .i64 a1] w fun e w' => e = .returned (.int .i64 r) ∧ Below w.heap.size w w' := by
  have hu37 := Try.underlying37
  have HR0 := Aside0.mk hr0
  have HC0 := Aside0.mk hc0
  clear hr0 hc0
  have HB := Aside0.mk (Below.refl w.heap.size w)
  have H : (if (wrap64 (a1 - (l0.length : Int))) < 0 then (some (-1)) else (laws_szTripleS.l0 k l0 (wrap64 (a1 - (l0.length : Int))) 0)) = some r := h
  clear h
  by_cases c3 : (wrap64 (a1 - (l0.length : Int))) < 0
  · rw [if_pos c3] at H
    have c3b0 := decide_eq_true c3
    clear c3
    obtain rfl := Option.some.inj H
    go_enter Try.func4, Try.ntmps4
    go_wp2
    go_ret
    exact fin_ (below_later HB.out)
  · rw [if_neg c3] at H
    have c3b0 := decide_eq_false c3
    clear c3
    have H' := Aside0.mk H
    clear H
    go_enter Try.func4, Try.ntmps4
    go_wp2
    go_loopg [1, 5] k (fun kq v1 v5 w' => ∃ (x1_1 : Int) (x5_1 : Int), v1 = .int .i64 x1_1 ∧ v5 = .int .i64 x5_1 ∧ Aside0 (laws_szTripleS.l0 kq l0 x1_1 x5_1 = some r) ∧ Aside0 (kq ≤ k) ∧ Aside0 (Below w.heap.size w w'))
    case atStart => exact ⟨(wrap64 (a1 - (l0.length : Int))), (0), sr, sr, H', ⟨Nat.le_refl _⟩, ⟨below_later HB.out⟩⟩
    case round =>
      clear H'
      try clear c3
      try clear c3b0
      obtain ⟨x1_1, x5_1, rfl, rfl, HA, HK1, HB⟩ := hrel
      cases gk with
      | zero => exact absurd HA.out (by simp [laws_szTripleS.l0])
      | succ k1 =>
        have H := HA.out
        clear HA
        simp only [laws_szTripleS.l0] at H
        by_cases c4 : x5_1 < (l0.length : Int)
        · rw [if_pos c4] at H
          have c4b0 := decide_eq_true c4
          clear c4
          replace H := ifd H
          obtain ⟨c5b0, H⟩ := H
          replace H := bnd H
          obtain ⟨t105, A6, H⟩ := H
          by_cases c7 : t105 < 0
          · rw [if_pos c7] at H
            have c7b0 := decide_eq_true c7
            clear c7
            obtain rfl := Option.some.inj H
            have p104 : 0 ≤ (x5_1 : Int) := dcd
            have q104 : x5_1 < (l0.length : Int) := dcd
            obtain ⟨ad104, e104, hx104_0, hx104_1, hx104_2, hx104_3⟩ := at_T37 HR0.out x5_1 p104 q104
            cases e104
            replace hx104_0 := crd HB hx104_0
            replace hx104_1 := crd HB hx104_1
            replace hx104_2 := crd HB hx104_2
            replace hx104_3 := crd HB hx104_3
            replace p104 := eq_true p104
            replace q104 := eq_true q104
            go_wp2_with (first | ((with_reducible refine gate_callee (f := 13) rfl ?_); refine gl_ (some 23) Try.func13 #[.agg #[.int .i64 ((rd_T37 l0 x5_1).f0), .int .i64 ((rd_T37 l0 x5_1).f1), .int .i64 ((rd_T37 l0 x5_1).f2.f0), .string ((rd_T37 l0 x5_1).f2.f1)], .int .i64 x1_1] rfl ?_; (with_reducible refine (laws_szTriple.calls ((rd_T37 l0 x5_1).f0) ((rd_T37 l0 x5_1).f1) ((rd_T37 l0 x5_1).f2.f0) ((rd_T37 l0 x5_1).f2.f1) x1_1 t105 _ A6.out).mono ?_); rintro e w8 ⟨rfl, hb⟩; refine ⟨_, rfl, ?_⟩; replace HB := bst HB hb; (try clear hb)))
            go_ret
            exact fin_ (below_later HB.out)
          · rw [if_neg c7] at H
            have c7b0 := decide_eq_false c7
            clear c7
            have H' := Aside0.mk H
            clear H
            have p104 : 0 ≤ (x5_1 : Int) := dcd
            have q104 : x5_1 < (l0.length : Int) := dcd
            obtain ⟨ad104, e104, hx104_0, hx104_1, hx104_2, hx104_3⟩ := at_T37 HR0.out x5_1 p104 q104
            cases e104
            replace hx104_0 := crd HB hx104_0
            replace hx104_1 := crd HB hx104_1
            replace hx104_2 := crd HB hx104_2
            replace hx104_3 := crd HB hx104_3
            replace p104 := eq_true p104
            replace q104 := eq_true q104
            go_wp2_with (first | ((with_reducible refine gate_callee (f := 13) rfl ?_); refine gl_ (some 23) Try.func13 #[.agg #[.int .i64 ((rd_T37 l0 x5_1).f0), .int .i64 ((rd_T37 l0 x5_1).f1), .int .i64 ((rd_T37 l0 x5_1).f2.f0), .string ((rd_T37 l0 x5_1).f2.f1)], .int .i64 x1_1] rfl ?_; (with_reducible refine (laws_szTriple.calls ((rd_T37 l0 x5_1).f0) ((rd_T37 l0 x5_1).f1) ((rd_T37 l0 x5_1).f2.f0) ((rd_T37 l0 x5_1).f2.f1) x1_1 t105 _ A6.out).mono ?_); rintro e w9 ⟨rfl, hb⟩; refine ⟨_, rfl, ?_⟩; replace HB := bst HB hb; (try clear hb)))
            go_roundg k1
            case measure => have := HK1.out; omega
            case rel => exact ⟨(t105), (wrap64 (x5_1 + 1)), sr, sr, H', ⟨by have := HK1.out; omega⟩, ⟨below_later HB.out⟩⟩
        · rw [if_neg c4] at H
          have c4b0 := decide_eq_false c4
          clear c4
          obtain rfl := Option.some.inj H
          go_wp2
          go_ret
          exact fin_ (below_later HB.out)

/-! ### spec_l1In: function 14 -/
def spec_l1In.f (a0 : Int) (a1 : Int) (a2 : Int) : Option (Bool) := if a0 ≥ a1 then (some (decide (a0 ≤ a2))) else (some false)
set_option maxHeartbeats 8000000 in
set_option maxRecDepth 100000 in
theorem spec_l1In.calls (a0 : Int) (a1 : Int) (a2 : Int) (r : Bool) (w : World) (h : spec_l1In.f a0 a1 a2 = some r) :
    Calls Try.prog 14 #[.int .i64 a0, .int .i64 a1, .int .i64 a2] w fun e w' => e = .returned (.bool r) ∧ Drawn0 w w' := by
  have H : (if a0 ≥ a1 then (some (decide (a0 ≤ a2))) else (some false)) = some r := h
  clear h
  by_cases c4 : a0 ≥ a1
  · rw [if_pos c4] at H
    have c4b0 : decide (a1 ≤ a0) = true := decide_eq_true c4
    clear c4
    obtain rfl := Option.some.inj H
    go_enter Try.func14, Try.ntmps14
    go_wp2
    go_ret
    exact ⟨by first | rfl | (simp; done) | (simp [*]; done), by repeat (first | exact Drawn0.refl _ | apply Drawn0.step)⟩
  · rw [if_neg c4] at H
    have c4b0 : decide (a1 ≤ a0) = false := decide_eq_false c4
    clear c4
    obtain rfl := Option.some.inj H
    go_enter Try.func14, Try.ntmps14
    go_wp2
    go_ret
    exact ⟨by first | rfl | (simp; done) | (simp [*]; done), by repeat (first | exact Drawn0.refl _ | apply Drawn0.step)⟩

/-! ### spec_ChunkCut: function 5 -/
mutual
def spec_ChunkCut.j0 : Nat → List (S41) → Int → List (S43) → Bool → Option ((List (S43)))
  | 0, _, _, _, _ => none
  | k + 1, x0, x1, x5, x24 => if x24 = true then (some x5) else (spec_ChunkCut.l0 k x0 x1 x5 (([] : List (S41))) 0 0)
def spec_ChunkCut.l0 : Nat → List (S41) → Int → List (S43) → List (S41) → Int → Int → Option ((List (S43)))
  | 0, _, _, _, _, _, _ => none
  | k + 1, x0, x1, x5, x6, x7, x8 => if x8 < (x0.length : Int) then (if 0 ≤ x8 then (if ((rd_T41 x0 x8).f0) = 0 then (if x7 = x1 then (if x5.length < 5864062014805 then ((some (([] : List (S41)) : List (S41))).bind fun y121 => (if y121.length < 3518437208883 then (spec_ChunkCut.l0 k x0 x1 (x5 ++ [(⟨x6⟩ : S43)]) (y121 ++ [(⟨(rd_T41 x0 x8).f0, (rd_T41 x0 x8).f1, (⟨(rd_T41 x0 x8).f2.f0, (rd_T41 x0 x8).f2.f1⟩ : S39)⟩ : S41)]) (0 + 1) (wrap64 (x8 + 1))) else (none))) else (none)) else (if x6.length < 3518437208883 then (spec_ChunkCut.l0 k x0 x1 x5 (x6 ++ [(⟨(rd_T41 x0 x8).f0, (rd_T41 x0 x8).f1, (⟨(rd_T41 x0 x8).f2.f0, (rd_T41 x0 x8).f2.f1⟩ : S39)⟩ : S41)]) (wrap64 (x7 + 1)) (wrap64 (x8 + 1))) else (none))) else (if x6.length < 3518437208883 then (spec_ChunkCut.l0 k x0 x1 x5 (x6 ++ [(⟨(rd_T41 x0 x8).f0, (rd_T41 x0 x8).f1, (⟨(rd_T41 x0 x8).f2.f0, (rd_T41 x0 x8).f2.f1⟩ : S39)⟩ : S41)]) x7 (wrap64 (x8 + 1))) else (none))) else (none)) else (if x5.length < 5864062014805 then (some (x5 ++ [(⟨x6⟩ : S43)])) else (none))
end
def spec_ChunkCut.f (k : Nat) (l0 : List (S41)) (a1 : Int) : Option ((List (S43))) := (some (([] : List (S43)) : List (S43))).bind fun y106 => (if a1 < 1 then (spec_ChunkCut.j0 k l0 a1 y106 true) else ((spec_l1In.f (l0.length : Int) 1 2000).bind fun t109 => (if t109 = true then (if 0 < (l0.length : Int) then (spec_ChunkCut.j0 k l0 a1 y106 (((rd_T41 l0 0).f0) != 0)) else (none)) else (spec_ChunkCut.j0 k l0 a1 y106 true))))
set_option maxHeartbeats 8000000 in
set_option maxRecDepth 100000 in
theorem spec_ChunkCut.calls (k : Nat) (A0 : Option Addr) (c0 : Nat) (l0 : List (S41)) (a1 : Int) (r : List (S43)) (w : World) (hr0 : Kd.C k41 w A0 l0.length l0) (hc0 : l0.length ≤ c0) (h : spec_ChunkCut.f k l0 a1 = some r) :
    Calls Try.prog 5 #[.slice A0 l0.length c0, .int .i64 a1] w fun e w' => ∃ v0_ : Value, e = .returned (v0_) ∧ Kd.S k43 43 w' w.heap.size (fun _ => True) v0_ r ∧ Below w.heap.size w w' := by
  have hu43 := Try.underlying43
  have hu41 := Try.underlying41
  have HR0 := Aside0.mk hr0
  have HC0 := Aside0.mk hc0
  clear hr0 hc0
  have HB := Aside0.mk (Below.refl w.heap.size w)
  have H : ((some (([] : List (S43)) : List (S43))).bind fun y106 => (if a1 < 1 then (spec_ChunkCut.j0 k l0 a1 y106 true) else ((spec_l1In.f (l0.length : Int) 1 2000).bind fun t109 => (if t109 = true then (if 0 < (l0.length : Int) then (spec_ChunkCut.j0 k l0 a1 y106 (((rd_T41 l0 0).f0) != 0)) else (none)) else (spec_ChunkCut.j0 k l0 a1 y106 true))))) = some r := h
  clear h
  replace H := bsm H
  obtain ⟨y106, Ny106, H⟩ := H
  have HC3 := Aside0.mk H
  clear H
  go_enter Try.func5, Try.ntmps5
  go_upto_region 2 with (first | ((with_reducible refine gate_dst (N := 9) rfl ?_); (try (refine gate_guard (by rfl) ?_; dsimp only)); refine Kd.S_lit k43 _ 43 ?hg (N := 9) ?hd (xs := ([] : List (S43))) (inner := []) (ok := fun _ => True) (okp := fun _ => True) ?hr ?hp (fun _ hk => hk) trivial (Below.refl _ _) (Nat.le_refl _) (by simp) ?_; (case hd => rfl); (case hg => rfl); (case hr => first | (go_simp; done) | (go_simp; rfl)); (case hp => exact (Reps.none _ _)); intro v107 w4 ho5 hb hg_ hnew_; clear hg_ hnew_; (first | rw [← Ny106.out] at ho5 | (simp only [Int.reduceToNat] at ho5; rw [← Ny106.out] at ho5)); have HO108 := Aside0.mk (Kd.S_lower ho5 (below_size (below_later HB.out))); replace HB := bst HB hb; clear hb ho5))
  (try simp only [Act.put, List.setIfInBounds_toArray, List.set_cons_zero, List.set_cons_succ])
  go_cut [24] (fun v24 wc => ∃ (kq : Nat) (x24_2 : Bool), v24 = .bool x24_2 ∧ Aside0 (spec_ChunkCut.j0 kq l0 a1 y106 x24_2 = some r) ∧ Aside0 (kq ≤ k) ∧ Aside0 (Kd.S k43 43 wc w.heap.size (fun _ => True) v107 y106) ∧ Aside0 (Below w.heap.size w wc))
  case first =>
    have H := HC3.out
    clear HC3
    by_cases c6 : a1 < 1
    · rw [if_pos c6] at H
      have c6b0 := decide_eq_true c6
      clear c6
      (first | rw [c6b0] | (simp only [i64_w, i32_w]; rw [c6b0]) | skip)
      have H' := Aside0.mk H
      clear H
      go_wp2
      go_meet
      case rel => exact ⟨_, (true), sr, H', ⟨by first | omega | exact Nat.le_refl _⟩, ⟨by (with_reducible repeat (first | apply Kd.S_alloc | apply Kd.S_drewN | apply Kd.S_drew)); exact HO108.out⟩, ⟨below_later HB.out⟩⟩
    · rw [if_neg c6] at H
      have c6b0 := decide_eq_false c6
      clear c6
      (first | rw [c6b0] | (simp only [i64_w, i32_w]; rw [c6b0]) | skip)
      replace H := bnd H
      obtain ⟨t109, A7, H⟩ := H
      by_cases c8 : t109 = true
      · subst c8
        replace H := ifp rfl H
        replace H := ifs H
        obtain ⟨c9, H⟩ := H
        have c9b0 := decide_eq_true c9
        have c9b1 : decide (0 < l0.length) = true := decide_eq_true (by omega)
        clear c9
        have H' := Aside0.mk H
        clear H
        go_wp2_with (first | (go_at_call 14; (with_reducible refine (spec_l1In.calls (l0.length : Int) 1 2000 true _ A7.out).mono ?_); rintro e w' ⟨rfl, ⟨nd, rfl⟩⟩; have p110 : 0 ≤ (0 : Int) := (by omega); have q110 : 0 < (l0.length : Int) := dcd; obtain ⟨ad110, e110, hx110_0, hx110_1, hx110_2, hx110_3⟩ := at_T41 HR0.out 0 p110 q110; cases e110; have qi110 : (0 < l0.length) = True := eq_true (by omega); (try rw [show ((0 : Int)).toNat = 0 from rfl] at hx110_0); (try rw [show 0 * 4 = 0 from rfl] at hx110_0); (try rw [Addr.add_zero'] at hx110_0); (try rw [show ((0 : Int)).toNat = 0 from rfl] at hx110_1); (try rw [show 0 * 4 = 0 from rfl] at hx110_1); (try rw [Addr.add_zero'] at hx110_1); (try rw [show ((0 : Int)).toNat = 0 from rfl] at hx110_2); (try rw [show 0 * 4 = 0 from rfl] at hx110_2); (try rw [Addr.add_zero'] at hx110_2); (try rw [show ((0 : Int)).toNat = 0 from rfl] at hx110_3); (try rw [show 0 * 4 = 0 from rfl] at hx110_3); (try rw [Addr.add_zero'] at hx110_3); replace hx110_0 := crd HB hx110_0; replace hx110_1 := crd HB hx110_1; replace hx110_2 := crd HB hx110_2; replace hx110_3 := crd HB hx110_3; replace p110 := eq_true p110; replace q110 := eq_true q110))
        go_meet
        case rel => exact ⟨_, ((((rd_T41 l0 0).f0) != 0)), sr, H', ⟨by first | omega | exact Nat.le_refl _⟩, ⟨by (with_reducible repeat (first | apply Kd.S_alloc | apply Kd.S_drewN | apply Kd.S_drew)); exact HO108.out⟩, ⟨below_later HB.out⟩⟩
      · replace c8 := Bool.eq_false_iff.mpr c8
        subst c8
        replace H := ifn Bool.false_ne_true H
        have H' := Aside0.mk H
        clear H
        go_wp2_with (first | (go_at_call 14; (with_reducible refine (spec_l1In.calls (l0.length : Int) 1 2000 false _ A7.out).mono ?_); rintro e w' ⟨rfl, ⟨nd, rfl⟩⟩))
        go_meet
        case rel => exact ⟨_, (true), sr, H', ⟨by first | omega | exact Nat.le_refl _⟩, ⟨by (with_reducible repeat (first | apply Kd.S_alloc | apply Kd.S_drewN | apply Kd.S_drew)); exact HO108.out⟩, ⟨below_later HB.out⟩⟩
  case rest =>
    clear HC3
    obtain ⟨kq, x24_2, rfl, HA, HJ2, HO_5, HB⟩ := hcut
    cases kq with
    | zero => exact absurd HA.out (by simp [spec_ChunkCut.j0])
    | succ kj2 =>
      have H := HA.out
      clear HA
      simp only [spec_ChunkCut.j0] at H
      by_cases c10 : x24_2 = true
      · subst c10
        replace H := ifp rfl H
        obtain rfl := Option.some.inj H
        go_wp2
        go_ret
        exact ⟨_, by first | rfl | (simp [errW_none, errW_some] <;> rfl) | (simp [*, errW_none, errW_some] <;> rfl), by (with_reducible repeat (first | apply Kd.S_alloc | apply Kd.S_drewN | apply Kd.S_drew)); exact HO_5.out, below_later HB.out⟩
      · replace c10 := Bool.eq_false_iff.mpr c10
        subst c10
        replace H := ifn Bool.false_ne_true H
        obtain ⟨y111, hy111⟩ : ∃ y_ : List (S41), y_ = (([] : List (S41))) := ⟨_, rfl⟩
        replace H : (spec_ChunkCut.l0 kj2 l0 a1 y106 y111 0 0) = some r := by first | (rw [hy111]; with_reducible exact H) | (rw [hy111]; exact H) | exact H
        have Ny111 := Aside0.mk hy111
        clear hy111
        have H' := Aside0.mk H
        clear H
        go_wp2_with (first | ((with_reducible refine gate_dst (N := 26) rfl ?_); (try (refine gate_guard (by rfl) ?_; dsimp only)); refine Kd.R_lit k41 _ 41 ?hg (N := 26) ?hd (xs := ([] : List (S41))) (inner := []) (ok := fun _ => True) (okp := fun _ => True) ?hr ?hp (fun _ hk => hk) trivial (Below.refl _ _) (Nat.le_refl _) (by simp) ?_; (case hd => rfl); (case hg => rfl); (case hr => first | (go_simp; done) | (go_simp; rfl)); (case hp => exact (Reps.none _ _)); intro v112 w11 ho12 hb hg_ hnew_; clear hg_ hnew_; (first | rw [← Ny111.out] at ho12 | (simp only [Int.reduceToNat] at ho12; rw [← Ny111.out] at ho12)); have HO113 := Aside0.mk (Kd.R_lower ho12 (below_size (below_later HB.out))); replace HO_5 := Aside0.mk (Kd.S_elder' (by (with_reducible repeat (first | apply Kd.S_alloc | apply Kd.S_drewN | apply Kd.S_drew)); exact HO_5.out) (Kd.R_base ho12) hb); replace HB := bst HB hb; clear hb ho12))
        go_loopg [5, 6, 7, 8] kj2 (fun kq v5 v6 v7 v8 w' => ∃ (x5_2 : List (S43)) (x6_2 : List (S41)) (x7_2 : Int) (x8_2 : Int), v7 = .int .i64 x7_2 ∧ v8 = .int .i64 x8_2 ∧ Aside0 (spec_ChunkCut.l0 kq l0 a1 x5_2 x6_2 x7_2 x8_2 = some r) ∧ Aside0 (kq ≤ kj2) ∧ Aside0 (Kd.S k43 43 w' w.heap.size (fun k_ => some k_ ≠ (v6 : Value).ownBlock) v5 x5_2) ∧ Aside0 (Kd.R k41 41 w' w.heap.size (fun _ => True) v6 x6_2) ∧ Aside0 (Below w.heap.size w w'))
        case atStart => exact ⟨(y106), (y111), (0), (0), sr, sr, H', ⟨Nat.le_refl _⟩, ⟨by (with_reducible repeat (first | apply Kd.S_alloc | apply Kd.S_drewN | apply Kd.S_drew)); exact Kd.S_mono HO_5.out (fun _ hk => hk.2)⟩, ⟨R_later HO113.out⟩, ⟨below_later HB.out⟩⟩
        case round =>
          clear H'
          try clear c10
          obtain ⟨x5_2, x6_2, x7_2, x8_2, rfl, rfl, HA, HK2, HO_5, HO_6, HB⟩ := hrel
          cases gk with
          | zero => exact absurd HA.out (by simp [spec_ChunkCut.l0])
          | succ k2 =>
            have H := HA.out
            clear HA
            simp only [spec_ChunkCut.l0] at H
            by_cases c13 : x8_2 < (l0.length : Int)
            · rw [if_pos c13] at H
              have c13b0 := decide_eq_true c13
              clear c13
              replace H := ifd H
              obtain ⟨c14b0, H⟩ := H
              by_cases c15 : ((rd_T41 l0 x8_2).f0) = 0
              · rw [if_pos c15] at H
                have c15b0 : (((rd_T41 l0 x8_2).f0) == 0) = true := beq_iff_eq.mpr c15
                have c15b1 : (((rd_T41 l0 x8_2).f0) != 0) = false := bne_eq_false_iff_eq.mpr c15
                clear c15
                by_cases c16 : x7_2 = a1
                · rw [if_pos c16] at H
                  have c16b0 : (x7_2 == a1) = true := beq_iff_eq.mpr c16
                  have c16b1 : (x7_2 != a1) = false := bne_eq_false_iff_eq.mpr c16
                  clear c16
                  replace H := ifs H
                  obtain ⟨c17, H⟩ := H
                  have LMc17 := Aside0.mk c17
                  clear c17
                  obtain ⟨y118, hy118⟩ : ∃ y_ : List (S43), y_ = (x5_2 ++ [(⟨x6_2⟩ : S43)]) := ⟨_, rfl⟩
                  replace H : ((some (([] : List (S41)) : List (S41))).bind fun y121 => (if y121.length < 3518437208883 then (spec_ChunkCut.l0 k2 l0 a1 y118 (y121 ++ [(⟨(rd_T41 l0 x8_2).f0, (rd_T41 l0 x8_2).f1, (⟨(rd_T41 l0 x8_2).f2.f0, (rd_T41 l0 x8_2).f2.f1⟩ : S39)⟩ : S41)]) (0 + 1) (wrap64 (x8_2 + 1))) else (none))) = some r := by first | (rw [hy118]; with_reducible exact H) | (rw [hy118]; exact H) | exact H
                  have Ny118 := Aside0.mk hy118
                  clear hy118
                  replace H := bsm H
                  obtain ⟨y121, Ny121, H⟩ := H
                  replace H := ifs H
                  obtain ⟨c18, H⟩ := H
                  have LMc18 := Aside0.mk c18
                  clear c18
                  obtain ⟨y125, hy125⟩ : ∃ y_ : List (S41), y_ = (y121 ++ [(⟨(rd_T41 l0 x8_2).f0, (rd_T41 l0 x8_2).f1, (⟨(rd_T41 l0 x8_2).f2.f0, (rd_T41 l0 x8_2).f2.f1⟩ : S39)⟩ : S41)]) := ⟨_, rfl⟩
                  replace H : (spec_ChunkCut.l0 k2 l0 a1 y118 y125 (0 + 1) (wrap64 (x8_2 + 1))) = some r := by first | (rw [hy125]; with_reducible exact H) | (rw [hy125]; exact H) | exact H
                  have Ny125 := Aside0.mk hy125
                  clear hy125
                  have H' := Aside0.mk H
                  clear H
                  have p117 : 0 ≤ (x8_2 : Int) := dcd
                  have q117 : x8_2 < (l0.length : Int) := dcd
                  obtain ⟨ad117, e117, hx117_0, hx117_1, hx117_2, hx117_3⟩ := at_T41 HR0.out x8_2 p117 q117
                  cases e117
                  replace hx117_0 := crd HB hx117_0
                  replace hx117_1 := crd HB hx117_1
                  replace hx117_2 := crd HB hx117_2
                  replace hx117_3 := crd HB hx117_3
                  replace p117 := eq_true p117
                  replace q117 := eq_true q117
                  obtain ⟨Ao19, co19, eo19⟩ := Kd.R_slice HO_6.out
                  subst eo19
                  go_wp2_with (first | ((with_reducible refine gate_builtin (b := .append) (xs := #[.tmp 42, .tmp 45]) rfl ?_); (try (refine gate_guard (by rfl) ?_; dsimp only)); at_builtin; refine Kd.S_append k43 (w0 := w) w.heap.size rfl (.tmp 42) (.tmp 45) 24 43 (.agg #[(.slice none 0 0)]) 24 rfl Try.underlying24 info43 rfl (by decide) (by omega) u5 x5_2 (⟨x6_2⟩ : S43) [.slice Ao19 x6_2.length co19] (fun _ => True) (fun k_ => some k_ = (.slice Ao19 x6_2.length co19 : Value).ownBlock) rfl rfl ?aP (fun k_ hk_ => ((Kd.R_mono (ok' := fun k_ => ((fun _ => True)) k_ ∧ some k_ ≠ (u5 : Value).ownBlock) (Kd.R_apart' (HO_6.out) (Kd.S_typed HO_5.out) (by decide)) (fun k_ hk => ⟨trivial, hk.2⟩))).1 k_ hk_.symm) ?aF ?aO ?aB ?aS ?aL ?_; (case aP => exact k43_mkM _ _ _ (⟨x6_2⟩ : S43) (Kd.R_mono (Kd.R_tight rfl (Kd.R_mono (ok' := fun k_ => ((fun _ => True)) k_ ∧ some k_ ≠ (u5 : Value).ownBlock) (Kd.R_apart' (HO_6.out) (Kd.S_typed HO_5.out) (by decide)) (fun k_ hk => ⟨trivial, hk.2⟩))) (fun _ h_ => h_))); (case aB => exact (below_later HB.out)); (case aF => exact (fun _ _ => trivial)); (case aO => exact (by (with_reducible repeat (first | apply Kd.S_alloc | apply Kd.S_drewN | apply Kd.S_drew)); exact Kd.S_mono HO_5.out (fun k_ hk => ⟨trivial, fun e_ => hk e_⟩))); (case aS => exact (below_size (below_later HB.out))); (case aL => have := LMc17.out; omega); intro v119 w20 ho hb hg hat; rw [← Ny118.out] at ho; have n0_ := Aside0.mk (hb); have n1_ := Aside0.mk (ho); clear HB; clear HO_5; clear HO_6; have HB := n0_; have HO120 := n1_; clear n0_ n1_; clear ho hb hg hat) | ((with_reducible refine gate_dst (N := 47) rfl ?_); (try (refine gate_guard (by rfl) ?_; dsimp only)); refine Kd.R_lit k41 _ 41 ?hg (N := 47) ?hd (xs := ([] : List (S41))) (inner := []) (ok := fun _ => True) (okp := fun _ => True) ?hr ?hp (fun _ hk => hk) trivial (Below.refl _ _) (Nat.le_refl _) (by simp) ?_; (case hd => rfl); (case hg => rfl); (case hr => first | (go_simp; done) | (go_simp; rfl)); (case hp => exact (Reps.none _ _)); intro v122 w21 ho22 hb hg_ hnew_; clear hg_ hnew_; (first | rw [← Ny121.out] at ho22 | (simp only [Int.reduceToNat] at ho22; rw [← Ny121.out] at ho22)); have HO123 := Aside0.mk (Kd.R_lower ho22 (below_size (below_later HB.out))); replace HO120 := Aside0.mk (Kd.S_elder' (by (with_reducible repeat (first | apply Kd.S_alloc | apply Kd.S_drewN | apply Kd.S_drew)); exact HO120.out) (Kd.R_base ho22) hb); replace HB := bst HB hb; clear hb ho22; have p124 : 0 ≤ (x8_2 : Int) := dcd; have q124 : x8_2 < (l0.length : Int) := dcd; obtain ⟨ad124, e124, hx124_0, hx124_1, hx124_2, hx124_3⟩ := at_T41 HR0.out x8_2 p124 q124; obtain rfl : ad117 = ad124 := (by injection e124); replace hx124_0 := crd HB hx124_0; replace hx124_1 := crd HB hx124_1; replace hx124_2 := crd HB hx124_2; replace hx124_3 := crd HB hx124_3; replace p124 := eq_true p124; replace q124 := eq_true q124) | ((with_reducible refine gate_builtin (b := .append) (xs := #[.tmp 50, .tmp 55]) rfl ?_); (try (refine gate_guard (by rfl) ?_; dsimp only)); at_builtin; refine Kd.R_append k41 (w0 := w) w.heap.size rfl (.tmp 50) (.tmp 55) 26 41 (.agg #[(.int .i64 0), (.int .i64 0), (.int .i64 0), (.string ⟨#[]⟩)]) 40 rfl Try.underlying26 info41 rfl (by decide) (by omega) v122 y121 (⟨(rd_T41 l0 x8_2).f0, (rd_T41 l0 x8_2).f1, (⟨(rd_T41 l0 x8_2).f2.f0, (rd_T41 l0 x8_2).f2.f1⟩ : S39)⟩ : S41) [.int .i64 ((rd_T41 l0 x8_2).f0), .int .i64 ((rd_T41 l0 x8_2).f1), .int .i64 ((rd_T41 l0 x8_2).f2.f0), .string ((rd_T41 l0 x8_2).f2.f1)] (fun _ => True) (fun _ => False) rfl rfl ?aP (fun _ hk => hk.elim) ?aF ?aO ?aB ?aS ?aL ?_; (case aP => exact k41_mkM _ _ _ (⟨(rd_T41 l0 x8_2).f0, (rd_T41 l0 x8_2).f1, (⟨(rd_T41 l0 x8_2).f2.f0, (rd_T41 l0 x8_2).f2.f1⟩ : S39)⟩ : S41)); (case aB => exact (below_later HB.out)); (case aF => exact (fun _ _ => trivial)); (case aO => exact (R_later HO123.out)); (case aS => exact (below_size (below_later HB.out))); (case aL => have := LMc18.out; omega); intro v126 w23 ho hb hg hat; rw [← Ny125.out] at ho; have n0_ := Aside0.mk (Kd.S_after (ok := (fun _ => True)) (by (with_reducible repeat (first | apply Kd.S_alloc | apply Kd.S_drewN | apply Kd.S_drew)); exact HO120.out) hg hat); have n1_ := Aside0.mk (hb); have n2_ := Aside0.mk (ho); clear HO120; clear HB; clear HO123; have HO120 := n0_; have HB := n1_; have HO127 := n2_; clear n0_ n1_ n2_; clear ho hb hg hat))
                  go_roundg k2
                  case measure => have := HJ2.out; have := HK2.out; omega
                  case rel => exact ⟨(y118), (y125), (0 + 1), (wrap64 (x8_2 + 1)), sr, sr, H', ⟨by have := HJ2.out; have := HK2.out; omega⟩, ⟨by (with_reducible repeat (first | apply Kd.S_alloc | apply Kd.S_drewN | apply Kd.S_drew)); exact Kd.S_mono HO120.out (fun _ hk => hk.2)⟩, ⟨R_later HO127.out⟩, ⟨below_later HB.out⟩⟩
                · rw [if_neg c16] at H
                  have c16b0 : (x7_2 == a1) = false := beq_eq_false_iff_ne.mpr c16
                  have c16b1 : (x7_2 != a1) = true := bne_iff_ne.mpr c16
                  replace H := ifs H
                  obtain ⟨c24, H⟩ := H
                  have LMc24 := Aside0.mk c24
                  clear c24
                  obtain ⟨y129, hy129⟩ : ∃ y_ : List (S41), y_ = (x6_2 ++ [(⟨(rd_T41 l0 x8_2).f0, (rd_T41 l0 x8_2).f1, (⟨(rd_T41 l0 x8_2).f2.f0, (rd_T41 l0 x8_2).f2.f1⟩ : S39)⟩ : S41)]) := ⟨_, rfl⟩
                  replace H : (spec_ChunkCut.l0 k2 l0 a1 x5_2 y129 (wrap64 (x7_2 + 1)) (wrap64 (x8_2 + 1))) = some r := by first | (rw [hy129]; with_reducible exact H) | (rw [hy129]; exact H) | exact H
                  have Ny129 := Aside0.mk hy129
                  clear hy129
                  have H' := Aside0.mk H
                  clear H
                  have p117 : 0 ≤ (x8_2 : Int) := dcd
                  have q117 : x8_2 < (l0.length : Int) := dcd
                  obtain ⟨ad117, e117, hx117_0, hx117_1, hx117_2, hx117_3⟩ := at_T41 HR0.out x8_2 p117 q117
                  cases e117
                  replace hx117_0 := crd HB hx117_0
                  replace hx117_1 := crd HB hx117_1
                  replace hx117_2 := crd HB hx117_2
                  replace hx117_3 := crd HB hx117_3
                  replace p117 := eq_true p117
                  replace q117 := eq_true q117
                  have p128 : 0 ≤ (x8_2 : Int) := dcd
                  have q128 : x8_2 < (l0.length : Int) := dcd
                  obtain ⟨ad128, e128, hx128_0, hx128_1, hx128_2, hx128_3⟩ := at_T41 HR0.out x8_2 p128 q128
                  obtain rfl : ad117 = ad128 := (by injection e128)
                  replace hx128_0 := crd HB hx128_0
                  replace hx128_1 := crd HB hx128_1
                  replace hx128_2 := crd HB hx128_2
                  replace hx128_3 := crd HB hx128_3
                  replace p128 := eq_true p128
                  replace q128 := eq_true q128
                  go_wp2_with (first | ((with_reducible refine gate_builtin (b := .append) (xs := #[.tmp 50, .tmp 55]) rfl ?_); (try (refine gate_guard (by rfl) ?_; dsimp only)); at_builtin; refine Kd.R_append k41 (w0 := w) w.heap.size rfl (.tmp 50) (.tmp 55) 26 41 (.agg #[(.int .i64 0), (.int .i64 0), (.int .i64 0), (.string ⟨#[]⟩)]) 40 rfl Try.underlying26 info41 rfl (by decide) (by omega) u6 x6_2 (⟨(rd_T41 l0 x8_2).f0, (rd_T41 l0 x8_2).f1, (⟨(rd_T41 l0 x8_2).f2.f0, (rd_T41 l0 x8_2).f2.f1⟩ : S39)⟩ : S41) [.int .i64 ((rd_T41 l0 x8_2).f0), .int .i64 ((rd_T41 l0 x8_2).f1), .int .i64 ((rd_T41 l0 x8_2).f2.f0), .string ((rd_T41 l0 x8_2).f2.f1)] (fun _ => True) (fun _ => False) rfl rfl ?aP (fun _ hk => hk.elim) ?aF ?aO ?aB ?aS ?aL ?_; (case aP => exact k41_mkM _ _ _ (⟨(rd_T41 l0 x8_2).f0, (rd_T41 l0 x8_2).f1, (⟨(rd_T41 l0 x8_2).f2.f0, (rd_T41 l0 x8_2).f2.f1⟩ : S39)⟩ : S41)); (case aB => exact (below_later HB.out)); (case aF => exact (fun _ _ => trivial)); (case aO => exact (R_later HO_6.out)); (case aS => exact (below_size (below_later HB.out))); (case aL => have := LMc24.out; omega); intro v130 w25 ho hb hg hat; rw [← Ny129.out] at ho; have n0_ := Aside0.mk (Kd.S_after (ok := (fun _ => True)) (by (with_reducible repeat (first | apply Kd.S_alloc | apply Kd.S_drewN | apply Kd.S_drew)); exact Kd.S_mono HO_5.out (fun _ hk => ⟨trivial, hk⟩)) hg hat); have n1_ := Aside0.mk (hb); have n2_ := Aside0.mk (ho); clear HO_5; clear HB; clear HO_6; have HO_5 := n0_; have HB := n1_; have HO131 := n2_; clear n0_ n1_ n2_; clear ho hb hg hat))
                  go_roundg k2
                  case measure => have := HJ2.out; have := HK2.out; omega
                  case rel => exact ⟨(x5_2), (y129), (wrap64 (x7_2 + 1)), (wrap64 (x8_2 + 1)), sr, sr, H', ⟨by have := HJ2.out; have := HK2.out; omega⟩, ⟨by (with_reducible repeat (first | apply Kd.S_alloc | apply Kd.S_drewN | apply Kd.S_drew)); exact Kd.S_mono HO_5.out (fun _ hk => hk.2)⟩, ⟨R_later HO131.out⟩, ⟨below_later HB.out⟩⟩
              · rw [if_neg c15] at H
                have c15b0 : (((rd_T41 l0 x8_2).f0) == 0) = false := beq_eq_false_iff_ne.mpr c15
                have c15b1 : (((rd_T41 l0 x8_2).f0) != 0) = true := bne_iff_ne.mpr c15
                replace H := ifs H
                obtain ⟨c26, H⟩ := H
                have LMc26 := Aside0.mk c26
                clear c26
                obtain ⟨y133, hy133⟩ : ∃ y_ : List (S41), y_ = (x6_2 ++ [(⟨(rd_T41 l0 x8_2).f0, (rd_T41 l0 x8_2).f1, (⟨(rd_T41 l0 x8_2).f2.f0, (rd_T41 l0 x8_2).f2.f1⟩ : S39)⟩ : S41)]) := ⟨_, rfl⟩
                replace H : (spec_ChunkCut.l0 k2 l0 a1 x5_2 y133 x7_2 (wrap64 (x8_2 + 1))) = some r := by first | (rw [hy133]; with_reducible exact H) | (rw [hy133]; exact H) | exact H
                have Ny133 := Aside0.mk hy133
                clear hy133
                have H' := Aside0.mk H
                clear H
                have p117 : 0 ≤ (x8_2 : Int) := dcd
                have q117 : x8_2 < (l0.length : Int) := dcd
                obtain ⟨ad117, e117, hx117_0, hx117_1, hx117_2, hx117_3⟩ := at_T41 HR0.out x8_2 p117 q117
                cases e117
                replace hx117_0 := crd HB hx117_0
                replace hx117_1 := crd HB hx117_1
                replace hx117_2 := crd HB hx117_2
                replace hx117_3 := crd HB hx117_3
                replace p117 := eq_true p117
                replace q117 := eq_true q117
                have p132 : 0 ≤ (x8_2 : Int) := dcd
                have q132 : x8_2 < (l0.length : Int) := dcd
                obtain ⟨ad132, e132, hx132_0, hx132_1, hx132_2, hx132_3⟩ := at_T41 HR0.out x8_2 p132 q132
                obtain rfl : ad117 = ad132 := (by injection e132)
                replace hx132_0 := crd HB hx132_0
                replace hx132_1 := crd HB hx132_1
                replace hx132_2 := crd HB hx132_2
                replace hx132_3 := crd HB hx132_3
                replace p132 := eq_true p132
                replace q132 := eq_true q132
                go_wp2_with (first | ((with_reducible refine gate_builtin (b := .append) (xs := #[.tmp 50, .tmp 55]) rfl ?_); (try (refine gate_guard (by rfl) ?_; dsimp only)); at_builtin; refine Kd.R_append k41 (w0 := w) w.heap.size rfl (.tmp 50) (.tmp 55) 26 41 (.agg #[(.int .i64 0), (.int .i64 0), (.int .i64 0), (.string ⟨#[]⟩)]) 40 rfl Try.underlying26 info41 rfl (by decide) (by omega) u6 x6_2 (⟨(rd_T41 l0 x8_2).f0, (rd_T41 l0 x8_2).f1, (⟨(rd_T41 l0 x8_2).f2.f0, (rd_T41 l0 x8_2).f2.f1⟩ : S39)⟩ : S41) [.int .i64 ((rd_T41 l0 x8_2).f0), .int .i64 ((rd_T41 l0 x8_2).f1), .int .i64 ((rd_T41 l0 x8_2).f2.f0), .string ((rd_T41 l0 x8_2).f2.f1)] (fun _ => True) (fun _ => False) rfl rfl ?aP (fun _ hk => hk.elim) ?aF ?aO ?aB ?aS ?aL ?_; (case aP => exact k41_mkM _ _ _ (⟨(rd_T41 l0 x8_2).f0, (rd_T41 l0 x8_2).f1, (⟨(rd_T41 l0 x8_2).f2.f0, (rd_T41 l0 x8_2).f2.f1⟩ : S39)⟩ : S41)); (case aB => exact (below_later HB.out)); (case aF => exact (fun _ _ => trivial)); (case aO => exact (R_later HO_6.out)); (case aS => exact (below_size (below_later HB.out))); (case aL => have := LMc26.out; omega); intro v134 w27 ho hb hg hat; rw [← Ny133.out] at ho; have n0_ := Aside0.mk (Kd.S_after (ok := (fun _ => True)) (by (with_reducible repeat (first | apply Kd.S_alloc | apply Kd.S_drewN | apply Kd.S_drew)); exact Kd.S_mono HO_5.out (fun _ hk => ⟨trivial, hk⟩)) hg hat); have n1_ := Aside0.mk (hb); have n2_ := Aside0.mk (ho); clear HO_5; clear HB; clear HO_6; have HO_5 := n0_; have HB := n1_; have HO135 := n2_; clear n0_ n1_ n2_; clear ho hb hg hat))
                go_roundg k2
                case measure => have := HJ2.out; have := HK2.out; omega
                case rel => exact ⟨(x5_2), (y133), (x7_2), (wrap64 (x8_2 + 1)), sr, sr, H', ⟨by have := HJ2.out; have := HK2.out; omega⟩, ⟨by (with_reducible repeat (first | apply Kd.S_alloc | apply Kd.S_drewN | apply Kd.S_drew)); exact Kd.S_mono HO_5.out (fun _ hk => hk.2)⟩, ⟨R_later HO135.out⟩, ⟨below_later HB.out⟩⟩
            · rw [if_neg c13] at H
              have c13b0 := decide_eq_false c13
              clear c13
              replace H := ifs H
              obtain ⟨c28, H⟩ := H
              have LMc28 := Aside0.mk c28
              clear c28
              obtain ⟨y114, hy114⟩ : ∃ y_ : List (S43), y_ = (x5_2 ++ [(⟨x6_2⟩ : S43)]) := ⟨_, rfl⟩
              replace H : (some y114) = some r := by first | (rw [hy114]; with_reducible exact H) | (rw [hy114]; exact H) | exact H
              have Ny114 := Aside0.mk hy114
              clear hy114
              obtain rfl := Option.some.inj H
              obtain ⟨Ao29, co29, eo29⟩ := Kd.R_slice HO_6.out
              subst eo29
              go_wp2_with (first | ((with_reducible refine gate_builtin (b := .append) (xs := #[.tmp 57, .tmp 60]) rfl ?_); (try (refine gate_guard (by rfl) ?_; dsimp only)); at_builtin; refine Kd.S_append k43 (w0 := w) w.heap.size rfl (.tmp 57) (.tmp 60) 24 43 (.agg #[(.slice none 0 0)]) 24 rfl Try.underlying24 info43 rfl (by decide) (by omega) u5 x5_2 (⟨x6_2⟩ : S43) [.slice Ao29 x6_2.length co29] (fun _ => True) (fun k_ => some k_ = (.slice Ao29 x6_2.length co29 : Value).ownBlock) rfl rfl ?aP (fun k_ hk_ => ((Kd.R_mono (ok' := fun k_ => ((fun _ => True)) k_ ∧ some k_ ≠ (u5 : Value).ownBlock) (Kd.R_apart' (HO_6.out) (Kd.S_typed HO_5.out) (by decide)) (fun k_ hk => ⟨trivial, hk.2⟩))).1 k_ hk_.symm) ?aF ?aO ?aB ?aS ?aL ?_; (case aP => exact k43_mkM _ _ _ (⟨x6_2⟩ : S43) (Kd.R_mono (Kd.R_tight rfl (Kd.R_mono (ok' := fun k_ => ((fun _ => True)) k_ ∧ some k_ ≠ (u5 : Value).ownBlock) (Kd.R_apart' (HO_6.out) (Kd.S_typed HO_5.out) (by decide)) (fun k_ hk => ⟨trivial, hk.2⟩))) (fun _ h_ => h_))); (case aB => exact (below_later HB.out)); (case aF => exact (fun _ _ => trivial)); (case aO => exact (by (with_reducible repeat (first | apply Kd.S_alloc | apply Kd.S_drewN | apply Kd.S_drew)); exact Kd.S_mono HO_5.out (fun k_ hk => ⟨trivial, fun e_ => hk e_⟩))); (case aS => exact (below_size (below_later HB.out))); (case aL => have := LMc28.out; omega); intro v115 w30 ho hb hg hat; rw [← Ny114.out] at ho; have n0_ := Aside0.mk (hb); have n1_ := Aside0.mk (ho); clear HB; clear HO_5; clear HO_6; have HB := n0_; have HO116 := n1_; clear n0_ n1_; clear ho hb hg hat))
              go_ret
              exact ⟨_, by first | rfl | (simp [errW_none, errW_some] <;> rfl) | (simp [*, errW_none, errW_some] <;> rfl), by (with_reducible repeat (first | apply Kd.S_alloc | apply Kd.S_drewN | apply Kd.S_drew)); exact HO116.out, below_later HB.out⟩
/-! ### laws_toVal: function 21 -/
def laws_toVal.f (a0_0 : Int) (a0_1 : ByteArray) : Option (Int × ByteArray) := some (a0_0, a0_1)
set_option maxHeartbeats 8000000 in
set_option maxRecDepth 100000 in
theorem laws_toVal.calls (a0_0 : Int) (a0_1 : ByteArray) (r1 : Int) (r2 : ByteArray) (w : World) (h : laws_toVal.f a0_0 a0_1 = some (r1, r2)) :
    Calls Try.prog 21 #[.agg #[.int .i64 a0_0, .string a0_1]] w fun e w' => e = .returned (.agg #[.int .i64 r1, .string r2]) ∧ Below w.heap.size w w' := by
  have hu35 := Try.underlying35
  have hu39 := Try.underlying39
  have HB := Aside0.mk (Below.refl w.heap.size w)
  have H : (some (a0_0, a0_1)) = some (r1, r2) := h
  clear h
  simp only [Option.some.injEq, Prod.mk.injEq] at H
  obtain ⟨rfl, rfl⟩ := H
  go_enter Try.func21, Try.ntmps21
  go_wp2_with (first | ((with_reducible refine gate_dst (N := 1) rfl ?_); refine bx_ 1 #[.int .i64 a0_0, .string a0_1] 35 ?_; intro gb136 hg w2 hbox hb; have BK136 := Aside0.mk (hbox); have GW136 := gwe HB hg; have GE136 := GW136; replace HB := bst HB hb; clear hb hbox hg) | ((with_reducible refine gate_dst (N := 2) rfl ?_); refine bx_ 2 #[.int .i64 0, .string (⟨#[]⟩ : ByteArray)] 39 ?_; intro gb137 hg w3 hbox hb; have BK137 := Aside0.mk (hbox); have GW137 := gwe HB hg; have GE137 := GW137; have NB136_137 := nbl BK136 hg; have NB137_136 := nbr (nbl BK136 hg); replace BK136 := bkb BK136 hb; replace HB := bst HB hb; clear hb hbox hg) | ((with_reducible refine gate_dst (N := 3) rfl ?_); refine bx_ 3 #[.int .i64 0, .string (⟨#[]⟩ : ByteArray)] 39 ?_; intro gb138 hg w4 hbox hb; have BK138 := Aside0.mk (hbox); have GW138 := gwe HB hg; have GE138 := GW138; have NB136_138 := nbl BK136 hg; have NB138_136 := nbr (nbl BK136 hg); have NB137_138 := nbl BK137 hg; have NB138_137 := nbr (nbl BK137 hg); replace BK136 := bkb BK136 hb; replace BK137 := bkb BK137 hb; replace HB := bst HB hb; clear hb hbox hg; have hnb5 := NB136_137.out; have hnc5 := NB137_136.out; have hnb6 := NB136_138.out; have hnc6 := NB138_136.out; obtain ⟨hcz7_0, hcz7_1, hfz7_0, hfz7_1⟩ := cl2 BK136; have hnb8 := NB138_137.out; have hnc8 := NB137_138.out; obtain ⟨hcz9_0, hcz9_1, hfz9_0, hfz9_1⟩ := cl2 BK138; obtain ⟨hcz10_0, hcz10_1, hfz10_0, hfz10_1⟩ := cl2 BK137))
  refine bodyPost_ret (results_cell_row rfl _ _ gb137 39 #[.int .i64 a0_0, .string a0_1] (0, 0) _ rfl (by (with_reducible repeat (first | refine blk_drewN ?_ _ | refine blk_drew ?_ | refine blk_alloc ?_ _)); refine blk_put (cs := #[.int .i64 a0_0, .string (⟨#[]⟩ : ByteArray)]) ?_ 1 _ rfl; (with_reducible repeat (first | refine blk_drewN ?_ _ | refine blk_drew ?_ | refine blk_alloc ?_ _)); refine blk_put (cs := #[.int .i64 0, .string (⟨#[]⟩ : ByteArray)]) ?_ 0 _ rfl; (with_reducible repeat (first | refine blk_drewN ?_ _ | refine blk_drew ?_ | refine blk_alloc ?_ _)); refine blk_far ?_ NB137_138.out _; (with_reducible repeat (first | refine blk_drewN ?_ _ | refine blk_drew ?_ | refine blk_alloc ?_ _)); refine blk_far ?_ NB137_138.out _; (with_reducible repeat (first | refine blk_drewN ?_ _ | refine blk_drew ?_ | refine blk_alloc ?_ _)); exact BK137.out) Try.underlying39 rfl (by kernel_rfl)) rfl ?_
  exact fin_ (below_later HB.out)

/-! ### laws_toTriple: function 15 -/
def laws_toTriple.f (a0_0 : Int) (a0_1 : Int) (a0_2 : Int) (a0_3 : ByteArray) : Option (Int × Int × Int × ByteArray) := (laws_toVal.f a0_2 a0_3).bind fun bt142 => (some (a0_0, a0_1, bt142.1, bt142.2))
set_option maxHeartbeats 8000000 in
set_option maxRecDepth 100000 in
theorem laws_toTriple.calls (a0_0 : Int) (a0_1 : Int) (a0_2 : Int) (a0_3 : ByteArray) (r1 : Int) (r2 : Int) (r3 : Int) (r4 : ByteArray) (w : World) (h : laws_toTriple.f a0_0 a0_1 a0_2 a0_3 = some (r1, r2, r3, r4)) :
    Calls Try.prog 15 #[.agg #[.int .i64 a0_0, .int .i64 a0_1, .int .i64 a0_2, .string a0_3]] w fun e w' => e = .returned (.agg #[.int .i64 r1, .int .i64 r2, .int .i64 r3, .string r4]) ∧ Below w.heap.size w w' := by
  have hu37 := Try.underlying37
  have hu41 := Try.underlying41
  have hu35 := Try.underlying35
  have hu39 := Try.underlying39
  have HB := Aside0.mk (Below.refl w.heap.size w)
  have H : ((laws_toVal.f a0_2 a0_3).bind fun bt142 => (some (a0_0, a0_1, bt142.1, bt142.2))) = some (r1, r2, r3, r4) := h
  clear h
  replace H := Option.bind_eq_some_iff.mp H
  obtain ⟨⟨t142, t143⟩, A20, H⟩ := H
  replace H : (some (a0_0, a0_1, t142, t143)) = some (r1, r2, r3, r4) := H
  have A2 := Aside0.mk A20
  clear A20
  simp only [Option.some.injEq, Prod.mk.injEq] at H
  obtain ⟨rfl, rfl, rfl, rfl⟩ := H
  go_enter Try.func15, Try.ntmps15
  go_wp2_with (first | ((with_reducible refine gate_dst (N := 1) rfl ?_); refine bx_ 1 #[.int .i64 a0_0, .int .i64 a0_1, .int .i64 a0_2, .string a0_3] 37 ?_; intro gb139 hg w3 hbox hb; have BK139 := Aside0.mk (hbox); have GW139 := gwe HB hg; have GE139 := GW139; replace HB := bst HB hb; clear hb hbox hg) | ((with_reducible refine gate_dst (N := 2) rfl ?_); refine bx_ 2 #[.int .i64 0, .int .i64 0, .int .i64 0, .string (⟨#[]⟩ : ByteArray)] 41 ?_; intro gb140 hg w4 hbox hb; have BK140 := Aside0.mk (hbox); have GW140 := gwe HB hg; have GE140 := GW140; have NB139_140 := nbl BK139 hg; have NB140_139 := nbr (nbl BK139 hg); replace BK139 := bkb BK139 hb; replace HB := bst HB hb; clear hb hbox hg) | ((with_reducible refine gate_dst (N := 3) rfl ?_); refine bx_ 3 #[.int .i64 0, .int .i64 0, .int .i64 0, .string (⟨#[]⟩ : ByteArray)] 41 ?_; intro gb141 hg w5 hbox hb; have BK141 := Aside0.mk (hbox); have GW141 := gwe HB hg; have GE141 := GW141; have NB139_141 := nbl BK139 hg; have NB141_139 := nbr (nbl BK139 hg); have NB140_141 := nbl BK140 hg; have NB141_140 := nbr (nbl BK140 hg); replace BK139 := bkb BK139 hb; replace BK140 := bkb BK140 hb; replace HB := bst HB hb; clear hb hbox hg; have hnb6 := NB139_140.out; have hnc6 := NB140_139.out; have hnb7 := NB139_141.out; have hnc7 := NB141_139.out; obtain ⟨hcz8_0, hcz8_1, hcz8_2, hcz8_3, hfz8_0, hfz8_1, hfz8_2, hfz8_3⟩ := cl4 BK139; have hnb9 := NB141_140.out; have hnc9 := NB140_141.out; obtain ⟨hcz10_0, hcz10_1, hcz10_2, hcz10_3, hfz10_0, hfz10_1, hfz10_2, hfz10_3⟩ := cl4 BK141) | ((with_reducible refine gate_callee (f := 21) rfl ?_); refine gl_ (some 12) Try.func21 #[.agg #[.int .i64 a0_2, .string a0_3]] rfl ?_; (with_reducible refine (laws_toVal.calls a0_2 a0_3 t142 t143 _ A2.out).mono ?_); rintro e w11 ⟨rfl, hb⟩; refine ⟨_, rfl, ?_⟩; replace BK139 := bkb BK139 hb; replace BK140 := bkb BK140 hb; replace BK141 := Aside0.mk (blk_below (g := gb141) (o := .cells #[.int .i64 a0_0, .int .i64 a0_1, .int .i64 0, .string (⟨#[]⟩ : ByteArray)] 41 (0, 0)) (blk_later BK141.out) hb); replace HB := bst HB hb; (try clear hb); obtain ⟨hcz12_0, hcz12_1, hcz12_2, hcz12_3, hfz12_0, hfz12_1, hfz12_2, hfz12_3⟩ := cl4 BK141; obtain ⟨hcz13_0, hcz13_1, hcz13_2, hcz13_3, hfz13_0, hfz13_1, hfz13_2, hfz13_3⟩ := cl4 BK140))
  refine bodyPost_ret (results_cell_row rfl _ _ gb140 41 #[.int .i64 a0_0, .int .i64 a0_1, .int .i64 t142, .string t143] (0, 0) _ rfl (by (with_reducible repeat (first | refine blk_drewN ?_ _ | refine blk_drew ?_ | refine blk_alloc ?_ _)); refine blk_put (cs := #[.int .i64 a0_0, .int .i64 a0_1, .int .i64 t142, .string (⟨#[]⟩ : ByteArray)]) ?_ 3 _ rfl; (with_reducible repeat (first | refine blk_drewN ?_ _ | refine blk_drew ?_ | refine blk_alloc ?_ _)); refine blk_put (cs := #[.int .i64 a0_0, .int .i64 a0_1, .int .i64 0, .string (⟨#[]⟩ : ByteArray)]) ?_ 2 _ rfl; (with_reducible repeat (first | refine blk_drewN ?_ _ | refine blk_drew ?_ | refine blk_alloc ?_ _)); refine blk_put (cs := #[.int .i64 a0_0, .int .i64 0, .int .i64 0, .string (⟨#[]⟩ : ByteArray)]) ?_ 1 _ rfl; (with_reducible repeat (first | refine blk_drewN ?_ _ | refine blk_drew ?_ | refine blk_alloc ?_ _)); refine blk_put (cs := #[.int .i64 0, .int .i64 0, .int .i64 0, .string (⟨#[]⟩ : ByteArray)]) ?_ 0 _ rfl; (with_reducible repeat (first | refine blk_drewN ?_ _ | refine blk_drew ?_ | refine blk_alloc ?_ _)); refine blk_far ?_ NB140_141.out _; (with_reducible repeat (first | refine blk_drewN ?_ _ | refine blk_drew ?_ | refine blk_alloc ?_ _)); refine blk_far ?_ NB140_141.out _; (with_reducible repeat (first | refine blk_drewN ?_ _ | refine blk_drew ?_ | refine blk_alloc ?_ _)); exact BK140.out) Try.underlying41 rfl (by kernel_rfl)) rfl ?_
  exact fin_ (below_later HB.out)

/-! ### laws_toTripleS: function 6 -/
def laws_toTripleS.l0 : Nat → List (S37) → List (S41) → Int → Option ((List (S41)))
  | 0, _, _, _ => none
  | k + 1, x0, x3, x4 => if x4 < (x0.length : Int) then (if 0 ≤ x4 then ((laws_toTriple.f ((rd_T37 x0 x4).f0) ((rd_T37 x0 x4).f1) ((rd_T37 x0 x4).f2.f0) ((rd_T37 x0 x4).f2.f1)).bind fun bt148 => (if x4 < (x3.length : Int) then (laws_toTripleS.l0 k x0 (x3.set (x4 : Int).toNat (⟨bt148.1, bt148.2.1, (⟨bt148.2.2.1, bt148.2.2.2⟩ : S39)⟩ : S41)) (wrap64 (x4 + 1))) else (none))) else (none)) else (some x3)
def laws_toTripleS.f (k : Nat) (l0 : List (S37)) : Option ((List (S41))) := if 0 ≤ (l0.length : Int) then (if ((l0.length : Int) : Int).toNat ≤ 7036874417766 then (laws_toTripleS.l0 k l0 (List.replicate ((l0.length : Int) : Int).toNat z41) 0) else (none)) else (none)
set_option maxHeartbeats 8000000 in
set_option maxRecDepth 100000 in
theorem laws_toTripleS.calls (k : Nat) (A0 : Option Addr) (c0 : Nat) (l0 : List (S37)) (r : List (S41)) (w : World) (hr0 : Kd.C k37 w A0 l0.length l0) (hc0 : l0.length ≤ c0) (h : laws_toTripleS.f k l0 = some r) :
    Calls Try.prog 6 #[.slice A0 l0.length c0] w fun e w' => ∃ v0_ : Value, e = .returned (v0_) ∧ Kd.R k41 41 w' w.heap.size (fun _ => True) v0_ r ∧ Below w.heap.size w w' := by
  have hu37 := Try.underlying37
  have hu41 := Try.underlying41
  have HR0 := Aside0.mk hr0
  have HC0 := Aside0.mk hc0
  clear hr0 hc0
  have HB := Aside0.mk (Below.refl w.heap.size w)
  have H : (if 0 ≤ (l0.length : Int) then (if ((l0.length : Int) : Int).toNat ≤ 7036874417766 then (laws_toTripleS.l0 k l0 (List.replicate ((l0.length : Int) : Int).toNat z41) 0) else (none)) else (none)) = some r := h
  clear h
  replace H := ifs H
  obtain ⟨c2, H⟩ := H
  have c2b0 := eq_true c2
  have c2b1 := decide_eq_true c2
  clear c2
  replace H := ifs H
  obtain ⟨c3, H⟩ := H
  have c3b0 := eq_true c3
  have c3b1 := decide_eq_true c3
  clear c3
  obtain ⟨y144, hy144⟩ : ∃ y_ : List (S41), y_ = (List.replicate ((l0.length : Int) : Int).toNat z41) := ⟨_, rfl⟩
  replace H : (laws_toTripleS.l0 k l0 y144 0) = some r := by first | (rw [hy144]; with_reducible exact H) | (rw [hy144]; exact H) | exact H
  have Ny144 := Aside0.mk hy144
  clear hy144
  have H' := Aside0.mk H
  clear H
  go_enter Try.func6, Try.ntmps6
  go_wp2_with (first | ((with_reducible refine gate_dst (N := 7) rfl ?_); refine Kd.R_make k41 _ 41 rfl (N := 7) rfl 26 _ _ rfl (l0.length : Int) rfl rfl Try.underlying26 (.agg #[(.int .i64 0), (.int .i64 0), (.int .i64 0), (.string ⟨#[]⟩)]) 40 info41 rfl (by decide) (by omega) z41 (ok := fun _ => True) (okp := fun _ => True) (k41_mkM _ _ _ z41 ) (fun _ hk => hk) trivial (dcd) (Nat.le_trans (Nat.mul_le_mul_right _ (dcd : (l0.length : Int).toNat ≤ 7036874417766)) (by omega)) (Below.refl _ _) (Nat.le_refl _) ?_; intro v145 w4 ho5 hb hg_ hnew_; clear hg_ hnew_; (first | rw [← Ny144.out] at ho5 | (simp only [Int.reduceToNat] at ho5; rw [← Ny144.out] at ho5)); have HO146 := Aside0.mk (Kd.R_lower ho5 (below_size (below_later HB.out))); replace HB := bst HB hb; clear hb ho5))
  go_loopg [4] k (fun kq v4 w' => ∃ (x3_1 : List (S41)) (x4_1 : Int), v4 = .int .i64 x4_1 ∧ Aside0 (laws_toTripleS.l0 kq l0 x3_1 x4_1 = some r) ∧ Aside0 (kq ≤ k) ∧ Aside0 (Kd.R k41 41 w' w.heap.size (fun _ => True) v145 x3_1) ∧ Aside0 (Below w.heap.size w w'))
  case atStart => exact ⟨(y144), (0), sr, H', ⟨Nat.le_refl _⟩, ⟨R_later HO146.out⟩, ⟨below_later HB.out⟩⟩
  case round =>
    clear H'
    try clear c2
    try clear c2b0
    try clear c2b1
    try clear c3
    try clear c3b0
    try clear c3b1
    obtain ⟨x3_1, x4_1, rfl, HA, HK1, HO_3, HB⟩ := hrel
    cases gk with
    | zero => exact absurd HA.out (by simp [laws_toTripleS.l0])
    | succ k1 =>
      have H := HA.out
      clear HA
      simp only [laws_toTripleS.l0] at H
      by_cases c6 : x4_1 < (l0.length : Int)
      · rw [if_pos c6] at H
        have c6b0 := decide_eq_true c6
        clear c6
        replace H := ifd H
        obtain ⟨c7b0, H⟩ := H
        replace H := Option.bind_eq_some_iff.mp H
        obtain ⟨⟨t148, t149, t150, t151⟩, A80, H⟩ := H
        replace H : (if x4_1 < (x3_1.length : Int) then (laws_toTripleS.l0 k1 l0 (x3_1.set (x4_1 : Int).toNat (⟨t148, t149, (⟨t150, t151⟩ : S39)⟩ : S41)) (wrap64 (x4_1 + 1))) else (none)) = some r := H
        have A8 := Aside0.mk A80
        clear A80
        replace H := ifd H
        obtain ⟨c9b0, H⟩ := H
        obtain ⟨y152, hy152⟩ : ∃ y_ : List (S41), y_ = (x3_1.set (x4_1 : Int).toNat (⟨t148, t149, (⟨t150, t151⟩ : S39)⟩ : S41)) := ⟨_, rfl⟩
        replace H : (laws_toTripleS.l0 k1 l0 y152 (wrap64 (x4_1 + 1))) = some r := by first | (rw [hy152]; with_reducible exact H) | (rw [hy152]; exact H) | exact H
        have Ny152 := Aside0.mk hy152
        clear hy152
        have H' := Aside0.mk H
        clear H
        have p147 : 0 ≤ (x4_1 : Int) := dcd
        have q147 : x4_1 < (l0.length : Int) := dcd
        obtain ⟨ad147, e147, hx147_0, hx147_1, hx147_2, hx147_3⟩ := at_T37 HR0.out x4_1 p147 q147
        cases e147
        replace hx147_0 := crd HB hx147_0
        replace hx147_1 := crd HB hx147_1
        replace hx147_2 := crd HB hx147_2
        replace hx147_3 := crd HB hx147_3
        replace p147 := eq_true p147
        replace q147 := eq_true q147
        go_wp2_with (first | ((with_reducible refine gate_callee (f := 15) rfl ?_); refine gl_ (some 20) Try.func15 #[.agg #[.int .i64 ((rd_T37 l0 x4_1).f0), .int .i64 ((rd_T37 l0 x4_1).f1), .int .i64 ((rd_T37 l0 x4_1).f2.f0), .string ((rd_T37 l0 x4_1).f2.f1)]] rfl ?_; (with_reducible refine (laws_toTriple.calls ((rd_T37 l0 x4_1).f0) ((rd_T37 l0 x4_1).f1) ((rd_T37 l0 x4_1).f2.f0) ((rd_T37 l0 x4_1).f2.f1) t148 t149 t150 t151 _ A8.out).mono ?_); rintro e w11 ⟨rfl, hb⟩; refine ⟨_, rfl, ?_⟩; replace HO_3 := Aside0.mk (Kd.R_below (R_later HO_3.out) hb); replace HB := bst HB hb; (try clear hb); (try clear hk); have p10 : 0 ≤ (x4_1 : Int) := dcd; have q10 : (x4_1 : Int) < ((x3_1.length : Int) : Int) := dcd; obtain ⟨go10, co10, eo10, gb10, gl10, cl10, HG10⟩ := Kd.R_form HO_3.out (by omega); (first | cases eo10 | (injection eo10 with ea_ en_ ec_; (first | subst ea_ | (injection ea_ with ea_; subst ea_)); subst ec_; clear en_)); have GB10 := Aside0.mk gb10; have GG10 := Aside0.mk HG10; clear gb10 gl10 HG10; obtain ⟨ce10, hcl10, hM10, hcc10, hfr10⟩ := Kd.R_elem HO_3.out z41 (x4_1 : Int) p10 q10; obtain rfl := k41_openM hM10; have hx10_0 : w11.cell? ⟨go10, (x4_1 : Int).toNat * 4, none⟩ = some (.int .i64 ((rd_T41 x3_1 x4_1).f0)) := hcc10 0 _ rfl; have hx10_1 : w11.cell? ⟨go10, (x4_1 : Int).toNat * 4 + 1, none⟩ = some (.int .i64 ((rd_T41 x3_1 x4_1).f1)) := hcc10 1 _ rfl; have hx10_2 : w11.cell? ⟨go10, (x4_1 : Int).toNat * 4 + 2, none⟩ = some (.int .i64 ((rd_T41 x3_1 x4_1).f2.f0)) := hcc10 2 _ rfl; have hx10_3 : w11.cell? ⟨go10, (x4_1 : Int).toNat * 4 + 3, none⟩ = some (.string ((rd_T41 x3_1 x4_1).f2.f1)) := hcc10 3 _ rfl; have hf10_0 : w11.frozen? ⟨go10, (x4_1 : Int).toNat * 4, none⟩ = false := hfr10 0; have hf10_1 : w11.frozen? ⟨go10, (x4_1 : Int).toNat * 4 + 1, none⟩ = false := hfr10 1; have hf10_2 : w11.frozen? ⟨go10, (x4_1 : Int).toNat * 4 + 2, none⟩ = false := hfr10 2; have hf10_3 : w11.frozen? ⟨go10, (x4_1 : Int).toNat * 4 + 3, none⟩ = false := hfr10 3; clear hcl10 hcc10 hfr10 hM10; replace p10 := eq_true p10; replace q10 := eq_true q10; have HX12 := Aside0.mk (show Kd.R k41 41 w11 w.heap.size (fun _ => True) (.slice (some ⟨go10, 0, none⟩) x3_1.length co10) x3_1 from (R_later HO_3.out)); obtain ⟨ce12, hcl12, hM12, hcc12, hfr12⟩ := Kd.R_elem HX12.out z41 (x4_1 : Int) (dcd) (by have h_ : (x4_1 : Int) < ((x3_1.length : Int) : Int) := dcd; first | exact h_ | (have e_ := (Kd.R_reads' HO_3.out).1; omega) | simpa using h_); obtain rfl := k41_openM hM12; have HP12 := Kd.R_seg HX12.out (x4_1 : Int) (dcd) (by have h_ : (x4_1 : Int) < ((x3_1.length : Int) : Int) := dcd; first | exact h_ | (have e_ := (Kd.R_reads' HO_3.out).1; omega) | simpa using h_) (seg := [.int .i64 t148, .int .i64 t149, .int .i64 t150, .string t151]) (j := 0) hcl12 hcc12 (show 4 ≤ 4 from by decide) (x' := (⟨t148, t149, (⟨t150, t151⟩ : S39)⟩ : S41)) (k41_mkM _ _ _ (⟨t148, t149, (⟨t150, t151⟩ : S39)⟩ : S41) ) (fun _ hk => hk); have hx12_0 := hcc12 0 _ rfl; (try simp only [show (k41).sz = 4 from rfl, Nat.mul_one, Nat.add_zero] at hx12_0); have hf12_0 := hfr12 0; (try simp only [show (k41).sz = 4 from rfl, Nat.mul_one, Nat.add_zero] at hf12_0); have hx12_1 := hcc12 1 _ rfl; (try simp only [show (k41).sz = 4 from rfl, Nat.mul_one, Nat.add_zero] at hx12_1); have hf12_1 := hfr12 1; (try simp only [show (k41).sz = 4 from rfl, Nat.mul_one, Nat.add_zero] at hf12_1); have hx12_2 := hcc12 2 _ rfl; (try simp only [show (k41).sz = 4 from rfl, Nat.mul_one, Nat.add_zero] at hx12_2); have hf12_2 := hfr12 2; (try simp only [show (k41).sz = 4 from rfl, Nat.mul_one, Nat.add_zero] at hf12_2); have hx12_3 := hcc12 3 _ rfl; (try simp only [show (k41).sz = 4 from rfl, Nat.mul_one, Nat.add_zero] at hx12_3); have hf12_3 := hfr12 3; (try simp only [show (k41).sz = 4 from rfl, Nat.mul_one, Nat.add_zero] at hf12_3); clear hcl12 hcc12 hfr12 hM12) | ((with_reducible refine gate_store (t := 41) (p := 21) rfl ?_); refine st_ 41 21 ((((w11.setCell ⟨go10, (x4_1 : Int).toNat * 4, none⟩ (.int .i64 t148)).setCell ⟨go10, (x4_1 : Int).toNat * 4 + 1, none⟩ (.int .i64 t149)).setCell ⟨go10, (x4_1 : Int).toNat * 4 + 2, none⟩ (.int .i64 t150)).setCell ⟨go10, (x4_1 : Int).toNat * 4 + 3, none⟩ (.string t151)) ?_; intro w13 hw; have hg : w11.grownBy w13 (some go10) := (by rw [hw]; exact HP12.2); have hp_ : Kd.R k41 41 w13 w.heap.size (fun _ => True) (.slice (some ⟨go10, 0, none⟩) x3_1.length co10) y152 := (by rw [hw, Ny152.out]; exact HP12.1); clear HP12; replace HO_3 := Aside0.mk (hp_); replace HB := Aside0.mk ((by rw [hw]; exact below_set (below_set (below_set (below_set (HB.out) GB10.out) GB10.out) GB10.out) GB10.out : Below w.heap.size w w13)); clear hg hw hp_))
        go_roundg k1
        case measure => have := HK1.out; omega
        case rel => exact ⟨(y152), (wrap64 (x4_1 + 1)), sr, H', ⟨by have := HK1.out; omega⟩, ⟨R_later HO_3.out⟩, ⟨below_later HB.out⟩⟩
      · rw [if_neg c6] at H
        have c6b0 := decide_eq_false c6
        clear c6
        obtain rfl := Option.some.inj H
        go_wp2
        go_ret
        exact ⟨_, by first | rfl | (simp [errW_none, errW_some] <;> rfl) | (simp [*, errW_none, errW_some] <;> rfl), by (with_reducible repeat (first | apply Kd.R_alloc | apply Kd.R_drewN | apply Kd.R_drew)); exact HO_3.out, below_later HB.out⟩
end Go.Proofs.Ytcnfnjfbacmmaaa.PFnExactChunkCut
