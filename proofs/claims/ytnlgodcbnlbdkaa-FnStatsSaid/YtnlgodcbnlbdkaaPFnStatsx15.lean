/- The machine's side of FnStats: each Go function, and what its call comes to. No condition. -/
import Derived.Test.YtnlgodcbnlbdkaaPFnStatsx0
import Derived.Test.YtnlgodcbnlbdkaaPFnStatsx10
import Derived.Test.YtnlgodcbnlbdkaaPFnStatsx14
namespace Go.Proofs.Ytnlgodcbnlbdkaa.PFnStats
open Go.RowKit Go.Proofs.YtnlgodcbnlbdkaaW.PrintWords Go.Proofs.YtnlgodcbnlbdkaaW.PrintLast Go.Proofs.YtnlgodcbnlbdkaaW.PrintMore Go.Proofs.YtnlgodcbnlbdkaaW.PrintMore2
attribute [local go_sem] max2_int min2_int max_two min_two max_three min_three max_four min_four
set_option linter.unusedVariables false
set_option linter.unusedSimpArgs false
set_option maxHeartbeats 8000000
set_option maxRecDepth 100000

/-! ### impl_nodeOk: function 60 -/
def impl_nodeOk.f (k : Nat) (a0_0 : Int) (a0_1 : Int) (a0_2 : Int) (a0_3 : ByteArray) (a0_4 : Int) : Option (Bool) := if a0_0 = 5 then ((impl_isInt32.f a0_2).bind fun t701 => (if t701 = true then (if a0_3.toList = ([] : List UInt8) then (some (a0_4 == 0)) else (some false)) else (some false))) else (if a0_0 = 6 then (if a0_3.toList = ([] : List UInt8) then (some (a0_4 == 0)) else (some false)) else (if a0_0 = 8 then (if a0_2 = 0 then (if (a0_3.size : Int) ≤ 300 then (some (a0_4 == 0)) else (some false)) else (some false)) else (if a0_0 = 9 then (if a0_3.toList = ([] : List UInt8) then (if a0_4 ≥ 0 then (if a0_4 = 0 then (if a0_2 = 0 then (some true) else (if a0_4 > 0 then ((impl_isType.f k a0_2 true).bind fun t702 => (some t702)) else (some false))) else (if a0_4 > 0 then ((impl_isType.f k a0_2 true).bind fun t703 => (some t703)) else (some false))) else (some false)) else (some false)) else (if a0_0 = 12 then (if a0_2 = 0 then (if a0_3.toList = ([] : List UInt8) then (some (decide (a0_4 ≥ 0))) else (some false)) else (some false)) else ((impl_isType.f k a0_0 false).bind fun t704 => (if t704 = true then (if a0_2 = 0 then (if a0_3.toList = ([] : List UInt8) then (some (a0_4 == 0)) else (some false)) else (some false)) else (some false)))))))
theorem impl_nodeOk.calls {k : Nat} {a0_0 a0_1 a0_2 : Int} {a0_3 : ByteArray} {a0_4 : Int} {r : Bool} {w : World} (h : impl_nodeOk.f k a0_0 a0_1 a0_2 a0_3 a0_4 = some r) :
    Calls Try.prog 60 #[.agg #[.int .i64 a0_0, .int .i64 a0_1, .int .i64 a0_2, .string a0_3, .int .i64 a0_4]] w fun e w' => e = .returned (.bool r) ∧ Below w.heap.size w w' := by
 have hu76 := Try.underlying76
 have HB := am (Below.refl w.heap.size w)
 have H := h; clear h; unfold impl_nodeOk.f at H
 replace H := ieq H; obtain ⟨c2b0, c2b1, H⟩ | ⟨c2, c2b0, c2b1, H⟩ := H
 · replace H := bnd H; obtain ⟨t701, A3, H⟩ := H
   replace H := ibt H; obtain ⟨rfl, H⟩ | ⟨rfl, H⟩ := H
   rotate_left
   · obtain rfl := Option.some.inj H
     go_enter Try.func60, Try.ntmps60
     go_wp2_with (first | ((with_reducible refine gd 1 rfl ?_); (try refine gg ?_; dsimp only); refine bxw 1 rfl #[.int .i64 a0_0, .int .i64 a0_1, .int .i64 a0_2, .string a0_3, .int .i64 a0_4] 76 HB ?_; clear HB; intro gb700 w10 BK700 GW700 GE700 HB; obtain ⟨_, _, _, _, _, _, _, _, _, _⟩ := cl5 BK700) | ((with_reducible refine gc 37 rfl ?_); refine gc1 (some 9) Try.func37 rfl (impl_isInt32.calls A3.out) ?_; rintro w' ⟨nd, rfl⟩))
     go_ret
     exact fin_ (bL HB)
   by_cases c5 : a0_3.toList = ([] : List UInt8)
   rotate_left
   · rw [if_neg c5] at H
     have c5b0 : (a0_3.toList == ([] : List UInt8)) = false := beq_eq_false_iff_ne.mpr c5
     try have c5b7 : a0_3.toList.isEmpty = false := by simpa using c5
     have c5b1 : (a0_3.toList != ([] : List UInt8)) = true := bne_iff_ne.mpr c5
     obtain rfl := Option.some.inj H
     go_enter Try.func60, Try.ntmps60
     go_wp2_with (first | ((with_reducible refine gd 1 rfl ?_); (try refine gg ?_; dsimp only); refine bxw 1 rfl #[.int .i64 a0_0, .int .i64 a0_1, .int .i64 a0_2, .string a0_3, .int .i64 a0_4] 76 HB ?_; clear HB; intro gb700 w8 BK700 GW700 GE700 HB; obtain ⟨_, _, _, _, _, _, _, _, _, _⟩ := cl5 BK700) | ((with_reducible refine gc 37 rfl ?_); refine gc1 (some 9) Try.func37 rfl (impl_isInt32.calls A3.out) ?_; rintro w' ⟨nd, rfl⟩))
     go_ret
     exact fin_ (bL HB)
   rw [if_pos c5] at H
   have c5b0 : (a0_3.toList == ([] : List UInt8)) = true := beq_iff_eq.mpr c5
   try have c5b7 : a0_3.toList.isEmpty = true := by simpa using c5
   have c5b1 : (a0_3.toList != ([] : List UInt8)) = false := bne_eq_false_iff_eq.mpr c5
   clear c5
   obtain rfl := Option.some.inj H
   go_enter Try.func60, Try.ntmps60
   go_wp2_with (first | ((with_reducible refine gd 1 rfl ?_); (try refine gg ?_; dsimp only); refine bxw 1 rfl #[.int .i64 a0_0, .int .i64 a0_1, .int .i64 a0_2, .string a0_3, .int .i64 a0_4] 76 HB ?_; clear HB; intro gb700 w6 BK700 GW700 GE700 HB; obtain ⟨_, _, _, _, _, _, _, _, _, _⟩ := cl5 BK700) | ((with_reducible refine gc 37 rfl ?_); refine gc1 (some 9) Try.func37 rfl (impl_isInt32.calls A3.out) ?_; rintro w' ⟨nd, rfl⟩))
   go_ret
   exact fin_ (bL HB)
 replace H := ieq H; obtain ⟨c12b0, c12b1, H⟩ | ⟨c12, c12b0, c12b1, H⟩ := H
 · by_cases c13 : a0_3.toList = ([] : List UInt8)
   rotate_left
   · rw [if_neg c13] at H
     have c13b0 : (a0_3.toList == ([] : List UInt8)) = false := beq_eq_false_iff_ne.mpr c13
     try have c13b7 : a0_3.toList.isEmpty = false := by simpa using c13
     have c13b1 : (a0_3.toList != ([] : List UInt8)) = true := bne_iff_ne.mpr c13
     obtain rfl := Option.some.inj H
     go_enter Try.func60, Try.ntmps60
     go_wp2_with (first | ((with_reducible refine gd 1 rfl ?_); (try refine gg ?_; dsimp only); refine bxw 1 rfl #[.int .i64 a0_0, .int .i64 a0_1, .int .i64 a0_2, .string a0_3, .int .i64 a0_4] 76 HB ?_; clear HB; intro gb700 w16 BK700 GW700 GE700 HB; obtain ⟨_, _, _, _, _, _, _, _, _, _⟩ := cl5 BK700))
     go_ret
     exact fin_ (bL HB)
   rw [if_pos c13] at H
   have c13b0 : (a0_3.toList == ([] : List UInt8)) = true := beq_iff_eq.mpr c13
   try have c13b7 : a0_3.toList.isEmpty = true := by simpa using c13
   have c13b1 : (a0_3.toList != ([] : List UInt8)) = false := bne_eq_false_iff_eq.mpr c13
   clear c13
   obtain rfl := Option.some.inj H
   go_enter Try.func60, Try.ntmps60
   go_wp2_with (first | ((with_reducible refine gd 1 rfl ?_); (try refine gg ?_; dsimp only); refine bxw 1 rfl #[.int .i64 a0_0, .int .i64 a0_1, .int .i64 a0_2, .string a0_3, .int .i64 a0_4] 76 HB ?_; clear HB; intro gb700 w14 BK700 GW700 GE700 HB; obtain ⟨_, _, _, _, _, _, _, _, _, _⟩ := cl5 BK700))
   go_ret
   exact fin_ (bL HB)
 replace H := ieq H; obtain ⟨c18b0, c18b1, H⟩ | ⟨c18, c18b0, c18b1, H⟩ := H
 · replace H := ieq H; obtain ⟨c19b0, c19b1, H⟩ | ⟨c19, c19b0, c19b1, H⟩ := H
   rotate_left
   · obtain rfl := Option.some.inj H
     go_enter Try.func60, Try.ntmps60
     go_wp2_with (first | ((with_reducible refine gd 1 rfl ?_); (try refine gg ?_; dsimp only); refine bxw 1 rfl #[.int .i64 a0_0, .int .i64 a0_1, .int .i64 a0_2, .string a0_3, .int .i64 a0_4] 76 HB ?_; clear HB; intro gb700 w25 BK700 GW700 GE700 HB; obtain ⟨_, _, _, _, _, _, _, _, _, _⟩ := cl5 BK700))
     go_ret
     exact fin_ (bL HB)
   by_cases c20 : (a0_3.size : Int) ≤ 300
   · rw [if_pos c20] at H
     have c20b0 := decide_eq_true c20
     have c20b1 : decide (a0_3.size ≤ 300) = true := decide_eq_true (by omega)
     clear c20
     obtain rfl := Option.some.inj H
     go_enter Try.func60, Try.ntmps60
     go_wp2_with (first | ((with_reducible refine gd 1 rfl ?_); (try refine gg ?_; dsimp only); refine bxw 1 rfl #[.int .i64 a0_0, .int .i64 a0_1, .int .i64 a0_2, .string a0_3, .int .i64 a0_4] 76 HB ?_; clear HB; intro gb700 w21 BK700 GW700 GE700 HB; obtain ⟨_, _, _, _, _, _, _, _, _, _⟩ := cl5 BK700))
     go_ret
     exact fin_ (bL HB)
   rw [if_neg c20] at H
   have c20b0 := decide_eq_false c20
   have c20b1 : decide (a0_3.size ≤ 300) = false := decide_eq_false (by omega)
   clear c20
   obtain rfl := Option.some.inj H
   go_enter Try.func60, Try.ntmps60
   go_wp2_with (first | ((with_reducible refine gd 1 rfl ?_); (try refine gg ?_; dsimp only); refine bxw 1 rfl #[.int .i64 a0_0, .int .i64 a0_1, .int .i64 a0_2, .string a0_3, .int .i64 a0_4] 76 HB ?_; clear HB; intro gb700 w23 BK700 GW700 GE700 HB; obtain ⟨_, _, _, _, _, _, _, _, _, _⟩ := cl5 BK700))
   go_ret
   exact fin_ (bL HB)
 replace H := ieq H; obtain ⟨c27b0, c27b1, H⟩ | ⟨c27, c27b0, c27b1, H⟩ := H
 · by_cases c28 : a0_3.toList = ([] : List UInt8)
   rotate_left
   · rw [if_neg c28] at H
     have c28b0 : (a0_3.toList == ([] : List UInt8)) = false := beq_eq_false_iff_ne.mpr c28
     try have c28b7 : a0_3.toList.isEmpty = false := by simpa using c28
     have c28b1 : (a0_3.toList != ([] : List UInt8)) = true := bne_iff_ne.mpr c28
     obtain rfl := Option.some.inj H
     go_enter Try.func60, Try.ntmps60
     go_wp2_with (first | ((with_reducible refine gd 1 rfl ?_); (try refine gg ?_; dsimp only); refine bxw 1 rfl #[.int .i64 a0_0, .int .i64 a0_1, .int .i64 a0_2, .string a0_3, .int .i64 a0_4] 76 HB ?_; clear HB; intro gb700 w48 BK700 GW700 GE700 HB; obtain ⟨_, _, _, _, _, _, _, _, _, _⟩ := cl5 BK700))
     go_ret
     exact fin_ (bL HB)
   rw [if_pos c28] at H
   have c28b0 : (a0_3.toList == ([] : List UInt8)) = true := beq_iff_eq.mpr c28
   try have c28b7 : a0_3.toList.isEmpty = true := by simpa using c28
   have c28b1 : (a0_3.toList != ([] : List UInt8)) = false := bne_eq_false_iff_eq.mpr c28
   clear c28
   replace H := ige H; obtain ⟨c29b0, H⟩ | ⟨c29b0, H⟩ := H
   rotate_left
   · obtain rfl := Option.some.inj H
     go_enter Try.func60, Try.ntmps60
     go_wp2_with (first | ((with_reducible refine gd 1 rfl ?_); (try refine gg ?_; dsimp only); refine bxw 1 rfl #[.int .i64 a0_0, .int .i64 a0_1, .int .i64 a0_2, .string a0_3, .int .i64 a0_4] 76 HB ?_; clear HB; intro gb700 w46 BK700 GW700 GE700 HB; obtain ⟨_, _, _, _, _, _, _, _, _, _⟩ := cl5 BK700))
     go_ret
     exact fin_ (bL HB)
   replace H := ieq H; obtain ⟨c30b0, c30b1, H⟩ | ⟨c30, c30b0, c30b1, H⟩ := H
   rotate_left
   · replace H := igt H; obtain ⟨c40b0, H⟩ | ⟨c40b0, H⟩ := H
     rotate_left
     · obtain rfl := Option.some.inj H
       go_enter Try.func60, Try.ntmps60
       go_wp2_with (first | ((with_reducible refine gd 1 rfl ?_); (try refine gg ?_; dsimp only); refine bxw 1 rfl #[.int .i64 a0_0, .int .i64 a0_1, .int .i64 a0_2, .string a0_3, .int .i64 a0_4] 76 HB ?_; clear HB; intro gb700 w44 BK700 GW700 GE700 HB; obtain ⟨_, _, _, _, _, _, _, _, _, _⟩ := cl5 BK700))
       go_ret
       exact fin_ (bL HB)
     replace H := bnd H; obtain ⟨t703, A41, H⟩ := H
     obtain rfl := Option.some.inj H
     go_enter Try.func60, Try.ntmps60
     go_wp2_with (first | ((with_reducible refine gd 1 rfl ?_); (try refine gg ?_; dsimp only); refine bxw 1 rfl #[.int .i64 a0_0, .int .i64 a0_1, .int .i64 a0_2, .string a0_3, .int .i64 a0_4] 76 HB ?_; clear HB; intro gb700 w42 BK700 GW700 GE700 HB; obtain ⟨_, _, _, _, _, _, _, _, _, _⟩ := cl5 BK700) | (go_at_call 76; (with_reducible refine (impl_isType.calls A41.out).mono ?_); rintro e w' ⟨rfl, ⟨nd, rfl⟩⟩))
     go_ret
     exact fin_ (bL HB)
   replace H := ieq H; obtain ⟨c31b0, c31b1, H⟩ | ⟨c31, c31b0, c31b1, H⟩ := H
   · obtain rfl := Option.some.inj H
     go_enter Try.func60, Try.ntmps60
     go_wp2_with (first | ((with_reducible refine gd 1 rfl ?_); (try refine gg ?_; dsimp only); refine bxw 1 rfl #[.int .i64 a0_0, .int .i64 a0_1, .int .i64 a0_2, .string a0_3, .int .i64 a0_4] 76 HB ?_; clear HB; intro gb700 w32 BK700 GW700 GE700 HB; obtain ⟨_, _, _, _, _, _, _, _, _, _⟩ := cl5 BK700))
     go_ret
     exact fin_ (bL HB)
   replace H := igt H; obtain ⟨c34b0, H⟩ | ⟨c34b0, H⟩ := H
   rotate_left
   · obtain rfl := Option.some.inj H
     go_enter Try.func60, Try.ntmps60
     go_wp2_with (first | ((with_reducible refine gd 1 rfl ?_); (try refine gg ?_; dsimp only); refine bxw 1 rfl #[.int .i64 a0_0, .int .i64 a0_1, .int .i64 a0_2, .string a0_3, .int .i64 a0_4] 76 HB ?_; clear HB; intro gb700 w38 BK700 GW700 GE700 HB; obtain ⟨_, _, _, _, _, _, _, _, _, _⟩ := cl5 BK700))
     go_ret
     exact fin_ (bL HB)
   replace H := bnd H; obtain ⟨t702, A35, H⟩ := H
   obtain rfl := Option.some.inj H
   go_enter Try.func60, Try.ntmps60
   go_wp2_with (first | ((with_reducible refine gd 1 rfl ?_); (try refine gg ?_; dsimp only); refine bxw 1 rfl #[.int .i64 a0_0, .int .i64 a0_1, .int .i64 a0_2, .string a0_3, .int .i64 a0_4] 76 HB ?_; clear HB; intro gb700 w36 BK700 GW700 GE700 HB; obtain ⟨_, _, _, _, _, _, _, _, _, _⟩ := cl5 BK700) | (go_at_call 76; (with_reducible refine (impl_isType.calls A35.out).mono ?_); rintro e w' ⟨rfl, ⟨nd, rfl⟩⟩))
   go_ret
   exact fin_ (bL HB)
 replace H := ieq H; obtain ⟨c50b0, c50b1, H⟩ | ⟨c50, c50b0, c50b1, H⟩ := H
 · replace H := ieq H; obtain ⟨c51b0, c51b1, H⟩ | ⟨c51, c51b0, c51b1, H⟩ := H
   rotate_left
   · obtain rfl := Option.some.inj H
     go_enter Try.func60, Try.ntmps60
     go_wp2_with (first | ((with_reducible refine gd 1 rfl ?_); (try refine gg ?_; dsimp only); refine bxw 1 rfl #[.int .i64 a0_0, .int .i64 a0_1, .int .i64 a0_2, .string a0_3, .int .i64 a0_4] 76 HB ?_; clear HB; intro gb700 w57 BK700 GW700 GE700 HB; obtain ⟨_, _, _, _, _, _, _, _, _, _⟩ := cl5 BK700))
     go_ret
     exact fin_ (bL HB)
   by_cases c52 : a0_3.toList = ([] : List UInt8)
   rotate_left
   · rw [if_neg c52] at H
     have c52b0 : (a0_3.toList == ([] : List UInt8)) = false := beq_eq_false_iff_ne.mpr c52
     try have c52b7 : a0_3.toList.isEmpty = false := by simpa using c52
     have c52b1 : (a0_3.toList != ([] : List UInt8)) = true := bne_iff_ne.mpr c52
     obtain rfl := Option.some.inj H
     go_enter Try.func60, Try.ntmps60
     go_wp2_with (first | ((with_reducible refine gd 1 rfl ?_); (try refine gg ?_; dsimp only); refine bxw 1 rfl #[.int .i64 a0_0, .int .i64 a0_1, .int .i64 a0_2, .string a0_3, .int .i64 a0_4] 76 HB ?_; clear HB; intro gb700 w55 BK700 GW700 GE700 HB; obtain ⟨_, _, _, _, _, _, _, _, _, _⟩ := cl5 BK700))
     go_ret
     exact fin_ (bL HB)
   rw [if_pos c52] at H
   have c52b0 : (a0_3.toList == ([] : List UInt8)) = true := beq_iff_eq.mpr c52
   try have c52b7 : a0_3.toList.isEmpty = true := by simpa using c52
   have c52b1 : (a0_3.toList != ([] : List UInt8)) = false := bne_eq_false_iff_eq.mpr c52
   clear c52
   obtain rfl := Option.some.inj H
   go_enter Try.func60, Try.ntmps60
   go_wp2_with (first | ((with_reducible refine gd 1 rfl ?_); (try refine gg ?_; dsimp only); refine bxw 1 rfl #[.int .i64 a0_0, .int .i64 a0_1, .int .i64 a0_2, .string a0_3, .int .i64 a0_4] 76 HB ?_; clear HB; intro gb700 w53 BK700 GW700 GE700 HB; obtain ⟨_, _, _, _, _, _, _, _, _, _⟩ := cl5 BK700))
   go_ret
   exact fin_ (bL HB)
 replace H := bnd H; obtain ⟨t704, A59, H⟩ := H
 replace H := ibt H; obtain ⟨rfl, H⟩ | ⟨rfl, H⟩ := H
 rotate_left
 · obtain rfl := Option.some.inj H
   go_enter Try.func60, Try.ntmps60
   go_wp2_with (first | ((with_reducible refine gd 1 rfl ?_); (try refine gg ?_; dsimp only); refine bxw 1 rfl #[.int .i64 a0_0, .int .i64 a0_1, .int .i64 a0_2, .string a0_3, .int .i64 a0_4] 76 HB ?_; clear HB; intro gb700 w69 BK700 GW700 GE700 HB; obtain ⟨_, _, _, _, _, _, _, _, _, _⟩ := cl5 BK700) | ((with_reducible refine gc 76 rfl ?_); refine gc1 (some 93) Try.func76 rfl (impl_isType.calls A59.out) ?_; rintro w' ⟨nd, rfl⟩))
   go_ret
   exact fin_ (bL HB)
 replace H := ieq H; obtain ⟨c61b0, c61b1, H⟩ | ⟨c61, c61b0, c61b1, H⟩ := H
 rotate_left
 · obtain rfl := Option.some.inj H
   go_enter Try.func60, Try.ntmps60
   go_wp2_with (first | ((with_reducible refine gd 1 rfl ?_); (try refine gg ?_; dsimp only); refine bxw 1 rfl #[.int .i64 a0_0, .int .i64 a0_1, .int .i64 a0_2, .string a0_3, .int .i64 a0_4] 76 HB ?_; clear HB; intro gb700 w67 BK700 GW700 GE700 HB; obtain ⟨_, _, _, _, _, _, _, _, _, _⟩ := cl5 BK700) | ((with_reducible refine gc 76 rfl ?_); refine gc1 (some 93) Try.func76 rfl (impl_isType.calls A59.out) ?_; rintro w' ⟨nd, rfl⟩))
   go_ret
   exact fin_ (bL HB)
 by_cases c62 : a0_3.toList = ([] : List UInt8)
 rotate_left
 · rw [if_neg c62] at H
   have c62b0 : (a0_3.toList == ([] : List UInt8)) = false := beq_eq_false_iff_ne.mpr c62
   try have c62b7 : a0_3.toList.isEmpty = false := by simpa using c62
   have c62b1 : (a0_3.toList != ([] : List UInt8)) = true := bne_iff_ne.mpr c62
   obtain rfl := Option.some.inj H
   go_enter Try.func60, Try.ntmps60
   go_wp2_with (first | ((with_reducible refine gd 1 rfl ?_); (try refine gg ?_; dsimp only); refine bxw 1 rfl #[.int .i64 a0_0, .int .i64 a0_1, .int .i64 a0_2, .string a0_3, .int .i64 a0_4] 76 HB ?_; clear HB; intro gb700 w65 BK700 GW700 GE700 HB; obtain ⟨_, _, _, _, _, _, _, _, _, _⟩ := cl5 BK700) | ((with_reducible refine gc 76 rfl ?_); refine gc1 (some 93) Try.func76 rfl (impl_isType.calls A59.out) ?_; rintro w' ⟨nd, rfl⟩))
   go_ret
   exact fin_ (bL HB)
 rw [if_pos c62] at H
 have c62b0 : (a0_3.toList == ([] : List UInt8)) = true := beq_iff_eq.mpr c62
 try have c62b7 : a0_3.toList.isEmpty = true := by simpa using c62
 have c62b1 : (a0_3.toList != ([] : List UInt8)) = false := bne_eq_false_iff_eq.mpr c62
 clear c62
 obtain rfl := Option.some.inj H
 go_enter Try.func60, Try.ntmps60
 go_wp2_with (first | ((with_reducible refine gd 1 rfl ?_); (try refine gg ?_; dsimp only); refine bxw 1 rfl #[.int .i64 a0_0, .int .i64 a0_1, .int .i64 a0_2, .string a0_3, .int .i64 a0_4] 76 HB ?_; clear HB; intro gb700 w63 BK700 GW700 GE700 HB; obtain ⟨_, _, _, _, _, _, _, _, _, _⟩ := cl5 BK700) | ((with_reducible refine gc 76 rfl ?_); refine gc1 (some 93) Try.func76 rfl (impl_isType.calls A59.out) ?_; rintro w' ⟨nd, rfl⟩))
 go_ret
 exact fin_ (bL HB)
-- NOT PRINTED: function 42 (impl_tree_measure)

end Go.Proofs.Ytnlgodcbnlbdkaa.PFnStats
