/- The machine's side of FnStats: each Go function, and what its call comes to. No condition. -/
import Derived.Test.YtnlgodcbnlbdkaaPFnStatsx0
import Derived.Test.YtnlgodcbnlbdkaaPFnStatsx1
import Derived.Test.YtnlgodcbnlbdkaaPFnStatsx5
import Derived.Test.YtnlgodcbnlbdkaaPFnStatsx10
import Derived.Test.YtnlgodcbnlbdkaaPFnStatsx11
namespace Go.Proofs.Ytnlgodcbnlbdkaa.PFnStats
open Go.RowKit Go.Proofs.YtnlgodcbnlbdkaaW.PrintWords Go.Proofs.YtnlgodcbnlbdkaaW.PrintLast Go.Proofs.YtnlgodcbnlbdkaaW.PrintMore Go.Proofs.YtnlgodcbnlbdkaaW.PrintMore2
attribute [local go_sem] max2_int min2_int max_two min_two max_three min_three max_four min_four
set_option linter.unusedVariables false
set_option linter.unusedSimpArgs false
set_option maxHeartbeats 8000000
set_option maxRecDepth 100000

attribute [local go_sem high] eqA30
/-! ### spec_FloatKey: function 36 -/
def spec_FloatKey.f (a0 : Int) : Option (Int) := if a0 < 0 then (some (Go.bits .xor .i64 a0 9223372036854775807)) else (some a0)
theorem spec_FloatKey.calls {a0 r : Int} {w : World} (h : spec_FloatKey.f a0 = some r) :
    Calls Try.prog 36 #[.int .i64 a0] w fun e w' => e = .returned (.int .i64 r) ∧ Drawn0 w w' := by
 have H := h; clear h; unfold spec_FloatKey.f at H
 replace H := idc H; obtain ⟨c2b0, H⟩ | ⟨c2b0, H⟩ := H
 · obtain rfl := Option.some.inj H
   go_enter Try.func36, Try.ntmps36
   go_wp2
   go_ret
   exact ⟨sr, drl⟩
 obtain rfl := Option.some.inj H
 go_enter Try.func36, Try.ntmps36
 go_wp2
 go_ret
 exact ⟨sr, drl⟩
/-! ### spec_ValLess: function 17 -/
mutual
def spec_ValLess.j0 : Nat → Int → Bool → Int → ByteArray → Int → ByteArray → Option (Bool)
  | 0, _, _, _, _, _, _ => none
  | k + 1, x0, x17, x560000, x560001, x561000, x561001 => if x17 = true then (some false) else (if x0 = 5 then ((spec_FloatKey.f x560000).bind fun t563 => ((spec_FloatKey.f x561000).bind fun t564 => (some (decide (t563 < t564))))) else (if x0 = 6 then (spec_ValLess.l0 k 0 x560000 x560001 x561000 x561001) else (some (decide (x560000 < x561000)))))
def spec_ValLess.l0 : Nat → Int → Int → ByteArray → Int → ByteArray → Option (Bool)
  | 0, _, _, _, _, _ => none
  | k + 1, x7, x560000, x560001, x561000, x561001 => if x7 < (x560001.size : Int) then (spec_ValLess.j2 k x7 (decide (x7 < (x561001.size : Int))) x560000 x560001 x561000 x561001) else (spec_ValLess.j2 k x7 false x560000 x560001 x561000 x561001)
def spec_ValLess.j2 : Nat → Int → Bool → Int → ByteArray → Int → ByteArray → Option (Bool)
  | 0, _, _, _, _, _, _ => none
  | k + 1, x7, x41, x560000, x560001, x561000, x561001 => if x41 = true then (if 0 ≤ x7 then (if x7 < (x560001.size : Int) then (if x7 < (x561001.size : Int) then (if (bt x560001 x7) = (bt x561001 x7) then (spec_ValLess.l0 k (wrap64 (x7 + 1)) x560000 x560001 x561000 x561001) else (some (decide ((bt x560001 x7) < (bt x561001 x7))))) else (none)) else (none)) else (none)) else (some (decide ((x560001.size : Int) < (x561001.size : Int))))
end
def spec_ValLess.f (k : Nat) (a0 : Int) (a1_0 : Int) (a1_1 : ByteArray) (a2_0 : Int) (a2_1 : ByteArray) : Option (Bool) := (spec_ValOk.f k a0 a1_0 a1_1).bind fun t561 => (if t561 = true then ((spec_ValOk.f k a0 a2_0 a2_1).bind fun t562 => (spec_ValLess.j0 k a0 (!t562) a1_0 a1_1 a2_0 a2_1)) else (spec_ValLess.j0 k a0 true a1_0 a1_1 a2_0 a2_1))
theorem spec_ValLess.calls {k : Nat} {a0 a1_0 : Int} {a1_1 : ByteArray} {a2_0 : Int} {a2_1 : ByteArray} {r : Bool} {w : World} (h : spec_ValLess.f k a0 a1_0 a1_1 a2_0 a2_1 = some r) :
    Calls Try.prog 17 #[.int .i64 a0, .agg #[.int .i64 a1_0, .string a1_1], .agg #[.int .i64 a2_0, .string a2_1]] w fun e w' => e = .returned (.bool r) ∧ Below w.heap.size w w' := by
 have hu30 := Try.underlying30
 have HB := am (Below.refl w.heap.size w)
 have H := h; clear h; unfold spec_ValLess.f at H
 have HC4 := am H
 clear H
 go_enter Try.func17, Try.ntmps17
 go_upto_region 1 with (first | ((with_reducible refine gd 4 rfl ?_); (try refine gg ?_; dsimp only); refine bxw 4 rfl #[.int .i64 a1_0, .string a1_1] 30 HB ?_; clear HB; intro gb559 w5 BK559 GW559 GE559 HB) | ((with_reducible refine gd 5 rfl ?_); (try refine gg ?_; dsimp only); refine bxv 5 rfl #[.int .i64 a2_0, .string a2_1] 30 HB ?_; clear HB; intro gb560 w6 BK560 GW560 GE560 HB hg hb; obtain ⟨NB559_560, NB560_559⟩ := nbp (nbl BK559 hg); replace BK559 := bkb BK559 hb; clear hg hb))
 repeat (go_quiet (fail); go_upto_region 1 with (first | ((with_reducible refine gd 4 rfl ?_); (try refine gg ?_; dsimp only); refine bxw 4 rfl #[.int .i64 a1_0, .string a1_1] 30 HB ?_; clear HB; intro gb559 w5 BK559 GW559 GE559 HB) | ((with_reducible refine gd 5 rfl ?_); (try refine gg ?_; dsimp only); refine bxv 5 rfl #[.int .i64 a2_0, .string a2_1] 30 HB ?_; clear HB; intro gb560 w6 BK560 GW560 GE560 HB hg hb; obtain ⟨NB559_560, NB560_559⟩ := nbp (nbl BK559 hg); replace BK559 := bkb BK559 hb; clear hg hb)))
 (try simp only [Act.put, List.setIfInBounds_toArray, List.set_cons_zero, List.set_cons_succ])
 go_cut [17] (fun v17 wc => ∃ (kq : Nat) (x17_3 : Bool), v17 = .bool x17_3 ∧ Aside0 (spec_ValLess.j0 kq a0 x17_3 a1_0 a1_1 a2_0 a2_1 = some r) ∧ Aside0 (kq ≤ k) ∧ Aside0 (wc.heap[gb559]? = some (.cells #[.int .i64 a1_0, .string a1_1] 30 (0, 0))) ∧ Aside0 (wc.heap[gb560]? = some (.cells #[.int .i64 a2_0, .string a2_1] 30 (0, 0))) ∧ Aside0 (Below w.heap.size w wc))
 case first =>
  have H := HC4.out
  clear HC4
  replace H := bnd H; obtain ⟨t561, A7, H⟩ := H
  replace H := ibt H; obtain ⟨rfl, H⟩ | ⟨rfl, H⟩ := H
  rotate_left
  · have H' := am H; clear H
    obtain ⟨hnb15, hnc15⟩ := nbo NB559_560
    obtain ⟨_, _, _, _⟩ := cl2 BK559
    iterate 6 (try go_wp2_with (first | (go_at_call 35; (with_reducible refine (spec_ValOk.calls A7.out).mono ?_); rintro e w17 ⟨rfl, hb⟩; replace BK559 := bkb BK559 hb; replace BK560 := bkb BK560 hb; replace HB := bst HB hb; clear hb)); try go_quiet (fail))
    go_meet
    case rel => exact ⟨_, (true), sr, H', ⟨by first | omega | exact Nat.le_refl _⟩, ⟨kL BK559⟩, ⟨kL BK560⟩, ⟨bL HB⟩⟩
  replace H := bnd H; obtain ⟨t562, A9, H⟩ := H
  have H' := am H; clear H
  obtain ⟨hnb10, hnc10⟩ := nbo NB559_560
  obtain ⟨_, _, _, _⟩ := cl2 BK559
  iterate 6 (try go_wp2_with (first | (go_at_call 35; (with_reducible refine (spec_ValOk.calls A7.out).mono ?_); rintro e w12 ⟨rfl, hb⟩; replace BK559 := bkb BK559 hb; replace BK560 := bkb BK560 hb; replace HB := bst HB hb; clear hb; obtain ⟨hcz13_0, hcz13_1, hfz13_0, hfz13_1⟩ := cl2 BK560) | (go_at_call 35; (with_reducible refine (spec_ValOk.calls A9.out).mono ?_); rintro e w14 ⟨rfl, hb⟩; replace BK559 := bkb BK559 hb; replace BK560 := bkb BK560 hb; replace HB := bst HB hb; clear hb)); try go_quiet (fail))
  go_meet
  case rel => exact ⟨_, (!t562), sr, H', ⟨by first | omega | exact Nat.le_refl _⟩, ⟨kL BK559⟩, ⟨kL BK560⟩, ⟨bL HB⟩⟩
 clear HC4
 obtain ⟨kq, x17_3, rfl, HA, HJ3, BK559, BK560, HB⟩ := hcut
 cases kq with
 | zero => exact absurd HA.out (by simp [spec_ValLess.j0])
 | succ kj3 => ?_
 have H := HA.out
 clear HA
 simp only [spec_ValLess.j0] at H
 replace H := ibt H; obtain ⟨rfl, H⟩ | ⟨rfl, H⟩ := H
 · obtain rfl := Option.some.inj H
   go_wp2
   repeat (go_quiet (fail); try go_wp2)
   go_ret
   exact fin_ (bL HB)
 replace H := ieq H; obtain ⟨c19b0, c19b1, H⟩ | ⟨c19, c19b0, c19b1, H⟩ := H
 · replace H := bnd H; obtain ⟨t563, A20, H⟩ := H
   replace H := bnd H; obtain ⟨t564, A21, H⟩ := H
   obtain rfl := Option.some.inj H
   obtain ⟨hnb22, hnc22⟩ := nbo NB559_560
   obtain ⟨_, _, _, _⟩ := cl2 BK559
   iterate 6 (try go_wp2_with (first | (go_at_call 36; (with_reducible refine (spec_FloatKey.calls A20.out).mono ?_); rintro e w' ⟨rfl, ⟨nd, rfl⟩⟩; (try exact dn2); obtain ⟨hcz24_0, hcz24_1, hfz24_0, hfz24_1⟩ := cl2 BK560) | (go_at_call 36; (with_reducible refine (spec_FloatKey.calls A21.out).mono ?_); rintro e w' ⟨rfl, ⟨nd, rfl⟩⟩; (try exact dn2))); try go_quiet (first | (go_at_call 36; (with_reducible refine (spec_FloatKey.calls A20.out).mono ?_); rintro e w' ⟨rfl, ⟨nd, rfl⟩⟩; (try exact dn2); obtain ⟨hcz24_0, hcz24_1, hfz24_0, hfz24_1⟩ := cl2 BK560) | (go_at_call 36; (with_reducible refine (spec_FloatKey.calls A21.out).mono ?_); rintro e w' ⟨rfl, ⟨nd, rfl⟩⟩; (try exact dn2))))
   go_ret
   exact fin_ (bL HB)
 replace H := ieq H; obtain ⟨c25b0, c25b1, H⟩ | ⟨c25, c25b0, c25b1, H⟩ := H
 rotate_left
 · obtain rfl := Option.some.inj H
   obtain ⟨hnb51, hnc51⟩ := nbo NB559_560
   obtain ⟨_, _, _, _⟩ := cl2 BK559
   obtain ⟨_, _, _, _⟩ := cl2 BK560
   go_wp2
   repeat (go_quiet (fail); try go_wp2)
   go_ret
   exact fin_ (bL HB)
 have H' := am H; clear H
 go_wp2
 repeat (go_quiet (fail); try go_wp2)
 go_loopg [7] kj3 (fun kq v7 w' => ∃ (x7_2 : Int), v7 = .int .i64 x7_2 ∧ Aside0 (spec_ValLess.l0 kq x7_2 a1_0 a1_1 a2_0 a2_1 = some r) ∧ Aside0 (kq ≤ kj3) ∧ Aside0 (w'.heap[gb559]? = some (.cells #[.int .i64 a1_0, .string a1_1] 30 (0, 0))) ∧ Aside0 (w'.heap[gb560]? = some (.cells #[.int .i64 a2_0, .string a2_1] 30 (0, 0))) ∧ Aside0 (Below w.heap.size w w'))
 case atStart => exact ⟨(0), sr, H', ⟨Nat.le_refl _⟩, ⟨kL BK559⟩, ⟨kL BK560⟩, ⟨bL HB⟩⟩
 clear H'
 try clear c18 c19 c19b0 c19b1 c25 c25b0 c25b1
 obtain ⟨x7_2, rfl, HA, HK2, BK559, BK560, HB⟩ := hrel
 cases gk with
 | zero => exact absurd HA.out (by simp [spec_ValLess.l0])
 | succ k2 => ?_
 have H := HA.out
 clear HA
 simp only [spec_ValLess.l0] at H
 have HC26 := am H
 clear H
 go_upto_region 8 with (fail)
 repeat (go_quiet (fail); go_upto_region 8 with (fail))
 go_cut [41] (fun v41 wc => ∃ (kq : Nat) (x41_25 : Bool), v41 = .bool x41_25 ∧ Aside0 (spec_ValLess.j2 kq x7_2 x41_25 a1_0 a1_1 a2_0 a2_1 = some r) ∧ Aside0 (kq ≤ k2) ∧ Aside0 (wc.heap[gb559]? = some (.cells #[.int .i64 a1_0, .string a1_1] 30 (0, 0))) ∧ Aside0 (wc.heap[gb560]? = some (.cells #[.int .i64 a2_0, .string a2_1] 30 (0, 0))) ∧ Aside0 (Below w.heap.size w wc))
 case first =>
  have H := HC26.out
  clear HC26
  replace H := idc H; obtain ⟨c27b0, H⟩ | ⟨c27b0, H⟩ := H
  rotate_left
  · (first | rw [c27b0] | (simp only [i64_w, i32_w]; rw [c27b0]) | skip)
    have H' := am H; clear H
    obtain ⟨hnb31, hnc31⟩ := nbo NB559_560
    obtain ⟨_, _, _, _⟩ := cl2 BK559
    go_wp2
    repeat (go_quiet (fail); try go_wp2)
    go_meet
    case rel => exact ⟨_, (false), sr, H', ⟨by have := HJ3.out; have := HK2.out; first | omega | exact Nat.le_refl _⟩, ⟨kL BK559⟩, ⟨kL BK560⟩, ⟨bL HB⟩⟩
  (first | rw [c27b0] | (simp only [i64_w, i32_w]; rw [c27b0]) | skip)
  have H' := am H; clear H
  obtain ⟨hnb28, hnc28⟩ := nbo NB559_560
  obtain ⟨_, _, _, _⟩ := cl2 BK559
  obtain ⟨_, _, _, _⟩ := cl2 BK560
  go_wp2
  repeat (go_quiet (fail); try go_wp2)
  go_meet
  case rel => exact ⟨_, (decide (x7_2 < (a2_1.size : Int))), sr, H', ⟨by have := HJ3.out; have := HK2.out; first | omega | exact Nat.le_refl _⟩, ⟨kL BK559⟩, ⟨kL BK560⟩, ⟨bL HB⟩⟩
 clear HC26
 try clear c18 c19 c19b0 c19b1 c25 c25b0 c25b1
 obtain ⟨kq, x41_25, rfl, HA, HJ25, BK559, BK560, HB⟩ := hcut
 cases kq with
 | zero => exact absurd HA.out (by simp [spec_ValLess.j2])
 | succ kj25 => ?_
 have H := HA.out
 clear HA
 simp only [spec_ValLess.j2] at H
 replace H := ibt H; obtain ⟨rfl, H⟩ | ⟨rfl, H⟩ := H
 rotate_left
 · obtain rfl := Option.some.inj H
   obtain ⟨hnb48, hnc48⟩ := nbo NB559_560
   obtain ⟨_, _, _, _⟩ := cl2 BK559
   obtain ⟨_, _, _, _⟩ := cl2 BK560
   go_wp2
   repeat (go_quiet (fail); try go_wp2)
   go_ret
   exact fin_ (bL HB)
 replace H := if_ddd H; obtain ⟨c34b0, c35b0, c37b0, H⟩ := H
 replace H := ieq H; obtain ⟨c39b0, c39b1, H⟩ | ⟨c39, c39b0, c39b1, H⟩ := H
 · have H' := am H; clear H
   obtain ⟨hnb40, hnc40⟩ := nbo NB559_560
   obtain ⟨_, _, _, _⟩ := cl2 BK559
   have p36 : 0 ≤ (x7_2 : Int) := dcd
   have q36 : x7_2 < (a1_1.size : Int) := dcd
   have hx36 := bt_at a1_1 x7_2
   replace p36 := eq_true p36
   replace q36 := eq_true q36
   obtain ⟨_, _, _, _⟩ := cl2 BK560
   have p38 : 0 ≤ (x7_2 : Int) := dcd
   have q38 : x7_2 < (a2_1.size : Int) := dcd
   have hx38 := bt_at a2_1 x7_2
   replace p38 := eq_true p38
   replace q38 := eq_true q38
   go_wp2
   repeat (go_quiet (fail); try go_wp2)
   go_roundg kj25
   case measure => have := HJ3.out; have := HK2.out; have := HJ25.out; omega
   case rel => exact ⟨(wrap64 (x7_2 + 1)), sr, H', ⟨by have := HJ3.out; have := HK2.out; have := HJ25.out; omega⟩, ⟨kL BK559⟩, ⟨kL BK560⟩, ⟨bL HB⟩⟩
 obtain rfl := Option.some.inj H
 obtain ⟨hnb45, hnc45⟩ := nbo NB559_560
 obtain ⟨_, _, _, _⟩ := cl2 BK559
 have p36 : 0 ≤ (x7_2 : Int) := dcd
 have q36 : x7_2 < (a1_1.size : Int) := dcd
 have hx36 := bt_at a1_1 x7_2
 replace p36 := eq_true p36
 replace q36 := eq_true q36
 obtain ⟨_, _, _, _⟩ := cl2 BK560
 have p38 : 0 ≤ (x7_2 : Int) := dcd
 have q38 : x7_2 < (a2_1.size : Int) := dcd
 have hx38 := bt_at a2_1 x7_2
 replace p38 := eq_true p38
 replace q38 := eq_true q38
 have p43 : 0 ≤ (x7_2 : Int) := dcd
 have q43 : x7_2 < (a1_1.size : Int) := dcd
 have hx43 := bt_at a1_1 x7_2
 replace p43 := eq_true p43
 replace q43 := eq_true q43
 have p44 : 0 ≤ (x7_2 : Int) := dcd
 have q44 : x7_2 < (a2_1.size : Int) := dcd
 have hx44 := bt_at a2_1 x7_2
 replace p44 := eq_true p44
 replace q44 := eq_true q44
 go_wp2
 repeat (go_quiet (fail); try go_wp2)
 go_ret
 exact fin_ (bL HB)
/-! ### spec_StatsOf: function 7 -/
mutual
def spec_StatsOf.l0 : Nat → List (S36) → Int → Int → Int → Int → Int → Bool → Int → ByteArray → Int → ByteArray → Option (Int × Bool × Int × ByteArray × Int × ByteArray × Bool)
  | 0, _, _, _, _, _, _, _, _, _, _, _ => none
  | k + 1, x1, x7, x566000, x566001, x566002, x568000, x568001, x568002, x568003, x568004, x568005 => if x7 < (x1.length : Int) then (if 0 ≤ x7 then (if ((rd_T36 x1 x7).f1) < x566002 then (spec_StatsOf.l0 k x1 (wrap64 (x7 + 1)) x566000 x566001 x566002 (wrap64 (x568000 + 1)) x568001 x568002 x568003 x568004 x568005) else (if x568001 = true then ((spec_ValLess.f k x566000 ((rd_T36 x1 x7).f2.f0) ((rd_T36 x1 x7).f2.f1) x568002 x568003).bind fun t572 => (if t572 = true then (spec_StatsOf.j1 k x1 x7 x566000 x566001 x566002 x568000 x568001 ((rd_T36 x1 x7).f2.f0) ((rd_T36 x1 x7).f2.f1) x568004 x568005 ((rd_T36 x1 x7).f2.f0) ((rd_T36 x1 x7).f2.f1)) else (spec_StatsOf.j1 k x1 x7 x566000 x566001 x566002 x568000 x568001 x568002 x568003 x568004 x568005 ((rd_T36 x1 x7).f2.f0) ((rd_T36 x1 x7).f2.f1)))) else (spec_StatsOf.l0 k x1 (wrap64 (x7 + 1)) x566000 x566001 x566002 x568000 true ((rd_T36 x1 x7).f2.f0) ((rd_T36 x1 x7).f2.f1) ((rd_T36 x1 x7).f2.f0) ((rd_T36 x1 x7).f2.f1)))) else (none)) else (some (x568000, x568001, x568002, x568003, x568004, x568005, true))
def spec_StatsOf.j1 : Nat → List (S36) → Int → Int → Int → Int → Int → Bool → Int → ByteArray → Int → ByteArray → Int → ByteArray → Option (Int × Bool × Int × ByteArray × Int × ByteArray × Bool)
  | 0, _, _, _, _, _, _, _, _, _, _, _, _, _ => none
  | k + 1, x1, x7, x566000, x566001, x566002, x568000, x568001, x568002, x568003, x568004, x568005, x571000, x571001 => (spec_ValLess.f k x566000 x568004 x568005 x571000 x571001).bind fun t573 => (if t573 = true then (spec_StatsOf.l0 k x1 (wrap64 (x7 + 1)) x566000 x566001 x566002 x568000 x568001 x568002 x568003 x571000 x571001) else (spec_StatsOf.l0 k x1 (wrap64 (x7 + 1)) x566000 x566001 x566002 x568000 x568001 x568002 x568003 x568004 x568005))
end
def spec_StatsOf.f (k : Nat) (a0_0 : Int) (a0_1 : Int) (a0_2 : Int) (l1 : List (S36)) : Option (Int × Bool × Int × ByteArray × Int × ByteArray × Bool) := (spec_l15All.f k a0_0 a0_1 a0_2 l1).bind fun t568 => (if t568 = true then (spec_StatsOf.l0 k l1 0 a0_0 a0_1 a0_2 0 false 0 (⟨#[]⟩ : ByteArray) 0 (⟨#[]⟩ : ByteArray)) else (some (0, false, 0, (⟨#[]⟩ : ByteArray), 0, (⟨#[]⟩ : ByteArray), false)))
theorem spec_StatsOf.calls {k : Nat} {a0_0 a0_1 a0_2 : Int} {A1 : Option Addr} {c1 : Nat} {l1 : List (S36)} {r1 : Int} {r2 : Bool} {r3 : Int} {r4 : ByteArray} {r5 : Int} {r6 : ByteArray} {r7 : Bool} {w : World} (hr1 : Kd.C k36 w A1 l1.length l1) (hc1 : l1.length ≤ c1) (h : spec_StatsOf.f k a0_0 a0_1 a0_2 l1 = some (r1, r2, r3, r4, r5, r6, r7)) :
    Calls Try.prog 7 #[.agg #[.int .i64 a0_0, .int .i64 a0_1, .int .i64 a0_2], .slice A1 l1.length c1] w fun e w' => e = .returned (.tuple #[.agg #[.int .i64 r1, .bool r2, .int .i64 r3, .string r4, .int .i64 r5, .string r6], .bool r7]) ∧ Below w.heap.size w w' := by
 have hu25 := Try.underlying25
 have hu32 := Try.underlying32
 have hu30 := Try.underlying30
 have HR1 := am hr1
 have HC1 := am hc1
 clear hr1 hc1
 have HB := am (Below.refl w.heap.size w)
 have H := h; clear h; unfold spec_StatsOf.f at H
 replace H := bnd H; obtain ⟨t568, A3, H⟩ := H
 replace H := ibt H; obtain ⟨rfl, H⟩ | ⟨rfl, H⟩ := H
 rotate_left
 · replace H := sj7 H; obtain ⟨rfl, rfl, rfl, rfl, rfl, rfl, rfl⟩ := H
   go_enter Try.func7, Try.ntmps7
   iterate 6 (try go_wp2_with (first | ((with_reducible refine gd 2 rfl ?_); refine bxw 2 rfl #[.int .i64 a0_0, .int .i64 a0_1, .int .i64 a0_2] 25 HB ?_; clear HB; intro gb565 w88 BK565 GW565 GE565 HB) | ((with_reducible refine gd 4 rfl ?_); refine bxv 4 rfl #[.int .i64 0, .bool false, .int .i64 0, .string ⟨#[]⟩, .int .i64 0, .string ⟨#[]⟩] 32 HB ?_; clear HB; intro gb566 w89 BK566 GW566 GE566 HB hg hb; obtain ⟨NB565_566, NB566_565⟩ := nbp (nbl BK565 hg); replace BK565 := bkb BK565 hb; clear hg hb) | ((with_reducible refine gd 6 rfl ?_); refine bxv 6 rfl #[.int .i64 0, .bool false, .int .i64 0, .string ⟨#[]⟩, .int .i64 0, .string ⟨#[]⟩] 32 HB ?_; clear HB; intro gb567 w90 BK567 GW567 GE567 HB hg hb; obtain ⟨NB565_567, NB567_565⟩ := nbp (nbl BK565 hg); obtain ⟨NB566_567, NB567_566⟩ := nbp (nbl BK566 hg); replace BK565 := bkb BK565 hb; replace BK566 := bkb BK566 hb; clear hg hb; obtain ⟨hnb91, hnc91⟩ := nbo NB567_565; obtain ⟨hnb92, hnc92⟩ := nbo NB567_566; obtain ⟨hcz93_0, hcz93_1, hcz93_2, hcz93_3, hcz93_4, hcz93_5, hfz93_0, hfz93_1, hfz93_2, hfz93_3, hfz93_4, hfz93_5⟩ := cl6 BK567; obtain ⟨hnb94, hnc94⟩ := nbo NB565_566; obtain ⟨hcz95_0, hcz95_1, hcz95_2, hfz95_0, hfz95_1, hfz95_2⟩ := cl3 BK565) | (go_at_call 16; (with_reducible refine (spec_l15All.calls ?side1 ?side2 A3.out).mono ?_); (case side1 => exact Kd.C_below HR1.out (bL HB)); (case side2 => exact HC1.out); rintro e w96 ⟨rfl, hb⟩; replace BK565 := bkb BK565 hb; replace BK566 := bkb BK566 hb; replace BK567 := am (blk_below (g := gb567) (o := .cells #[.int .i64 0, .bool false, .int .i64 0, .string ⟨#[]⟩, .int .i64 0, .string ⟨#[]⟩] 32 (0, 0)) (blk_later BK567.out) hb); replace HB := bst HB hb; clear hb; obtain ⟨hcz97_0, hcz97_1, hcz97_2, hcz97_3, hcz97_4, hcz97_5, hfz97_0, hfz97_1, hfz97_2, hfz97_3, hfz97_4, hfz97_5⟩ := cl6 BK567; obtain ⟨hcz98_0, hcz98_1, hcz98_2, hcz98_3, hcz98_4, hcz98_5, hfz98_0, hfz98_1, hfz98_2, hfz98_3, hfz98_4, hfz98_5⟩ := cl6 BK566)); try go_quiet (fail))
   refine bodyPost_ret (results_ct rfl _ _ gb566 32 #[.int .i64 0, .bool false, .int .i64 0, .string ⟨#[]⟩, .int .i64 0, .string ⟨#[]⟩] (0, 0) _ rfl (kL BK566) Try.underlying32 rfl (by kernel_rfl)) rfl ?_
   exact fin_ (bL HB)
 have H' := am H; clear H
 go_enter Try.func7, Try.ntmps7
 iterate 6 (try go_wp2_with (first | ((with_reducible refine gd 2 rfl ?_); refine bxw 2 rfl #[.int .i64 a0_0, .int .i64 a0_1, .int .i64 a0_2] 25 HB ?_; clear HB; intro gb565 w5 BK565 GW565 GE565 HB) | ((with_reducible refine gd 4 rfl ?_); refine bxv 4 rfl #[.int .i64 0, .bool false, .int .i64 0, .string ⟨#[]⟩, .int .i64 0, .string ⟨#[]⟩] 32 HB ?_; clear HB; intro gb566 w6 BK566 GW566 GE566 HB hg hb; obtain ⟨NB565_566, NB566_565⟩ := nbp (nbl BK565 hg); replace BK565 := bkb BK565 hb; clear hg hb) | ((with_reducible refine gd 6 rfl ?_); refine bxv 6 rfl #[.int .i64 0, .bool false, .int .i64 0, .string ⟨#[]⟩, .int .i64 0, .string ⟨#[]⟩] 32 HB ?_; clear HB; intro gb567 w7 BK567 GW567 GE567 HB hg hb; obtain ⟨NB565_567, NB567_565⟩ := nbp (nbl BK565 hg); obtain ⟨NB566_567, NB567_566⟩ := nbp (nbl BK566 hg); replace BK565 := bkb BK565 hb; replace BK566 := bkb BK566 hb; clear hg hb; obtain ⟨hnb8, hnc8⟩ := nbo NB567_565; obtain ⟨hnb9, hnc9⟩ := nbo NB567_566; obtain ⟨hcz10_0, hcz10_1, hcz10_2, hcz10_3, hcz10_4, hcz10_5, hfz10_0, hfz10_1, hfz10_2, hfz10_3, hfz10_4, hfz10_5⟩ := cl6 BK567; obtain ⟨hnb11, hnc11⟩ := nbo NB565_566; obtain ⟨hcz12_0, hcz12_1, hcz12_2, hfz12_0, hfz12_1, hfz12_2⟩ := cl3 BK565) | (go_at_call 16; (with_reducible refine (spec_l15All.calls ?side1 ?side2 A3.out).mono ?_); (case side1 => exact Kd.C_below HR1.out (bL HB)); (case side2 => exact HC1.out); rintro e w13 ⟨rfl, hb⟩; replace BK565 := bkb BK565 hb; replace BK566 := bkb BK566 hb; replace BK567 := am (blk_below (g := gb567) (o := .cells #[.int .i64 0, .bool false, .int .i64 0, .string ⟨#[]⟩, .int .i64 0, .string ⟨#[]⟩] 32 (0, 0)) (blk_later BK567.out) hb); replace HB := bst HB hb; clear hb)); try go_quiet (fail))
 go_loopg [7] k (fun kq v7 w' => ∃ (x7_1 : Int) (x568000_1 : Int) (x568001_1 : Bool) (x568002_1 : Int) (x568003_1 : ByteArray) (x568004_1 : Int) (x568005_1 : ByteArray), v7 = .int .i64 x7_1 ∧ Aside0 (spec_StatsOf.l0 kq l1 x7_1 a0_0 a0_1 a0_2 x568000_1 x568001_1 x568002_1 x568003_1 x568004_1 x568005_1 = some (r1, r2, r3, r4, r5, r6, r7)) ∧ Aside0 (kq ≤ k) ∧ Aside0 (w'.heap[gb565]? = some (.cells #[.int .i64 a0_0, .int .i64 a0_1, .int .i64 a0_2] 25 (0, 0))) ∧ Aside0 (w'.heap[gb566]? = some (.cells #[.int .i64 0, .bool false, .int .i64 0, .string ⟨#[]⟩, .int .i64 0, .string ⟨#[]⟩] 32 (0, 0))) ∧ Aside0 (w'.heap[gb567]? = some (.cells #[.int .i64 x568000_1, .bool x568001_1, .int .i64 x568002_1, .string x568003_1, .int .i64 x568004_1, .string x568005_1] 32 (0, 0))) ∧ Aside0 (Below w.heap.size w w'))
 case atStart => exact ⟨(0), (0), (false), (0), ((⟨#[]⟩ : ByteArray)), (0), ((⟨#[]⟩ : ByteArray)), sr, H', ⟨Nat.le_refl _⟩, ⟨kL BK565⟩, ⟨kL BK566⟩, ⟨kL BK567⟩, ⟨bL HB⟩⟩
 clear H'
 try clear c1 c4 hcz10_0 hcz10_1 hcz10_2 hcz10_3 hcz10_4 hcz10_5 hcz12_0 hcz12_1 hcz12_2 hfz10_0 hfz10_1 hfz10_2 hfz10_3 hfz10_4 hfz10_5 hfz12_0 hfz12_1 hfz12_2
 obtain ⟨x7_1, x568000_1, x568001_1, x568002_1, x568003_1, x568004_1, x568005_1, rfl, HA, HK1, BK565, BK566, BK567, HB⟩ := hrel
 cases gk with
 | zero => exact absurd HA.out (by simp [spec_StatsOf.l0])
 | succ k1 => ?_
 have H := HA.out
 clear HA
 simp only [spec_StatsOf.l0] at H
 replace H := idc H; obtain ⟨c14b0, H⟩ | ⟨c14b0, H⟩ := H
 rotate_left
 · replace H := sj7 H; obtain ⟨rfl, rfl, rfl, rfl, rfl, rfl, rfl⟩ := H
   obtain ⟨hnb83, hnc83⟩ := nbo NB567_565
   obtain ⟨hnb84, hnc84⟩ := nbo NB567_566
   obtain ⟨_, _, _, _, _, _, _, _, _, _, _, _⟩ := cl6 BK567
   obtain ⟨hnb86, hnc86⟩ := nbo NB566_565
   obtain ⟨_, _, _, _, _, _, _, _, _, _, _, _⟩ := cl6 BK566
   go_wp2
   repeat (go_quiet (fail); try go_wp2)
   refine bodyPost_ret (results_ct rfl _ _ gb566 32 #[.int .i64 x568000_1, .bool x568001_1, .int .i64 x568002_1, .string x568003_1, .int .i64 x568004_1, .string x568005_1] (0, 0) _ rfl (kL BK566) Try.underlying32 rfl (by kernel_rfl)) rfl ?_
   exact fin_ (bL HB)
 replace H := ifd H; obtain ⟨c15b0, H⟩ := H
 replace H := idc H; obtain ⟨c16b0, H⟩ | ⟨c16b0, H⟩ := H
 · have H' := am H; clear H
   obtain ⟨p569, q569, ad569, e569, hx569_0, hx569_1, hx569_2, hx569_3⟩ := at_T36b HB HR1 x7_1; cases e569
   iterate 6 (try go_wp2_with (first | ((with_reducible refine gd 8 rfl ?_); refine bx_ 8 #[.int .i64 0, .string ⟨#[]⟩] 30 ?_; intro gb570 hg w17 hbox hb; have BK570 := am hbox; have GW570 := gwe HB hg; have GE570 := GW570; obtain ⟨NB565_570, NB570_565⟩ := nbp (nbl BK565 hg); obtain ⟨NB566_570, NB570_566⟩ := nbp (nbl BK566 hg); obtain ⟨NB567_570, NB570_567⟩ := nbp (nbl BK567 hg); replace BK565 := bkb BK565 hb; replace BK566 := bkb BK566 hb; replace BK567 := bkb BK567 hb; replace HB := bst HB hb; clear hb hbox hg; obtain ⟨hnb18, hnc18⟩ := nbo NB570_565; obtain ⟨hnb19, hnc19⟩ := nbo NB570_566; obtain ⟨hnb20, hnc20⟩ := nbo NB570_567; obtain ⟨hcz21_0, hcz21_1, hfz21_0, hfz21_1⟩ := cl2 BK570; have p571 : 0 ≤ (x7_1 : Int) := dcd; have q571 : x7_1 < (l1.length : Int) := dcd; obtain ⟨ad571, e571, hx571_0, hx571_1, hx571_2, hx571_3⟩ := at_T36 HR1.out x7_1 p571 q571; obtain rfl : ad569 = ad571 := (by injection e571); have hn571_0 : ad569.block ≠ gb570 := Nat.ne_of_lt (Nat.lt_of_lt_of_le (by have := World.block_lt_of_cell? _ _ hx571_0; first | rwa [add_block] at this | exact this) GW570.out); have hn571_1 : ad569.block ≠ gb570 := Nat.ne_of_lt (Nat.lt_of_lt_of_le (by have := World.block_lt_of_cell? _ _ hx571_0; first | rwa [add_block] at this | exact this) GW570.out); replace hx571_0 := crd HB hx571_0; replace hx571_1 := crd HB hx571_1; replace hx571_2 := crd HB hx571_2; replace hx571_3 := crd HB hx571_3; replace hx571_0 := (cell_far (p := ⟨gb570, 0, none⟩) (by first | (rw [add_block]; exact hn571_0) | (show (Addr.add _ _).block ≠ _; rw [add_block]; exact hn571_0) | exact hn571_0) (.int .i64 ((rd_T36 l1 x7_1).f2.f0))).trans hx571_0; replace hx571_1 := (cell_far (p := ⟨gb570, 0, none⟩) (by first | (rw [add_block]; exact hn571_0) | (show (Addr.add _ _).block ≠ _; rw [add_block]; exact hn571_0) | exact hn571_0) (.int .i64 ((rd_T36 l1 x7_1).f2.f0))).trans hx571_1; replace hx571_2 := (cell_far (p := ⟨gb570, 0, none⟩) (by first | (rw [add_block]; exact hn571_0) | (show (Addr.add _ _).block ≠ _; rw [add_block]; exact hn571_0) | exact hn571_0) (.int .i64 ((rd_T36 l1 x7_1).f2.f0))).trans hx571_2; replace hx571_3 := (cell_far (p := ⟨gb570, 0, none⟩) (by first | (rw [add_block]; exact hn571_0) | (show (Addr.add _ _).block ≠ _; rw [add_block]; exact hn571_0) | exact hn571_0) (.int .i64 ((rd_T36 l1 x7_1).f2.f0))).trans hx571_3; replace hx571_0 := (cell_far (p := ⟨gb570, 1, none⟩) (by first | (rw [add_block]; exact hn571_1) | (show (Addr.add _ _).block ≠ _; rw [add_block]; exact hn571_1) | exact hn571_1) (.string ((rd_T36 l1 x7_1).f2.f1))).trans hx571_0; replace hx571_1 := (cell_far (p := ⟨gb570, 1, none⟩) (by first | (rw [add_block]; exact hn571_1) | (show (Addr.add _ _).block ≠ _; rw [add_block]; exact hn571_1) | exact hn571_1) (.string ((rd_T36 l1 x7_1).f2.f1))).trans hx571_1; replace hx571_2 := (cell_far (p := ⟨gb570, 1, none⟩) (by first | (rw [add_block]; exact hn571_1) | (show (Addr.add _ _).block ≠ _; rw [add_block]; exact hn571_1) | exact hn571_1) (.string ((rd_T36 l1 x7_1).f2.f1))).trans hx571_2; replace hx571_3 := (cell_far (p := ⟨gb570, 1, none⟩) (by first | (rw [add_block]; exact hn571_1) | (show (Addr.add _ _).block ≠ _; rw [add_block]; exact hn571_1) | exact hn571_1) (.string ((rd_T36 l1 x7_1).f2.f1))).trans hx571_3; (try have hy571_0 := fun (n_ : Nat) => (show ((((w17.drewN n_).setCell ⟨gb570, 0, none⟩ (.int .i64 ((rd_T36 l1 x7_1).f2.f0))).setCell ⟨gb570, 1, none⟩ (.string ((rd_T36 l1 x7_1).f2.f1)))).cell? _ = some _ from hx571_0)); (try have hy571_1 := fun (n_ : Nat) => (show ((((w17.drewN n_).setCell ⟨gb570, 0, none⟩ (.int .i64 ((rd_T36 l1 x7_1).f2.f0))).setCell ⟨gb570, 1, none⟩ (.string ((rd_T36 l1 x7_1).f2.f1)))).cell? _ = some _ from hx571_1)); (try have hy571_2 := fun (n_ : Nat) => (show ((((w17.drewN n_).setCell ⟨gb570, 0, none⟩ (.int .i64 ((rd_T36 l1 x7_1).f2.f0))).setCell ⟨gb570, 1, none⟩ (.string ((rd_T36 l1 x7_1).f2.f1)))).cell? _ = some _ from hx571_2)); (try have hy571_3 := fun (n_ : Nat) => (show ((((w17.drewN n_).setCell ⟨gb570, 0, none⟩ (.int .i64 ((rd_T36 l1 x7_1).f2.f0))).setCell ⟨gb570, 1, none⟩ (.string ((rd_T36 l1 x7_1).f2.f1)))).cell? _ = some _ from hx571_3)); clear hn571_0; clear hn571_1; replace p571 := eq_true p571; replace q571 := eq_true q571; obtain ⟨hnb22, hnc22⟩ := nbo NB565_566; obtain ⟨hnb23, hnc23⟩ := nbo NB565_567; obtain ⟨hcz24_0, hcz24_1, hcz24_2, hfz24_0, hfz24_1, hfz24_2⟩ := cl3 BK565; obtain ⟨hnb25, hnc25⟩ := nbo NB567_566; obtain ⟨hcz26_0, hcz26_1, hcz26_2, hcz26_3, hcz26_4, hcz26_5, hfz26_0, hfz26_1, hfz26_2, hfz26_3, hfz26_4, hfz26_5⟩ := cl6 BK567)); try go_quiet (fail))
   go_roundg k1
   case measure => have := HK1.out; omega
   case rel => exact ⟨(wrap64 (x7_1 + 1)), (wrap64 (x568000_1 + 1)), (x568001_1), (x568002_1), (x568003_1), (x568004_1), (x568005_1), sr, H', ⟨by have := HK1.out; omega⟩, ⟨kL BK565⟩, ⟨kL BK566⟩, ⟨kL BK567⟩, ⟨bL HB⟩⟩
 replace H := ibt H; obtain ⟨rfl, H⟩ | ⟨rfl, H⟩ := H
 rotate_left
 · have H' := am H; clear H
   obtain ⟨p569, q569, ad569, e569, hx569_0, hx569_1, hx569_2, hx569_3⟩ := at_T36b HB HR1 x7_1; cases e569
   iterate 6 (try go_wp2_with (first | ((with_reducible refine gd 8 rfl ?_); refine bx_ 8 #[.int .i64 0, .string ⟨#[]⟩] 30 ?_; intro gb570 hg w73 hbox hb; have BK570 := am hbox; have GW570 := gwe HB hg; have GE570 := GW570; obtain ⟨NB565_570, NB570_565⟩ := nbp (nbl BK565 hg); obtain ⟨NB566_570, NB570_566⟩ := nbp (nbl BK566 hg); obtain ⟨NB567_570, NB570_567⟩ := nbp (nbl BK567 hg); replace BK565 := bkb BK565 hb; replace BK566 := bkb BK566 hb; replace BK567 := bkb BK567 hb; replace HB := bst HB hb; clear hb hbox hg; obtain ⟨hnb74, hnc74⟩ := nbo NB570_565; obtain ⟨hnb75, hnc75⟩ := nbo NB570_566; obtain ⟨hnb76, hnc76⟩ := nbo NB570_567; obtain ⟨hcz77_0, hcz77_1, hfz77_0, hfz77_1⟩ := cl2 BK570; have p571 : 0 ≤ (x7_1 : Int) := dcd; have q571 : x7_1 < (l1.length : Int) := dcd; obtain ⟨ad571, e571, hx571_0, hx571_1, hx571_2, hx571_3⟩ := at_T36 HR1.out x7_1 p571 q571; obtain rfl : ad569 = ad571 := (by injection e571); have hn571_0 : ad569.block ≠ gb570 := Nat.ne_of_lt (Nat.lt_of_lt_of_le (by have := World.block_lt_of_cell? _ _ hx571_0; first | rwa [add_block] at this | exact this) GW570.out); have hn571_1 : ad569.block ≠ gb570 := Nat.ne_of_lt (Nat.lt_of_lt_of_le (by have := World.block_lt_of_cell? _ _ hx571_0; first | rwa [add_block] at this | exact this) GW570.out); replace hx571_0 := crd HB hx571_0; replace hx571_1 := crd HB hx571_1; replace hx571_2 := crd HB hx571_2; replace hx571_3 := crd HB hx571_3; replace hx571_0 := (cell_far (p := ⟨gb570, 0, none⟩) (by first | (rw [add_block]; exact hn571_0) | (show (Addr.add _ _).block ≠ _; rw [add_block]; exact hn571_0) | exact hn571_0) (.int .i64 ((rd_T36 l1 x7_1).f2.f0))).trans hx571_0; replace hx571_1 := (cell_far (p := ⟨gb570, 0, none⟩) (by first | (rw [add_block]; exact hn571_0) | (show (Addr.add _ _).block ≠ _; rw [add_block]; exact hn571_0) | exact hn571_0) (.int .i64 ((rd_T36 l1 x7_1).f2.f0))).trans hx571_1; replace hx571_2 := (cell_far (p := ⟨gb570, 0, none⟩) (by first | (rw [add_block]; exact hn571_0) | (show (Addr.add _ _).block ≠ _; rw [add_block]; exact hn571_0) | exact hn571_0) (.int .i64 ((rd_T36 l1 x7_1).f2.f0))).trans hx571_2; replace hx571_3 := (cell_far (p := ⟨gb570, 0, none⟩) (by first | (rw [add_block]; exact hn571_0) | (show (Addr.add _ _).block ≠ _; rw [add_block]; exact hn571_0) | exact hn571_0) (.int .i64 ((rd_T36 l1 x7_1).f2.f0))).trans hx571_3; replace hx571_0 := (cell_far (p := ⟨gb570, 1, none⟩) (by first | (rw [add_block]; exact hn571_1) | (show (Addr.add _ _).block ≠ _; rw [add_block]; exact hn571_1) | exact hn571_1) (.string ((rd_T36 l1 x7_1).f2.f1))).trans hx571_0; replace hx571_1 := (cell_far (p := ⟨gb570, 1, none⟩) (by first | (rw [add_block]; exact hn571_1) | (show (Addr.add _ _).block ≠ _; rw [add_block]; exact hn571_1) | exact hn571_1) (.string ((rd_T36 l1 x7_1).f2.f1))).trans hx571_1; replace hx571_2 := (cell_far (p := ⟨gb570, 1, none⟩) (by first | (rw [add_block]; exact hn571_1) | (show (Addr.add _ _).block ≠ _; rw [add_block]; exact hn571_1) | exact hn571_1) (.string ((rd_T36 l1 x7_1).f2.f1))).trans hx571_2; replace hx571_3 := (cell_far (p := ⟨gb570, 1, none⟩) (by first | (rw [add_block]; exact hn571_1) | (show (Addr.add _ _).block ≠ _; rw [add_block]; exact hn571_1) | exact hn571_1) (.string ((rd_T36 l1 x7_1).f2.f1))).trans hx571_3; (try have hy571_0 := fun (n_ : Nat) => (show ((((w73.drewN n_).setCell ⟨gb570, 0, none⟩ (.int .i64 ((rd_T36 l1 x7_1).f2.f0))).setCell ⟨gb570, 1, none⟩ (.string ((rd_T36 l1 x7_1).f2.f1)))).cell? _ = some _ from hx571_0)); (try have hy571_1 := fun (n_ : Nat) => (show ((((w73.drewN n_).setCell ⟨gb570, 0, none⟩ (.int .i64 ((rd_T36 l1 x7_1).f2.f0))).setCell ⟨gb570, 1, none⟩ (.string ((rd_T36 l1 x7_1).f2.f1)))).cell? _ = some _ from hx571_1)); (try have hy571_2 := fun (n_ : Nat) => (show ((((w73.drewN n_).setCell ⟨gb570, 0, none⟩ (.int .i64 ((rd_T36 l1 x7_1).f2.f0))).setCell ⟨gb570, 1, none⟩ (.string ((rd_T36 l1 x7_1).f2.f1)))).cell? _ = some _ from hx571_2)); (try have hy571_3 := fun (n_ : Nat) => (show ((((w73.drewN n_).setCell ⟨gb570, 0, none⟩ (.int .i64 ((rd_T36 l1 x7_1).f2.f0))).setCell ⟨gb570, 1, none⟩ (.string ((rd_T36 l1 x7_1).f2.f1)))).cell? _ = some _ from hx571_3)); clear hn571_0; clear hn571_1; replace p571 := eq_true p571; replace q571 := eq_true q571; obtain ⟨hnb78, hnc78⟩ := nbo NB565_566; obtain ⟨hnb79, hnc79⟩ := nbo NB565_567; obtain ⟨hcz80_0, hcz80_1, hcz80_2, hfz80_0, hfz80_1, hfz80_2⟩ := cl3 BK565; obtain ⟨hnb81, hnc81⟩ := nbo NB567_566; obtain ⟨hcz82_0, hcz82_1, hcz82_2, hcz82_3, hcz82_4, hcz82_5, hfz82_0, hfz82_1, hfz82_2, hfz82_3, hfz82_4, hfz82_5⟩ := cl6 BK567)); try go_quiet (fail))
   go_roundg k1
   case measure => have := HK1.out; omega
   case rel => exact ⟨(wrap64 (x7_1 + 1)), (x568000_1), (true), ((rd_T36 l1 x7_1).f2.f0), ((rd_T36 l1 x7_1).f2.f1), ((rd_T36 l1 x7_1).f2.f0), ((rd_T36 l1 x7_1).f2.f1), sr, H', ⟨by have := HK1.out; omega⟩, ⟨kL BK565⟩, ⟨kL BK566⟩, ⟨kL BK567⟩, ⟨bL HB⟩⟩
 replace H := bnd H; obtain ⟨t572, A28, H⟩ := H
 have HC29 := am H
 clear H
 obtain ⟨p569, q569, ad569, e569, hx569_0, hx569_1, hx569_2, hx569_3⟩ := at_T36b HB HR1 x7_1; cases e569
 go_upto_if 31 with (first | ((with_reducible refine gd 8 rfl ?_); refine bx_ 8 #[.int .i64 0, .string ⟨#[]⟩] 30 ?_; intro gb570 hg w30 hbox hb; have BK570 := am hbox; have GW570 := gwe HB hg; have GE570 := GW570; obtain ⟨NB565_570, NB570_565⟩ := nbp (nbl BK565 hg); obtain ⟨NB566_570, NB570_566⟩ := nbp (nbl BK566 hg); obtain ⟨NB567_570, NB570_567⟩ := nbp (nbl BK567 hg); replace BK565 := bkb BK565 hb; replace BK566 := bkb BK566 hb; replace BK567 := bkb BK567 hb; replace HB := bst HB hb; clear hb hbox hg; obtain ⟨hnb31, hnc31⟩ := nbo NB570_565; obtain ⟨hnb32, hnc32⟩ := nbo NB570_566; obtain ⟨hnb33, hnc33⟩ := nbo NB570_567; obtain ⟨hcz34_0, hcz34_1, hfz34_0, hfz34_1⟩ := cl2 BK570; have p571 : 0 ≤ (x7_1 : Int) := dcd; have q571 : x7_1 < (l1.length : Int) := dcd; obtain ⟨ad571, e571, hx571_0, hx571_1, hx571_2, hx571_3⟩ := at_T36 HR1.out x7_1 p571 q571; obtain rfl : ad569 = ad571 := (by injection e571); have hn571_0 : ad569.block ≠ gb570 := Nat.ne_of_lt (Nat.lt_of_lt_of_le (by have := World.block_lt_of_cell? _ _ hx571_0; first | rwa [add_block] at this | exact this) GW570.out); have hn571_1 : ad569.block ≠ gb570 := Nat.ne_of_lt (Nat.lt_of_lt_of_le (by have := World.block_lt_of_cell? _ _ hx571_0; first | rwa [add_block] at this | exact this) GW570.out); replace hx571_0 := crd HB hx571_0; replace hx571_1 := crd HB hx571_1; replace hx571_2 := crd HB hx571_2; replace hx571_3 := crd HB hx571_3; replace hx571_0 := (cell_far (p := ⟨gb570, 0, none⟩) (by first | (rw [add_block]; exact hn571_0) | (show (Addr.add _ _).block ≠ _; rw [add_block]; exact hn571_0) | exact hn571_0) (.int .i64 ((rd_T36 l1 x7_1).f2.f0))).trans hx571_0; replace hx571_1 := (cell_far (p := ⟨gb570, 0, none⟩) (by first | (rw [add_block]; exact hn571_0) | (show (Addr.add _ _).block ≠ _; rw [add_block]; exact hn571_0) | exact hn571_0) (.int .i64 ((rd_T36 l1 x7_1).f2.f0))).trans hx571_1; replace hx571_2 := (cell_far (p := ⟨gb570, 0, none⟩) (by first | (rw [add_block]; exact hn571_0) | (show (Addr.add _ _).block ≠ _; rw [add_block]; exact hn571_0) | exact hn571_0) (.int .i64 ((rd_T36 l1 x7_1).f2.f0))).trans hx571_2; replace hx571_3 := (cell_far (p := ⟨gb570, 0, none⟩) (by first | (rw [add_block]; exact hn571_0) | (show (Addr.add _ _).block ≠ _; rw [add_block]; exact hn571_0) | exact hn571_0) (.int .i64 ((rd_T36 l1 x7_1).f2.f0))).trans hx571_3; replace hx571_0 := (cell_far (p := ⟨gb570, 1, none⟩) (by first | (rw [add_block]; exact hn571_1) | (show (Addr.add _ _).block ≠ _; rw [add_block]; exact hn571_1) | exact hn571_1) (.string ((rd_T36 l1 x7_1).f2.f1))).trans hx571_0; replace hx571_1 := (cell_far (p := ⟨gb570, 1, none⟩) (by first | (rw [add_block]; exact hn571_1) | (show (Addr.add _ _).block ≠ _; rw [add_block]; exact hn571_1) | exact hn571_1) (.string ((rd_T36 l1 x7_1).f2.f1))).trans hx571_1; replace hx571_2 := (cell_far (p := ⟨gb570, 1, none⟩) (by first | (rw [add_block]; exact hn571_1) | (show (Addr.add _ _).block ≠ _; rw [add_block]; exact hn571_1) | exact hn571_1) (.string ((rd_T36 l1 x7_1).f2.f1))).trans hx571_2; replace hx571_3 := (cell_far (p := ⟨gb570, 1, none⟩) (by first | (rw [add_block]; exact hn571_1) | (show (Addr.add _ _).block ≠ _; rw [add_block]; exact hn571_1) | exact hn571_1) (.string ((rd_T36 l1 x7_1).f2.f1))).trans hx571_3; (try have hy571_0 := fun (n_ : Nat) => (show ((((w30.drewN n_).setCell ⟨gb570, 0, none⟩ (.int .i64 ((rd_T36 l1 x7_1).f2.f0))).setCell ⟨gb570, 1, none⟩ (.string ((rd_T36 l1 x7_1).f2.f1)))).cell? _ = some _ from hx571_0)); (try have hy571_1 := fun (n_ : Nat) => (show ((((w30.drewN n_).setCell ⟨gb570, 0, none⟩ (.int .i64 ((rd_T36 l1 x7_1).f2.f0))).setCell ⟨gb570, 1, none⟩ (.string ((rd_T36 l1 x7_1).f2.f1)))).cell? _ = some _ from hx571_1)); (try have hy571_2 := fun (n_ : Nat) => (show ((((w30.drewN n_).setCell ⟨gb570, 0, none⟩ (.int .i64 ((rd_T36 l1 x7_1).f2.f0))).setCell ⟨gb570, 1, none⟩ (.string ((rd_T36 l1 x7_1).f2.f1)))).cell? _ = some _ from hx571_2)); (try have hy571_3 := fun (n_ : Nat) => (show ((((w30.drewN n_).setCell ⟨gb570, 0, none⟩ (.int .i64 ((rd_T36 l1 x7_1).f2.f0))).setCell ⟨gb570, 1, none⟩ (.string ((rd_T36 l1 x7_1).f2.f1)))).cell? _ = some _ from hx571_3)); clear hn571_0; clear hn571_1; replace p571 := eq_true p571; replace q571 := eq_true q571; obtain ⟨hnb35, hnc35⟩ := nbo NB565_566; obtain ⟨hnb36, hnc36⟩ := nbo NB565_567; obtain ⟨hcz37_0, hcz37_1, hcz37_2, hfz37_0, hfz37_1, hfz37_2⟩ := cl3 BK565; obtain ⟨hnb38, hnc38⟩ := nbo NB567_566; obtain ⟨hcz39_0, hcz39_1, hcz39_2, hcz39_3, hcz39_4, hcz39_5, hfz39_0, hfz39_1, hfz39_2, hfz39_3, hfz39_4, hfz39_5⟩ := cl6 BK567) | (go_at_call 17; (with_reducible refine (spec_ValLess.calls A28.out).mono ?_); rintro e w40 ⟨rfl, hb⟩; replace BK565 := bkb BK565 hb; replace BK566 := bkb BK566 hb; replace BK567 := bkb BK567 hb; replace BK570 := am (blk_below (g := gb570) (o := .cells #[.int .i64 ((rd_T36 l1 x7_1).f2.f0), .string ((rd_T36 l1 x7_1).f2.f1)] 30 (0, 0)) (blk_later BK570.out) hb); replace HB := bst HB hb; clear hb))
 repeat (go_quiet (fail); go_upto_if 31 with (first | ((with_reducible refine gd 8 rfl ?_); refine bx_ 8 #[.int .i64 0, .string ⟨#[]⟩] 30 ?_; intro gb570 hg w30 hbox hb; have BK570 := am hbox; have GW570 := gwe HB hg; have GE570 := GW570; obtain ⟨NB565_570, NB570_565⟩ := nbp (nbl BK565 hg); obtain ⟨NB566_570, NB570_566⟩ := nbp (nbl BK566 hg); obtain ⟨NB567_570, NB570_567⟩ := nbp (nbl BK567 hg); replace BK565 := bkb BK565 hb; replace BK566 := bkb BK566 hb; replace BK567 := bkb BK567 hb; replace HB := bst HB hb; clear hb hbox hg; obtain ⟨hnb31, hnc31⟩ := nbo NB570_565; obtain ⟨hnb32, hnc32⟩ := nbo NB570_566; obtain ⟨hnb33, hnc33⟩ := nbo NB570_567; obtain ⟨hcz34_0, hcz34_1, hfz34_0, hfz34_1⟩ := cl2 BK570; have p571 : 0 ≤ (x7_1 : Int) := dcd; have q571 : x7_1 < (l1.length : Int) := dcd; obtain ⟨ad571, e571, hx571_0, hx571_1, hx571_2, hx571_3⟩ := at_T36 HR1.out x7_1 p571 q571; obtain rfl : ad569 = ad571 := (by injection e571); have hn571_0 : ad569.block ≠ gb570 := Nat.ne_of_lt (Nat.lt_of_lt_of_le (by have := World.block_lt_of_cell? _ _ hx571_0; first | rwa [add_block] at this | exact this) GW570.out); have hn571_1 : ad569.block ≠ gb570 := Nat.ne_of_lt (Nat.lt_of_lt_of_le (by have := World.block_lt_of_cell? _ _ hx571_0; first | rwa [add_block] at this | exact this) GW570.out); replace hx571_0 := crd HB hx571_0; replace hx571_1 := crd HB hx571_1; replace hx571_2 := crd HB hx571_2; replace hx571_3 := crd HB hx571_3; replace hx571_0 := (cell_far (p := ⟨gb570, 0, none⟩) (by first | (rw [add_block]; exact hn571_0) | (show (Addr.add _ _).block ≠ _; rw [add_block]; exact hn571_0) | exact hn571_0) (.int .i64 ((rd_T36 l1 x7_1).f2.f0))).trans hx571_0; replace hx571_1 := (cell_far (p := ⟨gb570, 0, none⟩) (by first | (rw [add_block]; exact hn571_0) | (show (Addr.add _ _).block ≠ _; rw [add_block]; exact hn571_0) | exact hn571_0) (.int .i64 ((rd_T36 l1 x7_1).f2.f0))).trans hx571_1; replace hx571_2 := (cell_far (p := ⟨gb570, 0, none⟩) (by first | (rw [add_block]; exact hn571_0) | (show (Addr.add _ _).block ≠ _; rw [add_block]; exact hn571_0) | exact hn571_0) (.int .i64 ((rd_T36 l1 x7_1).f2.f0))).trans hx571_2; replace hx571_3 := (cell_far (p := ⟨gb570, 0, none⟩) (by first | (rw [add_block]; exact hn571_0) | (show (Addr.add _ _).block ≠ _; rw [add_block]; exact hn571_0) | exact hn571_0) (.int .i64 ((rd_T36 l1 x7_1).f2.f0))).trans hx571_3; replace hx571_0 := (cell_far (p := ⟨gb570, 1, none⟩) (by first | (rw [add_block]; exact hn571_1) | (show (Addr.add _ _).block ≠ _; rw [add_block]; exact hn571_1) | exact hn571_1) (.string ((rd_T36 l1 x7_1).f2.f1))).trans hx571_0; replace hx571_1 := (cell_far (p := ⟨gb570, 1, none⟩) (by first | (rw [add_block]; exact hn571_1) | (show (Addr.add _ _).block ≠ _; rw [add_block]; exact hn571_1) | exact hn571_1) (.string ((rd_T36 l1 x7_1).f2.f1))).trans hx571_1; replace hx571_2 := (cell_far (p := ⟨gb570, 1, none⟩) (by first | (rw [add_block]; exact hn571_1) | (show (Addr.add _ _).block ≠ _; rw [add_block]; exact hn571_1) | exact hn571_1) (.string ((rd_T36 l1 x7_1).f2.f1))).trans hx571_2; replace hx571_3 := (cell_far (p := ⟨gb570, 1, none⟩) (by first | (rw [add_block]; exact hn571_1) | (show (Addr.add _ _).block ≠ _; rw [add_block]; exact hn571_1) | exact hn571_1) (.string ((rd_T36 l1 x7_1).f2.f1))).trans hx571_3; (try have hy571_0 := fun (n_ : Nat) => (show ((((w30.drewN n_).setCell ⟨gb570, 0, none⟩ (.int .i64 ((rd_T36 l1 x7_1).f2.f0))).setCell ⟨gb570, 1, none⟩ (.string ((rd_T36 l1 x7_1).f2.f1)))).cell? _ = some _ from hx571_0)); (try have hy571_1 := fun (n_ : Nat) => (show ((((w30.drewN n_).setCell ⟨gb570, 0, none⟩ (.int .i64 ((rd_T36 l1 x7_1).f2.f0))).setCell ⟨gb570, 1, none⟩ (.string ((rd_T36 l1 x7_1).f2.f1)))).cell? _ = some _ from hx571_1)); (try have hy571_2 := fun (n_ : Nat) => (show ((((w30.drewN n_).setCell ⟨gb570, 0, none⟩ (.int .i64 ((rd_T36 l1 x7_1).f2.f0))).setCell ⟨gb570, 1, none⟩ (.string ((rd_T36 l1 x7_1).f2.f1)))).cell? _ = some _ from hx571_2)); (try have hy571_3 := fun (n_ : Nat) => (show ((((w30.drewN n_).setCell ⟨gb570, 0, none⟩ (.int .i64 ((rd_T36 l1 x7_1).f2.f0))).setCell ⟨gb570, 1, none⟩ (.string ((rd_T36 l1 x7_1).f2.f1)))).cell? _ = some _ from hx571_3)); clear hn571_0; clear hn571_1; replace p571 := eq_true p571; replace q571 := eq_true q571; obtain ⟨hnb35, hnc35⟩ := nbo NB565_566; obtain ⟨hnb36, hnc36⟩ := nbo NB565_567; obtain ⟨hcz37_0, hcz37_1, hcz37_2, hfz37_0, hfz37_1, hfz37_2⟩ := cl3 BK565; obtain ⟨hnb38, hnc38⟩ := nbo NB567_566; obtain ⟨hcz39_0, hcz39_1, hcz39_2, hcz39_3, hcz39_4, hcz39_5, hfz39_0, hfz39_1, hfz39_2, hfz39_3, hfz39_4, hfz39_5⟩ := cl6 BK567) | (go_at_call 17; (with_reducible refine (spec_ValLess.calls A28.out).mono ?_); rintro e w40 ⟨rfl, hb⟩; replace BK565 := bkb BK565 hb; replace BK566 := bkb BK566 hb; replace BK567 := bkb BK567 hb; replace BK570 := am (blk_below (g := gb570) (o := .cells #[.int .i64 ((rd_T36 l1 x7_1).f2.f0), .string ((rd_T36 l1 x7_1).f2.f1)] 30 (0, 0)) (blk_later BK570.out) hb); replace HB := bst HB hb; clear hb)))
 (try simp only [Act.put, List.setIfInBounds_toArray, List.set_cons_zero, List.set_cons_succ])
 go_cut [] (fun wc => ∃ (kq : Nat) (x568002_28 : Int) (x568003_28 : ByteArray), Aside0 (spec_StatsOf.j1 kq l1 x7_1 a0_0 a0_1 a0_2 x568000_1 true x568002_28 x568003_28 x568004_1 x568005_1 ((rd_T36 l1 x7_1).f2.f0) ((rd_T36 l1 x7_1).f2.f1) = some (r1, r2, r3, r4, r5, r6, r7)) ∧ Aside0 (kq ≤ k1) ∧ Aside0 (wc.heap[gb565]? = some (.cells #[.int .i64 a0_0, .int .i64 a0_1, .int .i64 a0_2] 25 (0, 0))) ∧ Aside0 (wc.heap[gb566]? = some (.cells #[.int .i64 0, .bool false, .int .i64 0, .string ⟨#[]⟩, .int .i64 0, .string ⟨#[]⟩] 32 (0, 0))) ∧ Aside0 (wc.heap[gb567]? = some (.cells #[.int .i64 x568000_1, .bool true, .int .i64 x568002_28, .string x568003_28, .int .i64 x568004_1, .string x568005_1] 32 (0, 0))) ∧ Aside0 (wc.heap[gb570]? = some (.cells #[.int .i64 ((rd_T36 l1 x7_1).f2.f0), .string ((rd_T36 l1 x7_1).f2.f1)] 30 (0, 0))) ∧ Aside0 (Below w.heap.size w wc))
 case first =>
  have H := HC29.out
  clear HC29
  replace H := ibt H; obtain ⟨rfl, H⟩ | ⟨rfl, H⟩ := H
  rotate_left
  · have H' := am H; clear H
    go_wp2
    repeat (go_quiet (fail); try go_wp2)
    go_meet
    case rel => exact ⟨_, (x568002_1), (x568003_1), H', ⟨by have := HK1.out; first | omega | exact Nat.le_refl _⟩, ⟨kL BK565⟩, ⟨kL BK566⟩, ⟨kL BK567⟩, ⟨kL BK570⟩, ⟨bL HB⟩⟩
  have H' := am H; clear H
  obtain ⟨hnb42, hnc42⟩ := nbo NB570_565
  obtain ⟨hnb43, hnc43⟩ := nbo NB570_566
  obtain ⟨hnb44, hnc44⟩ := nbo NB570_567
  obtain ⟨_, _, _, _⟩ := cl2 BK570
  obtain ⟨hnb46, hnc46⟩ := nbo NB567_565
  obtain ⟨hnb47, hnc47⟩ := nbo NB567_566
  obtain ⟨_, _, _, _, _, _, _, _, _, _, _, _⟩ := cl6 BK567
  go_wp2
  repeat (go_quiet (fail); try go_wp2)
  go_meet
  case rel => exact ⟨_, ((rd_T36 l1 x7_1).f2.f0), ((rd_T36 l1 x7_1).f2.f1), H', ⟨by have := HK1.out; first | omega | exact Nat.le_refl _⟩, ⟨kL BK565⟩, ⟨kL BK566⟩, ⟨kL BK567⟩, ⟨kL BK570⟩, ⟨bL HB⟩⟩
 clear HC29
 try clear c1 c4 c14 c14b0 c15b0 c16 c16b0 c27 hcz10_0 hcz10_1 hcz10_2 hcz10_3 hcz10_4 hcz10_5 hcz12_0 hcz12_1 hcz12_2 hcz34_0 hcz34_1 hcz37_0 hcz37_1 hcz37_2 hcz39_0 hcz39_1 hcz39_2 hcz39_3 hcz39_4 hcz39_5 hfz10_0 hfz10_1 hfz10_2 hfz10_3 hfz10_4 hfz10_5 hfz12_0 hfz12_1 hfz12_2 hfz34_0 hfz34_1 hfz37_0 hfz37_1 hfz37_2 hfz39_0 hfz39_1 hfz39_2 hfz39_3 hfz39_4 hfz39_5 hx569_0 hx569_1 hx569_2 hx569_3 hx571_0 hx571_1 hx571_2 hx571_3 p569 p571 q569 q571
 obtain ⟨kq, x568002_28, x568003_28, HA, HJ28, BK565, BK566, BK567, BK570, HB⟩ := hcut
 cases kq with
 | zero => exact absurd HA.out (by simp [spec_StatsOf.j1])
 | succ kj28 => ?_
 have H := HA.out
 clear HA
 simp only [spec_StatsOf.j1] at H
 replace H := bnd H; obtain ⟨t573, A49, H⟩ := H
 replace H := ibt H; obtain ⟨rfl, H⟩ | ⟨rfl, H⟩ := H
 rotate_left
 · have H' := am H; clear H
   obtain ⟨hnb63, hnc63⟩ := nbo NB565_566
   obtain ⟨hnb64, hnc64⟩ := nbo NB565_567
   obtain ⟨hnb65, hnc65⟩ := nbo NB565_570
   obtain ⟨_, _, _, _, _, _⟩ := cl3 BK565
   obtain ⟨hnb67, hnc67⟩ := nbo NB567_566
   obtain ⟨hnb68, hnc68⟩ := nbo NB567_570
   obtain ⟨_, _, _, _, _, _, _, _, _, _, _, _⟩ := cl6 BK567
   obtain ⟨hnb70, hnc70⟩ := nbo NB570_566
   obtain ⟨_, _, _, _⟩ := cl2 BK570
   iterate 6 (try go_wp2_with (first | (go_at_call 17; (with_reducible refine (spec_ValLess.calls A49.out).mono ?_); rintro e w72 ⟨rfl, hb⟩; replace BK565 := bkb BK565 hb; replace BK566 := bkb BK566 hb; replace BK567 := bkb BK567 hb; replace BK570 := bkb BK570 hb; replace HB := bst HB hb; clear hb)); try go_quiet (fail))
   go_roundg kj28
   case measure => have := HK1.out; have := HJ28.out; omega
   case rel => exact ⟨(wrap64 (x7_1 + 1)), (x568000_1), (true), (x568002_28), (x568003_28), (x568004_1), (x568005_1), sr, H', ⟨by have := HK1.out; have := HJ28.out; omega⟩, ⟨kL BK565⟩, ⟨kL BK566⟩, ⟨kL BK567⟩, ⟨bL HB⟩⟩
 have H' := am H; clear H
 obtain ⟨hnb51, hnc51⟩ := nbo NB565_566
 obtain ⟨hnb52, hnc52⟩ := nbo NB565_567
 obtain ⟨hnb53, hnc53⟩ := nbo NB565_570
 obtain ⟨_, _, _, _, _, _⟩ := cl3 BK565
 obtain ⟨hnb55, hnc55⟩ := nbo NB567_566
 obtain ⟨hnb56, hnc56⟩ := nbo NB567_570
 obtain ⟨_, _, _, _, _, _, _, _, _, _, _, _⟩ := cl6 BK567
 obtain ⟨hnb58, hnc58⟩ := nbo NB570_566
 obtain ⟨_, _, _, _⟩ := cl2 BK570
 iterate 6 (try go_wp2_with (first | (go_at_call 17; (with_reducible refine (spec_ValLess.calls A49.out).mono ?_); rintro e w60 ⟨rfl, hb⟩; replace BK565 := bkb BK565 hb; replace BK566 := bkb BK566 hb; replace BK567 := bkb BK567 hb; replace BK570 := bkb BK570 hb; replace HB := bst HB hb; clear hb; obtain ⟨hcz61_0, hcz61_1, hfz61_0, hfz61_1⟩ := cl2 BK570; obtain ⟨hcz62_0, hcz62_1, hcz62_2, hcz62_3, hcz62_4, hcz62_5, hfz62_0, hfz62_1, hfz62_2, hfz62_3, hfz62_4, hfz62_5⟩ := cl6 BK567)); try go_quiet (fail))
 go_roundg kj28
 case measure => have := HK1.out; have := HJ28.out; omega
 case rel => exact ⟨(wrap64 (x7_1 + 1)), (x568000_1), (true), (x568002_28), (x568003_28), (((rd_T36 l1 x7_1).f2.f0)), (((rd_T36 l1 x7_1).f2.f1)), sr, H', ⟨by have := HK1.out; have := HJ28.out; omega⟩, ⟨kL BK565⟩, ⟨kL BK566⟩, ⟨kL BK567⟩, ⟨bL HB⟩⟩
/-! ### impl_statsOk: function 20 -/
def impl_statsOk.j0 : Nat → Bool → Int → Int → Int → Int → Bool → Int → ByteArray → Int → ByteArray → Option (Bool)
  | 0, _, _, _, _, _, _, _, _, _, _ => none
  | k + 1, x13, x575000, x575001, x575002, x576000, x576001, x576002, x576003, x576004, x576005 => if x13 = true then (some false) else (if x576001 = true then ((impl_ValOk.f x575000 x576002 x576003).bind fun t578 => (if t578 = true then ((impl_ValOk.f x575000 x576004 x576005).bind fun t579 => (if t579 = true then ((impl_ValLess.f k x575000 x576004 x576005 x576002 x576003).bind fun t580 => (some (!t580))) else (some false))) else (some false))) else (if (x576002 == 0 && (x576003.toList == ([] : List UInt8))) = true then (some (x576004 == 0 && (x576005.toList == ([] : List UInt8)))) else (some false)))
def impl_statsOk.f (k : Nat) (a0_0 : Int) (a0_1 : Int) (a0_2 : Int) (a1_0 : Int) (a1_1 : Bool) (a1_2 : Int) (a1_3 : ByteArray) (a1_4 : Int) (a1_5 : ByteArray) : Option (Bool) := (impl_LeafOk.f a0_0 a0_1 a0_2).bind fun t576 => (if t576 = true then ((impl_within.f a1_0 0 2000).bind fun t577 => (impl_statsOk.j0 k (!t577) a0_0 a0_1 a0_2 a1_0 a1_1 a1_2 a1_3 a1_4 a1_5)) else (impl_statsOk.j0 k true a0_0 a0_1 a0_2 a1_0 a1_1 a1_2 a1_3 a1_4 a1_5))
theorem impl_statsOk.calls {k : Nat} {a0_0 a0_1 a0_2 a1_0 : Int} {a1_1 : Bool} {a1_2 : Int} {a1_3 : ByteArray} {a1_4 : Int} {a1_5 : ByteArray} {r : Bool} {w : World} (h : impl_statsOk.f k a0_0 a0_1 a0_2 a1_0 a1_1 a1_2 a1_3 a1_4 a1_5 = some r) :
    Calls Try.prog 20 #[.agg #[.int .i64 a0_0, .int .i64 a0_1, .int .i64 a0_2], .agg #[.int .i64 a1_0, .bool a1_1, .int .i64 a1_2, .string a1_3, .int .i64 a1_4, .string a1_5]] w fun e w' => e = .returned (.bool r) ∧ Below w.heap.size w w' := by
 have hu25 := Try.underlying25
 have hu32 := Try.underlying32
 have hu30 := Try.underlying30
 have HB := am (Below.refl w.heap.size w)
 have H := h; clear h; unfold impl_statsOk.f at H
 have HC3 := am H
 clear H
 go_enter Try.func20, Try.ntmps20
 go_upto_region 1 with (first | ((with_reducible refine gd 2 rfl ?_); refine bxw 2 rfl #[.int .i64 a0_0, .int .i64 a0_1, .int .i64 a0_2] 25 HB ?_; clear HB; intro gb574 w4 BK574 GW574 GE574 HB) | ((with_reducible refine gd 3 rfl ?_); refine bxv 3 rfl #[.int .i64 a1_0, .bool a1_1, .int .i64 a1_2, .string a1_3, .int .i64 a1_4, .string a1_5] 32 HB ?_; clear HB; intro gb575 w5 BK575 GW575 GE575 HB hg hb; obtain ⟨NB574_575, NB575_574⟩ := nbp (nbl BK574 hg); replace BK574 := bkb BK574 hb; clear hg hb))
 (try simp only [Act.put, List.setIfInBounds_toArray, List.set_cons_zero, List.set_cons_succ])
 go_cut [13] (fun v13 wc => ∃ (kq : Nat) (x13_2 : Bool), v13 = .bool x13_2 ∧ Aside0 (impl_statsOk.j0 kq x13_2 a0_0 a0_1 a0_2 a1_0 a1_1 a1_2 a1_3 a1_4 a1_5 = some r) ∧ Aside0 (kq ≤ k) ∧ Aside0 (wc.heap[gb574]? = some (.cells #[.int .i64 a0_0, .int .i64 a0_1, .int .i64 a0_2] 25 (0, 0))) ∧ Aside0 (wc.heap[gb575]? = some (.cells #[.int .i64 a1_0, .bool a1_1, .int .i64 a1_2, .string a1_3, .int .i64 a1_4, .string a1_5] 32 (0, 0))) ∧ Aside0 (Below w.heap.size w wc))
 case first =>
  have H := HC3.out
  clear HC3
  replace H := bnd H; obtain ⟨t576, A6, H⟩ := H
  replace H := ibt H; obtain ⟨rfl, H⟩ | ⟨rfl, H⟩ := H
  rotate_left
  · have H' := am H; clear H
    obtain ⟨hnb13, hnc13⟩ := nbo NB574_575
    obtain ⟨_, _, _, _, _, _⟩ := cl3 BK574
    go_wp2_with (first | ((with_reducible refine gc 14 rfl ?_); refine gc1 (some 6) Try.func14 rfl (impl_LeafOk.calls A6.out) ?_; rintro w15 hb; replace BK574 := bkb BK574 hb; replace BK575 := bkb BK575 hb; replace HB := bst HB hb; clear hb))
    go_meet
    case rel => exact ⟨_, (true), sr, H', ⟨by first | omega | exact Nat.le_refl _⟩, ⟨kL BK574⟩, ⟨kL BK575⟩, ⟨bL HB⟩⟩
  replace H := bnd H; obtain ⟨t577, A8, H⟩ := H
  have H' := am H; clear H
  obtain ⟨hnb9, hnc9⟩ := nbo NB574_575
  obtain ⟨_, _, _, _, _, _⟩ := cl3 BK574
  go_wp2_with (first | ((with_reducible refine gc 14 rfl ?_); refine gc1 (some 6) Try.func14 rfl (impl_LeafOk.calls A6.out) ?_; rintro w11 hb; replace BK574 := bkb BK574 hb; replace BK575 := bkb BK575 hb; replace HB := bst HB hb; clear hb; obtain ⟨_, _, _, _, _, _, _, _, _, _, _, _⟩ := cl6 BK575) | (go_at_call 31; (with_reducible refine (impl_within.calls A8.out).mono ?_); rintro e w' ⟨rfl, ⟨nd, rfl⟩⟩))
  go_meet
  case rel => exact ⟨_, (!t577), sr, H', ⟨by first | omega | exact Nat.le_refl _⟩, ⟨kL BK574⟩, ⟨kL BK575⟩, ⟨bL HB⟩⟩
 clear HC3
 obtain ⟨kq, x13_2, rfl, HA, HJ2, BK574, BK575, HB⟩ := hcut
 cases kq with
 | zero => exact absurd HA.out (by simp [impl_statsOk.j0])
 | succ kj2 => ?_
 have H := HA.out
 clear HA
 simp only [impl_statsOk.j0] at H
 replace H := ibt H; obtain ⟨rfl, H⟩ | ⟨rfl, H⟩ := H
 · obtain rfl := Option.some.inj H
   go_wp2
   go_ret
   exact fin_ (bL HB)
 replace H := ibt H; obtain ⟨rfl, H⟩ | ⟨rfl, H⟩ := H
 rotate_left
 · by_cases c44 : (a1_2 == 0 && (a1_3.toList == ([] : List UInt8))) = true
   · rw [if_pos c44] at H
     have c44b0 : (a1_2 == 0 && (a1_3.toList == ([] : List UInt8))) = true := c44
     (try (have c44b1 : decide (a1_2 = 0 && (a1_3.toList == ([] : List UInt8))) = true := by simpa using c44))
     (try (have c44b2 : (a1_2 == 0 && (a1_3.toList == ([] : List UInt8))) = true := by simpa using c44))
     (try (have c44b3 : (a1_2 == 0 && a1_3.toList.isEmpty) = true := by simpa using c44))
     clear c44
     obtain rfl := Option.some.inj H
     obtain ⟨hnb45, hnc45⟩ := nbo NB575_574
     obtain ⟨_, _, _, _, _, _, _, _, _, _, _, _⟩ := cl6 BK575
     go_wp2
     go_ret
     exact fin_ (bL HB)
   rw [if_neg c44] at H
   have c44b0 : (a1_2 == 0 && (a1_3.toList == ([] : List UInt8))) = false := by simpa using c44
   (try (have c44b1 : decide (a1_2 = 0 && (a1_3.toList == ([] : List UInt8))) = false := by simpa using c44))
   (try (have c44b2 : (a1_2 == 0 && (a1_3.toList == ([] : List UInt8))) = false := by simpa using c44))
   (try (have c44b3 : ¬ (a1_2 = 0 && (a1_3.toList == ([] : List UInt8))) := by simpa using c44))
   (try (have c44b4 : (a1_2 == 0 && a1_3.toList.isEmpty) = false := by simpa using c44))
   clear c44
   obtain rfl := Option.some.inj H
   obtain ⟨hnb47, hnc47⟩ := nbo NB575_574
   obtain ⟨_, _, _, _, _, _, _, _, _, _, _, _⟩ := cl6 BK575
   go_wp2
   go_ret
   exact fin_ (bL HB)
 replace H := bnd H; obtain ⟨t578, A18, H⟩ := H
 replace H := ibt H; obtain ⟨rfl, H⟩ | ⟨rfl, H⟩ := H
 rotate_left
 · obtain rfl := Option.some.inj H
   obtain ⟨hnb40, hnc40⟩ := nbo NB575_574
   obtain ⟨_, _, _, _, _, _, _, _, _, _, _, _⟩ := cl6 BK575
   obtain ⟨_, _, _, _, _, _⟩ := cl3 BK574
   go_wp2_with (first | ((with_reducible refine gc 18 rfl ?_); refine gc1 (some 31) Try.func18 rfl (impl_ValOk.calls A18.out) ?_; rintro w43 hb; replace BK574 := bkb BK574 hb; replace BK575 := bkb BK575 hb; replace HB := bst HB hb; clear hb))
   go_ret
   exact fin_ (bL HB)
 replace H := bnd H; obtain ⟨t579, A20, H⟩ := H
 replace H := ibt H; obtain ⟨rfl, H⟩ | ⟨rfl, H⟩ := H
 rotate_left
 · obtain rfl := Option.some.inj H
   obtain ⟨hnb33, hnc33⟩ := nbo NB575_574
   obtain ⟨_, _, _, _, _, _, _, _, _, _, _, _⟩ := cl6 BK575
   obtain ⟨_, _, _, _, _, _⟩ := cl3 BK574
   go_wp2_with (first | ((with_reducible refine gc 18 rfl ?_); refine gc1 (some 31) Try.func18 rfl (impl_ValOk.calls A18.out) ?_; rintro w36 hb; replace BK574 := bkb BK574 hb; replace BK575 := bkb BK575 hb; replace HB := bst HB hb; clear hb; obtain ⟨_, _, _, _, _, _⟩ := cl3 BK574; obtain ⟨_, _, _, _, _, _, _, _, _, _, _, _⟩ := cl6 BK575) | (go_at_call 18; (with_reducible refine (impl_ValOk.calls A20.out).mono ?_); rintro e w39 ⟨rfl, hb⟩; replace BK574 := bkb BK574 hb; replace BK575 := bkb BK575 hb; replace HB := bst HB hb; clear hb))
   go_ret
   exact fin_ (bL HB)
 replace H := bnd H; obtain ⟨t580, A22, H⟩ := H
 obtain rfl := Option.some.inj H
 obtain ⟨hnb23, hnc23⟩ := nbo NB575_574
 obtain ⟨_, _, _, _, _, _, _, _, _, _, _, _⟩ := cl6 BK575
 obtain ⟨_, _, _, _, _, _⟩ := cl3 BK574
 go_wp2_with (first | ((with_reducible refine gc 18 rfl ?_); refine gc1 (some 31) Try.func18 rfl (impl_ValOk.calls A18.out) ?_; rintro w26 hb; replace BK574 := bkb BK574 hb; replace BK575 := bkb BK575 hb; replace HB := bst HB hb; clear hb; obtain ⟨_, _, _, _, _, _⟩ := cl3 BK574; obtain ⟨_, _, _, _, _, _, _, _, _, _, _, _⟩ := cl6 BK575) | (go_at_call 18; (with_reducible refine (impl_ValOk.calls A20.out).mono ?_); rintro e w29 ⟨rfl, hb⟩; replace BK574 := bkb BK574 hb; replace BK575 := bkb BK575 hb; replace HB := bst HB hb; clear hb; obtain ⟨_, _, _, _, _, _⟩ := cl3 BK574; obtain ⟨_, _, _, _, _, _, _, _, _, _, _, _⟩ := cl6 BK575) | (go_at_call 8; (with_reducible refine (impl_ValLess.calls A22.out).mono ?_); rintro e w32 ⟨rfl, hb⟩; replace BK574 := bkb BK574 hb; replace BK575 := bkb BK575 hb; replace HB := bst HB hb; clear hb))
 go_ret
 exact fin_ (bL HB)
/-! ### impl_longNode: function 38 -/
def impl_longNode.f (a0 : Int) (a1 : Int) : Option (Int × Int × Int × ByteArray × Int) := some (6, a0, a1, (⟨#[]⟩ : ByteArray), 0)
theorem impl_longNode.calls {a0 a1 r1 r2 r3 : Int} {r4 : ByteArray} {r5 : Int} {w : World} (h : impl_longNode.f a0 a1 = some (r1, r2, r3, r4, r5)) :
    Calls Try.prog 38 #[.int .i64 a0, .int .i64 a1] w fun e w' => e = .returned (.agg #[.int .i64 r1, .int .i64 r2, .int .i64 r3, .string r4, .int .i64 r5]) ∧ Below w.heap.size w w' := by
 have hu76 := Try.underlying76
 have HB := am (Below.refl w.heap.size w)
 have H := h; clear h; unfold impl_longNode.f at H
 replace H := sj5 H; obtain ⟨rfl, rfl, rfl, rfl, rfl⟩ := H
 go_enter Try.func38, Try.ntmps38
 go_wp2_with (first | ((with_reducible refine gd 4 rfl ?_); refine bxw 4 rfl #[.int .i64 0, .int .i64 0, .int .i64 0, .string ⟨#[]⟩, .int .i64 0] 76 HB ?_; clear HB; intro gb581 w3 BK581 GW581 GE581 HB; obtain ⟨_, _, _, _, _, _, _, _, _, _⟩ := cl5 BK581))
 refine bodyPost_ret (results_cell_row rfl _ _ gb581 76 #[.int .i64 6, .int .i64 a0, .int .i64 a1, .string ⟨#[]⟩, .int .i64 0] (0, 0) _ rfl (kL BK581) Try.underlying76 rfl (by kernel_rfl)) rfl ?_
 exact fin_ (bL HB)
/-! ### impl_textNode: function 39 -/
def impl_textNode.f (a0 : Int) (a1 : ByteArray) : Option (Int × Int × Int × ByteArray × Int) := some (8, a0, 0, a1, 0)
theorem impl_textNode.calls {a0 : Int} {a1 : ByteArray} {r1 r2 r3 : Int} {r4 : ByteArray} {r5 : Int} {w : World} (h : impl_textNode.f a0 a1 = some (r1, r2, r3, r4, r5)) :
    Calls Try.prog 39 #[.int .i64 a0, .string a1] w fun e w' => e = .returned (.agg #[.int .i64 r1, .int .i64 r2, .int .i64 r3, .string r4, .int .i64 r5]) ∧ Below w.heap.size w w' := by
 have hu76 := Try.underlying76
 have HB := am (Below.refl w.heap.size w)
 have H := h; clear h; unfold impl_textNode.f at H
 replace H := sj5 H; obtain ⟨rfl, rfl, rfl, rfl, rfl⟩ := H
 go_enter Try.func39, Try.ntmps39
 go_wp2_with (first | ((with_reducible refine gd 4 rfl ?_); refine bxw 4 rfl #[.int .i64 0, .int .i64 0, .int .i64 0, .string ⟨#[]⟩, .int .i64 0] 76 HB ?_; clear HB; intro gb582 w3 BK582 GW582 GE582 HB; obtain ⟨_, _, _, _, _, _, _, _, _, _⟩ := cl5 BK582))
 refine bodyPost_ret (results_cell_row rfl _ _ gb582 76 #[.int .i64 8, .int .i64 a0, .int .i64 0, .string a1, .int .i64 0] (0, 0) _ rfl (kL BK582) Try.underlying76 rfl (by kernel_rfl)) rfl ?_
 exact fin_ (bL HB)
/-! ### impl_valsOk: function 71 -/
def impl_valsOk.l0 : Nat → Int → List (S30) → List (S30) → Int → Int → Option (Bool)
  | 0, _, _, _, _, _ => none
  | k + 1, x0, x1, x7, x8, x9 => if x9 < x8 then (if 0 ≤ x9 then (if x9 < (x7.length : Int) then ((impl_ValOk.f x0 ((rd_T30 x7 x9).f0) ((rd_T30 x7 x9).f1)).bind fun t585 => (if t585 = true then (impl_valsOk.l0 k x0 x1 x7 x8 (wrap64 (x9 + 1))) else (some false))) else (none)) else (none)) else (if (x1.length : Int) ≤ 2000 then ((impl_TypeOk.f x0).bind fun t586 => (some t586)) else (some false))
def impl_valsOk.f (k : Nat) (a0 : Int) (l1 : List (S30)) : Option (Bool) := impl_valsOk.l0 k a0 l1 l1 (l1.length : Int) 0
theorem impl_valsOk.calls {k : Nat} {a0 : Int} {A1 : Option Addr} {c1 : Nat} {l1 : List (S30)} {r : Bool} {w : World} (hr1 : Kd.C k30 w A1 l1.length l1) (hc1 : l1.length ≤ c1) (h : impl_valsOk.f k a0 l1 = some r) :
    Calls Try.prog 71 #[.int .i64 a0, .slice A1 l1.length c1] w fun e w' => e = .returned (.bool r) ∧ Below w.heap.size w w' := by
 have hu30 := Try.underlying30
 have HR1 := am hr1
 have HC1 := am hc1
 clear hr1 hc1
 have HB := am (Below.refl w.heap.size w)
 have H := h; clear h; unfold impl_valsOk.f at H
 have H' := am H; clear H
 go_enter Try.func71, Try.ntmps71
 go_wp2
 go_loopg [9] k (fun kq v9 w' => ∃ (x9_1 : Int), v9 = .int .i64 x9_1 ∧ Aside0 (impl_valsOk.l0 kq a0 l1 l1 (l1.length : Int) x9_1 = some r) ∧ Aside0 (kq ≤ k) ∧ Aside0 (Below w.heap.size w w'))
 case atStart => exact ⟨(0), sr, H', ⟨Nat.le_refl _⟩, ⟨bL HB⟩⟩
 clear H'
 try clear c1
 obtain ⟨x9_1, rfl, HA, HK1, HB⟩ := hrel
 cases gk with
 | zero => exact absurd HA.out (by simp [impl_valsOk.l0])
 | succ k1 => ?_
 have H := HA.out
 clear HA
 simp only [impl_valsOk.l0] at H
 replace H := idc H; obtain ⟨c3b0, H⟩ | ⟨c3b0, H⟩ := H
 rotate_left
 · by_cases c14 : (l1.length : Int) ≤ 2000
   rotate_left
   · rw [if_neg c14] at H
     have c14b0 := decide_eq_false c14
     have c14b1 : decide (l1.length ≤ 2000) = false := decide_eq_false (by omega)
     clear c14
     obtain rfl := Option.some.inj H
     go_wp2
     go_ret
     exact fin_ (bL HB)
   rw [if_pos c14] at H
   have c14b0 := decide_eq_true c14
   have c14b1 : decide (l1.length ≤ 2000) = true := decide_eq_true (by omega)
   clear c14
   replace H := bnd H; obtain ⟨t586, A15, H⟩ := H
   obtain rfl := Option.some.inj H
   go_wp2_with (first | (go_at_call 30; (with_reducible refine (impl_TypeOk.calls A15.out).mono ?_); rintro e w' ⟨rfl, ⟨nd, rfl⟩⟩))
   go_ret
   exact fin_ (bL HB)
 replace H := if_dd H; obtain ⟨c4b0, c5b0, H⟩ := H
 replace H := bnd H; obtain ⟨t585, A6, H⟩ := H
 replace H := ibt H; obtain ⟨rfl, H⟩ | ⟨rfl, H⟩ := H
 rotate_left
 · obtain rfl := Option.some.inj H
   obtain ⟨p583, q583, ad583, e583, hx583_0, hx583_1⟩ := at_T30b HB HR1 x9_1; cases e583
   go_wp2_with (first | ((with_reducible refine gd 6 rfl ?_); refine bxw 6 rfl #[.int .i64 0, .string ⟨#[]⟩] 30 HB ?_; clear HB; intro gb584 w11 BK584 GW584 GE584 HB; obtain ⟨_, _, _, _⟩ := cl2 BK584) | ((with_reducible refine gc 18 rfl ?_); refine gc1 (some 15) Try.func18 rfl (impl_ValOk.calls A6.out) ?_; rintro w13 hb; replace BK584 := am (blk_below (g := gb584) (o := .cells #[.int .i64 ((rd_T30 l1 x9_1).f0), .string ((rd_T30 l1 x9_1).f1)] 30 (0, 0)) (blk_later BK584.out) hb); replace HB := bst HB hb; clear hb))
   go_ret
   exact fin_ (bL HB)
 have H' := am H; clear H
 obtain ⟨p583, q583, ad583, e583, hx583_0, hx583_1⟩ := at_T30b HB HR1 x9_1; cases e583
 go_wp2_with (first | ((with_reducible refine gd 6 rfl ?_); refine bxw 6 rfl #[.int .i64 0, .string ⟨#[]⟩] 30 HB ?_; clear HB; intro gb584 w8 BK584 GW584 GE584 HB; obtain ⟨_, _, _, _⟩ := cl2 BK584) | ((with_reducible refine gc 18 rfl ?_); refine gc1 (some 15) Try.func18 rfl (impl_ValOk.calls A6.out) ?_; rintro w10 hb; replace BK584 := am (blk_below (g := gb584) (o := .cells #[.int .i64 ((rd_T30 l1 x9_1).f0), .string ((rd_T30 l1 x9_1).f1)] 30 (0, 0)) (blk_later BK584.out) hb); replace HB := bst HB hb; clear hb))
 go_roundg k1
 case measure => have := HK1.out; omega
 case rel => exact ⟨(wrap64 (x9_1 + 1)), sr, H', ⟨by have := HK1.out; omega⟩, ⟨bL HB⟩⟩
end Go.Proofs.Ytnlgodcbnlbdkaa.PFnStats
