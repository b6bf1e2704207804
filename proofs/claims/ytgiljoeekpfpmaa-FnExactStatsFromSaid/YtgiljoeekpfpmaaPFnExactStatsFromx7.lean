/- The machine's side of FnExactStatsFrom, written by wip/tools/hyb.py of this repo: each Go function as a plain Lean function, and the proof that the call comes to just its answer. No condition. -/
import Derived.Test.YtgiljoeekpfpmaaPFnExactStatsFromx0
import Derived.Test.YtgiljoeekpfpmaaPFnExactStatsFromx1
import Derived.Test.YtgiljoeekpfpmaaPFnExactStatsFromx2
import Derived.Test.YtgiljoeekpfpmaaPFnExactStatsFromx3
import Derived.Test.YtgiljoeekpfpmaaPFnExactStatsFromx4
import Derived.Test.YtgiljoeekpfpmaaPFnExactStatsFromx6
namespace Go.Proofs.Ytgiljoeekpfpmaa.PFnExactStatsFrom
open Go.RowKit Go.Proofs.YtgiljoeekpfpmaaW.PrintWords Go.Proofs.YtgiljoeekpfpmaaW.PrintLast Go.Proofs.YtgiljoeekpfpmaaW.PrintMore Go.Proofs.YtgiljoeekpfpmaaW.PrintMore2
attribute [local go_sem] max2_int min2_int max_two min_two max_three min_three max_four min_four   -- for this text's walks alone
set_option linter.unusedVariables false
set_option linter.unusedSimpArgs false

attribute [local go_sem high] eqA27
/-! ### spec_ValLess: function 74 -/
mutual
def spec_ValLess.j0 : Nat → Int → Bool → Int → ByteArray → Int → ByteArray → Option (Bool)
  | 0, _, _, _, _, _, _ => none
  | k + 1, x0, x17, x280000, x280001, x281000, x281001 => if x17 = true then (some false) else (if x0 = 5 then ((spec_FloatKey.f x280000).bind fun t283 => ((spec_FloatKey.f x281000).bind fun t284 => (some (decide (t283 < t284))))) else (if x0 = 6 then (spec_ValLess.l0 k 0 x280000 x280001 x281000 x281001) else (some (decide (x280000 < x281000)))))
def spec_ValLess.l0 : Nat → Int → Int → ByteArray → Int → ByteArray → Option (Bool)
  | 0, _, _, _, _, _ => none
  | k + 1, x7, x280000, x280001, x281000, x281001 => if x7 < (x280001.size : Int) then (spec_ValLess.j2 k x7 (decide (x7 < (x281001.size : Int))) x280000 x280001 x281000 x281001) else (spec_ValLess.j2 k x7 false x280000 x280001 x281000 x281001)
def spec_ValLess.j2 : Nat → Int → Bool → Int → ByteArray → Int → ByteArray → Option (Bool)
  | 0, _, _, _, _, _, _ => none
  | k + 1, x7, x41, x280000, x280001, x281000, x281001 => if x41 = true then (if 0 ≤ x7 then (if x7 < (x280001.size : Int) then (if x7 < (x281001.size : Int) then (if (bt x280001 x7) = (bt x281001 x7) then (spec_ValLess.l0 k (wrap64 (x7 + 1)) x280000 x280001 x281000 x281001) else (some (decide ((bt x280001 x7) < (bt x281001 x7))))) else (none)) else (none)) else (none)) else (some (decide ((x280001.size : Int) < (x281001.size : Int))))
end
def spec_ValLess.f (k : Nat) (a0 : Int) (a1_0 : Int) (a1_1 : ByteArray) (a2_0 : Int) (a2_1 : ByteArray) : Option (Bool) := (spec_ValOk.f k a0 a1_0 a1_1).bind fun t281 => (if t281 = true then ((spec_ValOk.f k a0 a2_0 a2_1).bind fun t282 => (spec_ValLess.j0 k a0 (!t282) a1_0 a1_1 a2_0 a2_1)) else (spec_ValLess.j0 k a0 true a1_0 a1_1 a2_0 a2_1))
set_option maxHeartbeats 8000000 in
set_option maxRecDepth 100000 in
theorem spec_ValLess.calls (k : Nat) (a0 : Int) (a1_0 : Int) (a1_1 : ByteArray) (a2_0 : Int) (a2_1 : ByteArray) (r : Bool) (w : World) (h : spec_ValLess.f k a0 a1_0 a1_1 a2_0 a2_1 = some r) :
    Calls Try.prog 74 #[.int .i64 a0, .agg #[.int .i64 a1_0, .string a1_1], .agg #[.int .i64 a2_0, .string a2_1]] w fun e w' => e = .returned (.bool r) ∧ Below w.heap.size w w' := by
  have hu27 := Try.underlying27
  have HB := Aside0.mk (Below.refl w.heap.size w)
  have H : ((spec_ValOk.f k a0 a1_0 a1_1).bind fun t281 => (if t281 = true then ((spec_ValOk.f k a0 a2_0 a2_1).bind fun t282 => (spec_ValLess.j0 k a0 (!t282) a1_0 a1_1 a2_0 a2_1)) else (spec_ValLess.j0 k a0 true a1_0 a1_1 a2_0 a2_1))) = some r := h
  clear h
  have HC4 := Aside0.mk H
  clear H
  go_enter Try.func74, Try.ntmps74
  go_upto_region 1 with (first | ((with_reducible refine gate_dst (N := 4) rfl ?_); (try (refine gate_guard (by rfl) ?_; dsimp only)); refine bx_ 4 #[.int .i64 a1_0, .string a1_1] 27 ?_; intro gb279 hg w5 hbox hb; have BK279 := Aside0.mk (hbox); have GW279 := gwe HB hg; have GE279 := GW279; replace HB := bst HB hb; clear hb hbox hg) | ((with_reducible refine gate_dst (N := 5) rfl ?_); (try (refine gate_guard (by rfl) ?_; dsimp only)); refine bx_ 5 #[.int .i64 a2_0, .string a2_1] 27 ?_; intro gb280 hg w6 hbox hb; have BK280 := Aside0.mk (hbox); have GW280 := gwe HB hg; have GE280 := GW280; have NB279_280 := nbl BK279 hg; have NB280_279 := nbr (nbl BK279 hg); replace BK279 := bkb BK279 hb; replace HB := bst HB hb; clear hb hbox hg))
  repeat (go_quiet (first | ((with_reducible refine gate_dst (N := 4) rfl ?_); (try (refine gate_guard (by rfl) ?_; dsimp only)); refine bx_ 4 #[.int .i64 a1_0, .string a1_1] 27 ?_; intro gb279 hg w5 hbox hb; have BK279 := Aside0.mk (hbox); have GW279 := gwe HB hg; have GE279 := GW279; replace HB := bst HB hb; clear hb hbox hg) | ((with_reducible refine gate_dst (N := 5) rfl ?_); (try (refine gate_guard (by rfl) ?_; dsimp only)); refine bx_ 5 #[.int .i64 a2_0, .string a2_1] 27 ?_; intro gb280 hg w6 hbox hb; have BK280 := Aside0.mk (hbox); have GW280 := gwe HB hg; have GE280 := GW280; have NB279_280 := nbl BK279 hg; have NB280_279 := nbr (nbl BK279 hg); replace BK279 := bkb BK279 hb; replace HB := bst HB hb; clear hb hbox hg)); go_upto_region 1 with (first | ((with_reducible refine gate_dst (N := 4) rfl ?_); (try (refine gate_guard (by rfl) ?_; dsimp only)); refine bx_ 4 #[.int .i64 a1_0, .string a1_1] 27 ?_; intro gb279 hg w5 hbox hb; have BK279 := Aside0.mk (hbox); have GW279 := gwe HB hg; have GE279 := GW279; replace HB := bst HB hb; clear hb hbox hg) | ((with_reducible refine gate_dst (N := 5) rfl ?_); (try (refine gate_guard (by rfl) ?_; dsimp only)); refine bx_ 5 #[.int .i64 a2_0, .string a2_1] 27 ?_; intro gb280 hg w6 hbox hb; have BK280 := Aside0.mk (hbox); have GW280 := gwe HB hg; have GE280 := GW280; have NB279_280 := nbl BK279 hg; have NB280_279 := nbr (nbl BK279 hg); replace BK279 := bkb BK279 hb; replace HB := bst HB hb; clear hb hbox hg)))
  (try simp only [Act.put, List.setIfInBounds_toArray, List.set_cons_zero, List.set_cons_succ])
  go_cut [17] (fun v17 wc => ∃ (kq : Nat) (x17_3 : Bool), v17 = .bool x17_3 ∧ Aside0 (spec_ValLess.j0 kq a0 x17_3 a1_0 a1_1 a2_0 a2_1 = some r) ∧ Aside0 (kq ≤ k) ∧ Aside0 (wc.heap[gb279]? = some (.cells #[.int .i64 a1_0, .string a1_1] 27 (0, 0))) ∧ Aside0 (wc.heap[gb280]? = some (.cells #[.int .i64 a2_0, .string a2_1] 27 (0, 0))) ∧ Aside0 (Below w.heap.size w wc))
  case first =>
    have H := HC4.out
    clear HC4
    replace H := bnd H
    obtain ⟨t281, A7, H⟩ := H
    by_cases c8 : t281 = true
    · subst c8
      replace H := ifp rfl H
      replace H := bnd H
      obtain ⟨t282, A9, H⟩ := H
      have H' := Aside0.mk H
      clear H
      have hnb10 := NB279_280.out
      have hnc10 := NB280_279.out
      obtain ⟨hcz11_0, hcz11_1, hfz11_0, hfz11_1⟩ := cl2 BK279
      go_wp2_with (first | (go_at_call 72; (with_reducible refine (spec_ValOk.calls k a0 a1_0 a1_1 true _ A7.out).mono ?_); rintro e w12 ⟨rfl, hb⟩; replace BK279 := bkb BK279 hb; replace BK280 := bkb BK280 hb; replace HB := bst HB hb; (try clear hb); obtain ⟨hcz13_0, hcz13_1, hfz13_0, hfz13_1⟩ := cl2 BK280) | (go_at_call 72; (with_reducible refine (spec_ValOk.calls k a0 a2_0 a2_1 t282 _ A9.out).mono ?_); rintro e w14 ⟨rfl, hb⟩; replace BK279 := bkb BK279 hb; replace BK280 := bkb BK280 hb; replace HB := bst HB hb; (try clear hb)))
      repeat (go_quiet (first | (go_at_call 72; (with_reducible refine (spec_ValOk.calls k a0 a1_0 a1_1 true _ A7.out).mono ?_); rintro e w12 ⟨rfl, hb⟩; replace BK279 := bkb BK279 hb; replace BK280 := bkb BK280 hb; replace HB := bst HB hb; (try clear hb); obtain ⟨hcz13_0, hcz13_1, hfz13_0, hfz13_1⟩ := cl2 BK280) | (go_at_call 72; (with_reducible refine (spec_ValOk.calls k a0 a2_0 a2_1 t282 _ A9.out).mono ?_); rintro e w14 ⟨rfl, hb⟩; replace BK279 := bkb BK279 hb; replace BK280 := bkb BK280 hb; replace HB := bst HB hb; (try clear hb))); try go_wp2_with (first | (go_at_call 72; (with_reducible refine (spec_ValOk.calls k a0 a1_0 a1_1 true _ A7.out).mono ?_); rintro e w12 ⟨rfl, hb⟩; replace BK279 := bkb BK279 hb; replace BK280 := bkb BK280 hb; replace HB := bst HB hb; (try clear hb); obtain ⟨hcz13_0, hcz13_1, hfz13_0, hfz13_1⟩ := cl2 BK280) | (go_at_call 72; (with_reducible refine (spec_ValOk.calls k a0 a2_0 a2_1 t282 _ A9.out).mono ?_); rintro e w14 ⟨rfl, hb⟩; replace BK279 := bkb BK279 hb; replace BK280 := bkb BK280 hb; replace HB := bst HB hb; (try clear hb))))
      go_meet
      case rel => exact ⟨_, (!t282), sr, H', ⟨by first | omega | exact Nat.le_refl _⟩, ⟨blk_later BK279.out⟩, ⟨blk_later BK280.out⟩, ⟨below_later HB.out⟩⟩
    · replace c8 := Bool.eq_false_iff.mpr c8
      subst c8
      replace H := ifn Bool.false_ne_true H
      have H' := Aside0.mk H
      clear H
      have hnb15 := NB279_280.out
      have hnc15 := NB280_279.out
      obtain ⟨hcz16_0, hcz16_1, hfz16_0, hfz16_1⟩ := cl2 BK279
      go_wp2_with (first | (go_at_call 72; (with_reducible refine (spec_ValOk.calls k a0 a1_0 a1_1 false _ A7.out).mono ?_); rintro e w17 ⟨rfl, hb⟩; replace BK279 := bkb BK279 hb; replace BK280 := bkb BK280 hb; replace HB := bst HB hb; (try clear hb)))
      repeat (go_quiet (first | (go_at_call 72; (with_reducible refine (spec_ValOk.calls k a0 a1_0 a1_1 false _ A7.out).mono ?_); rintro e w17 ⟨rfl, hb⟩; replace BK279 := bkb BK279 hb; replace BK280 := bkb BK280 hb; replace HB := bst HB hb; (try clear hb))); try go_wp2_with (first | (go_at_call 72; (with_reducible refine (spec_ValOk.calls k a0 a1_0 a1_1 false _ A7.out).mono ?_); rintro e w17 ⟨rfl, hb⟩; replace BK279 := bkb BK279 hb; replace BK280 := bkb BK280 hb; replace HB := bst HB hb; (try clear hb))))
      go_meet
      case rel => exact ⟨_, (true), sr, H', ⟨by first | omega | exact Nat.le_refl _⟩, ⟨blk_later BK279.out⟩, ⟨blk_later BK280.out⟩, ⟨below_later HB.out⟩⟩
  case rest =>
    clear HC4
    obtain ⟨kq, x17_3, rfl, HA, HJ3, BK279, BK280, HB⟩ := hcut
    cases kq with
    | zero => exact absurd HA.out (by simp [spec_ValLess.j0])
    | succ kj3 =>
      have H := HA.out
      clear HA
      simp only [spec_ValLess.j0] at H
      by_cases c18 : x17_3 = true
      · subst c18
        replace H := ifp rfl H
        obtain rfl := Option.some.inj H
        go_wp2
        repeat (go_quiet (fail); try go_wp2)
        go_ret
        exact fin_ (below_later HB.out)
      · replace c18 := Bool.eq_false_iff.mpr c18
        subst c18
        replace H := ifn Bool.false_ne_true H
        by_cases c19 : a0 = 5
        · rw [if_pos c19] at H
          have c19b0 : (a0 == 5) = true := beq_iff_eq.mpr c19
          have c19b1 : (a0 != 5) = false := bne_eq_false_iff_eq.mpr c19
          clear c19
          replace H := bnd H
          obtain ⟨t283, A20, H⟩ := H
          replace H := bnd H
          obtain ⟨t284, A21, H⟩ := H
          obtain rfl := Option.some.inj H
          have hnb22 := NB279_280.out
          have hnc22 := NB280_279.out
          obtain ⟨hcz23_0, hcz23_1, hfz23_0, hfz23_1⟩ := cl2 BK279
          go_wp2_with (first | (go_at_call 90; (with_reducible refine (spec_FloatKey.calls a1_0 t283 _ A20.out).mono ?_); rintro e w' ⟨rfl, ⟨nd, rfl⟩⟩; (try first | exact ⟨rfl, _, World.drewN_drewN _ _ _⟩ | exact ⟨rfl, _, Eq.trans (World.drewN_drewN _ _ _) (congrArg (World.drewN _) (Nat.add_assoc _ _ _))⟩); obtain ⟨hcz24_0, hcz24_1, hfz24_0, hfz24_1⟩ := cl2 BK280) | (go_at_call 90; (with_reducible refine (spec_FloatKey.calls a2_0 t284 _ A21.out).mono ?_); rintro e w' ⟨rfl, ⟨nd, rfl⟩⟩; (try first | exact ⟨rfl, _, World.drewN_drewN _ _ _⟩ | exact ⟨rfl, _, Eq.trans (World.drewN_drewN _ _ _) (congrArg (World.drewN _) (Nat.add_assoc _ _ _))⟩)))
          repeat (go_quiet (first | (go_at_call 90; (with_reducible refine (spec_FloatKey.calls a1_0 t283 _ A20.out).mono ?_); rintro e w' ⟨rfl, ⟨nd, rfl⟩⟩; (try first | exact ⟨rfl, _, World.drewN_drewN _ _ _⟩ | exact ⟨rfl, _, Eq.trans (World.drewN_drewN _ _ _) (congrArg (World.drewN _) (Nat.add_assoc _ _ _))⟩); obtain ⟨hcz24_0, hcz24_1, hfz24_0, hfz24_1⟩ := cl2 BK280) | (go_at_call 90; (with_reducible refine (spec_FloatKey.calls a2_0 t284 _ A21.out).mono ?_); rintro e w' ⟨rfl, ⟨nd, rfl⟩⟩; (try first | exact ⟨rfl, _, World.drewN_drewN _ _ _⟩ | exact ⟨rfl, _, Eq.trans (World.drewN_drewN _ _ _) (congrArg (World.drewN _) (Nat.add_assoc _ _ _))⟩))); try go_wp2_with (first | (go_at_call 90; (with_reducible refine (spec_FloatKey.calls a1_0 t283 _ A20.out).mono ?_); rintro e w' ⟨rfl, ⟨nd, rfl⟩⟩; (try first | exact ⟨rfl, _, World.drewN_drewN _ _ _⟩ | exact ⟨rfl, _, Eq.trans (World.drewN_drewN _ _ _) (congrArg (World.drewN _) (Nat.add_assoc _ _ _))⟩); obtain ⟨hcz24_0, hcz24_1, hfz24_0, hfz24_1⟩ := cl2 BK280) | (go_at_call 90; (with_reducible refine (spec_FloatKey.calls a2_0 t284 _ A21.out).mono ?_); rintro e w' ⟨rfl, ⟨nd, rfl⟩⟩; (try first | exact ⟨rfl, _, World.drewN_drewN _ _ _⟩ | exact ⟨rfl, _, Eq.trans (World.drewN_drewN _ _ _) (congrArg (World.drewN _) (Nat.add_assoc _ _ _))⟩))))
          go_ret
          exact fin_ (below_later HB.out)
        · rw [if_neg c19] at H
          have c19b0 : (a0 == 5) = false := beq_eq_false_iff_ne.mpr c19
          have c19b1 : (a0 != 5) = true := bne_iff_ne.mpr c19
          by_cases c25 : a0 = 6
          · rw [if_pos c25] at H
            have c25b0 : (a0 == 6) = true := beq_iff_eq.mpr c25
            have c25b1 : (a0 != 6) = false := bne_eq_false_iff_eq.mpr c25
            clear c25
            have H' := Aside0.mk H
            clear H
            go_wp2
            repeat (go_quiet (fail); try go_wp2)
            go_loopg [7] kj3 (fun kq v7 w' => ∃ (x7_2 : Int), v7 = .int .i64 x7_2 ∧ Aside0 (spec_ValLess.l0 kq x7_2 a1_0 a1_1 a2_0 a2_1 = some r) ∧ Aside0 (kq ≤ kj3) ∧ Aside0 (w'.heap[gb279]? = some (.cells #[.int .i64 a1_0, .string a1_1] 27 (0, 0))) ∧ Aside0 (w'.heap[gb280]? = some (.cells #[.int .i64 a2_0, .string a2_1] 27 (0, 0))) ∧ Aside0 (Below w.heap.size w w'))
            case atStart => exact ⟨(0), sr, H', ⟨Nat.le_refl _⟩, ⟨blk_later BK279.out⟩, ⟨blk_later BK280.out⟩, ⟨below_later HB.out⟩⟩
            case round =>
              clear H'
              try clear c18
              try clear c19
              try clear c19b0
              try clear c19b1
              try clear c25
              try clear c25b0
              try clear c25b1
              obtain ⟨x7_2, rfl, HA, HK2, BK279, BK280, HB⟩ := hrel
              cases gk with
              | zero => exact absurd HA.out (by simp [spec_ValLess.l0])
              | succ k2 =>
                have H := HA.out
                clear HA
                simp only [spec_ValLess.l0] at H
                have HC26 := Aside0.mk H
                clear H
                go_upto_region 8 with (fail)
                repeat (go_quiet (fail); go_upto_region 8 with (fail))
                go_cut [41] (fun v41 wc => ∃ (kq : Nat) (x41_25 : Bool), v41 = .bool x41_25 ∧ Aside0 (spec_ValLess.j2 kq x7_2 x41_25 a1_0 a1_1 a2_0 a2_1 = some r) ∧ Aside0 (kq ≤ k2) ∧ Aside0 (wc.heap[gb279]? = some (.cells #[.int .i64 a1_0, .string a1_1] 27 (0, 0))) ∧ Aside0 (wc.heap[gb280]? = some (.cells #[.int .i64 a2_0, .string a2_1] 27 (0, 0))) ∧ Aside0 (Below w.heap.size w wc))
                case first =>
                  have H := HC26.out
                  clear HC26
                  by_cases c27 : x7_2 < (a1_1.size : Int)
                  · rw [if_pos c27] at H
                    have c27b0 := decide_eq_true c27
                    clear c27
                    (first | rw [c27b0] | (simp only [i64_w, i32_w]; rw [c27b0]) | skip)
                    have H' := Aside0.mk H
                    clear H
                    have hnb28 := NB279_280.out
                    have hnc28 := NB280_279.out
                    obtain ⟨hcz29_0, hcz29_1, hfz29_0, hfz29_1⟩ := cl2 BK279
                    obtain ⟨hcz30_0, hcz30_1, hfz30_0, hfz30_1⟩ := cl2 BK280
                    go_wp2
                    repeat (go_quiet (fail); try go_wp2)
                    go_meet
                    case rel => exact ⟨_, (decide (x7_2 < (a2_1.size : Int))), sr, H', ⟨by have := HJ3.out; have := HK2.out; first | omega | exact Nat.le_refl _⟩, ⟨blk_later BK279.out⟩, ⟨blk_later BK280.out⟩, ⟨below_later HB.out⟩⟩
                  · rw [if_neg c27] at H
                    have c27b0 := decide_eq_false c27
                    clear c27
                    (first | rw [c27b0] | (simp only [i64_w, i32_w]; rw [c27b0]) | skip)
                    have H' := Aside0.mk H
                    clear H
                    have hnb31 := NB279_280.out
                    have hnc31 := NB280_279.out
                    obtain ⟨hcz32_0, hcz32_1, hfz32_0, hfz32_1⟩ := cl2 BK279
                    go_wp2
                    repeat (go_quiet (fail); try go_wp2)
                    go_meet
                    case rel => exact ⟨_, (false), sr, H', ⟨by have := HJ3.out; have := HK2.out; first | omega | exact Nat.le_refl _⟩, ⟨blk_later BK279.out⟩, ⟨blk_later BK280.out⟩, ⟨below_later HB.out⟩⟩
                case rest =>
                  clear HC26
                  try clear c18
                  try clear c19
                  try clear c19b0
                  try clear c19b1
                  try clear c25
                  try clear c25b0
                  try clear c25b1
                  obtain ⟨kq, x41_25, rfl, HA, HJ25, BK279, BK280, HB⟩ := hcut
                  cases kq with
                  | zero => exact absurd HA.out (by simp [spec_ValLess.j2])
                  | succ kj25 =>
                    have H := HA.out
                    clear HA
                    simp only [spec_ValLess.j2] at H
                    by_cases c33 : x41_25 = true
                    · subst c33
                      replace H := ifp rfl H
                      replace H := ifd H
                      obtain ⟨c34b0, H⟩ := H
                      replace H := ifd H
                      obtain ⟨c35b0, H⟩ := H
                      replace H := ifd H
                      obtain ⟨c37b0, H⟩ := H
                      by_cases c39 : (bt a1_1 x7_2) = (bt a2_1 x7_2)
                      · rw [if_pos c39] at H
                        have c39b0 : ((bt a1_1 x7_2) == (bt a2_1 x7_2)) = true := beq_iff_eq.mpr c39
                        have c39b1 : ((bt a1_1 x7_2) != (bt a2_1 x7_2)) = false := bne_eq_false_iff_eq.mpr c39
                        clear c39
                        have H' := Aside0.mk H
                        clear H
                        have hnb40 := NB279_280.out
                        have hnc40 := NB280_279.out
                        obtain ⟨hcz41_0, hcz41_1, hfz41_0, hfz41_1⟩ := cl2 BK279
                        have p36 : 0 ≤ (x7_2 : Int) := dcd
                        have q36 : x7_2 < (a1_1.size : Int) := dcd
                        have hx36 := bt_at a1_1 x7_2
                        replace p36 := eq_true p36
                        replace q36 := eq_true q36
                        obtain ⟨hcz42_0, hcz42_1, hfz42_0, hfz42_1⟩ := cl2 BK280
                        have p38 : 0 ≤ (x7_2 : Int) := dcd
                        have q38 : x7_2 < (a2_1.size : Int) := dcd
                        have hx38 := bt_at a2_1 x7_2
                        replace p38 := eq_true p38
                        replace q38 := eq_true q38
                        go_wp2
                        repeat (go_quiet (fail); try go_wp2)
                        go_roundg kj25
                        case measure => have := HJ3.out; have := HK2.out; have := HJ25.out; omega
                        case rel => exact ⟨(wrap64 (x7_2 + 1)), sr, H', ⟨by have := HJ3.out; have := HK2.out; have := HJ25.out; omega⟩, ⟨blk_later BK279.out⟩, ⟨blk_later BK280.out⟩, ⟨below_later HB.out⟩⟩
                      · rw [if_neg c39] at H
                        have c39b0 : ((bt a1_1 x7_2) == (bt a2_1 x7_2)) = false := beq_eq_false_iff_ne.mpr c39
                        have c39b1 : ((bt a1_1 x7_2) != (bt a2_1 x7_2)) = true := bne_iff_ne.mpr c39
                        obtain rfl := Option.some.inj H
                        have hnb45 := NB279_280.out
                        have hnc45 := NB280_279.out
                        obtain ⟨hcz46_0, hcz46_1, hfz46_0, hfz46_1⟩ := cl2 BK279
                        have p36 : 0 ≤ (x7_2 : Int) := dcd
                        have q36 : x7_2 < (a1_1.size : Int) := dcd
                        have hx36 := bt_at a1_1 x7_2
                        replace p36 := eq_true p36
                        replace q36 := eq_true q36
                        obtain ⟨hcz47_0, hcz47_1, hfz47_0, hfz47_1⟩ := cl2 BK280
                        have p38 : 0 ≤ (x7_2 : Int) := dcd
                        have q38 : x7_2 < (a2_1.size : Int) := dcd
                        have hx38 := bt_at a2_1 x7_2
                        replace p38 := eq_true p38
                        replace q38 := eq_true q38
                        have p43 : 0 ≤ (x7_2 : Int) := dcd
                        have q43 : x7_2 < (a1_1.size : Int) := dcd
                        have hx43 := bt_at a1_1 x7_2
                        replace p43 := eq_true p43
                        replace q43 := eq_true q43
                        have p44 : 0 ≤ (x7_2 : Int) := dcd
                        have q44 : x7_2 < (a2_1.size : Int) := dcd
                        have hx44 := bt_at a2_1 x7_2
                        replace p44 := eq_true p44
                        replace q44 := eq_true q44
                        go_wp2
                        repeat (go_quiet (fail); try go_wp2)
                        go_ret
                        exact fin_ (below_later HB.out)
                    · replace c33 := Bool.eq_false_iff.mpr c33
                      subst c33
                      replace H := ifn Bool.false_ne_true H
                      obtain rfl := Option.some.inj H
                      have hnb48 := NB279_280.out
                      have hnc48 := NB280_279.out
                      obtain ⟨hcz49_0, hcz49_1, hfz49_0, hfz49_1⟩ := cl2 BK279
                      obtain ⟨hcz50_0, hcz50_1, hfz50_0, hfz50_1⟩ := cl2 BK280
                      go_wp2
                      repeat (go_quiet (fail); try go_wp2)
                      go_ret
                      exact fin_ (below_later HB.out)
          · rw [if_neg c25] at H
            have c25b0 : (a0 == 6) = false := beq_eq_false_iff_ne.mpr c25
            have c25b1 : (a0 != 6) = true := bne_iff_ne.mpr c25
            obtain rfl := Option.some.inj H
            have hnb51 := NB279_280.out
            have hnc51 := NB280_279.out
            obtain ⟨hcz52_0, hcz52_1, hfz52_0, hfz52_1⟩ := cl2 BK279
            obtain ⟨hcz53_0, hcz53_1, hfz53_0, hfz53_1⟩ := cl2 BK280
            go_wp2
            repeat (go_quiet (fail); try go_wp2)
            go_ret
            exact fin_ (below_later HB.out)

/-! ### spec_l15Ok: function 47 -/
def spec_l15Ok.j0 : Nat → Bool → Int → Int → Int → Int → Bool → Int → ByteArray → Int → ByteArray → Int → ByteArray → Option (Bool)
  | 0, _, _, _, _, _, _, _, _, _, _, _, _ => none
  | k + 1, x15, x286000, x286001, x286002, x287000, x287001, x287002, x287003, x287004, x287005, x288000, x288001 => if x15 = true then (some false) else (if x287001 = true then ((spec_ValOk.f k x286000 x287002 x287003).bind fun t290 => (if t290 = true then ((spec_ValOk.f k x286000 x287004 x287005).bind fun t291 => (if t291 = true then ((spec_ValLess.f k x286000 x287004 x287005 x287002 x287003).bind fun t292 => (some (!t292))) else (some false))) else (some false))) else (if (x287002 == x288000 && (x287003.toList == x288001.toList)) = true then (some (x287004 == x288000 && (x287005.toList == x288001.toList))) else (some false)))
def spec_l15Ok.f (k : Nat) (a0_0 : Int) (a0_1 : Int) (a0_2 : Int) (a1_0 : Int) (a1_1 : Bool) (a1_2 : Int) (a1_3 : ByteArray) (a1_4 : Int) (a1_5 : ByteArray) : Option (Bool) := (spec_LeafOk.f a0_0 a0_1 a0_2).bind fun t288 => (if t288 = true then ((spec_l1In.f a1_0 0 2000).bind fun t289 => (spec_l15Ok.j0 k (!t289) a0_0 a0_1 a0_2 a1_0 a1_1 a1_2 a1_3 a1_4 a1_5 0 (⟨#[]⟩ : ByteArray))) else (spec_l15Ok.j0 k true a0_0 a0_1 a0_2 a1_0 a1_1 a1_2 a1_3 a1_4 a1_5 0 (⟨#[]⟩ : ByteArray)))
set_option maxHeartbeats 8000000 in
set_option maxRecDepth 100000 in
theorem spec_l15Ok.calls (k : Nat) (a0_0 : Int) (a0_1 : Int) (a0_2 : Int) (a1_0 : Int) (a1_1 : Bool) (a1_2 : Int) (a1_3 : ByteArray) (a1_4 : Int) (a1_5 : ByteArray) (r : Bool) (w : World) (h : spec_l15Ok.f k a0_0 a0_1 a0_2 a1_0 a1_1 a1_2 a1_3 a1_4 a1_5 = some r) :
    Calls Try.prog 47 #[.agg #[.int .i64 a0_0, .int .i64 a0_1, .int .i64 a0_2], .agg #[.int .i64 a1_0, .bool a1_1, .int .i64 a1_2, .string a1_3, .int .i64 a1_4, .string a1_5]] w fun e w' => e = .returned (.bool r) ∧ Below w.heap.size w w' := by
  have hu32 := Try.underlying32
  have hu29 := Try.underlying29
  have hu27 := Try.underlying27
  have HB := Aside0.mk (Below.refl w.heap.size w)
  have H : ((spec_LeafOk.f a0_0 a0_1 a0_2).bind fun t288 => (if t288 = true then ((spec_l1In.f a1_0 0 2000).bind fun t289 => (spec_l15Ok.j0 k (!t289) a0_0 a0_1 a0_2 a1_0 a1_1 a1_2 a1_3 a1_4 a1_5 0 (⟨#[]⟩ : ByteArray))) else (spec_l15Ok.j0 k true a0_0 a0_1 a0_2 a1_0 a1_1 a1_2 a1_3 a1_4 a1_5 0 (⟨#[]⟩ : ByteArray)))) = some r := h
  clear h
  have HC3 := Aside0.mk H
  clear H
  go_enter Try.func47, Try.ntmps47
  go_upto_region 2 with (first | ((with_reducible refine gate_dst (N := 2) rfl ?_); refine bx_ 2 #[.int .i64 a0_0, .int .i64 a0_1, .int .i64 a0_2] 32 ?_; intro gb285 hg w4 hbox hb; have BK285 := Aside0.mk (hbox); have GW285 := gwe HB hg; have GE285 := GW285; replace HB := bst HB hb; clear hb hbox hg) | ((with_reducible refine gate_dst (N := 3) rfl ?_); refine bx_ 3 #[.int .i64 a1_0, .bool a1_1, .int .i64 a1_2, .string a1_3, .int .i64 a1_4, .string a1_5] 29 ?_; intro gb286 hg w5 hbox hb; have BK286 := Aside0.mk (hbox); have GW286 := gwe HB hg; have GE286 := GW286; have NB285_286 := nbl BK285 hg; have NB286_285 := nbr (nbl BK285 hg); replace BK285 := bkb BK285 hb; replace HB := bst HB hb; clear hb hbox hg) | ((with_reducible refine gate_dst (N := 5) rfl ?_); refine bx_ 5 #[.int .i64 0, .string (⟨#[]⟩ : ByteArray)] 27 ?_; intro gb287 hg w6 hbox hb; have BK287 := Aside0.mk (hbox); have GW287 := gwe HB hg; have GE287 := GW287; have NB285_287 := nbl BK285 hg; have NB287_285 := nbr (nbl BK285 hg); have NB286_287 := nbl BK286 hg; have NB287_286 := nbr (nbl BK286 hg); replace BK285 := bkb BK285 hb; replace BK286 := bkb BK286 hb; replace HB := bst HB hb; clear hb hbox hg; have hnb7 := NB287_285.out; have hnc7 := NB285_287.out; have hnb8 := NB287_286.out; have hnc8 := NB286_287.out; obtain ⟨hcz9_0, hcz9_1, hfz9_0, hfz9_1⟩ := cl2 BK287))
  (try simp only [Act.put, List.setIfInBounds_toArray, List.set_cons_zero, List.set_cons_succ])
  go_cut [15] (fun v15 wc => ∃ (kq : Nat) (x15_2 : Bool), v15 = .bool x15_2 ∧ Aside0 (spec_l15Ok.j0 kq x15_2 a0_0 a0_1 a0_2 a1_0 a1_1 a1_2 a1_3 a1_4 a1_5 0 (⟨#[]⟩ : ByteArray) = some r) ∧ Aside0 (kq ≤ k) ∧ Aside0 (wc.heap[gb285]? = some (.cells #[.int .i64 a0_0, .int .i64 a0_1, .int .i64 a0_2] 32 (0, 0))) ∧ Aside0 (wc.heap[gb286]? = some (.cells #[.int .i64 a1_0, .bool a1_1, .int .i64 a1_2, .string a1_3, .int .i64 a1_4, .string a1_5] 29 (0, 0))) ∧ Aside0 (wc.heap[gb287]? = some (.cells #[.int .i64 0, .string (⟨#[]⟩ : ByteArray)] 27 (0, 0))) ∧ Aside0 (Below w.heap.size w wc))
  case first =>
    have H := HC3.out
    clear HC3
    replace H := bnd H
    obtain ⟨t288, A10, H⟩ := H
    by_cases c11 : t288 = true
    · subst c11
      replace H := ifp rfl H
      replace H := bnd H
      obtain ⟨t289, A12, H⟩ := H
      have H' := Aside0.mk H
      clear H
      have hnb13 := NB285_286.out
      have hnc13 := NB286_285.out
      have hnb14 := NB285_287.out
      have hnc14 := NB287_285.out
      obtain ⟨hcz15_0, hcz15_1, hcz15_2, hfz15_0, hfz15_1, hfz15_2⟩ := cl3 BK285
      go_wp2_with (first | ((with_reducible refine gate_callee (f := 22) rfl ?_); refine gl_ (some 8) Try.func22 #[.agg #[.int .i64 a0_0, .int .i64 a0_1, .int .i64 a0_2]] rfl ?_; (with_reducible refine (spec_LeafOk.calls a0_0 a0_1 a0_2 true _ A10.out).mono ?_); rintro e w16 ⟨rfl, hb⟩; refine ⟨_, rfl, ?_⟩; replace BK285 := bkb BK285 hb; replace BK286 := bkb BK286 hb; replace BK287 := Aside0.mk (blk_below (g := gb287) (o := .cells #[.int .i64 0, .string (⟨#[]⟩ : ByteArray)] 27 (0, 0)) (blk_later BK287.out) hb); replace HB := bst HB hb; (try clear hb); have hnb17 := NB286_287.out; have hnc17 := NB287_286.out; obtain ⟨hcz18_0, hcz18_1, hcz18_2, hcz18_3, hcz18_4, hcz18_5, hfz18_0, hfz18_1, hfz18_2, hfz18_3, hfz18_4, hfz18_5⟩ := cl6 BK286) | (go_at_call 24; (with_reducible refine (spec_l1In.calls a1_0 0 2000 t289 _ A12.out).mono ?_); rintro e w' ⟨rfl, ⟨nd, rfl⟩⟩))
      go_meet
      case rel => exact ⟨_, (!t289), sr, H', ⟨by first | omega | exact Nat.le_refl _⟩, ⟨blk_later BK285.out⟩, ⟨blk_later BK286.out⟩, ⟨blk_later BK287.out⟩, ⟨below_later HB.out⟩⟩
    · replace c11 := Bool.eq_false_iff.mpr c11
      subst c11
      replace H := ifn Bool.false_ne_true H
      have H' := Aside0.mk H
      clear H
      have hnb19 := NB285_286.out
      have hnc19 := NB286_285.out
      have hnb20 := NB285_287.out
      have hnc20 := NB287_285.out
      obtain ⟨hcz21_0, hcz21_1, hcz21_2, hfz21_0, hfz21_1, hfz21_2⟩ := cl3 BK285
      go_wp2_with (first | ((with_reducible refine gate_callee (f := 22) rfl ?_); refine gl_ (some 8) Try.func22 #[.agg #[.int .i64 a0_0, .int .i64 a0_1, .int .i64 a0_2]] rfl ?_; (with_reducible refine (spec_LeafOk.calls a0_0 a0_1 a0_2 false _ A10.out).mono ?_); rintro e w22 ⟨rfl, hb⟩; refine ⟨_, rfl, ?_⟩; replace BK285 := bkb BK285 hb; replace BK286 := bkb BK286 hb; replace BK287 := Aside0.mk (blk_below (g := gb287) (o := .cells #[.int .i64 0, .string (⟨#[]⟩ : ByteArray)] 27 (0, 0)) (blk_later BK287.out) hb); replace HB := bst HB hb; (try clear hb)))
      go_meet
      case rel => exact ⟨_, (true), sr, H', ⟨by first | omega | exact Nat.le_refl _⟩, ⟨blk_later BK285.out⟩, ⟨blk_later BK286.out⟩, ⟨blk_later BK287.out⟩, ⟨below_later HB.out⟩⟩
  case rest =>
    clear HC3
    try clear hcz9_0
    try clear hcz9_1
    try clear hfz9_0
    try clear hfz9_1
    obtain ⟨kq, x15_2, rfl, HA, HJ2, BK285, BK286, BK287, HB⟩ := hcut
    cases kq with
    | zero => exact absurd HA.out (by simp [spec_l15Ok.j0])
    | succ kj2 =>
      have H := HA.out
      clear HA
      simp only [spec_l15Ok.j0] at H
      by_cases c23 : x15_2 = true
      · subst c23
        replace H := ifp rfl H
        obtain rfl := Option.some.inj H
        go_wp2
        go_ret
        exact fin_ (below_later HB.out)
      · replace c23 := Bool.eq_false_iff.mpr c23
        subst c23
        replace H := ifn Bool.false_ne_true H
        by_cases c24 : a1_1 = true
        · subst c24
          replace H := ifp rfl H
          replace H := bnd H
          obtain ⟨t290, A25, H⟩ := H
          by_cases c26 : t290 = true
          · subst c26
            replace H := ifp rfl H
            replace H := bnd H
            obtain ⟨t291, A27, H⟩ := H
            by_cases c28 : t291 = true
            · subst c28
              replace H := ifp rfl H
              replace H := bnd H
              obtain ⟨t292, A29, H⟩ := H
              obtain rfl := Option.some.inj H
              have hnb30 := NB286_285.out
              have hnc30 := NB285_286.out
              have hnb31 := NB286_287.out
              have hnc31 := NB287_286.out
              obtain ⟨hcz32_0, hcz32_1, hcz32_2, hcz32_3, hcz32_4, hcz32_5, hfz32_0, hfz32_1, hfz32_2, hfz32_3, hfz32_4, hfz32_5⟩ := cl6 BK286
              have hnb33 := NB285_287.out
              have hnc33 := NB287_285.out
              obtain ⟨hcz34_0, hcz34_1, hcz34_2, hfz34_0, hfz34_1, hfz34_2⟩ := cl3 BK285
              go_wp2_with (first | ((with_reducible refine gate_callee (f := 72) rfl ?_); refine gl_ (some 33) Try.func72 #[.int .i64 a0_0, .agg #[.int .i64 a1_2, .string a1_3]] rfl ?_; (with_reducible refine (spec_ValOk.calls kj2 a0_0 a1_2 a1_3 true _ A25.out).mono ?_); rintro e w35 ⟨rfl, hb⟩; refine ⟨_, rfl, ?_⟩; replace BK285 := bkb BK285 hb; replace BK286 := bkb BK286 hb; replace BK287 := bkb BK287 hb; replace HB := bst HB hb; (try clear hb); obtain ⟨hcz36_0, hcz36_1, hcz36_2, hfz36_0, hfz36_1, hfz36_2⟩ := cl3 BK285; obtain ⟨hcz37_0, hcz37_1, hcz37_2, hcz37_3, hcz37_4, hcz37_5, hfz37_0, hfz37_1, hfz37_2, hfz37_3, hfz37_4, hfz37_5⟩ := cl6 BK286) | (go_at_call 72; (with_reducible refine (spec_ValOk.calls kj2 a0_0 a1_4 a1_5 true _ A27.out).mono ?_); rintro e w38 ⟨rfl, hb⟩; replace BK285 := bkb BK285 hb; replace BK286 := bkb BK286 hb; replace BK287 := bkb BK287 hb; replace HB := bst HB hb; (try clear hb); obtain ⟨hcz39_0, hcz39_1, hcz39_2, hfz39_0, hfz39_1, hfz39_2⟩ := cl3 BK285; obtain ⟨hcz40_0, hcz40_1, hcz40_2, hcz40_3, hcz40_4, hcz40_5, hfz40_0, hfz40_1, hfz40_2, hfz40_3, hfz40_4, hfz40_5⟩ := cl6 BK286) | (go_at_call 74; (with_reducible refine (spec_ValLess.calls kj2 a0_0 a1_4 a1_5 a1_2 a1_3 t292 _ A29.out).mono ?_); rintro e w41 ⟨rfl, hb⟩; replace BK285 := bkb BK285 hb; replace BK286 := bkb BK286 hb; replace BK287 := bkb BK287 hb; replace HB := bst HB hb; (try clear hb)))
              go_ret
              exact fin_ (below_later HB.out)
            · replace c28 := Bool.eq_false_iff.mpr c28
              subst c28
              replace H := ifn Bool.false_ne_true H
              obtain rfl := Option.some.inj H
              have hnb42 := NB286_285.out
              have hnc42 := NB285_286.out
              have hnb43 := NB286_287.out
              have hnc43 := NB287_286.out
              obtain ⟨hcz44_0, hcz44_1, hcz44_2, hcz44_3, hcz44_4, hcz44_5, hfz44_0, hfz44_1, hfz44_2, hfz44_3, hfz44_4, hfz44_5⟩ := cl6 BK286
              have hnb45 := NB285_287.out
              have hnc45 := NB287_285.out
              obtain ⟨hcz46_0, hcz46_1, hcz46_2, hfz46_0, hfz46_1, hfz46_2⟩ := cl3 BK285
              go_wp2_with (first | ((with_reducible refine gate_callee (f := 72) rfl ?_); refine gl_ (some 33) Try.func72 #[.int .i64 a0_0, .agg #[.int .i64 a1_2, .string a1_3]] rfl ?_; (with_reducible refine (spec_ValOk.calls kj2 a0_0 a1_2 a1_3 true _ A25.out).mono ?_); rintro e w47 ⟨rfl, hb⟩; refine ⟨_, rfl, ?_⟩; replace BK285 := bkb BK285 hb; replace BK286 := bkb BK286 hb; replace BK287 := bkb BK287 hb; replace HB := bst HB hb; (try clear hb); obtain ⟨hcz48_0, hcz48_1, hcz48_2, hfz48_0, hfz48_1, hfz48_2⟩ := cl3 BK285; obtain ⟨hcz49_0, hcz49_1, hcz49_2, hcz49_3, hcz49_4, hcz49_5, hfz49_0, hfz49_1, hfz49_2, hfz49_3, hfz49_4, hfz49_5⟩ := cl6 BK286) | (go_at_call 72; (with_reducible refine (spec_ValOk.calls kj2 a0_0 a1_4 a1_5 false _ A27.out).mono ?_); rintro e w50 ⟨rfl, hb⟩; replace BK285 := bkb BK285 hb; replace BK286 := bkb BK286 hb; replace BK287 := bkb BK287 hb; replace HB := bst HB hb; (try clear hb)))
              go_ret
              exact fin_ (below_later HB.out)
          · replace c26 := Bool.eq_false_iff.mpr c26
            subst c26
            replace H := ifn Bool.false_ne_true H
            obtain rfl := Option.some.inj H
            have hnb51 := NB286_285.out
            have hnc51 := NB285_286.out
            have hnb52 := NB286_287.out
            have hnc52 := NB287_286.out
            obtain ⟨hcz53_0, hcz53_1, hcz53_2, hcz53_3, hcz53_4, hcz53_5, hfz53_0, hfz53_1, hfz53_2, hfz53_3, hfz53_4, hfz53_5⟩ := cl6 BK286
            have hnb54 := NB285_287.out
            have hnc54 := NB287_285.out
            obtain ⟨hcz55_0, hcz55_1, hcz55_2, hfz55_0, hfz55_1, hfz55_2⟩ := cl3 BK285
            go_wp2_with (first | ((with_reducible refine gate_callee (f := 72) rfl ?_); refine gl_ (some 33) Try.func72 #[.int .i64 a0_0, .agg #[.int .i64 a1_2, .string a1_3]] rfl ?_; (with_reducible refine (spec_ValOk.calls kj2 a0_0 a1_2 a1_3 false _ A25.out).mono ?_); rintro e w56 ⟨rfl, hb⟩; refine ⟨_, rfl, ?_⟩; replace BK285 := bkb BK285 hb; replace BK286 := bkb BK286 hb; replace BK287 := bkb BK287 hb; replace HB := bst HB hb; (try clear hb)))
            go_ret
            exact fin_ (below_later HB.out)
        · replace c24 := Bool.eq_false_iff.mpr c24
          subst c24
          replace H := ifn Bool.false_ne_true H
          by_cases c57 : (a1_2 == 0 && (a1_3.toList == (⟨#[]⟩ : ByteArray).toList)) = true
          · rw [if_pos c57] at H
            have c57b0 : (a1_2 == 0 && (a1_3.toList == (⟨#[]⟩ : ByteArray).toList)) = true := c57
            (try (have c57b1 : decide (a1_2 = 0 && (a1_3.toList == (⟨#[]⟩ : ByteArray).toList)) = true := by simpa using c57))
            (try (have c57b2 : (a1_2 == 0 && (a1_3.toList == (⟨#[]⟩ : ByteArray).toList)) = true := by simpa using c57))
            (try (have c57b3 : (a1_2 == 0 && a1_3.toList.isEmpty) = true := by simpa using c57))
            clear c57
            obtain rfl := Option.some.inj H
            have hnb58 := NB286_285.out
            have hnc58 := NB285_286.out
            have hnb59 := NB286_287.out
            have hnc59 := NB287_286.out
            obtain ⟨hcz60_0, hcz60_1, hcz60_2, hcz60_3, hcz60_4, hcz60_5, hfz60_0, hfz60_1, hfz60_2, hfz60_3, hfz60_4, hfz60_5⟩ := cl6 BK286
            have hnb61 := NB287_285.out
            have hnc61 := NB285_287.out
            obtain ⟨hcz62_0, hcz62_1, hfz62_0, hfz62_1⟩ := cl2 BK287
            go_wp2
            go_ret
            exact fin_ (below_later HB.out)
          · rw [if_neg c57] at H
            have c57b0 : (a1_2 == 0 && (a1_3.toList == (⟨#[]⟩ : ByteArray).toList)) = false := by simpa using c57
            (try (have c57b1 : decide (a1_2 = 0 && (a1_3.toList == (⟨#[]⟩ : ByteArray).toList)) = false := by simpa using c57))
            (try (have c57b2 : (a1_2 == 0 && (a1_3.toList == (⟨#[]⟩ : ByteArray).toList)) = false := by simpa using c57))
            (try (have c57b3 : ¬ (a1_2 = 0 && (a1_3.toList == (⟨#[]⟩ : ByteArray).toList)) := by simpa using c57))
            (try (have c57b4 : (a1_2 == 0 && a1_3.toList.isEmpty) = false := by simpa using c57))
            clear c57
            obtain rfl := Option.some.inj H
            have hnb63 := NB286_285.out
            have hnc63 := NB285_286.out
            have hnb64 := NB286_287.out
            have hnc64 := NB287_286.out
            obtain ⟨hcz65_0, hcz65_1, hcz65_2, hcz65_3, hcz65_4, hcz65_5, hfz65_0, hfz65_1, hfz65_2, hfz65_3, hfz65_4, hfz65_5⟩ := cl6 BK286
            have hnb66 := NB287_285.out
            have hnc66 := NB285_287.out
            obtain ⟨hcz67_0, hcz67_1, hfz67_0, hfz67_1⟩ := cl2 BK287
            go_wp2
            go_ret
            exact fin_ (below_later HB.out)

/-! ### spec_l15From: function 25 -/
mutual
def spec_l15From.j0 : Nat → Int → ByteArray → Bool → ByteArray → Bool → Int → Int → Int → Int → Bool → Int → ByteArray → Int → ByteArray → Option (Int × Bool × Int × ByteArray × Int × ByteArray × Bool)
  | 0, _, _, _, _, _, _, _, _, _, _, _, _, _, _ => none
  | k + 1, x9, x11, x12, x13, x61, x294000, x294001, x294002, x296000, x296001, x296002, x296003, x296004, x296005 => if x61 = true then (some (x296000, x296001, x296002, x296003, x296004, x296005, false)) else (if x12 = true then ((spec_l15Value.f k x294000 x11).bind fun bt305 => ((spec_l15Value.f k x294000 x13).bind fun bt309 => (if bt305.2.2 = true then (spec_l15From.j1 k (!bt309.2.2) x294000 x294001 x294002 x296000 x296001 x296002 x296003 x296004 x296005 x9 x12 0 (⟨#[]⟩ : ByteArray) 0 (⟨#[]⟩ : ByteArray) bt305.1 bt305.2.1 bt309.1 bt309.2.1) else (spec_l15From.j1 k true x294000 x294001 x294002 x296000 x296001 x296002 x296003 x296004 x296005 x9 x12 0 (⟨#[]⟩ : ByteArray) 0 (⟨#[]⟩ : ByteArray) bt305.1 bt305.2.1 bt309.1 bt309.2.1)))) else ((spec_l15Ok.f k x294000 x294001 x294002 x9 x12 0 (⟨#[]⟩ : ByteArray) 0 (⟨#[]⟩ : ByteArray)).bind fun t314 => (if t314 = true then (some (x9, x12, 0, (⟨#[]⟩ : ByteArray), 0, (⟨#[]⟩ : ByteArray), true)) else (some (x296000, x296001, x296002, x296003, x296004, x296005, false)))))
def spec_l15From.j1 : Nat → Bool → Int → Int → Int → Int → Bool → Int → ByteArray → Int → ByteArray → Int → Bool → Int → ByteArray → Int → ByteArray → Int → ByteArray → Int → ByteArray → Option (Int × Bool × Int × ByteArray × Int × ByteArray × Bool)
  | 0, _, _, _, _, _, _, _, _, _, _, _, _, _, _, _, _, _, _, _, _ => none
  | k + 1, x86, x294000, x294001, x294002, x296000, x296001, x296002, x296003, x296004, x296005, x305000, x305001, x305002, x305003, x305004, x305005, x309000, x309001, x313000, x313001 => if x86 = true then (some (x296000, x296001, x296002, x296003, x296004, x296005, false)) else ((spec_l15Ok.f k x294000 x294001 x294002 x305000 x305001 x313000 x313001 x309000 x309001).bind fun t313 => (if t313 = true then (some (x305000, x305001, x313000, x313001, x309000, x309001, true)) else (some (x296000, x296001, x296002, x296003, x296004, x296005, false))))
end
def spec_l15From.f (k : Nat) (a0_0 : Int) (a0_1 : Int) (a0_2 : Int) (l1 : List (S57)) (a2 : Int) : Option (Int × Bool × Int × ByteArray × Int × ByteArray × Bool) := (spec_l4NumOf.f k l1 a2 3).bind fun bt296 => ((spec_l4TextOf.f k l1 a2 5).bind fun bt298 => ((spec_l4TextOf.f k l1 a2 6).bind fun bt300 => (if bt296.2 = true then (if (bt298.2 != bt300.2) = true then (spec_l15From.j0 k bt296.1 bt298.1 bt298.2 bt300.1 true a0_0 a0_1 a0_2 0 false 0 (⟨#[]⟩ : ByteArray) 0 (⟨#[]⟩ : ByteArray)) else (if bt298.2 = true then (spec_l15From.j0 k bt296.1 bt298.1 bt298.2 bt300.1 false a0_0 a0_1 a0_2 0 false 0 (⟨#[]⟩ : ByteArray) 0 (⟨#[]⟩ : ByteArray)) else ((spec_l4Find.f k l1 a2 5).bind fun t302 => (if t302 ≥ 0 then (spec_l15From.j0 k bt296.1 bt298.1 bt298.2 bt300.1 true a0_0 a0_1 a0_2 0 false 0 (⟨#[]⟩ : ByteArray) 0 (⟨#[]⟩ : ByteArray)) else ((spec_l4Find.f k l1 a2 6).bind fun t303 => (spec_l15From.j0 k bt296.1 bt298.1 bt298.2 bt300.1 (decide (t303 ≥ 0)) a0_0 a0_1 a0_2 0 false 0 (⟨#[]⟩ : ByteArray) 0 (⟨#[]⟩ : ByteArray))))))) else (spec_l15From.j0 k bt296.1 bt298.1 bt298.2 bt300.1 true a0_0 a0_1 a0_2 0 false 0 (⟨#[]⟩ : ByteArray) 0 (⟨#[]⟩ : ByteArray)))))
set_option maxHeartbeats 8000000 in
set_option maxRecDepth 100000 in
theorem spec_l15From.calls (k : Nat) (a0_0 : Int) (a0_1 : Int) (a0_2 : Int) (A1 : Option Addr) (c1 : Nat) (l1 : List (S57)) (a2 : Int) (r1 : Int) (r2 : Bool) (r3 : Int) (r4 : ByteArray) (r5 : Int) (r6 : ByteArray) (r7 : Bool) (w : World) (hr1 : Kd.C k57 w A1 l1.length l1) (hc1 : l1.length ≤ c1) (h : spec_l15From.f k a0_0 a0_1 a0_2 l1 a2 = some (r1, r2, r3, r4, r5, r6, r7)) :
    Calls Try.prog 25 #[.agg #[.int .i64 a0_0, .int .i64 a0_1, .int .i64 a0_2], .slice A1 l1.length c1, .int .i64 a2] w fun e w' => e = .returned (.tuple #[.agg #[.int .i64 r1, .bool r2, .int .i64 r3, .string r4, .int .i64 r5, .string r6], .bool r7]) ∧ Below w.heap.size w w' := by
  have hu32 := Try.underlying32
  have hu29 := Try.underlying29
  have hu27 := Try.underlying27
  have HR1 := Aside0.mk hr1
  have HC1 := Aside0.mk hc1
  clear hr1 hc1
  have HB := Aside0.mk (Below.refl w.heap.size w)
  have H : ((spec_l4NumOf.f k l1 a2 3).bind fun bt296 => ((spec_l4TextOf.f k l1 a2 5).bind fun bt298 => ((spec_l4TextOf.f k l1 a2 6).bind fun bt300 => (if bt296.2 = true then (if (bt298.2 != bt300.2) = true then (spec_l15From.j0 k bt296.1 bt298.1 bt298.2 bt300.1 true a0_0 a0_1 a0_2 0 false 0 (⟨#[]⟩ : ByteArray) 0 (⟨#[]⟩ : ByteArray)) else (if bt298.2 = true then (spec_l15From.j0 k bt296.1 bt298.1 bt298.2 bt300.1 false a0_0 a0_1 a0_2 0 false 0 (⟨#[]⟩ : ByteArray) 0 (⟨#[]⟩ : ByteArray)) else ((spec_l4Find.f k l1 a2 5).bind fun t302 => (if t302 ≥ 0 then (spec_l15From.j0 k bt296.1 bt298.1 bt298.2 bt300.1 true a0_0 a0_1 a0_2 0 false 0 (⟨#[]⟩ : ByteArray) 0 (⟨#[]⟩ : ByteArray)) else ((spec_l4Find.f k l1 a2 6).bind fun t303 => (spec_l15From.j0 k bt296.1 bt298.1 bt298.2 bt300.1 (decide (t303 ≥ 0)) a0_0 a0_1 a0_2 0 false 0 (⟨#[]⟩ : ByteArray) 0 (⟨#[]⟩ : ByteArray))))))) else (spec_l15From.j0 k bt296.1 bt298.1 bt298.2 bt300.1 true a0_0 a0_1 a0_2 0 false 0 (⟨#[]⟩ : ByteArray) 0 (⟨#[]⟩ : ByteArray)))))) = some (r1, r2, r3, r4, r5, r6, r7) := h
  clear h
  replace H := Option.bind_eq_some_iff.mp H
  obtain ⟨⟨t296, t297⟩, A40, H⟩ := H
  replace H : ((spec_l4TextOf.f k l1 a2 5).bind fun bt298 => ((spec_l4TextOf.f k l1 a2 6).bind fun bt300 => (if t297 = true then (if (bt298.2 != bt300.2) = true then (spec_l15From.j0 k t296 bt298.1 bt298.2 bt300.1 true a0_0 a0_1 a0_2 0 false 0 (⟨#[]⟩ : ByteArray) 0 (⟨#[]⟩ : ByteArray)) else (if bt298.2 = true then (spec_l15From.j0 k t296 bt298.1 bt298.2 bt300.1 false a0_0 a0_1 a0_2 0 false 0 (⟨#[]⟩ : ByteArray) 0 (⟨#[]⟩ : ByteArray)) else ((spec_l4Find.f k l1 a2 5).bind fun t302 => (if t302 ≥ 0 then (spec_l15From.j0 k t296 bt298.1 bt298.2 bt300.1 true a0_0 a0_1 a0_2 0 false 0 (⟨#[]⟩ : ByteArray) 0 (⟨#[]⟩ : ByteArray)) else ((spec_l4Find.f k l1 a2 6).bind fun t303 => (spec_l15From.j0 k t296 bt298.1 bt298.2 bt300.1 (decide (t303 ≥ 0)) a0_0 a0_1 a0_2 0 false 0 (⟨#[]⟩ : ByteArray) 0 (⟨#[]⟩ : ByteArray))))))) else (spec_l15From.j0 k t296 bt298.1 bt298.2 bt300.1 true a0_0 a0_1 a0_2 0 false 0 (⟨#[]⟩ : ByteArray) 0 (⟨#[]⟩ : ByteArray))))) = some (r1, r2, r3, r4, r5, r6, r7) := H
  have A4 := Aside0.mk A40
  clear A40
  replace H := Option.bind_eq_some_iff.mp H
  obtain ⟨⟨t298, t299⟩, A50, H⟩ := H
  replace H : ((spec_l4TextOf.f k l1 a2 6).bind fun bt300 => (if t297 = true then (if (t299 != bt300.2) = true then (spec_l15From.j0 k t296 t298 t299 bt300.1 true a0_0 a0_1 a0_2 0 false 0 (⟨#[]⟩ : ByteArray) 0 (⟨#[]⟩ : ByteArray)) else (if t299 = true then (spec_l15From.j0 k t296 t298 t299 bt300.1 false a0_0 a0_1 a0_2 0 false 0 (⟨#[]⟩ : ByteArray) 0 (⟨#[]⟩ : ByteArray)) else ((spec_l4Find.f k l1 a2 5).bind fun t302 => (if t302 ≥ 0 then (spec_l15From.j0 k t296 t298 t299 bt300.1 true a0_0 a0_1 a0_2 0 false 0 (⟨#[]⟩ : ByteArray) 0 (⟨#[]⟩ : ByteArray)) else ((spec_l4Find.f k l1 a2 6).bind fun t303 => (spec_l15From.j0 k t296 t298 t299 bt300.1 (decide (t303 ≥ 0)) a0_0 a0_1 a0_2 0 false 0 (⟨#[]⟩ : ByteArray) 0 (⟨#[]⟩ : ByteArray))))))) else (spec_l15From.j0 k t296 t298 t299 bt300.1 true a0_0 a0_1 a0_2 0 false 0 (⟨#[]⟩ : ByteArray) 0 (⟨#[]⟩ : ByteArray)))) = some (r1, r2, r3, r4, r5, r6, r7) := H
  have A5 := Aside0.mk A50
  clear A50
  replace H := Option.bind_eq_some_iff.mp H
  obtain ⟨⟨t300, t301⟩, A60, H⟩ := H
  replace H : (if t297 = true then (if (t299 != t301) = true then (spec_l15From.j0 k t296 t298 t299 t300 true a0_0 a0_1 a0_2 0 false 0 (⟨#[]⟩ : ByteArray) 0 (⟨#[]⟩ : ByteArray)) else (if t299 = true then (spec_l15From.j0 k t296 t298 t299 t300 false a0_0 a0_1 a0_2 0 false 0 (⟨#[]⟩ : ByteArray) 0 (⟨#[]⟩ : ByteArray)) else ((spec_l4Find.f k l1 a2 5).bind fun t302 => (if t302 ≥ 0 then (spec_l15From.j0 k t296 t298 t299 t300 true a0_0 a0_1 a0_2 0 false 0 (⟨#[]⟩ : ByteArray) 0 (⟨#[]⟩ : ByteArray)) else ((spec_l4Find.f k l1 a2 6).bind fun t303 => (spec_l15From.j0 k t296 t298 t299 t300 (decide (t303 ≥ 0)) a0_0 a0_1 a0_2 0 false 0 (⟨#[]⟩ : ByteArray) 0 (⟨#[]⟩ : ByteArray))))))) else (spec_l15From.j0 k t296 t298 t299 t300 true a0_0 a0_1 a0_2 0 false 0 (⟨#[]⟩ : ByteArray) 0 (⟨#[]⟩ : ByteArray))) = some (r1, r2, r3, r4, r5, r6, r7) := H
  have A6 := Aside0.mk A60
  clear A60
  have HC7 := Aside0.mk H
  clear H
  go_enter Try.func25, Try.ntmps25
  go_upto_region 5 with (first | ((with_reducible refine gate_dst (N := 3) rfl ?_); refine bx_ 3 #[.int .i64 a0_0, .int .i64 a0_1, .int .i64 a0_2] 32 ?_; intro gb293 hg w8 hbox hb; have BK293 := Aside0.mk (hbox); have GW293 := gwe HB hg; have GE293 := GW293; replace HB := bst HB hb; clear hb hbox hg) | ((with_reducible refine gate_dst (N := 6) rfl ?_); refine bx_ 6 #[.int .i64 0, .bool false, .int .i64 0, .string (⟨#[]⟩ : ByteArray), .int .i64 0, .string (⟨#[]⟩ : ByteArray)] 29 ?_; intro gb294 hg w9 hbox hb; have BK294 := Aside0.mk (hbox); have GW294 := gwe HB hg; have GE294 := GW294; have NB293_294 := nbl BK293 hg; have NB294_293 := nbr (nbl BK293 hg); replace BK293 := bkb BK293 hb; replace HB := bst HB hb; clear hb hbox hg) | ((with_reducible refine gate_dst (N := 8) rfl ?_); refine bx_ 8 #[.int .i64 0, .bool false, .int .i64 0, .string (⟨#[]⟩ : ByteArray), .int .i64 0, .string (⟨#[]⟩ : ByteArray)] 29 ?_; intro gb295 hg w10 hbox hb; have BK295 := Aside0.mk (hbox); have GW295 := gwe HB hg; have GE295 := GW295; have NB293_295 := nbl BK293 hg; have NB295_293 := nbr (nbl BK293 hg); have NB294_295 := nbl BK294 hg; have NB295_294 := nbr (nbl BK294 hg); replace BK293 := bkb BK293 hb; replace BK294 := bkb BK294 hb; replace HB := bst HB hb; clear hb hbox hg; have hnb11 := NB295_293.out; have hnc11 := NB293_295.out; have hnb12 := NB295_294.out; have hnc12 := NB294_295.out; obtain ⟨hcz13_0, hcz13_1, hcz13_2, hcz13_3, hcz13_4, hcz13_5, hfz13_0, hfz13_1, hfz13_2, hfz13_3, hfz13_4, hfz13_5⟩ := cl6 BK295) | ((with_reducible refine gate_callee (f := 43) rfl ?_); refine gl_ (some 24) Try.func43 #[.slice A1 l1.length c1, .int .i64 a2, .int .i64 3] rfl ?_; (with_reducible refine (spec_l4NumOf.calls k _ _ l1 a2 3 t296 t297 _ ?side1 ?side2 A4.out).mono ?_); (case side1 => exact Kd.C_below HR1.out (below_later HB.out)); (case side2 => exact HC1.out); rintro e w' ⟨rfl, ⟨nd, rfl⟩⟩; refine ⟨_, rfl, ?_⟩) | ((with_reducible refine gate_callee (f := 44) rfl ?_); refine gl_ (some 30) Try.func44 #[.slice A1 l1.length c1, .int .i64 a2, .int .i64 5] rfl ?_; (with_reducible refine (spec_l4TextOf.calls k _ _ l1 a2 5 t298 t299 _ ?side1 ?side2 A5.out).mono ?_); (case side1 => exact Kd.C_below HR1.out (below_later HB.out)); (case side2 => exact HC1.out); rintro e w' ⟨rfl, ⟨nd, rfl⟩⟩; refine ⟨_, rfl, ?_⟩) | ((with_reducible refine gate_callee (f := 44) rfl ?_); refine gl_ (some 36) Try.func44 #[.slice A1 l1.length c1, .int .i64 a2, .int .i64 6] rfl ?_; (with_reducible refine (spec_l4TextOf.calls k _ _ l1 a2 6 t300 t301 _ ?side1 ?side2 A6.out).mono ?_); (case side1 => exact Kd.C_below HR1.out (below_later HB.out)); (case side2 => exact HC1.out); rintro e w' ⟨rfl, ⟨nd, rfl⟩⟩; refine ⟨_, rfl, ?_⟩))
  (try simp only [Act.put, List.setIfInBounds_toArray, List.set_cons_zero, List.set_cons_succ])
  go_cut [61] (fun v61 wc => ∃ (kq : Nat) (x61_6 : Bool), v61 = .bool x61_6 ∧ Aside0 (spec_l15From.j0 kq t296 t298 t299 t300 x61_6 a0_0 a0_1 a0_2 0 false 0 (⟨#[]⟩ : ByteArray) 0 (⟨#[]⟩ : ByteArray) = some (r1, r2, r3, r4, r5, r6, r7)) ∧ Aside0 (kq ≤ k) ∧ Aside0 (wc.heap[gb293]? = some (.cells #[.int .i64 a0_0, .int .i64 a0_1, .int .i64 a0_2] 32 (0, 0))) ∧ Aside0 (wc.heap[gb294]? = some (.cells #[.int .i64 0, .bool false, .int .i64 0, .string (⟨#[]⟩ : ByteArray), .int .i64 0, .string (⟨#[]⟩ : ByteArray)] 29 (0, 0))) ∧ Aside0 (wc.heap[gb295]? = some (.cells #[.int .i64 0, .bool false, .int .i64 0, .string (⟨#[]⟩ : ByteArray), .int .i64 0, .string (⟨#[]⟩ : ByteArray)] 29 (0, 0))) ∧ Aside0 (Below w.heap.size w wc))
  case first =>
    have H := HC7.out
    clear HC7
    by_cases c14 : t297 = true
    · subst c14
      replace H := ifp rfl H
      by_cases c15 : (t299 != t301) = true
      · rw [if_pos c15] at H
        have c15b0 : (t299 != t301) = true := c15
        (try (have c15b1 : decide (t299 = t301) = false := by simpa using c15))
        (try (have c15b2 : (t299 == t301) = false := by simpa using c15))
        (try (have c15b3 : ¬ (t299 = t301) := by simpa using c15))
        clear c15
        (first | rw [c15b0] | rw [c15b1] | (simp only [i64_w, i32_w]; rw [c15b0]) | skip)
        have H' := Aside0.mk H
        clear H
        go_wp2
        go_meet
        case rel => exact ⟨_, (true), sr, H', ⟨by first | omega | exact Nat.le_refl _⟩, ⟨blk_later BK293.out⟩, ⟨blk_later BK294.out⟩, ⟨blk_later BK295.out⟩, ⟨below_later HB.out⟩⟩
      · rw [if_neg c15] at H
        have c15b0 : (t299 != t301) = false := by simpa using c15
        (try (have c15b1 : decide (t299 = t301) = true := by simpa using c15))
        (try (have c15b2 : (t299 == t301) = true := by simpa using c15))
        clear c15
        (first | rw [c15b0] | rw [c15b1] | (simp only [i64_w, i32_w]; rw [c15b0]) | skip)
        by_cases c16 : t299 = true
        · subst c16
          replace H := ifp rfl H
          have H' := Aside0.mk H
          clear H
          go_wp2
          go_meet
          case rel => exact ⟨_, (false), sr, H', ⟨by first | omega | exact Nat.le_refl _⟩, ⟨blk_later BK293.out⟩, ⟨blk_later BK294.out⟩, ⟨blk_later BK295.out⟩, ⟨below_later HB.out⟩⟩
        · replace c16 := Bool.eq_false_iff.mpr c16
          subst c16
          replace H := ifn Bool.false_ne_true H
          replace H := bnd H
          obtain ⟨t302, A17, H⟩ := H
          by_cases c18 : t302 ≥ 0
          · rw [if_pos c18] at H
            have c18b0 : decide (0 ≤ t302) = true := decide_eq_true c18
            clear c18
            have H' := Aside0.mk H
            clear H
            go_wp2_with (first | (go_at_call 45; (with_reducible refine (spec_l4Find.calls k _ _ l1 a2 5 t302 _ ?side1 ?side2 A17.out).mono ?_); (case side1 => exact Kd.C_below HR1.out (below_later HB.out)); (case side2 => exact HC1.out); rintro e w' ⟨rfl, ⟨nd, rfl⟩⟩))
            go_meet
            case rel => exact ⟨_, (true), sr, H', ⟨by first | omega | exact Nat.le_refl _⟩, ⟨blk_later BK293.out⟩, ⟨blk_later BK294.out⟩, ⟨blk_later BK295.out⟩, ⟨below_later HB.out⟩⟩
          · rw [if_neg c18] at H
            have c18b0 : decide (0 ≤ t302) = false := decide_eq_false c18
            clear c18
            replace H := bnd H
            obtain ⟨t303, A19, H⟩ := H
            have H' := Aside0.mk H
            clear H
            go_wp2_with (first | (go_at_call 45; (with_reducible refine (spec_l4Find.calls k _ _ l1 a2 5 t302 _ ?side1 ?side2 A17.out).mono ?_); (case side1 => exact Kd.C_below HR1.out (below_later HB.out)); (case side2 => exact HC1.out); rintro e w' ⟨rfl, ⟨nd, rfl⟩⟩) | (go_at_call 45; (with_reducible refine (spec_l4Find.calls k _ _ l1 a2 6 t303 _ ?side1 ?side2 A19.out).mono ?_); (case side1 => exact Kd.C_below HR1.out (below_later HB.out)); (case side2 => exact HC1.out); rintro e w' ⟨rfl, ⟨nd, rfl⟩⟩))
            go_meet
            case rel => exact ⟨_, (decide (t303 ≥ 0)), sr, H', ⟨by first | omega | exact Nat.le_refl _⟩, ⟨blk_later BK293.out⟩, ⟨blk_later BK294.out⟩, ⟨blk_later BK295.out⟩, ⟨below_later HB.out⟩⟩
    · replace c14 := Bool.eq_false_iff.mpr c14
      subst c14
      replace H := ifn Bool.false_ne_true H
      have H' := Aside0.mk H
      clear H
      go_wp2
      go_meet
      case rel => exact ⟨_, (true), sr, H', ⟨by first | omega | exact Nat.le_refl _⟩, ⟨blk_later BK293.out⟩, ⟨blk_later BK294.out⟩, ⟨blk_later BK295.out⟩, ⟨below_later HB.out⟩⟩
  case rest =>
    clear HC7
    try clear c1
    try clear hcz13_0
    try clear hcz13_1
    try clear hcz13_2
    try clear hcz13_3
    try clear hcz13_4
    try clear hcz13_5
    try clear hfz13_0
    try clear hfz13_1
    try clear hfz13_2
    try clear hfz13_3
    try clear hfz13_4
    try clear hfz13_5
    obtain ⟨kq, x61_6, rfl, HA, HJ6, BK293, BK294, BK295, HB⟩ := hcut
    cases kq with
    | zero => exact absurd HA.out (by simp [spec_l15From.j0])
    | succ kj6 =>
      have H := HA.out
      clear HA
      simp only [spec_l15From.j0] at H
      by_cases c20 : x61_6 = true
      · subst c20
        replace H := ifp rfl H
        simp only [Option.some.injEq, Prod.mk.injEq] at H
        obtain ⟨rfl, rfl, rfl, rfl, rfl, rfl, rfl⟩ := H
        have hnb21 := NB295_293.out
        have hnc21 := NB293_295.out
        have hnb22 := NB295_294.out
        have hnc22 := NB294_295.out
        obtain ⟨hcz23_0, hcz23_1, hcz23_2, hcz23_3, hcz23_4, hcz23_5, hfz23_0, hfz23_1, hfz23_2, hfz23_3, hfz23_4, hfz23_5⟩ := cl6 BK295
        have hnb24 := NB294_293.out
        have hnc24 := NB293_294.out
        obtain ⟨hcz25_0, hcz25_1, hcz25_2, hcz25_3, hcz25_4, hcz25_5, hfz25_0, hfz25_1, hfz25_2, hfz25_3, hfz25_4, hfz25_5⟩ := cl6 BK294
        go_wp2
        refine bodyPost_ret (results_ct rfl _ _ gb294 29 #[.int .i64 0, .bool false, .int .i64 0, .string (⟨#[]⟩ : ByteArray), .int .i64 0, .string (⟨#[]⟩ : ByteArray)] (0, 0) _ rfl (by (with_reducible repeat (first | refine blk_drewN ?_ _ | refine blk_drew ?_ | refine blk_alloc ?_ _)); refine blk_put (cs := #[.int .i64 0, .bool false, .int .i64 0, .string (⟨#[]⟩ : ByteArray), .int .i64 0, .string (⟨#[]⟩ : ByteArray)]) ?_ 5 _ rfl; (with_reducible repeat (first | refine blk_drewN ?_ _ | refine blk_drew ?_ | refine blk_alloc ?_ _)); refine blk_put (cs := #[.int .i64 0, .bool false, .int .i64 0, .string (⟨#[]⟩ : ByteArray), .int .i64 0, .string (⟨#[]⟩ : ByteArray)]) ?_ 4 _ rfl; (with_reducible repeat (first | refine blk_drewN ?_ _ | refine blk_drew ?_ | refine blk_alloc ?_ _)); refine blk_put (cs := #[.int .i64 0, .bool false, .int .i64 0, .string (⟨#[]⟩ : ByteArray), .int .i64 0, .string (⟨#[]⟩ : ByteArray)]) ?_ 3 _ rfl; (with_reducible repeat (first | refine blk_drewN ?_ _ | refine blk_drew ?_ | refine blk_alloc ?_ _)); refine blk_put (cs := #[.int .i64 0, .bool false, .int .i64 0, .string (⟨#[]⟩ : ByteArray), .int .i64 0, .string (⟨#[]⟩ : ByteArray)]) ?_ 2 _ rfl; (with_reducible repeat (first | refine blk_drewN ?_ _ | refine blk_drew ?_ | refine blk_alloc ?_ _)); refine blk_put (cs := #[.int .i64 0, .bool false, .int .i64 0, .string (⟨#[]⟩ : ByteArray), .int .i64 0, .string (⟨#[]⟩ : ByteArray)]) ?_ 1 _ rfl; (with_reducible repeat (first | refine blk_drewN ?_ _ | refine blk_drew ?_ | refine blk_alloc ?_ _)); refine blk_put (cs := #[.int .i64 0, .bool false, .int .i64 0, .string (⟨#[]⟩ : ByteArray), .int .i64 0, .string (⟨#[]⟩ : ByteArray)]) ?_ 0 _ rfl; (with_reducible repeat (first | refine blk_drewN ?_ _ | refine blk_drew ?_ | refine blk_alloc ?_ _)); exact BK294.out) Try.underlying29 rfl (by kernel_rfl)) rfl ?_
        exact fin_ (below_later HB.out)
      · replace c20 := Bool.eq_false_iff.mpr c20
        subst c20
        replace H := ifn Bool.false_ne_true H
        by_cases c26 : t299 = true
        · subst c26
          replace H := ifp rfl H
          replace H := Option.bind_eq_some_iff.mp H
          obtain ⟨⟨t305, t306, t307⟩, A270, H⟩ := H
          replace H : ((spec_l15Value.f kj6 a0_0 t300).bind fun bt309 => (if t307 = true then (spec_l15From.j1 kj6 (!bt309.2.2) a0_0 a0_1 a0_2 0 false 0 (⟨#[]⟩ : ByteArray) 0 (⟨#[]⟩ : ByteArray) t296 true 0 (⟨#[]⟩ : ByteArray) 0 (⟨#[]⟩ : ByteArray) t305 t306 bt309.1 bt309.2.1) else (spec_l15From.j1 kj6 true a0_0 a0_1 a0_2 0 false 0 (⟨#[]⟩ : ByteArray) 0 (⟨#[]⟩ : ByteArray) t296 true 0 (⟨#[]⟩ : ByteArray) 0 (⟨#[]⟩ : ByteArray) t305 t306 bt309.1 bt309.2.1))) = some (r1, r2, r3, r4, r5, r6, r7) := H
          have A27 := Aside0.mk A270
          clear A270
          replace H := Option.bind_eq_some_iff.mp H
          obtain ⟨⟨t309, t310, t311⟩, A280, H⟩ := H
          replace H : (if t307 = true then (spec_l15From.j1 kj6 (!t311) a0_0 a0_1 a0_2 0 false 0 (⟨#[]⟩ : ByteArray) 0 (⟨#[]⟩ : ByteArray) t296 true 0 (⟨#[]⟩ : ByteArray) 0 (⟨#[]⟩ : ByteArray) t305 t306 t309 t310) else (spec_l15From.j1 kj6 true a0_0 a0_1 a0_2 0 false 0 (⟨#[]⟩ : ByteArray) 0 (⟨#[]⟩ : ByteArray) t296 true 0 (⟨#[]⟩ : ByteArray) 0 (⟨#[]⟩ : ByteArray) t305 t306 t309 t310)) = some (r1, r2, r3, r4, r5, r6, r7) := H
          have A28 := Aside0.mk A280
          clear A280
          have HC29 := Aside0.mk H
          clear H
          go_upto_region 11 with (first | ((with_reducible refine gate_dst (N := 15) rfl ?_); refine bx_ 15 #[.int .i64 0, .bool false, .int .i64 0, .string (⟨#[]⟩ : ByteArray), .int .i64 0, .string (⟨#[]⟩ : ByteArray)] 29 ?_; intro gb304 hg w30 hbox hb; have BK304 := Aside0.mk (hbox); have GW304 := gwe HB hg; have GE304 := GW304; have NB293_304 := nbl BK293 hg; have NB304_293 := nbr (nbl BK293 hg); have NB294_304 := nbl BK294 hg; have NB304_294 := nbr (nbl BK294 hg); have NB295_304 := nbl BK295 hg; have NB304_295 := nbr (nbl BK295 hg); replace BK293 := bkb BK293 hb; replace BK294 := bkb BK294 hb; replace BK295 := bkb BK295 hb; replace HB := bst HB hb; clear hb hbox hg; have hnb31 := NB304_293.out; have hnc31 := NB293_304.out; have hnb32 := NB304_294.out; have hnc32 := NB294_304.out; have hnb33 := NB304_295.out; have hnc33 := NB295_304.out; obtain ⟨hcz34_0, hcz34_1, hcz34_2, hcz34_3, hcz34_4, hcz34_5, hfz34_0, hfz34_1, hfz34_2, hfz34_3, hfz34_4, hfz34_5⟩ := cl6 BK304; have hnb35 := NB293_294.out; have hnc35 := NB294_293.out; have hnb36 := NB293_295.out; have hnc36 := NB295_293.out; obtain ⟨hcz37_0, hcz37_1, hcz37_2, hfz37_0, hfz37_1, hfz37_2⟩ := cl3 BK293) | ((with_reducible refine gate_callee (f := 46) rfl ?_); refine gl_ (some 71) Try.func46 #[.int .i64 a0_0, .string t298] rfl ?_; (with_reducible refine (spec_l15Value.calls kj6 a0_0 t298 t305 t306 t307 _ A27.out).mono ?_); rintro e w38 ⟨rfl, hb⟩; refine ⟨_, rfl, ?_⟩; replace BK293 := bkb BK293 hb; replace BK294 := bkb BK294 hb; replace BK295 := bkb BK295 hb; replace BK304 := Aside0.mk (blk_below (g := gb304) (o := .cells #[.int .i64 t296, .bool true, .int .i64 0, .string (⟨#[]⟩ : ByteArray), .int .i64 0, .string (⟨#[]⟩ : ByteArray)] 29 (0, 0)) (blk_later BK304.out) hb); replace HB := bst HB hb; (try clear hb)) | ((with_reducible refine gate_dst (N := 16) rfl ?_); refine bx_ 16 #[.int .i64 0, .string (⟨#[]⟩ : ByteArray)] 27 ?_; intro gb308 hg w39 hbox hb; have BK308 := Aside0.mk (hbox); have GW308 := gwe HB hg; have GE308 := GW308; have NB293_308 := nbl BK293 hg; have NB308_293 := nbr (nbl BK293 hg); have NB294_308 := nbl BK294 hg; have NB308_294 := nbr (nbl BK294 hg); have NB295_308 := nbl BK295 hg; have NB308_295 := nbr (nbl BK295 hg); have NB304_308 := nbl BK304 hg; have NB308_304 := nbr (nbl BK304 hg); replace BK293 := bkb BK293 hb; replace BK294 := bkb BK294 hb; replace BK295 := bkb BK295 hb; replace BK304 := bkb BK304 hb; replace HB := bst HB hb; clear hb hbox hg; have hnb40 := NB308_293.out; have hnc40 := NB293_308.out; have hnb41 := NB308_294.out; have hnc41 := NB294_308.out; have hnb42 := NB308_295.out; have hnc42 := NB295_308.out; have hnb43 := NB308_304.out; have hnc43 := NB304_308.out; obtain ⟨hcz44_0, hcz44_1, hfz44_0, hfz44_1⟩ := cl2 BK308; obtain ⟨hcz45_0, hcz45_1, hcz45_2, hfz45_0, hfz45_1, hfz45_2⟩ := cl3 BK293) | ((with_reducible refine gate_callee (f := 46) rfl ?_); refine gl_ (some 78) Try.func46 #[.int .i64 a0_0, .string t300] rfl ?_; (with_reducible refine (spec_l15Value.calls kj6 a0_0 t300 t309 t310 t311 _ A28.out).mono ?_); rintro e w46 ⟨rfl, hb⟩; refine ⟨_, rfl, ?_⟩; replace BK293 := bkb BK293 hb; replace BK294 := bkb BK294 hb; replace BK295 := bkb BK295 hb; replace BK304 := bkb BK304 hb; replace BK308 := Aside0.mk (blk_below (g := gb308) (o := .cells #[.int .i64 t305, .string t306] 27 (0, 0)) (blk_later BK308.out) hb); replace HB := bst HB hb; (try clear hb)) | ((with_reducible refine gate_dst (N := 18) rfl ?_); refine bx_ 18 #[.int .i64 0, .string (⟨#[]⟩ : ByteArray)] 27 ?_; intro gb312 hg w47 hbox hb; have BK312 := Aside0.mk (hbox); have GW312 := gwe HB hg; have GE312 := GW312; have NB293_312 := nbl BK293 hg; have NB312_293 := nbr (nbl BK293 hg); have NB294_312 := nbl BK294 hg; have NB312_294 := nbr (nbl BK294 hg); have NB295_312 := nbl BK295 hg; have NB312_295 := nbr (nbl BK295 hg); have NB304_312 := nbl BK304 hg; have NB312_304 := nbr (nbl BK304 hg); have NB308_312 := nbl BK308 hg; have NB312_308 := nbr (nbl BK308 hg); replace BK293 := bkb BK293 hb; replace BK294 := bkb BK294 hb; replace BK295 := bkb BK295 hb; replace BK304 := bkb BK304 hb; replace BK308 := bkb BK308 hb; replace HB := bst HB hb; clear hb hbox hg; have hnb48 := NB312_293.out; have hnc48 := NB293_312.out; have hnb49 := NB312_294.out; have hnc49 := NB294_312.out; have hnb50 := NB312_295.out; have hnc50 := NB295_312.out; have hnb51 := NB312_304.out; have hnc51 := NB304_312.out; have hnb52 := NB312_308.out; have hnc52 := NB308_312.out; obtain ⟨hcz53_0, hcz53_1, hfz53_0, hfz53_1⟩ := cl2 BK312))
          (try simp only [Act.put, List.setIfInBounds_toArray, List.set_cons_zero, List.set_cons_succ])
          go_cut [86] (fun v86 wc => ∃ (kq : Nat) (x86_28 : Bool), v86 = .bool x86_28 ∧ Aside0 (spec_l15From.j1 kq x86_28 a0_0 a0_1 a0_2 0 false 0 (⟨#[]⟩ : ByteArray) 0 (⟨#[]⟩ : ByteArray) t296 true 0 (⟨#[]⟩ : ByteArray) 0 (⟨#[]⟩ : ByteArray) t305 t306 t309 t310 = some (r1, r2, r3, r4, r5, r6, r7)) ∧ Aside0 (kq ≤ kj6) ∧ Aside0 (wc.heap[gb293]? = some (.cells #[.int .i64 a0_0, .int .i64 a0_1, .int .i64 a0_2] 32 (0, 0))) ∧ Aside0 (wc.heap[gb294]? = some (.cells #[.int .i64 0, .bool false, .int .i64 0, .string (⟨#[]⟩ : ByteArray), .int .i64 0, .string (⟨#[]⟩ : ByteArray)] 29 (0, 0))) ∧ Aside0 (wc.heap[gb295]? = some (.cells #[.int .i64 0, .bool false, .int .i64 0, .string (⟨#[]⟩ : ByteArray), .int .i64 0, .string (⟨#[]⟩ : ByteArray)] 29 (0, 0))) ∧ Aside0 (wc.heap[gb304]? = some (.cells #[.int .i64 t296, .bool true, .int .i64 0, .string (⟨#[]⟩ : ByteArray), .int .i64 0, .string (⟨#[]⟩ : ByteArray)] 29 (0, 0))) ∧ Aside0 (wc.heap[gb308]? = some (.cells #[.int .i64 t305, .string t306] 27 (0, 0))) ∧ Aside0 (wc.heap[gb312]? = some (.cells #[.int .i64 t309, .string t310] 27 (0, 0))) ∧ Aside0 (Below w.heap.size w wc))
          case first =>
            have H := HC29.out
            clear HC29
            by_cases c54 : t307 = true
            · subst c54
              replace H := ifp rfl H
              have H' := Aside0.mk H
              clear H
              go_wp2
              go_meet
              case rel => exact ⟨_, (!t311), sr, H', ⟨by have := HJ6.out; first | omega | exact Nat.le_refl _⟩, ⟨blk_later BK293.out⟩, ⟨blk_later BK294.out⟩, ⟨blk_later BK295.out⟩, ⟨blk_later BK304.out⟩, ⟨blk_later BK308.out⟩, ⟨blk_later BK312.out⟩, ⟨below_later HB.out⟩⟩
            · replace c54 := Bool.eq_false_iff.mpr c54
              subst c54
              replace H := ifn Bool.false_ne_true H
              have H' := Aside0.mk H
              clear H
              go_wp2
              go_meet
              case rel => exact ⟨_, (true), sr, H', ⟨by have := HJ6.out; first | omega | exact Nat.le_refl _⟩, ⟨blk_later BK293.out⟩, ⟨blk_later BK294.out⟩, ⟨blk_later BK295.out⟩, ⟨blk_later BK304.out⟩, ⟨blk_later BK308.out⟩, ⟨blk_later BK312.out⟩, ⟨below_later HB.out⟩⟩
          case rest =>
            clear HC29
            try clear c1
            try clear c20
            try clear c26
            try clear hcz13_0
            try clear hcz13_1
            try clear hcz13_2
            try clear hcz13_3
            try clear hcz13_4
            try clear hcz13_5
            try clear hcz34_0
            try clear hcz34_1
            try clear hcz34_2
            try clear hcz34_3
            try clear hcz34_4
            try clear hcz34_5
            try clear hcz37_0
            try clear hcz37_1
            try clear hcz37_2
            try clear hcz44_0
            try clear hcz44_1
            try clear hcz45_0
            try clear hcz45_1
            try clear hcz45_2
            try clear hcz53_0
            try clear hcz53_1
            try clear hfz13_0
            try clear hfz13_1
            try clear hfz13_2
            try clear hfz13_3
            try clear hfz13_4
            try clear hfz13_5
            try clear hfz34_0
            try clear hfz34_1
            try clear hfz34_2
            try clear hfz34_3
            try clear hfz34_4
            try clear hfz34_5
            try clear hfz37_0
            try clear hfz37_1
            try clear hfz37_2
            try clear hfz44_0
            try clear hfz44_1
            try clear hfz45_0
            try clear hfz45_1
            try clear hfz45_2
            try clear hfz53_0
            try clear hfz53_1
            obtain ⟨kq, x86_28, rfl, HA, HJ28, BK293, BK294, BK295, BK304, BK308, BK312, HB⟩ := hcut
            cases kq with
            | zero => exact absurd HA.out (by simp [spec_l15From.j1])
            | succ kj28 =>
              have H := HA.out
              clear HA
              simp only [spec_l15From.j1] at H
              by_cases c55 : x86_28 = true
              · subst c55
                replace H := ifp rfl H
                simp only [Option.some.injEq, Prod.mk.injEq] at H
                obtain ⟨rfl, rfl, rfl, rfl, rfl, rfl, rfl⟩ := H
                have hnb56 := NB295_293.out
                have hnc56 := NB293_295.out
                have hnb57 := NB295_294.out
                have hnc57 := NB294_295.out
                have hnb58 := NB295_304.out
                have hnc58 := NB304_295.out
                have hnb59 := NB295_308.out
                have hnc59 := NB308_295.out
                have hnb60 := NB295_312.out
                have hnc60 := NB312_295.out
                obtain ⟨hcz61_0, hcz61_1, hcz61_2, hcz61_3, hcz61_4, hcz61_5, hfz61_0, hfz61_1, hfz61_2, hfz61_3, hfz61_4, hfz61_5⟩ := cl6 BK295
                have hnb62 := NB294_293.out
                have hnc62 := NB293_294.out
                have hnb63 := NB294_304.out
                have hnc63 := NB304_294.out
                have hnb64 := NB294_308.out
                have hnc64 := NB308_294.out
                have hnb65 := NB294_312.out
                have hnc65 := NB312_294.out
                obtain ⟨hcz66_0, hcz66_1, hcz66_2, hcz66_3, hcz66_4, hcz66_5, hfz66_0, hfz66_1, hfz66_2, hfz66_3, hfz66_4, hfz66_5⟩ := cl6 BK294
                go_wp2
                refine bodyPost_ret (results_ct rfl _ _ gb294 29 #[.int .i64 0, .bool false, .int .i64 0, .string (⟨#[]⟩ : ByteArray), .int .i64 0, .string (⟨#[]⟩ : ByteArray)] (0, 0) _ rfl (by (with_reducible repeat (first | refine blk_drewN ?_ _ | refine blk_drew ?_ | refine blk_alloc ?_ _)); refine blk_put (cs := #[.int .i64 0, .bool false, .int .i64 0, .string (⟨#[]⟩ : ByteArray), .int .i64 0, .string (⟨#[]⟩ : ByteArray)]) ?_ 5 _ rfl; (with_reducible repeat (first | refine blk_drewN ?_ _ | refine blk_drew ?_ | refine blk_alloc ?_ _)); refine blk_put (cs := #[.int .i64 0, .bool false, .int .i64 0, .string (⟨#[]⟩ : ByteArray), .int .i64 0, .string (⟨#[]⟩ : ByteArray)]) ?_ 4 _ rfl; (with_reducible repeat (first | refine blk_drewN ?_ _ | refine blk_drew ?_ | refine blk_alloc ?_ _)); refine blk_put (cs := #[.int .i64 0, .bool false, .int .i64 0, .string (⟨#[]⟩ : ByteArray), .int .i64 0, .string (⟨#[]⟩ : ByteArray)]) ?_ 3 _ rfl; (with_reducible repeat (first | refine blk_drewN ?_ _ | refine blk_drew ?_ | refine blk_alloc ?_ _)); refine blk_put (cs := #[.int .i64 0, .bool false, .int .i64 0, .string (⟨#[]⟩ : ByteArray), .int .i64 0, .string (⟨#[]⟩ : ByteArray)]) ?_ 2 _ rfl; (with_reducible repeat (first | refine blk_drewN ?_ _ | refine blk_drew ?_ | refine blk_alloc ?_ _)); refine blk_put (cs := #[.int .i64 0, .bool false, .int .i64 0, .string (⟨#[]⟩ : ByteArray), .int .i64 0, .string (⟨#[]⟩ : ByteArray)]) ?_ 1 _ rfl; (with_reducible repeat (first | refine blk_drewN ?_ _ | refine blk_drew ?_ | refine blk_alloc ?_ _)); refine blk_put (cs := #[.int .i64 0, .bool false, .int .i64 0, .string (⟨#[]⟩ : ByteArray), .int .i64 0, .string (⟨#[]⟩ : ByteArray)]) ?_ 0 _ rfl; (with_reducible repeat (first | refine blk_drewN ?_ _ | refine blk_drew ?_ | refine blk_alloc ?_ _)); exact BK294.out) Try.underlying29 rfl (by kernel_rfl)) rfl ?_
                exact fin_ (below_later HB.out)
              · replace c55 := Bool.eq_false_iff.mpr c55
                subst c55
                replace H := ifn Bool.false_ne_true H
                replace H := bnd H
                obtain ⟨t313, A67, H⟩ := H
                by_cases c68 : t313 = true
                · subst c68
                  replace H := ifp rfl H
                  simp only [Option.some.injEq, Prod.mk.injEq] at H
                  obtain ⟨rfl, rfl, rfl, rfl, rfl, rfl, rfl⟩ := H
                  have hnb69 := NB308_293.out
                  have hnc69 := NB293_308.out
                  have hnb70 := NB308_294.out
                  have hnc70 := NB294_308.out
                  have hnb71 := NB308_295.out
                  have hnc71 := NB295_308.out
                  have hnb72 := NB308_304.out
                  have hnc72 := NB304_308.out
                  have hnb73 := NB308_312.out
                  have hnc73 := NB312_308.out
                  obtain ⟨hcz74_0, hcz74_1, hfz74_0, hfz74_1⟩ := cl2 BK308
                  have hnb75 := NB304_293.out
                  have hnc75 := NB293_304.out
                  have hnb76 := NB304_294.out
                  have hnc76 := NB294_304.out
                  have hnb77 := NB304_295.out
                  have hnc77 := NB295_304.out
                  have hnb78 := NB304_312.out
                  have hnc78 := NB312_304.out
                  obtain ⟨hcz79_0, hcz79_1, hcz79_2, hcz79_3, hcz79_4, hcz79_5, hfz79_0, hfz79_1, hfz79_2, hfz79_3, hfz79_4, hfz79_5⟩ := cl6 BK304
                  have hnb80 := NB312_293.out
                  have hnc80 := NB293_312.out
                  have hnb81 := NB312_294.out
                  have hnc81 := NB294_312.out
                  have hnb82 := NB312_295.out
                  have hnc82 := NB295_312.out
                  obtain ⟨hcz83_0, hcz83_1, hfz83_0, hfz83_1⟩ := cl2 BK312
                  have hnb84 := NB293_294.out
                  have hnc84 := NB294_293.out
                  have hnb85 := NB293_295.out
                  have hnc85 := NB295_293.out
                  obtain ⟨hcz86_0, hcz86_1, hcz86_2, hfz86_0, hfz86_1, hfz86_2⟩ := cl3 BK293
                  go_wp2_with (first | ((with_reducible refine gate_callee (f := 47) rfl ?_); refine gl_ (some 94) Try.func47 #[.agg #[.int .i64 a0_0, .int .i64 a0_1, .int .i64 a0_2], .agg #[.int .i64 t296, .bool true, .int .i64 t309, .string t310, .int .i64 t305, .string t306]] rfl ?_; (with_reducible refine (spec_l15Ok.calls kj28 a0_0 a0_1 a0_2 t296 true t309 t310 t305 t306 true _ A67.out).mono ?_); rintro e w87 ⟨rfl, hb⟩; refine ⟨_, rfl, ?_⟩; replace BK293 := bkb BK293 hb; replace BK294 := bkb BK294 hb; replace BK295 := bkb BK295 hb; replace BK304 := Aside0.mk (blk_below (g := gb304) (o := .cells #[.int .i64 t296, .bool true, .int .i64 t309, .string t310, .int .i64 t305, .string t306] 29 (0, 0)) (blk_later BK304.out) hb); replace BK308 := bkb BK308 hb; replace BK312 := bkb BK312 hb; replace HB := bst HB hb; (try clear hb); obtain ⟨hcz88_0, hcz88_1, hcz88_2, hcz88_3, hcz88_4, hcz88_5, hfz88_0, hfz88_1, hfz88_2, hfz88_3, hfz88_4, hfz88_5⟩ := cl6 BK304; have hnb89 := NB294_295.out; have hnc89 := NB295_294.out; obtain ⟨hcz90_0, hcz90_1, hcz90_2, hcz90_3, hcz90_4, hcz90_5, hfz90_0, hfz90_1, hfz90_2, hfz90_3, hfz90_4, hfz90_5⟩ := cl6 BK294))
                  refine bodyPost_ret (results_ct rfl _ _ gb294 29 #[.int .i64 t296, .bool true, .int .i64 t309, .string t310, .int .i64 t305, .string t306] (0, 0) _ rfl (by (with_reducible repeat (first | refine blk_drewN ?_ _ | refine blk_drew ?_ | refine blk_alloc ?_ _)); refine blk_put (cs := #[.int .i64 t296, .bool true, .int .i64 t309, .string t310, .int .i64 t305, .string (⟨#[]⟩ : ByteArray)]) ?_ 5 _ rfl; (with_reducible repeat (first | refine blk_drewN ?_ _ | refine blk_drew ?_ | refine blk_alloc ?_ _)); refine blk_put (cs := #[.int .i64 t296, .bool true, .int .i64 t309, .string t310, .int .i64 0, .string (⟨#[]⟩ : ByteArray)]) ?_ 4 _ rfl; (with_reducible repeat (first | refine blk_drewN ?_ _ | refine blk_drew ?_ | refine blk_alloc ?_ _)); refine blk_put (cs := #[.int .i64 t296, .bool true, .int .i64 t309, .string (⟨#[]⟩ : ByteArray), .int .i64 0, .string (⟨#[]⟩ : ByteArray)]) ?_ 3 _ rfl; (with_reducible repeat (first | refine blk_drewN ?_ _ | refine blk_drew ?_ | refine blk_alloc ?_ _)); refine blk_put (cs := #[.int .i64 t296, .bool true, .int .i64 0, .string (⟨#[]⟩ : ByteArray), .int .i64 0, .string (⟨#[]⟩ : ByteArray)]) ?_ 2 _ rfl; (with_reducible repeat (first | refine blk_drewN ?_ _ | refine blk_drew ?_ | refine blk_alloc ?_ _)); refine blk_put (cs := #[.int .i64 t296, .bool false, .int .i64 0, .string (⟨#[]⟩ : ByteArray), .int .i64 0, .string (⟨#[]⟩ : ByteArray)]) ?_ 1 _ rfl; (with_reducible repeat (first | refine blk_drewN ?_ _ | refine blk_drew ?_ | refine blk_alloc ?_ _)); refine blk_put (cs := #[.int .i64 0, .bool false, .int .i64 0, .string (⟨#[]⟩ : ByteArray), .int .i64 0, .string (⟨#[]⟩ : ByteArray)]) ?_ 0 _ rfl; (with_reducible repeat (first | refine blk_drewN ?_ _ | refine blk_drew ?_ | refine blk_alloc ?_ _)); exact BK294.out) Try.underlying29 rfl (by kernel_rfl)) rfl ?_
                  exact fin_ (below_later HB.out)
                · replace c68 := Bool.eq_false_iff.mpr c68
                  subst c68
                  replace H := ifn Bool.false_ne_true H
                  simp only [Option.some.injEq, Prod.mk.injEq] at H
                  obtain ⟨rfl, rfl, rfl, rfl, rfl, rfl, rfl⟩ := H
                  have hnb91 := NB308_293.out
                  have hnc91 := NB293_308.out
                  have hnb92 := NB308_294.out
                  have hnc92 := NB294_308.out
                  have hnb93 := NB308_295.out
                  have hnc93 := NB295_308.out
                  have hnb94 := NB308_304.out
                  have hnc94 := NB304_308.out
                  have hnb95 := NB308_312.out
                  have hnc95 := NB312_308.out
                  obtain ⟨hcz96_0, hcz96_1, hfz96_0, hfz96_1⟩ := cl2 BK308
                  have hnb97 := NB304_293.out
                  have hnc97 := NB293_304.out
                  have hnb98 := NB304_294.out
                  have hnc98 := NB294_304.out
                  have hnb99 := NB304_295.out
                  have hnc99 := NB295_304.out
                  have hnb100 := NB304_312.out
                  have hnc100 := NB312_304.out
                  obtain ⟨hcz101_0, hcz101_1, hcz101_2, hcz101_3, hcz101_4, hcz101_5, hfz101_0, hfz101_1, hfz101_2, hfz101_3, hfz101_4, hfz101_5⟩ := cl6 BK304
                  have hnb102 := NB312_293.out
                  have hnc102 := NB293_312.out
                  have hnb103 := NB312_294.out
                  have hnc103 := NB294_312.out
                  have hnb104 := NB312_295.out
                  have hnc104 := NB295_312.out
                  obtain ⟨hcz105_0, hcz105_1, hfz105_0, hfz105_1⟩ := cl2 BK312
                  have hnb106 := NB293_294.out
                  have hnc106 := NB294_293.out
                  have hnb107 := NB293_295.out
                  have hnc107 := NB295_293.out
                  obtain ⟨hcz108_0, hcz108_1, hcz108_2, hfz108_0, hfz108_1, hfz108_2⟩ := cl3 BK293
                  go_wp2_with (first | ((with_reducible refine gate_callee (f := 47) rfl ?_); refine gl_ (some 94) Try.func47 #[.agg #[.int .i64 a0_0, .int .i64 a0_1, .int .i64 a0_2], .agg #[.int .i64 t296, .bool true, .int .i64 t309, .string t310, .int .i64 t305, .string t306]] rfl ?_; (with_reducible refine (spec_l15Ok.calls kj28 a0_0 a0_1 a0_2 t296 true t309 t310 t305 t306 false _ A67.out).mono ?_); rintro e w109 ⟨rfl, hb⟩; refine ⟨_, rfl, ?_⟩; replace BK293 := bkb BK293 hb; replace BK294 := bkb BK294 hb; replace BK295 := bkb BK295 hb; replace BK304 := Aside0.mk (blk_below (g := gb304) (o := .cells #[.int .i64 t296, .bool true, .int .i64 t309, .string t310, .int .i64 t305, .string t306] 29 (0, 0)) (blk_later BK304.out) hb); replace BK308 := bkb BK308 hb; replace BK312 := bkb BK312 hb; replace HB := bst HB hb; (try clear hb); have hnb110 := NB295_294.out; have hnc110 := NB294_295.out; obtain ⟨hcz111_0, hcz111_1, hcz111_2, hcz111_3, hcz111_4, hcz111_5, hfz111_0, hfz111_1, hfz111_2, hfz111_3, hfz111_4, hfz111_5⟩ := cl6 BK295; obtain ⟨hcz112_0, hcz112_1, hcz112_2, hcz112_3, hcz112_4, hcz112_5, hfz112_0, hfz112_1, hfz112_2, hfz112_3, hfz112_4, hfz112_5⟩ := cl6 BK294))
                  refine bodyPost_ret (results_ct rfl _ _ gb294 29 #[.int .i64 0, .bool false, .int .i64 0, .string (⟨#[]⟩ : ByteArray), .int .i64 0, .string (⟨#[]⟩ : ByteArray)] (0, 0) _ rfl (by (with_reducible repeat (first | refine blk_drewN ?_ _ | refine blk_drew ?_ | refine blk_alloc ?_ _)); refine blk_put (cs := #[.int .i64 0, .bool false, .int .i64 0, .string (⟨#[]⟩ : ByteArray), .int .i64 0, .string (⟨#[]⟩ : ByteArray)]) ?_ 5 _ rfl; (with_reducible repeat (first | refine blk_drewN ?_ _ | refine blk_drew ?_ | refine blk_alloc ?_ _)); refine blk_put (cs := #[.int .i64 0, .bool false, .int .i64 0, .string (⟨#[]⟩ : ByteArray), .int .i64 0, .string (⟨#[]⟩ : ByteArray)]) ?_ 4 _ rfl; (with_reducible repeat (first | refine blk_drewN ?_ _ | refine blk_drew ?_ | refine blk_alloc ?_ _)); refine blk_put (cs := #[.int .i64 0, .bool false, .int .i64 0, .string (⟨#[]⟩ : ByteArray), .int .i64 0, .string (⟨#[]⟩ : ByteArray)]) ?_ 3 _ rfl; (with_reducible repeat (first | refine blk_drewN ?_ _ | refine blk_drew ?_ | refine blk_alloc ?_ _)); refine blk_put (cs := #[.int .i64 0, .bool false, .int .i64 0, .string (⟨#[]⟩ : ByteArray), .int .i64 0, .string (⟨#[]⟩ : ByteArray)]) ?_ 2 _ rfl; (with_reducible repeat (first | refine blk_drewN ?_ _ | refine blk_drew ?_ | refine blk_alloc ?_ _)); refine blk_put (cs := #[.int .i64 0, .bool false, .int .i64 0, .string (⟨#[]⟩ : ByteArray), .int .i64 0, .string (⟨#[]⟩ : ByteArray)]) ?_ 1 _ rfl; (with_reducible repeat (first | refine blk_drewN ?_ _ | refine blk_drew ?_ | refine blk_alloc ?_ _)); refine blk_put (cs := #[.int .i64 0, .bool false, .int .i64 0, .string (⟨#[]⟩ : ByteArray), .int .i64 0, .string (⟨#[]⟩ : ByteArray)]) ?_ 0 _ rfl; (with_reducible repeat (first | refine blk_drewN ?_ _ | refine blk_drew ?_ | refine blk_alloc ?_ _)); exact BK294.out) Try.underlying29 rfl (by kernel_rfl)) rfl ?_
                  exact fin_ (below_later HB.out)
        · replace c26 := Bool.eq_false_iff.mpr c26
          subst c26
          replace H := ifn Bool.false_ne_true H
          replace H := bnd H
          obtain ⟨t314, A113, H⟩ := H
          by_cases c114 : t314 = true
          · subst c114
            replace H := ifp rfl H
            simp only [Option.some.injEq, Prod.mk.injEq] at H
            obtain ⟨rfl, rfl, rfl, rfl, rfl, rfl, rfl⟩ := H
            go_wp2_with (first | ((with_reducible refine gate_dst (N := 15) rfl ?_); refine bx_ 15 #[.int .i64 0, .bool false, .int .i64 0, .string (⟨#[]⟩ : ByteArray), .int .i64 0, .string (⟨#[]⟩ : ByteArray)] 29 ?_; intro gb304 hg w115 hbox hb; have BK304 := Aside0.mk (hbox); have GW304 := gwe HB hg; have GE304 := GW304; have NB293_304 := nbl BK293 hg; have NB304_293 := nbr (nbl BK293 hg); have NB294_304 := nbl BK294 hg; have NB304_294 := nbr (nbl BK294 hg); have NB295_304 := nbl BK295 hg; have NB304_295 := nbr (nbl BK295 hg); replace BK293 := bkb BK293 hb; replace BK294 := bkb BK294 hb; replace BK295 := bkb BK295 hb; replace HB := bst HB hb; clear hb hbox hg; have hnb116 := NB304_293.out; have hnc116 := NB293_304.out; have hnb117 := NB304_294.out; have hnc117 := NB294_304.out; have hnb118 := NB304_295.out; have hnc118 := NB295_304.out; obtain ⟨hcz119_0, hcz119_1, hcz119_2, hcz119_3, hcz119_4, hcz119_5, hfz119_0, hfz119_1, hfz119_2, hfz119_3, hfz119_4, hfz119_5⟩ := cl6 BK304; have hnb120 := NB293_294.out; have hnc120 := NB294_293.out; have hnb121 := NB293_295.out; have hnc121 := NB295_293.out; obtain ⟨hcz122_0, hcz122_1, hcz122_2, hfz122_0, hfz122_1, hfz122_2⟩ := cl3 BK293) | ((with_reducible refine gate_callee (f := 47) rfl ?_); refine gl_ (some 94) Try.func47 #[.agg #[.int .i64 a0_0, .int .i64 a0_1, .int .i64 a0_2], .agg #[.int .i64 t296, .bool false, .int .i64 0, .string (⟨#[]⟩ : ByteArray), .int .i64 0, .string (⟨#[]⟩ : ByteArray)]] rfl ?_; (with_reducible refine (spec_l15Ok.calls kj6 a0_0 a0_1 a0_2 t296 false 0 (⟨#[]⟩ : ByteArray) 0 (⟨#[]⟩ : ByteArray) true _ A113.out).mono ?_); rintro e w123 ⟨rfl, hb⟩; refine ⟨_, rfl, ?_⟩; replace BK293 := bkb BK293 hb; replace BK294 := bkb BK294 hb; replace BK295 := bkb BK295 hb; replace BK304 := Aside0.mk (blk_below (g := gb304) (o := .cells #[.int .i64 t296, .bool false, .int .i64 0, .string (⟨#[]⟩ : ByteArray), .int .i64 0, .string (⟨#[]⟩ : ByteArray)] 29 (0, 0)) (blk_later BK304.out) hb); replace HB := bst HB hb; (try clear hb); obtain ⟨hcz124_0, hcz124_1, hcz124_2, hcz124_3, hcz124_4, hcz124_5, hfz124_0, hfz124_1, hfz124_2, hfz124_3, hfz124_4, hfz124_5⟩ := cl6 BK304; have hnb125 := NB294_295.out; have hnc125 := NB295_294.out; obtain ⟨hcz126_0, hcz126_1, hcz126_2, hcz126_3, hcz126_4, hcz126_5, hfz126_0, hfz126_1, hfz126_2, hfz126_3, hfz126_4, hfz126_5⟩ := cl6 BK294))
            refine bodyPost_ret (results_ct rfl _ _ gb294 29 #[.int .i64 t296, .bool false, .int .i64 0, .string (⟨#[]⟩ : ByteArray), .int .i64 0, .string (⟨#[]⟩ : ByteArray)] (0, 0) _ rfl (by (with_reducible repeat (first | refine blk_drewN ?_ _ | refine blk_drew ?_ | refine blk_alloc ?_ _)); refine blk_put (cs := #[.int .i64 t296, .bool false, .int .i64 0, .string (⟨#[]⟩ : ByteArray), .int .i64 0, .string (⟨#[]⟩ : ByteArray)]) ?_ 5 _ rfl; (with_reducible repeat (first | refine blk_drewN ?_ _ | refine blk_drew ?_ | refine blk_alloc ?_ _)); refine blk_put (cs := #[.int .i64 t296, .bool false, .int .i64 0, .string (⟨#[]⟩ : ByteArray), .int .i64 0, .string (⟨#[]⟩ : ByteArray)]) ?_ 4 _ rfl; (with_reducible repeat (first | refine blk_drewN ?_ _ | refine blk_drew ?_ | refine blk_alloc ?_ _)); refine blk_put (cs := #[.int .i64 t296, .bool false, .int .i64 0, .string (⟨#[]⟩ : ByteArray), .int .i64 0, .string (⟨#[]⟩ : ByteArray)]) ?_ 3 _ rfl; (with_reducible repeat (first | refine blk_drewN ?_ _ | refine blk_drew ?_ | refine blk_alloc ?_ _)); refine blk_put (cs := #[.int .i64 t296, .bool false, .int .i64 0, .string (⟨#[]⟩ : ByteArray), .int .i64 0, .string (⟨#[]⟩ : ByteArray)]) ?_ 2 _ rfl; (with_reducible repeat (first | refine blk_drewN ?_ _ | refine blk_drew ?_ | refine blk_alloc ?_ _)); refine blk_put (cs := #[.int .i64 t296, .bool false, .int .i64 0, .string (⟨#[]⟩ : ByteArray), .int .i64 0, .string (⟨#[]⟩ : ByteArray)]) ?_ 1 _ rfl; (with_reducible repeat (first | refine blk_drewN ?_ _ | refine blk_drew ?_ | refine blk_alloc ?_ _)); refine blk_put (cs := #[.int .i64 0, .bool false, .int .i64 0, .string (⟨#[]⟩ : ByteArray), .int .i64 0, .string (⟨#[]⟩ : ByteArray)]) ?_ 0 _ rfl; (with_reducible repeat (first | refine blk_drewN ?_ _ | refine blk_drew ?_ | refine blk_alloc ?_ _)); exact BK294.out) Try.underlying29 rfl (by kernel_rfl)) rfl ?_
            exact fin_ (below_later HB.out)
          · replace c114 := Bool.eq_false_iff.mpr c114
            subst c114
            replace H := ifn Bool.false_ne_true H
            simp only [Option.some.injEq, Prod.mk.injEq] at H
            obtain ⟨rfl, rfl, rfl, rfl, rfl, rfl, rfl⟩ := H
            go_wp2_with (first | ((with_reducible refine gate_dst (N := 15) rfl ?_); refine bx_ 15 #[.int .i64 0, .bool false, .int .i64 0, .string (⟨#[]⟩ : ByteArray), .int .i64 0, .string (⟨#[]⟩ : ByteArray)] 29 ?_; intro gb304 hg w127 hbox hb; have BK304 := Aside0.mk (hbox); have GW304 := gwe HB hg; have GE304 := GW304; have NB293_304 := nbl BK293 hg; have NB304_293 := nbr (nbl BK293 hg); have NB294_304 := nbl BK294 hg; have NB304_294 := nbr (nbl BK294 hg); have NB295_304 := nbl BK295 hg; have NB304_295 := nbr (nbl BK295 hg); replace BK293 := bkb BK293 hb; replace BK294 := bkb BK294 hb; replace BK295 := bkb BK295 hb; replace HB := bst HB hb; clear hb hbox hg; have hnb128 := NB304_293.out; have hnc128 := NB293_304.out; have hnb129 := NB304_294.out; have hnc129 := NB294_304.out; have hnb130 := NB304_295.out; have hnc130 := NB295_304.out; obtain ⟨hcz131_0, hcz131_1, hcz131_2, hcz131_3, hcz131_4, hcz131_5, hfz131_0, hfz131_1, hfz131_2, hfz131_3, hfz131_4, hfz131_5⟩ := cl6 BK304; have hnb132 := NB293_294.out; have hnc132 := NB294_293.out; have hnb133 := NB293_295.out; have hnc133 := NB295_293.out; obtain ⟨hcz134_0, hcz134_1, hcz134_2, hfz134_0, hfz134_1, hfz134_2⟩ := cl3 BK293) | ((with_reducible refine gate_callee (f := 47) rfl ?_); refine gl_ (some 94) Try.func47 #[.agg #[.int .i64 a0_0, .int .i64 a0_1, .int .i64 a0_2], .agg #[.int .i64 t296, .bool false, .int .i64 0, .string (⟨#[]⟩ : ByteArray), .int .i64 0, .string (⟨#[]⟩ : ByteArray)]] rfl ?_; (with_reducible refine (spec_l15Ok.calls kj6 a0_0 a0_1 a0_2 t296 false 0 (⟨#[]⟩ : ByteArray) 0 (⟨#[]⟩ : ByteArray) false _ A113.out).mono ?_); rintro e w135 ⟨rfl, hb⟩; refine ⟨_, rfl, ?_⟩; replace BK293 := bkb BK293 hb; replace BK294 := bkb BK294 hb; replace BK295 := bkb BK295 hb; replace BK304 := Aside0.mk (blk_below (g := gb304) (o := .cells #[.int .i64 t296, .bool false, .int .i64 0, .string (⟨#[]⟩ : ByteArray), .int .i64 0, .string (⟨#[]⟩ : ByteArray)] 29 (0, 0)) (blk_later BK304.out) hb); replace HB := bst HB hb; (try clear hb); have hnb136 := NB295_294.out; have hnc136 := NB294_295.out; obtain ⟨hcz137_0, hcz137_1, hcz137_2, hcz137_3, hcz137_4, hcz137_5, hfz137_0, hfz137_1, hfz137_2, hfz137_3, hfz137_4, hfz137_5⟩ := cl6 BK295; obtain ⟨hcz138_0, hcz138_1, hcz138_2, hcz138_3, hcz138_4, hcz138_5, hfz138_0, hfz138_1, hfz138_2, hfz138_3, hfz138_4, hfz138_5⟩ := cl6 BK294))
            refine bodyPost_ret (results_ct rfl _ _ gb294 29 #[.int .i64 0, .bool false, .int .i64 0, .string (⟨#[]⟩ : ByteArray), .int .i64 0, .string (⟨#[]⟩ : ByteArray)] (0, 0) _ rfl (by (with_reducible repeat (first | refine blk_drewN ?_ _ | refine blk_drew ?_ | refine blk_alloc ?_ _)); refine blk_put (cs := #[.int .i64 0, .bool false, .int .i64 0, .string (⟨#[]⟩ : ByteArray), .int .i64 0, .string (⟨#[]⟩ : ByteArray)]) ?_ 5 _ rfl; (with_reducible repeat (first | refine blk_drewN ?_ _ | refine blk_drew ?_ | refine blk_alloc ?_ _)); refine blk_put (cs := #[.int .i64 0, .bool false, .int .i64 0, .string (⟨#[]⟩ : ByteArray), .int .i64 0, .string (⟨#[]⟩ : ByteArray)]) ?_ 4 _ rfl; (with_reducible repeat (first | refine blk_drewN ?_ _ | refine blk_drew ?_ | refine blk_alloc ?_ _)); refine blk_put (cs := #[.int .i64 0, .bool false, .int .i64 0, .string (⟨#[]⟩ : ByteArray), .int .i64 0, .string (⟨#[]⟩ : ByteArray)]) ?_ 3 _ rfl; (with_reducible repeat (first | refine blk_drewN ?_ _ | refine blk_drew ?_ | refine blk_alloc ?_ _)); refine blk_put (cs := #[.int .i64 0, .bool false, .int .i64 0, .string (⟨#[]⟩ : ByteArray), .int .i64 0, .string (⟨#[]⟩ : ByteArray)]) ?_ 2 _ rfl; (with_reducible repeat (first | refine blk_drewN ?_ _ | refine blk_drew ?_ | refine blk_alloc ?_ _)); refine blk_put (cs := #[.int .i64 0, .bool false, .int .i64 0, .string (⟨#[]⟩ : ByteArray), .int .i64 0, .string (⟨#[]⟩ : ByteArray)]) ?_ 1 _ rfl; (with_reducible repeat (first | refine blk_drewN ?_ _ | refine blk_drew ?_ | refine blk_alloc ?_ _)); refine blk_put (cs := #[.int .i64 0, .bool false, .int .i64 0, .string (⟨#[]⟩ : ByteArray), .int .i64 0, .string (⟨#[]⟩ : ByteArray)]) ?_ 0 _ rfl; (with_reducible repeat (first | refine blk_drewN ?_ _ | refine blk_drew ?_ | refine blk_alloc ?_ _)); exact BK294.out) Try.underlying29 rfl (by kernel_rfl)) rfl ?_
            exact fin_ (below_later HB.out)

/-! ### spec_StatsFrom: function 6 -/
def spec_StatsFrom.f (k : Nat) (a0_0 : Int) (a0_1 : Int) (a0_2 : Int) (l1 : List (S57)) (a2 : Int) : Option (Int × Bool × Int × ByteArray × Int × ByteArray × Bool) := (spec_LeafOk.f a0_0 a0_1 a0_2).bind fun t317 => (if t317 = true then ((spec_TreeOk.f k l1).bind fun t318 => (if t318 = true then ((spec_l1In.f a2 0 (wrap64 ((l1.length : Int) - 1))).bind fun t319 => (if t319 = true then ((spec_l15From.f k a0_0 a0_1 a0_2 l1 a2).bind fun bt320 => (some (bt320.1, bt320.2.1, bt320.2.2.1, bt320.2.2.2.1, bt320.2.2.2.2.1, bt320.2.2.2.2.2.1, bt320.2.2.2.2.2.2))) else (some (0, false, 0, (⟨#[]⟩ : ByteArray), 0, (⟨#[]⟩ : ByteArray), false)))) else (some (0, false, 0, (⟨#[]⟩ : ByteArray), 0, (⟨#[]⟩ : ByteArray), false)))) else (some (0, false, 0, (⟨#[]⟩ : ByteArray), 0, (⟨#[]⟩ : ByteArray), false)))
set_option maxHeartbeats 8000000 in
set_option maxRecDepth 100000 in
theorem spec_StatsFrom.calls (k : Nat) (a0_0 : Int) (a0_1 : Int) (a0_2 : Int) (A1 : Option Addr) (c1 : Nat) (l1 : List (S57)) (a2 : Int) (r1 : Int) (r2 : Bool) (r3 : Int) (r4 : ByteArray) (r5 : Int) (r6 : ByteArray) (r7 : Bool) (w : World) (hr1 : Kd.C k57 w A1 l1.length l1) (hc1 : l1.length ≤ c1) (h : spec_StatsFrom.f k a0_0 a0_1 a0_2 l1 a2 = some (r1, r2, r3, r4, r5, r6, r7)) :
    Calls Try.prog 6 #[.agg #[.int .i64 a0_0, .int .i64 a0_1, .int .i64 a0_2], .slice A1 l1.length c1, .int .i64 a2] w fun e w' => e = .returned (.tuple #[.agg #[.int .i64 r1, .bool r2, .int .i64 r3, .string r4, .int .i64 r5, .string r6], .bool r7]) ∧ Below w.heap.size w w' := by
  have hu32 := Try.underlying32
  have hu29 := Try.underlying29
  have HR1 := Aside0.mk hr1
  have HC1 := Aside0.mk hc1
  clear hr1 hc1
  have HB := Aside0.mk (Below.refl w.heap.size w)
  have H : ((spec_LeafOk.f a0_0 a0_1 a0_2).bind fun t317 => (if t317 = true then ((spec_TreeOk.f k l1).bind fun t318 => (if t318 = true then ((spec_l1In.f a2 0 (wrap64 ((l1.length : Int) - 1))).bind fun t319 => (if t319 = true then ((spec_l15From.f k a0_0 a0_1 a0_2 l1 a2).bind fun bt320 => (some (bt320.1, bt320.2.1, bt320.2.2.1, bt320.2.2.2.1, bt320.2.2.2.2.1, bt320.2.2.2.2.2.1, bt320.2.2.2.2.2.2))) else (some (0, false, 0, (⟨#[]⟩ : ByteArray), 0, (⟨#[]⟩ : ByteArray), false)))) else (some (0, false, 0, (⟨#[]⟩ : ByteArray), 0, (⟨#[]⟩ : ByteArray), false)))) else (some (0, false, 0, (⟨#[]⟩ : ByteArray), 0, (⟨#[]⟩ : ByteArray), false)))) = some (r1, r2, r3, r4, r5, r6, r7) := h
  clear h
  replace H := bnd H
  obtain ⟨t317, A4, H⟩ := H
  by_cases c5 : t317 = true
  · subst c5
    replace H := ifp rfl H
    replace H := bnd H
    obtain ⟨t318, A6, H⟩ := H
    by_cases c7 : t318 = true
    · subst c7
      replace H := ifp rfl H
      replace H := bnd H
      obtain ⟨t319, A8, H⟩ := H
      by_cases c9 : t319 = true
      · subst c9
        replace H := ifp rfl H
        replace H := Option.bind_eq_some_iff.mp H
        obtain ⟨⟨t320, t321, t322, t323, t324, t325, t326⟩, A100, H⟩ := H
        replace H : (some (t320, t321, t322, t323, t324, t325, t326)) = some (r1, r2, r3, r4, r5, r6, r7) := H
        have A10 := Aside0.mk A100
        clear A100
        simp only [Option.some.injEq, Prod.mk.injEq] at H
        obtain ⟨rfl, rfl, rfl, rfl, rfl, rfl, rfl⟩ := H
        go_enter Try.func6, Try.ntmps6
        go_wp2_with (first | ((with_reducible refine gate_dst (N := 3) rfl ?_); (try (refine gate_guard (by rfl) ?_; dsimp only)); refine bx_ 3 #[.int .i64 a0_0, .int .i64 a0_1, .int .i64 a0_2] 32 ?_; intro gb315 hg w11 hbox hb; have BK315 := Aside0.mk (hbox); have GW315 := gwe HB hg; have GE315 := GW315; replace HB := bst HB hb; clear hb hbox hg) | ((with_reducible refine gate_dst (N := 6) rfl ?_); (try (refine gate_guard (by rfl) ?_; dsimp only)); refine bx_ 6 #[.int .i64 0, .bool false, .int .i64 0, .string (⟨#[]⟩ : ByteArray), .int .i64 0, .string (⟨#[]⟩ : ByteArray)] 29 ?_; intro gb316 hg w12 hbox hb; have BK316 := Aside0.mk (hbox); have GW316 := gwe HB hg; have GE316 := GW316; have NB315_316 := nbl BK315 hg; have NB316_315 := nbr (nbl BK315 hg); replace BK315 := bkb BK315 hb; replace HB := bst HB hb; clear hb hbox hg; have hnb13 := NB315_316.out; have hnc13 := NB316_315.out; obtain ⟨hcz14_0, hcz14_1, hcz14_2, hfz14_0, hfz14_1, hfz14_2⟩ := cl3 BK315) | ((with_reducible refine gate_callee (f := 22) rfl ?_); refine gl_ (some 9) Try.func22 #[.agg #[.int .i64 a0_0, .int .i64 a0_1, .int .i64 a0_2]] rfl ?_; (with_reducible refine (spec_LeafOk.calls a0_0 a0_1 a0_2 true _ A4.out).mono ?_); rintro e w15 ⟨rfl, hb⟩; refine ⟨_, rfl, ?_⟩; replace BK315 := bkb BK315 hb; replace BK316 := bkb BK316 hb; replace HB := bst HB hb; (try clear hb)) | (go_at_call 23; (with_reducible refine (spec_TreeOk.calls k _ _ l1 true _ ?side1 ?side2 A6.out).mono ?_); (case side1 => repeat (first | exact (Kd.C_below HR1.out HB.out) | (with_reducible refine Kd.C_alloc ?_ _) | (with_reducible refine Kd.C_drewN ?_ _) | (with_reducible refine Kd.C_drew ?_))); (case side2 => exact HC1.out); rintro e w16 ⟨rfl, hb⟩; replace BK315 := bkb BK315 hb; replace BK316 := bkb BK316 hb; replace HB := bst HB hb; (try clear hb)) | (go_at_call 24; (with_reducible refine (spec_l1In.calls a2 0 (wrap64 ((l1.length : Int) - 1)) true _ A8.out).mono ?_); rintro e w' ⟨rfl, ⟨nd, rfl⟩⟩; (try (rw [drewN_self w16]; generalize hq_ : World.drewN w16 _ = w16; have n0_ : Aside0 (w16.heap[gb315]? = some (.cells #[.int .i64 a0_0, .int .i64 a0_1, .int .i64 a0_2] 32 (0, 0))) := ⟨by rw [← hq_]; exact (blk_later BK315.out)⟩; have n1_ : Aside0 (w16.heap[gb316]? = some (.cells #[.int .i64 0, .bool false, .int .i64 0, .string (⟨#[]⟩ : ByteArray), .int .i64 0, .string (⟨#[]⟩ : ByteArray)] 29 (0, 0))) := ⟨by rw [← hq_]; exact (blk_later BK316.out)⟩; have n2_ : Aside0 (Below w.heap.size w w16) := ⟨by rw [← hq_]; exact (below_later HB.out)⟩; clear BK315 BK316 HB hq_; have BK315 := n0_; have BK316 := n1_; have HB := n2_; clear n0_ n1_ n2_)); obtain ⟨hcz17_0, hcz17_1, hcz17_2, hfz17_0, hfz17_1, hfz17_2⟩ := cl3 BK315) | ((with_reducible refine gate_callee (f := 25) rfl ?_); refine gl_ (some 28) Try.func25 #[.agg #[.int .i64 a0_0, .int .i64 a0_1, .int .i64 a0_2], .slice A1 l1.length c1, .int .i64 a2] rfl ?_; (with_reducible refine (spec_l15From.calls k a0_0 a0_1 a0_2 _ _ l1 a2 t320 t321 t322 t323 t324 t325 t326 _ ?side1 ?side2 A10.out).mono ?_); (case side1 => repeat (first | exact (Kd.C_below HR1.out HB.out) | (with_reducible refine Kd.C_alloc ?_ _) | (with_reducible refine Kd.C_drewN ?_ _) | (with_reducible refine Kd.C_drew ?_))); (case side2 => exact HC1.out); rintro e w18 ⟨rfl, hb⟩; refine ⟨_, rfl, ?_⟩; replace BK315 := bkb BK315 hb; replace BK316 := bkb BK316 hb; replace HB := bst HB hb; (try clear hb); obtain ⟨hcz19_0, hcz19_1, hcz19_2, hcz19_3, hcz19_4, hcz19_5, hfz19_0, hfz19_1, hfz19_2, hfz19_3, hfz19_4, hfz19_5⟩ := cl6 BK316))
        refine bodyPost_ret (results_ct rfl _ _ gb316 29 #[.int .i64 t320, .bool t321, .int .i64 t322, .string t323, .int .i64 t324, .string t325] (0, 0) _ rfl (by (with_reducible repeat (first | refine blk_drewN ?_ _ | refine blk_drew ?_ | refine blk_alloc ?_ _)); refine blk_put (cs := #[.int .i64 t320, .bool t321, .int .i64 t322, .string t323, .int .i64 t324, .string (⟨#[]⟩ : ByteArray)]) ?_ 5 _ rfl; (with_reducible repeat (first | refine blk_drewN ?_ _ | refine blk_drew ?_ | refine blk_alloc ?_ _)); refine blk_put (cs := #[.int .i64 t320, .bool t321, .int .i64 t322, .string t323, .int .i64 0, .string (⟨#[]⟩ : ByteArray)]) ?_ 4 _ rfl; (with_reducible repeat (first | refine blk_drewN ?_ _ | refine blk_drew ?_ | refine blk_alloc ?_ _)); refine blk_put (cs := #[.int .i64 t320, .bool t321, .int .i64 t322, .string (⟨#[]⟩ : ByteArray), .int .i64 0, .string (⟨#[]⟩ : ByteArray)]) ?_ 3 _ rfl; (with_reducible repeat (first | refine blk_drewN ?_ _ | refine blk_drew ?_ | refine blk_alloc ?_ _)); refine blk_put (cs := #[.int .i64 t320, .bool t321, .int .i64 0, .string (⟨#[]⟩ : ByteArray), .int .i64 0, .string (⟨#[]⟩ : ByteArray)]) ?_ 2 _ rfl; (with_reducible repeat (first | refine blk_drewN ?_ _ | refine blk_drew ?_ | refine blk_alloc ?_ _)); refine blk_put (cs := #[.int .i64 t320, .bool false, .int .i64 0, .string (⟨#[]⟩ : ByteArray), .int .i64 0, .string (⟨#[]⟩ : ByteArray)]) ?_ 1 _ rfl; (with_reducible repeat (first | refine blk_drewN ?_ _ | refine blk_drew ?_ | refine blk_alloc ?_ _)); refine blk_put (cs := #[.int .i64 0, .bool false, .int .i64 0, .string (⟨#[]⟩ : ByteArray), .int .i64 0, .string (⟨#[]⟩ : ByteArray)]) ?_ 0 _ rfl; (with_reducible repeat (first | refine blk_drewN ?_ _ | refine blk_drew ?_ | refine blk_alloc ?_ _)); exact BK316.out) Try.underlying29 rfl (by kernel_rfl)) rfl ?_
        exact fin_ (below_later HB.out)
      · replace c9 := Bool.eq_false_iff.mpr c9
        subst c9
        replace H := ifn Bool.false_ne_true H
        simp only [Option.some.injEq, Prod.mk.injEq] at H
        obtain ⟨rfl, rfl, rfl, rfl, rfl, rfl, rfl⟩ := H
        go_enter Try.func6, Try.ntmps6
        go_wp2_with (first | ((with_reducible refine gate_dst (N := 3) rfl ?_); (try (refine gate_guard (by rfl) ?_; dsimp only)); refine bx_ 3 #[.int .i64 a0_0, .int .i64 a0_1, .int .i64 a0_2] 32 ?_; intro gb315 hg w20 hbox hb; have BK315 := Aside0.mk (hbox); have GW315 := gwe HB hg; have GE315 := GW315; replace HB := bst HB hb; clear hb hbox hg) | ((with_reducible refine gate_dst (N := 6) rfl ?_); (try (refine gate_guard (by rfl) ?_; dsimp only)); refine bx_ 6 #[.int .i64 0, .bool false, .int .i64 0, .string (⟨#[]⟩ : ByteArray), .int .i64 0, .string (⟨#[]⟩ : ByteArray)] 29 ?_; intro gb316 hg w21 hbox hb; have BK316 := Aside0.mk (hbox); have GW316 := gwe HB hg; have GE316 := GW316; have NB315_316 := nbl BK315 hg; have NB316_315 := nbr (nbl BK315 hg); replace BK315 := bkb BK315 hb; replace HB := bst HB hb; clear hb hbox hg; have hnb22 := NB315_316.out; have hnc22 := NB316_315.out; obtain ⟨hcz23_0, hcz23_1, hcz23_2, hfz23_0, hfz23_1, hfz23_2⟩ := cl3 BK315) | ((with_reducible refine gate_callee (f := 22) rfl ?_); refine gl_ (some 9) Try.func22 #[.agg #[.int .i64 a0_0, .int .i64 a0_1, .int .i64 a0_2]] rfl ?_; (with_reducible refine (spec_LeafOk.calls a0_0 a0_1 a0_2 true _ A4.out).mono ?_); rintro e w24 ⟨rfl, hb⟩; refine ⟨_, rfl, ?_⟩; replace BK315 := bkb BK315 hb; replace BK316 := bkb BK316 hb; replace HB := bst HB hb; (try clear hb)) | (go_at_call 23; (with_reducible refine (spec_TreeOk.calls k _ _ l1 true _ ?side1 ?side2 A6.out).mono ?_); (case side1 => repeat (first | exact (Kd.C_below HR1.out HB.out) | (with_reducible refine Kd.C_alloc ?_ _) | (with_reducible refine Kd.C_drewN ?_ _) | (with_reducible refine Kd.C_drew ?_))); (case side2 => exact HC1.out); rintro e w25 ⟨rfl, hb⟩; replace BK315 := bkb BK315 hb; replace BK316 := bkb BK316 hb; replace HB := bst HB hb; (try clear hb)) | (go_at_call 24; (with_reducible refine (spec_l1In.calls a2 0 (wrap64 ((l1.length : Int) - 1)) false _ A8.out).mono ?_); rintro e w' ⟨rfl, ⟨nd, rfl⟩⟩; (try (rw [drewN_self w25]; generalize hq_ : World.drewN w25 _ = w25; have n0_ : Aside0 (w25.heap[gb315]? = some (.cells #[.int .i64 a0_0, .int .i64 a0_1, .int .i64 a0_2] 32 (0, 0))) := ⟨by rw [← hq_]; exact (blk_later BK315.out)⟩; have n1_ : Aside0 (w25.heap[gb316]? = some (.cells #[.int .i64 0, .bool false, .int .i64 0, .string (⟨#[]⟩ : ByteArray), .int .i64 0, .string (⟨#[]⟩ : ByteArray)] 29 (0, 0))) := ⟨by rw [← hq_]; exact (blk_later BK316.out)⟩; have n2_ : Aside0 (Below w.heap.size w w25) := ⟨by rw [← hq_]; exact (below_later HB.out)⟩; clear BK315 BK316 HB hq_; have BK315 := n0_; have BK316 := n1_; have HB := n2_; clear n0_ n1_ n2_)); obtain ⟨hcz26_0, hcz26_1, hcz26_2, hcz26_3, hcz26_4, hcz26_5, hfz26_0, hfz26_1, hfz26_2, hfz26_3, hfz26_4, hfz26_5⟩ := cl6 BK316))
        refine bodyPost_ret (results_ct rfl _ _ gb316 29 #[.int .i64 0, .bool false, .int .i64 0, .string (⟨#[]⟩ : ByteArray), .int .i64 0, .string (⟨#[]⟩ : ByteArray)] (0, 0) _ rfl (by (with_reducible repeat (first | refine blk_drewN ?_ _ | refine blk_drew ?_ | refine blk_alloc ?_ _)); refine blk_put (cs := #[.int .i64 0, .bool false, .int .i64 0, .string (⟨#[]⟩ : ByteArray), .int .i64 0, .string (⟨#[]⟩ : ByteArray)]) ?_ 5 _ rfl; (with_reducible repeat (first | refine blk_drewN ?_ _ | refine blk_drew ?_ | refine blk_alloc ?_ _)); refine blk_put (cs := #[.int .i64 0, .bool false, .int .i64 0, .string (⟨#[]⟩ : ByteArray), .int .i64 0, .string (⟨#[]⟩ : ByteArray)]) ?_ 4 _ rfl; (with_reducible repeat (first | refine blk_drewN ?_ _ | refine blk_drew ?_ | refine blk_alloc ?_ _)); refine blk_put (cs := #[.int .i64 0, .bool false, .int .i64 0, .string (⟨#[]⟩ : ByteArray), .int .i64 0, .string (⟨#[]⟩ : ByteArray)]) ?_ 3 _ rfl; (with_reducible repeat (first | refine blk_drewN ?_ _ | refine blk_drew ?_ | refine blk_alloc ?_ _)); refine blk_put (cs := #[.int .i64 0, .bool false, .int .i64 0, .string (⟨#[]⟩ : ByteArray), .int .i64 0, .string (⟨#[]⟩ : ByteArray)]) ?_ 2 _ rfl; (with_reducible repeat (first | refine blk_drewN ?_ _ | refine blk_drew ?_ | refine blk_alloc ?_ _)); refine blk_put (cs := #[.int .i64 0, .bool false, .int .i64 0, .string (⟨#[]⟩ : ByteArray), .int .i64 0, .string (⟨#[]⟩ : ByteArray)]) ?_ 1 _ rfl; (with_reducible repeat (first | refine blk_drewN ?_ _ | refine blk_drew ?_ | refine blk_alloc ?_ _)); refine blk_put (cs := #[.int .i64 0, .bool false, .int .i64 0, .string (⟨#[]⟩ : ByteArray), .int .i64 0, .string (⟨#[]⟩ : ByteArray)]) ?_ 0 _ rfl; (with_reducible repeat (first | refine blk_drewN ?_ _ | refine blk_drew ?_ | refine blk_alloc ?_ _)); exact BK316.out) Try.underlying29 rfl (by kernel_rfl)) rfl ?_
        exact fin_ (below_later HB.out)
    · replace c7 := Bool.eq_false_iff.mpr c7
      subst c7
      replace H := ifn Bool.false_ne_true H
      simp only [Option.some.injEq, Prod.mk.injEq] at H
      obtain ⟨rfl, rfl, rfl, rfl, rfl, rfl, rfl⟩ := H
      go_enter Try.func6, Try.ntmps6
      go_wp2_with (first | ((with_reducible refine gate_dst (N := 3) rfl ?_); (try (refine gate_guard (by rfl) ?_; dsimp only)); refine bx_ 3 #[.int .i64 a0_0, .int .i64 a0_1, .int .i64 a0_2] 32 ?_; intro gb315 hg w27 hbox hb; have BK315 := Aside0.mk (hbox); have GW315 := gwe HB hg; have GE315 := GW315; replace HB := bst HB hb; clear hb hbox hg) | ((with_reducible refine gate_dst (N := 6) rfl ?_); (try (refine gate_guard (by rfl) ?_; dsimp only)); refine bx_ 6 #[.int .i64 0, .bool false, .int .i64 0, .string (⟨#[]⟩ : ByteArray), .int .i64 0, .string (⟨#[]⟩ : ByteArray)] 29 ?_; intro gb316 hg w28 hbox hb; have BK316 := Aside0.mk (hbox); have GW316 := gwe HB hg; have GE316 := GW316; have NB315_316 := nbl BK315 hg; have NB316_315 := nbr (nbl BK315 hg); replace BK315 := bkb BK315 hb; replace HB := bst HB hb; clear hb hbox hg; have hnb29 := NB315_316.out; have hnc29 := NB316_315.out; obtain ⟨hcz30_0, hcz30_1, hcz30_2, hfz30_0, hfz30_1, hfz30_2⟩ := cl3 BK315) | ((with_reducible refine gate_callee (f := 22) rfl ?_); refine gl_ (some 9) Try.func22 #[.agg #[.int .i64 a0_0, .int .i64 a0_1, .int .i64 a0_2]] rfl ?_; (with_reducible refine (spec_LeafOk.calls a0_0 a0_1 a0_2 true _ A4.out).mono ?_); rintro e w31 ⟨rfl, hb⟩; refine ⟨_, rfl, ?_⟩; replace BK315 := bkb BK315 hb; replace BK316 := bkb BK316 hb; replace HB := bst HB hb; (try clear hb)) | (go_at_call 23; (with_reducible refine (spec_TreeOk.calls k _ _ l1 false _ ?side1 ?side2 A6.out).mono ?_); (case side1 => repeat (first | exact (Kd.C_below HR1.out HB.out) | (with_reducible refine Kd.C_alloc ?_ _) | (with_reducible refine Kd.C_drewN ?_ _) | (with_reducible refine Kd.C_drew ?_))); (case side2 => exact HC1.out); rintro e w32 ⟨rfl, hb⟩; replace BK315 := bkb BK315 hb; replace BK316 := bkb BK316 hb; replace HB := bst HB hb; (try clear hb); obtain ⟨hcz33_0, hcz33_1, hcz33_2, hcz33_3, hcz33_4, hcz33_5, hfz33_0, hfz33_1, hfz33_2, hfz33_3, hfz33_4, hfz33_5⟩ := cl6 BK316))
      refine bodyPost_ret (results_ct rfl _ _ gb316 29 #[.int .i64 0, .bool false, .int .i64 0, .string (⟨#[]⟩ : ByteArray), .int .i64 0, .string (⟨#[]⟩ : ByteArray)] (0, 0) _ rfl (by (with_reducible repeat (first | refine blk_drewN ?_ _ | refine blk_drew ?_ | refine blk_alloc ?_ _)); refine blk_put (cs := #[.int .i64 0, .bool false, .int .i64 0, .string (⟨#[]⟩ : ByteArray), .int .i64 0, .string (⟨#[]⟩ : ByteArray)]) ?_ 5 _ rfl; (with_reducible repeat (first | refine blk_drewN ?_ _ | refine blk_drew ?_ | refine blk_alloc ?_ _)); refine blk_put (cs := #[.int .i64 0, .bool false, .int .i64 0, .string (⟨#[]⟩ : ByteArray), .int .i64 0, .string (⟨#[]⟩ : ByteArray)]) ?_ 4 _ rfl; (with_reducible repeat (first | refine blk_drewN ?_ _ | refine blk_drew ?_ | refine blk_alloc ?_ _)); refine blk_put (cs := #[.int .i64 0, .bool false, .int .i64 0, .string (⟨#[]⟩ : ByteArray), .int .i64 0, .string (⟨#[]⟩ : ByteArray)]) ?_ 3 _ rfl; (with_reducible repeat (first | refine blk_drewN ?_ _ | refine blk_drew ?_ | refine blk_alloc ?_ _)); refine blk_put (cs := #[.int .i64 0, .bool false, .int .i64 0, .string (⟨#[]⟩ : ByteArray), .int .i64 0, .string (⟨#[]⟩ : ByteArray)]) ?_ 2 _ rfl; (with_reducible repeat (first | refine blk_drewN ?_ _ | refine blk_drew ?_ | refine blk_alloc ?_ _)); refine blk_put (cs := #[.int .i64 0, .bool false, .int .i64 0, .string (⟨#[]⟩ : ByteArray), .int .i64 0, .string (⟨#[]⟩ : ByteArray)]) ?_ 1 _ rfl; (with_reducible repeat (first | refine blk_drewN ?_ _ | refine blk_drew ?_ | refine blk_alloc ?_ _)); refine blk_put (cs := #[.int .i64 0, .bool false, .int .i64 0, .string (⟨#[]⟩ : ByteArray), .int .i64 0, .string (⟨#[]⟩ : ByteArray)]) ?_ 0 _ rfl; (with_reducible repeat (first | refine blk_drewN ?_ _ | refine blk_drew ?_ | refine blk_alloc ?_ _)); exact BK316.out) Try.underlying29 rfl (by kernel_rfl)) rfl ?_
      exact fin_ (below_later HB.out)
  · replace c5 := Bool.eq_false_iff.mpr c5
    subst c5
    replace H := ifn Bool.false_ne_true H
    simp only [Option.some.injEq, Prod.mk.injEq] at H
    obtain ⟨rfl, rfl, rfl, rfl, rfl, rfl, rfl⟩ := H
    go_enter Try.func6, Try.ntmps6
    go_wp2_with (first | ((with_reducible refine gate_dst (N := 3) rfl ?_); (try (refine gate_guard (by rfl) ?_; dsimp only)); refine bx_ 3 #[.int .i64 a0_0, .int .i64 a0_1, .int .i64 a0_2] 32 ?_; intro gb315 hg w34 hbox hb; have BK315 := Aside0.mk (hbox); have GW315 := gwe HB hg; have GE315 := GW315; replace HB := bst HB hb; clear hb hbox hg) | ((with_reducible refine gate_dst (N := 6) rfl ?_); (try (refine gate_guard (by rfl) ?_; dsimp only)); refine bx_ 6 #[.int .i64 0, .bool false, .int .i64 0, .string (⟨#[]⟩ : ByteArray), .int .i64 0, .string (⟨#[]⟩ : ByteArray)] 29 ?_; intro gb316 hg w35 hbox hb; have BK316 := Aside0.mk (hbox); have GW316 := gwe HB hg; have GE316 := GW316; have NB315_316 := nbl BK315 hg; have NB316_315 := nbr (nbl BK315 hg); replace BK315 := bkb BK315 hb; replace HB := bst HB hb; clear hb hbox hg; have hnb36 := NB315_316.out; have hnc36 := NB316_315.out; obtain ⟨hcz37_0, hcz37_1, hcz37_2, hfz37_0, hfz37_1, hfz37_2⟩ := cl3 BK315) | ((with_reducible refine gate_callee (f := 22) rfl ?_); refine gl_ (some 9) Try.func22 #[.agg #[.int .i64 a0_0, .int .i64 a0_1, .int .i64 a0_2]] rfl ?_; (with_reducible refine (spec_LeafOk.calls a0_0 a0_1 a0_2 false _ A4.out).mono ?_); rintro e w38 ⟨rfl, hb⟩; refine ⟨_, rfl, ?_⟩; replace BK315 := bkb BK315 hb; replace BK316 := bkb BK316 hb; replace HB := bst HB hb; (try clear hb); obtain ⟨hcz39_0, hcz39_1, hcz39_2, hcz39_3, hcz39_4, hcz39_5, hfz39_0, hfz39_1, hfz39_2, hfz39_3, hfz39_4, hfz39_5⟩ := cl6 BK316))
    refine bodyPost_ret (results_ct rfl _ _ gb316 29 #[.int .i64 0, .bool false, .int .i64 0, .string (⟨#[]⟩ : ByteArray), .int .i64 0, .string (⟨#[]⟩ : ByteArray)] (0, 0) _ rfl (by (with_reducible repeat (first | refine blk_drewN ?_ _ | refine blk_drew ?_ | refine blk_alloc ?_ _)); refine blk_put (cs := #[.int .i64 0, .bool false, .int .i64 0, .string (⟨#[]⟩ : ByteArray), .int .i64 0, .string (⟨#[]⟩ : ByteArray)]) ?_ 5 _ rfl; (with_reducible repeat (first | refine blk_drewN ?_ _ | refine blk_drew ?_ | refine blk_alloc ?_ _)); refine blk_put (cs := #[.int .i64 0, .bool false, .int .i64 0, .string (⟨#[]⟩ : ByteArray), .int .i64 0, .string (⟨#[]⟩ : ByteArray)]) ?_ 4 _ rfl; (with_reducible repeat (first | refine blk_drewN ?_ _ | refine blk_drew ?_ | refine blk_alloc ?_ _)); refine blk_put (cs := #[.int .i64 0, .bool false, .int .i64 0, .string (⟨#[]⟩ : ByteArray), .int .i64 0, .string (⟨#[]⟩ : ByteArray)]) ?_ 3 _ rfl; (with_reducible repeat (first | refine blk_drewN ?_ _ | refine blk_drew ?_ | refine blk_alloc ?_ _)); refine blk_put (cs := #[.int .i64 0, .bool false, .int .i64 0, .string (⟨#[]⟩ : ByteArray), .int .i64 0, .string (⟨#[]⟩ : ByteArray)]) ?_ 2 _ rfl; (with_reducible repeat (first | refine blk_drewN ?_ _ | refine blk_drew ?_ | refine blk_alloc ?_ _)); refine blk_put (cs := #[.int .i64 0, .bool false, .int .i64 0, .string (⟨#[]⟩ : ByteArray), .int .i64 0, .string (⟨#[]⟩ : ByteArray)]) ?_ 1 _ rfl; (with_reducible repeat (first | refine blk_drewN ?_ _ | refine blk_drew ?_ | refine blk_alloc ?_ _)); refine blk_put (cs := #[.int .i64 0, .bool false, .int .i64 0, .string (⟨#[]⟩ : ByteArray), .int .i64 0, .string (⟨#[]⟩ : ByteArray)]) ?_ 0 _ rfl; (with_reducible repeat (first | refine blk_drewN ?_ _ | refine blk_drew ?_ | refine blk_alloc ?_ _)); exact BK316.out) Try.underlying29 rfl (by kernel_rfl)) rfl ?_
    exact fin_ (below_later HB.out)

end Go.Proofs.Ytgiljoeekpfpmaa.PFnExactStatsFrom
