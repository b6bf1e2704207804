/- The machine's side of FnExactSchemaPrint, written by wip/tools/hyb.py of this repo: each Go function as a plain Lean function, and the proof that the call comes to just its answer. No condition. -/
import Derived.Test.YtbmcjgkppjnafaaPFnExactSchemaPrintx0
import Derived.Test.YtbmcjgkppjnafaaPFnExactSchemaPrintx1
namespace Go.Proofs.Ytbmcjgkppjnafaa.PFnExactSchemaPrint
open Go.RowKit Go.Proofs.YtbmcjgkppjnafaaW.PrintWords Go.Proofs.YtbmcjgkppjnafaaW.PrintLast Go.Proofs.YtbmcjgkppjnafaaW.PrintMore Go.Proofs.YtbmcjgkppjnafaaW.PrintMore2
attribute [local go_sem] max2_int min2_int max_two min_two max_three min_three max_four min_four   -- for this text's walks alone
set_option linter.unusedVariables false
set_option linter.unusedSimpArgs false

/-! ### spec_l5Check: function 17 -/
mutual
def spec_l5Check.j0 : Nat → List (S34) → Int → Int → Bool → Option (Int)
  | 0, _, _, _, _ => none
  | k + 1, x0, x1, x2, x19 => if x19 = true then (some (-1)) else (if 0 ≤ x1 then (if x1 < (x0.length : Int) then (if x1 = 0 then (if ((rd_T34 x0 x1).f0).toList = ([] : List UInt8) then (if ((rd_T34 x0 x1).f2) = 0 then (if ((rd_T34 x0 x1).f1) = 7 then (if x1 > 0 then ((spec_l5Name.f k ((rd_T34 x0 x1).f0)).bind fun t107 => (if t107 = true then ((spec_l1In.f ((rd_T34 x0 x1).f2) 0 2).bind fun t108 => (spec_l5Check.j1 k x0 x1 x2 (!t108) ((rd_T34 x0 x1).f0) ((rd_T34 x0 x1).f1) ((rd_T34 x0 x1).f2) ((rd_T34 x0 x1).f3))) else (spec_l5Check.j1 k x0 x1 x2 true ((rd_T34 x0 x1).f0) ((rd_T34 x0 x1).f1) ((rd_T34 x0 x1).f2) ((rd_T34 x0 x1).f3)))) else ((spec_l1In.f ((rd_T34 x0 x1).f2) 0 2).bind fun t109 => (spec_l5Check.j1 k x0 x1 x2 (!t109) ((rd_T34 x0 x1).f0) ((rd_T34 x0 x1).f1) ((rd_T34 x0 x1).f2) ((rd_T34 x0 x1).f3)))) else (spec_l5Check.j1 k x0 x1 x2 true ((rd_T34 x0 x1).f0) ((rd_T34 x0 x1).f1) ((rd_T34 x0 x1).f2) ((rd_T34 x0 x1).f3))) else (spec_l5Check.j1 k x0 x1 x2 true ((rd_T34 x0 x1).f0) ((rd_T34 x0 x1).f1) ((rd_T34 x0 x1).f2) ((rd_T34 x0 x1).f3))) else (spec_l5Check.j1 k x0 x1 x2 true ((rd_T34 x0 x1).f0) ((rd_T34 x0 x1).f1) ((rd_T34 x0 x1).f2) ((rd_T34 x0 x1).f3))) else (if x1 > 0 then ((spec_l5Name.f k ((rd_T34 x0 x1).f0)).bind fun t110 => (if t110 = true then ((spec_l1In.f ((rd_T34 x0 x1).f2) 0 2).bind fun t111 => (spec_l5Check.j1 k x0 x1 x2 (!t111) ((rd_T34 x0 x1).f0) ((rd_T34 x0 x1).f1) ((rd_T34 x0 x1).f2) ((rd_T34 x0 x1).f3))) else (spec_l5Check.j1 k x0 x1 x2 true ((rd_T34 x0 x1).f0) ((rd_T34 x0 x1).f1) ((rd_T34 x0 x1).f2) ((rd_T34 x0 x1).f3)))) else ((spec_l1In.f ((rd_T34 x0 x1).f2) 0 2).bind fun t112 => (spec_l5Check.j1 k x0 x1 x2 (!t112) ((rd_T34 x0 x1).f0) ((rd_T34 x0 x1).f1) ((rd_T34 x0 x1).f2) ((rd_T34 x0 x1).f3))))) else (none)) else (none))
def spec_l5Check.j1 : Nat → List (S34) → Int → Int → Bool → ByteArray → Int → Int → Int → Option (Int)
  | 0, _, _, _, _, _, _, _, _ => none
  | k + 1, x0, x1, x2, x56, x107000, x107001, x107002, x107003 => if x56 = true then (some (-1)) else (if x107001 = 7 then (if x107003 < 1 then (some (-1)) else (spec_l5Check.l0 k x0 x2 (wrap64 (x1 + 1)) (([] : List ByteArray)) 0 x107000 x107001 x107002 x107003)) else ((spec_l5Type.f x107001).bind fun t113 => (if t113 = true then (if x107003 = 0 then (some (wrap64 (x1 + 1))) else (some (-1))) else (some (-1)))))
def spec_l5Check.l0 : Nat → List (S34) → Int → Int → List ByteArray → Int → ByteArray → Int → Int → Int → Option (Int)
  | 0, _, _, _, _, _, _, _, _, _ => none
  | k + 1, x0, x2, x8, x9, x10, x107000, x107001, x107002, x107003 => if x10 < x107003 then (if x8 ≥ (x0.length : Int) then (some (-1)) else (spec_l5Check.l1 k x0 x2 x8 x9 x10 0 x107000 x107001 x107002 x107003)) else (some x8)
def spec_l5Check.l1 : Nat → List (S34) → Int → Int → List ByteArray → Int → Int → ByteArray → Int → Int → Int → Option (Int)
  | 0, _, _, _, _, _, _, _, _, _, _ => none
  | k + 1, x0, x2, x8, x9, x10, x11, x107000, x107001, x107002, x107003 => if x11 < (x9.length : Int) then (if 0 ≤ x11 then (if 0 ≤ x8 then (if x8 < (x0.length : Int) then (if (rdOf ByteArray.empty x9 x11).toList = ((rd_T34 x0 x8).f0).toList then (some (-1)) else (spec_l5Check.l1 k x0 x2 x8 x9 x10 (wrap64 (x11 + 1)) x107000 x107001 x107002 x107003)) else (none)) else (none)) else (none)) else (if 0 ≤ x8 then (if x8 < (x0.length : Int) then (if x9.length < 8796093022208 then ((spec_l5Check.f k x0 x8 (wrap64 (x2 + 1))).bind fun t123 => (if t123 < 0 then (some (-1)) else (spec_l5Check.l0 k x0 x2 t123 (x9 ++ [(rd_T34 x0 x8).f0]) (wrap64 (x10 + 1)) x107000 x107001 x107002 x107003))) else (none)) else (none)) else (none))
def spec_l5Check.f : Nat → List (S34) → Int → Int → Option (Int)
  | 0, _, _, _ => none
  | k + 1, l0, a1, a2 => if a1 ≥ (l0.length : Int) then (spec_l5Check.j0 k l0 a1 a2 true) else (spec_l5Check.j0 k l0 a1 a2 (decide (a2 > 6)))
end
set_option maxHeartbeats 8000000 in
set_option maxRecDepth 100000 in
theorem spec_l5Check.calls (k : Nat) : ∀ (A0 : Option Addr) (c0 : Nat) (l0 : List (S34)) (a1 : Int) (a2 : Int) (r : Int) (w : World) (hr0 : Kd.C k34 w A0 l0.length l0) (hc0 : l0.length ≤ c0) (h : spec_l5Check.f k l0 a1 a2 = some r),
    Calls Try.prog 17 #[.slice A0 l0.length c0, .int .i64 a1, .int .i64 a2] w fun e w' => e = .returned (.int .i64 r) ∧ Below w.heap.size w w' := by
  induction k using Nat.strongRecOn with
  | _ k ih =>
  intro A0 c0 l0 a1 a2 r w hr0 hc0 h
  cases k with
  | zero => exact absurd h (by simp [spec_l5Check.f])
  | succ k =>
  simp only [spec_l5Check.f] at h
  have hu34 := Try.underlying34
  have HR0 := Aside0.mk hr0
  have HC0 := Aside0.mk hc0
  clear hr0 hc0
  have HB := Aside0.mk (Below.refl w.heap.size w)
  have H : (if a1 ≥ (l0.length : Int) then (spec_l5Check.j0 k l0 a1 a2 true) else (spec_l5Check.j0 k l0 a1 a2 (decide (a2 > 6)))) = some r := h
  clear h
  have HC4 := Aside0.mk H
  clear H
  go_enter Try.func17, Try.ntmps17
  go_upto_region 1 with (fail)
  repeat (go_quiet (fail); go_upto_region 1 with (fail))
  go_cut [19] (fun v19 wc => ∃ (kq : Nat) (x19_3 : Bool), v19 = .bool x19_3 ∧ Aside0 (spec_l5Check.j0 kq l0 a1 a2 x19_3 = some r) ∧ Aside0 (kq ≤ k) ∧ Aside0 (Below w.heap.size w wc))
  case first =>
    have H := HC4.out
    clear HC4
    by_cases c5 : a1 ≥ (l0.length : Int)
    · rw [if_pos c5] at H
      have c5b0 : decide ((l0.length : Int) ≤ a1) = true := decide_eq_true c5
      clear c5
      (first | rw [c5b0] | (simp only [i64_w, i32_w]; rw [c5b0]) | skip)
      have H' := Aside0.mk H
      clear H
      go_wp2
      repeat (go_quiet (fail); try go_wp2)
      go_meet
      case rel => exact ⟨_, (true), sr, H', ⟨by first | omega | exact Nat.le_refl _⟩, ⟨below_later HB.out⟩⟩
    · rw [if_neg c5] at H
      have c5b0 : decide ((l0.length : Int) ≤ a1) = false := decide_eq_false c5
      clear c5
      (first | rw [c5b0] | (simp only [i64_w, i32_w]; rw [c5b0]) | skip)
      have H' := Aside0.mk H
      clear H
      go_wp2
      repeat (go_quiet (fail); try go_wp2)
      go_meet
      case rel => exact ⟨_, (decide (a2 > 6)), sr, H', ⟨by first | omega | exact Nat.le_refl _⟩, ⟨below_later HB.out⟩⟩
  case rest =>
    clear HC4
    obtain ⟨kq, x19_3, rfl, HA, HJ3, HB⟩ := hcut
    cases kq with
    | zero => exact absurd HA.out (by simp [spec_l5Check.j0])
    | succ kj3 =>
      have H := HA.out
      clear HA
      simp only [spec_l5Check.j0] at H
      by_cases c6 : x19_3 = true
      · subst c6
        replace H := ifp rfl H
        obtain rfl := Option.some.inj H
        go_wp2
        repeat (go_quiet (fail); try go_wp2)
        go_ret
        exact fin_ (below_later HB.out)
      · replace c6 := Bool.eq_false_iff.mpr c6
        subst c6
        replace H := ifn Bool.false_ne_true H
        replace H := ifd H
        obtain ⟨c7b0, H⟩ := H
        replace H := ifd H
        obtain ⟨c8b0, H⟩ := H
        have HC9 := Aside0.mk H
        clear H
        have p105 : 0 ≤ (a1 : Int) := dcd
        have q105 : a1 < (l0.length : Int) := dcd
        obtain ⟨ad105, e105, hx105_0, hx105_1, hx105_2, hx105_3⟩ := at_T34 HR0.out a1 p105 q105
        cases e105
        replace hx105_0 := crd HB hx105_0
        replace hx105_1 := crd HB hx105_1
        replace hx105_2 := crd HB hx105_2
        replace hx105_3 := crd HB hx105_3
        replace p105 := eq_true p105
        replace q105 := eq_true q105
        go_upto_region 4 with (first | ((with_reducible refine gate_dst (N := 7) rfl ?_); refine box_event ?hg (N := 7) ?hd (cs := #[.string (⟨#[]⟩ : ByteArray), .int .i64 0, .int .i64 0, .int .i64 0]) (t := 34) ?hr ?_; (case hd => rfl); (case hg => rfl); (case hr => first | (go_simp; done) | (go_simp; rfl)); intro gb106 hg w10 hbox hb; have n0_ := Aside0.mk (below_step (below_later HB.out) hb); have n1_ := Aside0.mk (hbox); have n2_ := Aside0.mk ((by rw [hg]; exact (below_size (below_later HB.out)) : w.heap.size ≤ gb106)); have n3_ := Aside0.mk ((by rw [hg]; exact (below_size (below_later HB.out)) : w.heap.size ≤ gb106)); clear HB; have HB := n0_; have BK106 := n1_; have GW106 := n2_; have GE106 := n3_; clear n0_ n1_ n2_ n3_; clear hb hbox hg; have hcz11_0 : w10.cell? ⟨gb106, 0, none⟩ = some (.string (⟨#[]⟩ : ByteArray)) := (blk_cell BK106.out 0).trans rfl; have hcz11_1 : w10.cell? ⟨gb106, 1, none⟩ = some (.int .i64 0) := (blk_cell BK106.out 1).trans rfl; have hcz11_2 : w10.cell? ⟨gb106, 2, none⟩ = some (.int .i64 0) := (blk_cell BK106.out 2).trans rfl; have hcz11_3 : w10.cell? ⟨gb106, 3, none⟩ = some (.int .i64 0) := (blk_cell BK106.out 3).trans rfl; have hfz11_0 := blk_frozen BK106.out 0; have hfz11_1 := blk_frozen BK106.out 1; have hfz11_2 := blk_frozen BK106.out 2; have hfz11_3 := blk_frozen BK106.out 3))
        repeat (go_quiet (first | ((with_reducible refine gate_dst (N := 7) rfl ?_); refine box_event ?hg (N := 7) ?hd (cs := #[.string (⟨#[]⟩ : ByteArray), .int .i64 0, .int .i64 0, .int .i64 0]) (t := 34) ?hr ?_; (case hd => rfl); (case hg => rfl); (case hr => first | (go_simp; done) | (go_simp; rfl)); intro gb106 hg w10 hbox hb; have n0_ := Aside0.mk (below_step (below_later HB.out) hb); have n1_ := Aside0.mk (hbox); have n2_ := Aside0.mk ((by rw [hg]; exact (below_size (below_later HB.out)) : w.heap.size ≤ gb106)); have n3_ := Aside0.mk ((by rw [hg]; exact (below_size (below_later HB.out)) : w.heap.size ≤ gb106)); clear HB; have HB := n0_; have BK106 := n1_; have GW106 := n2_; have GE106 := n3_; clear n0_ n1_ n2_ n3_; clear hb hbox hg; have hcz11_0 : w10.cell? ⟨gb106, 0, none⟩ = some (.string (⟨#[]⟩ : ByteArray)) := (blk_cell BK106.out 0).trans rfl; have hcz11_1 : w10.cell? ⟨gb106, 1, none⟩ = some (.int .i64 0) := (blk_cell BK106.out 1).trans rfl; have hcz11_2 : w10.cell? ⟨gb106, 2, none⟩ = some (.int .i64 0) := (blk_cell BK106.out 2).trans rfl; have hcz11_3 : w10.cell? ⟨gb106, 3, none⟩ = some (.int .i64 0) := (blk_cell BK106.out 3).trans rfl; have hfz11_0 := blk_frozen BK106.out 0; have hfz11_1 := blk_frozen BK106.out 1; have hfz11_2 := blk_frozen BK106.out 2; have hfz11_3 := blk_frozen BK106.out 3)); go_upto_region 4 with (first | ((with_reducible refine gate_dst (N := 7) rfl ?_); refine box_event ?hg (N := 7) ?hd (cs := #[.string (⟨#[]⟩ : ByteArray), .int .i64 0, .int .i64 0, .int .i64 0]) (t := 34) ?hr ?_; (case hd => rfl); (case hg => rfl); (case hr => first | (go_simp; done) | (go_simp; rfl)); intro gb106 hg w10 hbox hb; have n0_ := Aside0.mk (below_step (below_later HB.out) hb); have n1_ := Aside0.mk (hbox); have n2_ := Aside0.mk ((by rw [hg]; exact (below_size (below_later HB.out)) : w.heap.size ≤ gb106)); have n3_ := Aside0.mk ((by rw [hg]; exact (below_size (below_later HB.out)) : w.heap.size ≤ gb106)); clear HB; have HB := n0_; have BK106 := n1_; have GW106 := n2_; have GE106 := n3_; clear n0_ n1_ n2_ n3_; clear hb hbox hg; have hcz11_0 : w10.cell? ⟨gb106, 0, none⟩ = some (.string (⟨#[]⟩ : ByteArray)) := (blk_cell BK106.out 0).trans rfl; have hcz11_1 : w10.cell? ⟨gb106, 1, none⟩ = some (.int .i64 0) := (blk_cell BK106.out 1).trans rfl; have hcz11_2 : w10.cell? ⟨gb106, 2, none⟩ = some (.int .i64 0) := (blk_cell BK106.out 2).trans rfl; have hcz11_3 : w10.cell? ⟨gb106, 3, none⟩ = some (.int .i64 0) := (blk_cell BK106.out 3).trans rfl; have hfz11_0 := blk_frozen BK106.out 0; have hfz11_1 := blk_frozen BK106.out 1; have hfz11_2 := blk_frozen BK106.out 2; have hfz11_3 := blk_frozen BK106.out 3)))
        (try simp only [Act.put, List.setIfInBounds_toArray, List.set_cons_zero, List.set_cons_succ])
        go_cut [56] (fun v56 wc => ∃ (kq : Nat) (x56_8 : Bool), v56 = .bool x56_8 ∧ Aside0 (spec_l5Check.j1 kq l0 a1 a2 x56_8 ((rd_T34 l0 a1).f0) ((rd_T34 l0 a1).f1) ((rd_T34 l0 a1).f2) ((rd_T34 l0 a1).f3) = some r) ∧ Aside0 (kq ≤ kj3) ∧ Aside0 (wc.heap[gb106]? = some (.cells #[.string ((rd_T34 l0 a1).f0), .int .i64 ((rd_T34 l0 a1).f1), .int .i64 ((rd_T34 l0 a1).f2), .int .i64 ((rd_T34 l0 a1).f3)] 34 (0, 0))) ∧ Aside0 (Below w.heap.size w wc))
        case first =>
          have H := HC9.out
          clear HC9
          by_cases c12 : a1 = 0
          · rw [if_pos c12] at H
            have c12b0 : (a1 == 0) = true := beq_iff_eq.mpr c12
            have c12b1 : (a1 != 0) = false := bne_eq_false_iff_eq.mpr c12
            clear c12
            (first | rw [c12b0] | rw [c12b1] | (simp only [i64_w, i32_w]; rw [c12b0]) | skip)
            by_cases c13 : ((rd_T34 l0 a1).f0).toList = ([] : List UInt8)
            · rw [if_pos c13] at H
              have c13b0 : (((rd_T34 l0 a1).f0).toList == ([] : List UInt8)) = true := beq_iff_eq.mpr c13
              have c13b1 : (((rd_T34 l0 a1).f0).toList != ([] : List UInt8)) = false := bne_eq_false_iff_eq.mpr c13
              clear c13
              by_cases c14 : ((rd_T34 l0 a1).f2) = 0
              · rw [if_pos c14] at H
                have c14b0 : (((rd_T34 l0 a1).f2) == 0) = true := beq_iff_eq.mpr c14
                have c14b1 : (((rd_T34 l0 a1).f2) != 0) = false := bne_eq_false_iff_eq.mpr c14
                clear c14
                by_cases c15 : ((rd_T34 l0 a1).f1) = 7
                · rw [if_pos c15] at H
                  have c15b0 : (((rd_T34 l0 a1).f1) == 7) = true := beq_iff_eq.mpr c15
                  have c15b1 : (((rd_T34 l0 a1).f1) != 7) = false := bne_eq_false_iff_eq.mpr c15
                  clear c15
                  by_cases c16 : a1 > 0
                  · rw [if_pos c16] at H
                    have c16b0 : decide (0 < a1) = true := decide_eq_true c16
                    clear c16
                    replace H := bnd H
                    obtain ⟨t107, A17, H⟩ := H
                    by_cases c18 : t107 = true
                    · subst c18
                      replace H := ifp rfl H
                      replace H := bnd H
                      obtain ⟨t108, A19, H⟩ := H
                      have H' := Aside0.mk H
                      clear H
                      have hcz20_0 : w10.cell? ⟨gb106, 0, none⟩ = some (.string (⟨#[]⟩ : ByteArray)) := (blk_cell BK106.out 0).trans rfl
                      have hcz20_1 : w10.cell? ⟨gb106, 1, none⟩ = some (.int .i64 0) := (blk_cell BK106.out 1).trans rfl
                      have hcz20_2 : w10.cell? ⟨gb106, 2, none⟩ = some (.int .i64 0) := (blk_cell BK106.out 2).trans rfl
                      have hcz20_3 : w10.cell? ⟨gb106, 3, none⟩ = some (.int .i64 0) := (blk_cell BK106.out 3).trans rfl
                      have hfz20_0 := blk_frozen BK106.out 0
                      have hfz20_1 := blk_frozen BK106.out 1
                      have hfz20_2 := blk_frozen BK106.out 2
                      have hfz20_3 := blk_frozen BK106.out 3
                      go_wp2_with (first | (go_at_call 25; (with_reducible refine (spec_l5Name.calls kj3 ((rd_T34 l0 a1).f0) true _ A17.out).mono ?_); rintro e w' ⟨rfl, ⟨nd, rfl⟩⟩; (try first | exact ⟨rfl, _, World.drewN_drewN _ _ _⟩ | exact ⟨rfl, _, Eq.trans (World.drewN_drewN _ _ _) (congrArg (World.drewN _) (Nat.add_assoc _ _ _))⟩)) | (go_at_call 16; (with_reducible refine (spec_l1In.calls ((rd_T34 l0 a1).f2) 0 2 t108 _ A19.out).mono ?_); rintro e w' ⟨rfl, ⟨nd, rfl⟩⟩; (try first | exact ⟨rfl, _, World.drewN_drewN _ _ _⟩ | exact ⟨rfl, _, Eq.trans (World.drewN_drewN _ _ _) (congrArg (World.drewN _) (Nat.add_assoc _ _ _))⟩)))
                      repeat (go_quiet (first | (go_at_call 25; (with_reducible refine (spec_l5Name.calls kj3 ((rd_T34 l0 a1).f0) true _ A17.out).mono ?_); rintro e w' ⟨rfl, ⟨nd, rfl⟩⟩; (try first | exact ⟨rfl, _, World.drewN_drewN _ _ _⟩ | exact ⟨rfl, _, Eq.trans (World.drewN_drewN _ _ _) (congrArg (World.drewN _) (Nat.add_assoc _ _ _))⟩)) | (go_at_call 16; (with_reducible refine (spec_l1In.calls ((rd_T34 l0 a1).f2) 0 2 t108 _ A19.out).mono ?_); rintro e w' ⟨rfl, ⟨nd, rfl⟩⟩; (try first | exact ⟨rfl, _, World.drewN_drewN _ _ _⟩ | exact ⟨rfl, _, Eq.trans (World.drewN_drewN _ _ _) (congrArg (World.drewN _) (Nat.add_assoc _ _ _))⟩))); try go_wp2_with (first | (go_at_call 25; (with_reducible refine (spec_l5Name.calls kj3 ((rd_T34 l0 a1).f0) true _ A17.out).mono ?_); rintro e w' ⟨rfl, ⟨nd, rfl⟩⟩; (try first | exact ⟨rfl, _, World.drewN_drewN _ _ _⟩ | exact ⟨rfl, _, Eq.trans (World.drewN_drewN _ _ _) (congrArg (World.drewN _) (Nat.add_assoc _ _ _))⟩)) | (go_at_call 16; (with_reducible refine (spec_l1In.calls ((rd_T34 l0 a1).f2) 0 2 t108 _ A19.out).mono ?_); rintro e w' ⟨rfl, ⟨nd, rfl⟩⟩; (try first | exact ⟨rfl, _, World.drewN_drewN _ _ _⟩ | exact ⟨rfl, _, Eq.trans (World.drewN_drewN _ _ _) (congrArg (World.drewN _) (Nat.add_assoc _ _ _))⟩))))
                      go_meet
                      case rel => exact ⟨_, (!t108), sr, H', ⟨by have := HJ3.out; first | omega | exact Nat.le_refl _⟩, ⟨by (with_reducible repeat (first | refine blk_drewN ?_ _ | refine blk_drew ?_ | refine blk_alloc ?_ _)); refine blk_put (cs := #[.string ((rd_T34 l0 a1).f0), .int .i64 ((rd_T34 l0 a1).f1), .int .i64 ((rd_T34 l0 a1).f2), .int .i64 0]) ?_ 3 _ rfl; (with_reducible repeat (first | refine blk_drewN ?_ _ | refine blk_drew ?_ | refine blk_alloc ?_ _)); refine blk_put (cs := #[.string ((rd_T34 l0 a1).f0), .int .i64 ((rd_T34 l0 a1).f1), .int .i64 0, .int .i64 0]) ?_ 2 _ rfl; (with_reducible repeat (first | refine blk_drewN ?_ _ | refine blk_drew ?_ | refine blk_alloc ?_ _)); refine blk_put (cs := #[.string ((rd_T34 l0 a1).f0), .int .i64 0, .int .i64 0, .int .i64 0]) ?_ 1 _ rfl; (with_reducible repeat (first | refine blk_drewN ?_ _ | refine blk_drew ?_ | refine blk_alloc ?_ _)); refine blk_put (cs := #[.string (⟨#[]⟩ : ByteArray), .int .i64 0, .int .i64 0, .int .i64 0]) ?_ 0 _ rfl; (with_reducible repeat (first | refine blk_drewN ?_ _ | refine blk_drew ?_ | refine blk_alloc ?_ _)); exact BK106.out⟩, ⟨below_later HB.out⟩⟩
                    · replace c18 := Bool.eq_false_iff.mpr c18
                      subst c18
                      replace H := ifn Bool.false_ne_true H
                      have H' := Aside0.mk H
                      clear H
                      have hcz21_0 : w10.cell? ⟨gb106, 0, none⟩ = some (.string (⟨#[]⟩ : ByteArray)) := (blk_cell BK106.out 0).trans rfl
                      have hcz21_1 : w10.cell? ⟨gb106, 1, none⟩ = some (.int .i64 0) := (blk_cell BK106.out 1).trans rfl
                      have hcz21_2 : w10.cell? ⟨gb106, 2, none⟩ = some (.int .i64 0) := (blk_cell BK106.out 2).trans rfl
                      have hcz21_3 : w10.cell? ⟨gb106, 3, none⟩ = some (.int .i64 0) := (blk_cell BK106.out 3).trans rfl
                      have hfz21_0 := blk_frozen BK106.out 0
                      have hfz21_1 := blk_frozen BK106.out 1
                      have hfz21_2 := blk_frozen BK106.out 2
                      have hfz21_3 := blk_frozen BK106.out 3
                      go_wp2_with (first | (go_at_call 25; (with_reducible refine (spec_l5Name.calls kj3 ((rd_T34 l0 a1).f0) false _ A17.out).mono ?_); rintro e w' ⟨rfl, ⟨nd, rfl⟩⟩; (try first | exact ⟨rfl, _, World.drewN_drewN _ _ _⟩ | exact ⟨rfl, _, Eq.trans (World.drewN_drewN _ _ _) (congrArg (World.drewN _) (Nat.add_assoc _ _ _))⟩)))
                      repeat (go_quiet (first | (go_at_call 25; (with_reducible refine (spec_l5Name.calls kj3 ((rd_T34 l0 a1).f0) false _ A17.out).mono ?_); rintro e w' ⟨rfl, ⟨nd, rfl⟩⟩; (try first | exact ⟨rfl, _, World.drewN_drewN _ _ _⟩ | exact ⟨rfl, _, Eq.trans (World.drewN_drewN _ _ _) (congrArg (World.drewN _) (Nat.add_assoc _ _ _))⟩))); try go_wp2_with (first | (go_at_call 25; (with_reducible refine (spec_l5Name.calls kj3 ((rd_T34 l0 a1).f0) false _ A17.out).mono ?_); rintro e w' ⟨rfl, ⟨nd, rfl⟩⟩; (try first | exact ⟨rfl, _, World.drewN_drewN _ _ _⟩ | exact ⟨rfl, _, Eq.trans (World.drewN_drewN _ _ _) (congrArg (World.drewN _) (Nat.add_assoc _ _ _))⟩))))
                      go_meet
                      case rel => exact ⟨_, (true), sr, H', ⟨by have := HJ3.out; first | omega | exact Nat.le_refl _⟩, ⟨by (with_reducible repeat (first | refine blk_drewN ?_ _ | refine blk_drew ?_ | refine blk_alloc ?_ _)); refine blk_put (cs := #[.string ((rd_T34 l0 a1).f0), .int .i64 ((rd_T34 l0 a1).f1), .int .i64 ((rd_T34 l0 a1).f2), .int .i64 0]) ?_ 3 _ rfl; (with_reducible repeat (first | refine blk_drewN ?_ _ | refine blk_drew ?_ | refine blk_alloc ?_ _)); refine blk_put (cs := #[.string ((rd_T34 l0 a1).f0), .int .i64 ((rd_T34 l0 a1).f1), .int .i64 0, .int .i64 0]) ?_ 2 _ rfl; (with_reducible repeat (first | refine blk_drewN ?_ _ | refine blk_drew ?_ | refine blk_alloc ?_ _)); refine blk_put (cs := #[.string ((rd_T34 l0 a1).f0), .int .i64 0, .int .i64 0, .int .i64 0]) ?_ 1 _ rfl; (with_reducible repeat (first | refine blk_drewN ?_ _ | refine blk_drew ?_ | refine blk_alloc ?_ _)); refine blk_put (cs := #[.string (⟨#[]⟩ : ByteArray), .int .i64 0, .int .i64 0, .int .i64 0]) ?_ 0 _ rfl; (with_reducible repeat (first | refine blk_drewN ?_ _ | refine blk_drew ?_ | refine blk_alloc ?_ _)); exact BK106.out⟩, ⟨below_later HB.out⟩⟩
                  · rw [if_neg c16] at H
                    have c16b0 : decide (0 < a1) = false := decide_eq_false c16
                    clear c16
                    replace H := bnd H
                    obtain ⟨t109, A22, H⟩ := H
                    have H' := Aside0.mk H
                    clear H
                    have hcz23_0 : w10.cell? ⟨gb106, 0, none⟩ = some (.string (⟨#[]⟩ : ByteArray)) := (blk_cell BK106.out 0).trans rfl
                    have hcz23_1 : w10.cell? ⟨gb106, 1, none⟩ = some (.int .i64 0) := (blk_cell BK106.out 1).trans rfl
                    have hcz23_2 : w10.cell? ⟨gb106, 2, none⟩ = some (.int .i64 0) := (blk_cell BK106.out 2).trans rfl
                    have hcz23_3 : w10.cell? ⟨gb106, 3, none⟩ = some (.int .i64 0) := (blk_cell BK106.out 3).trans rfl
                    have hfz23_0 := blk_frozen BK106.out 0
                    have hfz23_1 := blk_frozen BK106.out 1
                    have hfz23_2 := blk_frozen BK106.out 2
                    have hfz23_3 := blk_frozen BK106.out 3
                    go_wp2_with (first | (go_at_call 16; (with_reducible refine (spec_l1In.calls ((rd_T34 l0 a1).f2) 0 2 t109 _ A22.out).mono ?_); rintro e w' ⟨rfl, ⟨nd, rfl⟩⟩; (try first | exact ⟨rfl, _, World.drewN_drewN _ _ _⟩ | exact ⟨rfl, _, Eq.trans (World.drewN_drewN _ _ _) (congrArg (World.drewN _) (Nat.add_assoc _ _ _))⟩)))
                    repeat (go_quiet (first | (go_at_call 16; (with_reducible refine (spec_l1In.calls ((rd_T34 l0 a1).f2) 0 2 t109 _ A22.out).mono ?_); rintro e w' ⟨rfl, ⟨nd, rfl⟩⟩; (try first | exact ⟨rfl, _, World.drewN_drewN _ _ _⟩ | exact ⟨rfl, _, Eq.trans (World.drewN_drewN _ _ _) (congrArg (World.drewN _) (Nat.add_assoc _ _ _))⟩))); try go_wp2_with (first | (go_at_call 16; (with_reducible refine (spec_l1In.calls ((rd_T34 l0 a1).f2) 0 2 t109 _ A22.out).mono ?_); rintro e w' ⟨rfl, ⟨nd, rfl⟩⟩; (try first | exact ⟨rfl, _, World.drewN_drewN _ _ _⟩ | exact ⟨rfl, _, Eq.trans (World.drewN_drewN _ _ _) (congrArg (World.drewN _) (Nat.add_assoc _ _ _))⟩))))
                    go_meet
                    case rel => exact ⟨_, (!t109), sr, H', ⟨by have := HJ3.out; first | omega | exact Nat.le_refl _⟩, ⟨by (with_reducible repeat (first | refine blk_drewN ?_ _ | refine blk_drew ?_ | refine blk_alloc ?_ _)); refine blk_put (cs := #[.string ((rd_T34 l0 a1).f0), .int .i64 ((rd_T34 l0 a1).f1), .int .i64 ((rd_T34 l0 a1).f2), .int .i64 0]) ?_ 3 _ rfl; (with_reducible repeat (first | refine blk_drewN ?_ _ | refine blk_drew ?_ | refine blk_alloc ?_ _)); refine blk_put (cs := #[.string ((rd_T34 l0 a1).f0), .int .i64 ((rd_T34 l0 a1).f1), .int .i64 0, .int .i64 0]) ?_ 2 _ rfl; (with_reducible repeat (first | refine blk_drewN ?_ _ | refine blk_drew ?_ | refine blk_alloc ?_ _)); refine blk_put (cs := #[.string ((rd_T34 l0 a1).f0), .int .i64 0, .int .i64 0, .int .i64 0]) ?_ 1 _ rfl; (with_reducible repeat (first | refine blk_drewN ?_ _ | refine blk_drew ?_ | refine blk_alloc ?_ _)); refine blk_put (cs := #[.string (⟨#[]⟩ : ByteArray), .int .i64 0, .int .i64 0, .int .i64 0]) ?_ 0 _ rfl; (with_reducible repeat (first | refine blk_drewN ?_ _ | refine blk_drew ?_ | refine blk_alloc ?_ _)); exact BK106.out⟩, ⟨below_later HB.out⟩⟩
                · rw [if_neg c15] at H
                  have c15b0 : (((rd_T34 l0 a1).f1) == 7) = false := beq_eq_false_iff_ne.mpr c15
                  have c15b1 : (((rd_T34 l0 a1).f1) != 7) = true := bne_iff_ne.mpr c15
                  have H' := Aside0.mk H
                  clear H
                  have hcz24_0 : w10.cell? ⟨gb106, 0, none⟩ = some (.string (⟨#[]⟩ : ByteArray)) := (blk_cell BK106.out 0).trans rfl
                  have hcz24_1 : w10.cell? ⟨gb106, 1, none⟩ = some (.int .i64 0) := (blk_cell BK106.out 1).trans rfl
                  have hcz24_2 : w10.cell? ⟨gb106, 2, none⟩ = some (.int .i64 0) := (blk_cell BK106.out 2).trans rfl
                  have hcz24_3 : w10.cell? ⟨gb106, 3, none⟩ = some (.int .i64 0) := (blk_cell BK106.out 3).trans rfl
                  have hfz24_0 := blk_frozen BK106.out 0
                  have hfz24_1 := blk_frozen BK106.out 1
                  have hfz24_2 := blk_frozen BK106.out 2
                  have hfz24_3 := blk_frozen BK106.out 3
                  go_wp2
                  repeat (go_quiet (fail); try go_wp2)
                  go_meet
                  case rel => exact ⟨_, (true), sr, H', ⟨by have := HJ3.out; first | omega | exact Nat.le_refl _⟩, ⟨by (with_reducible repeat (first | refine blk_drewN ?_ _ | refine blk_drew ?_ | refine blk_alloc ?_ _)); refine blk_put (cs := #[.string ((rd_T34 l0 a1).f0), .int .i64 ((rd_T34 l0 a1).f1), .int .i64 ((rd_T34 l0 a1).f2), .int .i64 0]) ?_ 3 _ rfl; (with_reducible repeat (first | refine blk_drewN ?_ _ | refine blk_drew ?_ | refine blk_alloc ?_ _)); refine blk_put (cs := #[.string ((rd_T34 l0 a1).f0), .int .i64 ((rd_T34 l0 a1).f1), .int .i64 0, .int .i64 0]) ?_ 2 _ rfl; (with_reducible repeat (first | refine blk_drewN ?_ _ | refine blk_drew ?_ | refine blk_alloc ?_ _)); refine blk_put (cs := #[.string ((rd_T34 l0 a1).f0), .int .i64 0, .int .i64 0, .int .i64 0]) ?_ 1 _ rfl; (with_reducible repeat (first | refine blk_drewN ?_ _ | refine blk_drew ?_ | refine blk_alloc ?_ _)); refine blk_put (cs := #[.string (⟨#[]⟩ : ByteArray), .int .i64 0, .int .i64 0, .int .i64 0]) ?_ 0 _ rfl; (with_reducible repeat (first | refine blk_drewN ?_ _ | refine blk_drew ?_ | refine blk_alloc ?_ _)); exact BK106.out⟩, ⟨below_later HB.out⟩⟩
              · rw [if_neg c14] at H
                have c14b0 : (((rd_T34 l0 a1).f2) == 0) = false := beq_eq_false_iff_ne.mpr c14
                have c14b1 : (((rd_T34 l0 a1).f2) != 0) = true := bne_iff_ne.mpr c14
                have H' := Aside0.mk H
                clear H
                have hcz25_0 : w10.cell? ⟨gb106, 0, none⟩ = some (.string (⟨#[]⟩ : ByteArray)) := (blk_cell BK106.out 0).trans rfl
                have hcz25_1 : w10.cell? ⟨gb106, 1, none⟩ = some (.int .i64 0) := (blk_cell BK106.out 1).trans rfl
                have hcz25_2 : w10.cell? ⟨gb106, 2, none⟩ = some (.int .i64 0) := (blk_cell BK106.out 2).trans rfl
                have hcz25_3 : w10.cell? ⟨gb106, 3, none⟩ = some (.int .i64 0) := (blk_cell BK106.out 3).trans rfl
                have hfz25_0 := blk_frozen BK106.out 0
                have hfz25_1 := blk_frozen BK106.out 1
                have hfz25_2 := blk_frozen BK106.out 2
                have hfz25_3 := blk_frozen BK106.out 3
                go_wp2
                repeat (go_quiet (fail); try go_wp2)
                go_meet
                case rel => exact ⟨_, (true), sr, H', ⟨by have := HJ3.out; first | omega | exact Nat.le_refl _⟩, ⟨by (with_reducible repeat (first | refine blk_drewN ?_ _ | refine blk_drew ?_ | refine blk_alloc ?_ _)); refine blk_put (cs := #[.string ((rd_T34 l0 a1).f0), .int .i64 ((rd_T34 l0 a1).f1), .int .i64 ((rd_T34 l0 a1).f2), .int .i64 0]) ?_ 3 _ rfl; (with_reducible repeat (first | refine blk_drewN ?_ _ | refine blk_drew ?_ | refine blk_alloc ?_ _)); refine blk_put (cs := #[.string ((rd_T34 l0 a1).f0), .int .i64 ((rd_T34 l0 a1).f1), .int .i64 0, .int .i64 0]) ?_ 2 _ rfl; (with_reducible repeat (first | refine blk_drewN ?_ _ | refine blk_drew ?_ | refine blk_alloc ?_ _)); refine blk_put (cs := #[.string ((rd_T34 l0 a1).f0), .int .i64 0, .int .i64 0, .int .i64 0]) ?_ 1 _ rfl; (with_reducible repeat (first | refine blk_drewN ?_ _ | refine blk_drew ?_ | refine blk_alloc ?_ _)); refine blk_put (cs := #[.string (⟨#[]⟩ : ByteArray), .int .i64 0, .int .i64 0, .int .i64 0]) ?_ 0 _ rfl; (with_reducible repeat (first | refine blk_drewN ?_ _ | refine blk_drew ?_ | refine blk_alloc ?_ _)); exact BK106.out⟩, ⟨below_later HB.out⟩⟩
            · rw [if_neg c13] at H
              have c13b0 : (((rd_T34 l0 a1).f0).toList == ([] : List UInt8)) = false := beq_eq_false_iff_ne.mpr c13
              have c13b1 : (((rd_T34 l0 a1).f0).toList != ([] : List UInt8)) = true := bne_iff_ne.mpr c13
              have H' := Aside0.mk H
              clear H
              have hcz26_0 : w10.cell? ⟨gb106, 0, none⟩ = some (.string (⟨#[]⟩ : ByteArray)) := (blk_cell BK106.out 0).trans rfl
              have hcz26_1 : w10.cell? ⟨gb106, 1, none⟩ = some (.int .i64 0) := (blk_cell BK106.out 1).trans rfl
              have hcz26_2 : w10.cell? ⟨gb106, 2, none⟩ = some (.int .i64 0) := (blk_cell BK106.out 2).trans rfl
              have hcz26_3 : w10.cell? ⟨gb106, 3, none⟩ = some (.int .i64 0) := (blk_cell BK106.out 3).trans rfl
              have hfz26_0 := blk_frozen BK106.out 0
              have hfz26_1 := blk_frozen BK106.out 1
              have hfz26_2 := blk_frozen BK106.out 2
              have hfz26_3 := blk_frozen BK106.out 3
              go_wp2
              repeat (go_quiet (fail); try go_wp2)
              go_meet
              case rel => exact ⟨_, (true), sr, H', ⟨by have := HJ3.out; first | omega | exact Nat.le_refl _⟩, ⟨by (with_reducible repeat (first | refine blk_drewN ?_ _ | refine blk_drew ?_ | refine blk_alloc ?_ _)); refine blk_put (cs := #[.string ((rd_T34 l0 a1).f0), .int .i64 ((rd_T34 l0 a1).f1), .int .i64 ((rd_T34 l0 a1).f2), .int .i64 0]) ?_ 3 _ rfl; (with_reducible repeat (first | refine blk_drewN ?_ _ | refine blk_drew ?_ | refine blk_alloc ?_ _)); refine blk_put (cs := #[.string ((rd_T34 l0 a1).f0), .int .i64 ((rd_T34 l0 a1).f1), .int .i64 0, .int .i64 0]) ?_ 2 _ rfl; (with_reducible repeat (first | refine blk_drewN ?_ _ | refine blk_drew ?_ | refine blk_alloc ?_ _)); refine blk_put (cs := #[.string ((rd_T34 l0 a1).f0), .int .i64 0, .int .i64 0, .int .i64 0]) ?_ 1 _ rfl; (with_reducible repeat (first | refine blk_drewN ?_ _ | refine blk_drew ?_ | refine blk_alloc ?_ _)); refine blk_put (cs := #[.string (⟨#[]⟩ : ByteArray), .int .i64 0, .int .i64 0, .int .i64 0]) ?_ 0 _ rfl; (with_reducible repeat (first | refine blk_drewN ?_ _ | refine blk_drew ?_ | refine blk_alloc ?_ _)); exact BK106.out⟩, ⟨below_later HB.out⟩⟩
          · rw [if_neg c12] at H
            have c12b0 : (a1 == 0) = false := beq_eq_false_iff_ne.mpr c12
            have c12b1 : (a1 != 0) = true := bne_iff_ne.mpr c12
            (first | rw [c12b0] | rw [c12b1] | (simp only [i64_w, i32_w]; rw [c12b0]) | skip)
            by_cases c27 : a1 > 0
            · rw [if_pos c27] at H
              have c27b0 : decide (0 < a1) = true := decide_eq_true c27
              clear c27
              replace H := bnd H
              obtain ⟨t110, A28, H⟩ := H
              by_cases c29 : t110 = true
              · subst c29
                replace H := ifp rfl H
                replace H := bnd H
                obtain ⟨t111, A30, H⟩ := H
                have H' := Aside0.mk H
                clear H
                have hcz31_0 : w10.cell? ⟨gb106, 0, none⟩ = some (.string (⟨#[]⟩ : ByteArray)) := (blk_cell BK106.out 0).trans rfl
                have hcz31_1 : w10.cell? ⟨gb106, 1, none⟩ = some (.int .i64 0) := (blk_cell BK106.out 1).trans rfl
                have hcz31_2 : w10.cell? ⟨gb106, 2, none⟩ = some (.int .i64 0) := (blk_cell BK106.out 2).trans rfl
                have hcz31_3 : w10.cell? ⟨gb106, 3, none⟩ = some (.int .i64 0) := (blk_cell BK106.out 3).trans rfl
                have hfz31_0 := blk_frozen BK106.out 0
                have hfz31_1 := blk_frozen BK106.out 1
                have hfz31_2 := blk_frozen BK106.out 2
                have hfz31_3 := blk_frozen BK106.out 3
                go_wp2_with (first | (go_at_call 25; (with_reducible refine (spec_l5Name.calls kj3 ((rd_T34 l0 a1).f0) true _ A28.out).mono ?_); rintro e w' ⟨rfl, ⟨nd, rfl⟩⟩; (try first | exact ⟨rfl, _, World.drewN_drewN _ _ _⟩ | exact ⟨rfl, _, Eq.trans (World.drewN_drewN _ _ _) (congrArg (World.drewN _) (Nat.add_assoc _ _ _))⟩)) | (go_at_call 16; (with_reducible refine (spec_l1In.calls ((rd_T34 l0 a1).f2) 0 2 t111 _ A30.out).mono ?_); rintro e w' ⟨rfl, ⟨nd, rfl⟩⟩; (try first | exact ⟨rfl, _, World.drewN_drewN _ _ _⟩ | exact ⟨rfl, _, Eq.trans (World.drewN_drewN _ _ _) (congrArg (World.drewN _) (Nat.add_assoc _ _ _))⟩)))
                repeat (go_quiet (first | (go_at_call 25; (with_reducible refine (spec_l5Name.calls kj3 ((rd_T34 l0 a1).f0) true _ A28.out).mono ?_); rintro e w' ⟨rfl, ⟨nd, rfl⟩⟩; (try first | exact ⟨rfl, _, World.drewN_drewN _ _ _⟩ | exact ⟨rfl, _, Eq.trans (World.drewN_drewN _ _ _) (congrArg (World.drewN _) (Nat.add_assoc _ _ _))⟩)) | (go_at_call 16; (with_reducible refine (spec_l1In.calls ((rd_T34 l0 a1).f2) 0 2 t111 _ A30.out).mono ?_); rintro e w' ⟨rfl, ⟨nd, rfl⟩⟩; (try first | exact ⟨rfl, _, World.drewN_drewN _ _ _⟩ | exact ⟨rfl, _, Eq.trans (World.drewN_drewN _ _ _) (congrArg (World.drewN _) (Nat.add_assoc _ _ _))⟩))); try go_wp2_with (first | (go_at_call 25; (with_reducible refine (spec_l5Name.calls kj3 ((rd_T34 l0 a1).f0) true _ A28.out).mono ?_); rintro e w' ⟨rfl, ⟨nd, rfl⟩⟩; (try first | exact ⟨rfl, _, World.drewN_drewN _ _ _⟩ | exact ⟨rfl, _, Eq.trans (World.drewN_drewN _ _ _) (congrArg (World.drewN _) (Nat.add_assoc _ _ _))⟩)) | (go_at_call 16; (with_reducible refine (spec_l1In.calls ((rd_T34 l0 a1).f2) 0 2 t111 _ A30.out).mono ?_); rintro e w' ⟨rfl, ⟨nd, rfl⟩⟩; (try first | exact ⟨rfl, _, World.drewN_drewN _ _ _⟩ | exact ⟨rfl, _, Eq.trans (World.drewN_drewN _ _ _) (congrArg (World.drewN _) (Nat.add_assoc _ _ _))⟩))))
                go_meet
                case rel => exact ⟨_, (!t111), sr, H', ⟨by have := HJ3.out; first | omega | exact Nat.le_refl _⟩, ⟨by (with_reducible repeat (first | refine blk_drewN ?_ _ | refine blk_drew ?_ | refine blk_alloc ?_ _)); refine blk_put (cs := #[.string ((rd_T34 l0 a1).f0), .int .i64 ((rd_T34 l0 a1).f1), .int .i64 ((rd_T34 l0 a1).f2), .int .i64 0]) ?_ 3 _ rfl; (with_reducible repeat (first | refine blk_drewN ?_ _ | refine blk_drew ?_ | refine blk_alloc ?_ _)); refine blk_put (cs := #[.string ((rd_T34 l0 a1).f0), .int .i64 ((rd_T34 l0 a1).f1), .int .i64 0, .int .i64 0]) ?_ 2 _ rfl; (with_reducible repeat (first | refine blk_drewN ?_ _ | refine blk_drew ?_ | refine blk_alloc ?_ _)); refine blk_put (cs := #[.string ((rd_T34 l0 a1).f0), .int .i64 0, .int .i64 0, .int .i64 0]) ?_ 1 _ rfl; (with_reducible repeat (first | refine blk_drewN ?_ _ | refine blk_drew ?_ | refine blk_alloc ?_ _)); refine blk_put (cs := #[.string (⟨#[]⟩ : ByteArray), .int .i64 0, .int .i64 0, .int .i64 0]) ?_ 0 _ rfl; (with_reducible repeat (first | refine blk_drewN ?_ _ | refine blk_drew ?_ | refine blk_alloc ?_ _)); exact BK106.out⟩, ⟨below_later HB.out⟩⟩
              · replace c29 := Bool.eq_false_iff.mpr c29
                subst c29
                replace H := ifn Bool.false_ne_true H
                have H' := Aside0.mk H
                clear H
                have hcz32_0 : w10.cell? ⟨gb106, 0, none⟩ = some (.string (⟨#[]⟩ : ByteArray)) := (blk_cell BK106.out 0).trans rfl
                have hcz32_1 : w10.cell? ⟨gb106, 1, none⟩ = some (.int .i64 0) := (blk_cell BK106.out 1).trans rfl
                have hcz32_2 : w10.cell? ⟨gb106, 2, none⟩ = some (.int .i64 0) := (blk_cell BK106.out 2).trans rfl
                have hcz32_3 : w10.cell? ⟨gb106, 3, none⟩ = some (.int .i64 0) := (blk_cell BK106.out 3).trans rfl
                have hfz32_0 := blk_frozen BK106.out 0
                have hfz32_1 := blk_frozen BK106.out 1
                have hfz32_2 := blk_frozen BK106.out 2
                have hfz32_3 := blk_frozen BK106.out 3
                go_wp2_with (first | (go_at_call 25; (with_reducible refine (spec_l5Name.calls kj3 ((rd_T34 l0 a1).f0) false _ A28.out).mono ?_); rintro e w' ⟨rfl, ⟨nd, rfl⟩⟩; (try first | exact ⟨rfl, _, World.drewN_drewN _ _ _⟩ | exact ⟨rfl, _, Eq.trans (World.drewN_drewN _ _ _) (congrArg (World.drewN _) (Nat.add_assoc _ _ _))⟩)))
                repeat (go_quiet (first | (go_at_call 25; (with_reducible refine (spec_l5Name.calls kj3 ((rd_T34 l0 a1).f0) false _ A28.out).mono ?_); rintro e w' ⟨rfl, ⟨nd, rfl⟩⟩; (try first | exact ⟨rfl, _, World.drewN_drewN _ _ _⟩ | exact ⟨rfl, _, Eq.trans (World.drewN_drewN _ _ _) (congrArg (World.drewN _) (Nat.add_assoc _ _ _))⟩))); try go_wp2_with (first | (go_at_call 25; (with_reducible refine (spec_l5Name.calls kj3 ((rd_T34 l0 a1).f0) false _ A28.out).mono ?_); rintro e w' ⟨rfl, ⟨nd, rfl⟩⟩; (try first | exact ⟨rfl, _, World.drewN_drewN _ _ _⟩ | exact ⟨rfl, _, Eq.trans (World.drewN_drewN _ _ _) (congrArg (World.drewN _) (Nat.add_assoc _ _ _))⟩))))
                go_meet
                case rel => exact ⟨_, (true), sr, H', ⟨by have := HJ3.out; first | omega | exact Nat.le_refl _⟩, ⟨by (with_reducible repeat (first | refine blk_drewN ?_ _ | refine blk_drew ?_ | refine blk_alloc ?_ _)); refine blk_put (cs := #[.string ((rd_T34 l0 a1).f0), .int .i64 ((rd_T34 l0 a1).f1), .int .i64 ((rd_T34 l0 a1).f2), .int .i64 0]) ?_ 3 _ rfl; (with_reducible repeat (first | refine blk_drewN ?_ _ | refine blk_drew ?_ | refine blk_alloc ?_ _)); refine blk_put (cs := #[.string ((rd_T34 l0 a1).f0), .int .i64 ((rd_T34 l0 a1).f1), .int .i64 0, .int .i64 0]) ?_ 2 _ rfl; (with_reducible repeat (first | refine blk_drewN ?_ _ | refine blk_drew ?_ | refine blk_alloc ?_ _)); refine blk_put (cs := #[.string ((rd_T34 l0 a1).f0), .int .i64 0, .int .i64 0, .int .i64 0]) ?_ 1 _ rfl; (with_reducible repeat (first | refine blk_drewN ?_ _ | refine blk_drew ?_ | refine blk_alloc ?_ _)); refine blk_put (cs := #[.string (⟨#[]⟩ : ByteArray), .int .i64 0, .int .i64 0, .int .i64 0]) ?_ 0 _ rfl; (with_reducible repeat (first | refine blk_drewN ?_ _ | refine blk_drew ?_ | refine blk_alloc ?_ _)); exact BK106.out⟩, ⟨below_later HB.out⟩⟩
            · rw [if_neg c27] at H
              have c27b0 : decide (0 < a1) = false := decide_eq_false c27
              clear c27
              replace H := bnd H
              obtain ⟨t112, A33, H⟩ := H
              have H' := Aside0.mk H
              clear H
              have hcz34_0 : w10.cell? ⟨gb106, 0, none⟩ = some (.string (⟨#[]⟩ : ByteArray)) := (blk_cell BK106.out 0).trans rfl
              have hcz34_1 : w10.cell? ⟨gb106, 1, none⟩ = some (.int .i64 0) := (blk_cell BK106.out 1).trans rfl
              have hcz34_2 : w10.cell? ⟨gb106, 2, none⟩ = some (.int .i64 0) := (blk_cell BK106.out 2).trans rfl
              have hcz34_3 : w10.cell? ⟨gb106, 3, none⟩ = some (.int .i64 0) := (blk_cell BK106.out 3).trans rfl
              have hfz34_0 := blk_frozen BK106.out 0
              have hfz34_1 := blk_frozen BK106.out 1
              have hfz34_2 := blk_frozen BK106.out 2
              have hfz34_3 := blk_frozen BK106.out 3
              go_wp2_with (first | (go_at_call 16; (with_reducible refine (spec_l1In.calls ((rd_T34 l0 a1).f2) 0 2 t112 _ A33.out).mono ?_); rintro e w' ⟨rfl, ⟨nd, rfl⟩⟩; (try first | exact ⟨rfl, _, World.drewN_drewN _ _ _⟩ | exact ⟨rfl, _, Eq.trans (World.drewN_drewN _ _ _) (congrArg (World.drewN _) (Nat.add_assoc _ _ _))⟩)))
              repeat (go_quiet (first | (go_at_call 16; (with_reducible refine (spec_l1In.calls ((rd_T34 l0 a1).f2) 0 2 t112 _ A33.out).mono ?_); rintro e w' ⟨rfl, ⟨nd, rfl⟩⟩; (try first | exact ⟨rfl, _, World.drewN_drewN _ _ _⟩ | exact ⟨rfl, _, Eq.trans (World.drewN_drewN _ _ _) (congrArg (World.drewN _) (Nat.add_assoc _ _ _))⟩))); try go_wp2_with (first | (go_at_call 16; (with_reducible refine (spec_l1In.calls ((rd_T34 l0 a1).f2) 0 2 t112 _ A33.out).mono ?_); rintro e w' ⟨rfl, ⟨nd, rfl⟩⟩; (try first | exact ⟨rfl, _, World.drewN_drewN _ _ _⟩ | exact ⟨rfl, _, Eq.trans (World.drewN_drewN _ _ _) (congrArg (World.drewN _) (Nat.add_assoc _ _ _))⟩))))
              go_meet
              case rel => exact ⟨_, (!t112), sr, H', ⟨by have := HJ3.out; first | omega | exact Nat.le_refl _⟩, ⟨by (with_reducible repeat (first | refine blk_drewN ?_ _ | refine blk_drew ?_ | refine blk_alloc ?_ _)); refine blk_put (cs := #[.string ((rd_T34 l0 a1).f0), .int .i64 ((rd_T34 l0 a1).f1), .int .i64 ((rd_T34 l0 a1).f2), .int .i64 0]) ?_ 3 _ rfl; (with_reducible repeat (first | refine blk_drewN ?_ _ | refine blk_drew ?_ | refine blk_alloc ?_ _)); refine blk_put (cs := #[.string ((rd_T34 l0 a1).f0), .int .i64 ((rd_T34 l0 a1).f1), .int .i64 0, .int .i64 0]) ?_ 2 _ rfl; (with_reducible repeat (first | refine blk_drewN ?_ _ | refine blk_drew ?_ | refine blk_alloc ?_ _)); refine blk_put (cs := #[.string ((rd_T34 l0 a1).f0), .int .i64 0, .int .i64 0, .int .i64 0]) ?_ 1 _ rfl; (with_reducible repeat (first | refine blk_drewN ?_ _ | refine blk_drew ?_ | refine blk_alloc ?_ _)); refine blk_put (cs := #[.string (⟨#[]⟩ : ByteArray), .int .i64 0, .int .i64 0, .int .i64 0]) ?_ 0 _ rfl; (with_reducible repeat (first | refine blk_drewN ?_ _ | refine blk_drew ?_ | refine blk_alloc ?_ _)); exact BK106.out⟩, ⟨below_later HB.out⟩⟩
        case rest =>
          clear HC9
          try clear c6
          try clear c7b0
          try clear c8b0
          try clear hcz11_0
          try clear hcz11_1
          try clear hcz11_2
          try clear hcz11_3
          try clear hfz11_0
          try clear hfz11_1
          try clear hfz11_2
          try clear hfz11_3
          try clear hx105_0
          try clear hx105_1
          try clear hx105_2
          try clear hx105_3
          try clear p105
          try clear q105
          obtain ⟨kq, x56_8, rfl, HA, HJ8, BK106, HB⟩ := hcut
          cases kq with
          | zero => exact absurd HA.out (by simp [spec_l5Check.j1])
          | succ kj8 =>
            have H := HA.out
            clear HA
            simp only [spec_l5Check.j1] at H
            by_cases c35 : x56_8 = true
            · subst c35
              replace H := ifp rfl H
              obtain rfl := Option.some.inj H
              go_wp2
              repeat (go_quiet (fail); try go_wp2)
              go_ret
              exact fin_ (below_later HB.out)
            · replace c35 := Bool.eq_false_iff.mpr c35
              subst c35
              replace H := ifn Bool.false_ne_true H
              by_cases c36 : ((rd_T34 l0 a1).f1) = 7
              · rw [if_pos c36] at H
                have c36b0 : (((rd_T34 l0 a1).f1) == 7) = true := beq_iff_eq.mpr c36
                have c36b1 : (((rd_T34 l0 a1).f1) != 7) = false := bne_eq_false_iff_eq.mpr c36
                clear c36
                by_cases c37 : ((rd_T34 l0 a1).f3) < 1
                · rw [if_pos c37] at H
                  have c37b0 := decide_eq_true c37
                  clear c37
                  obtain rfl := Option.some.inj H
                  have hcz38_0 : wc.cell? ⟨gb106, 0, none⟩ = some (.string ((rd_T34 l0 a1).f0)) := (blk_cell BK106.out 0).trans rfl
                  have hcz38_1 : wc.cell? ⟨gb106, 1, none⟩ = some (.int .i64 ((rd_T34 l0 a1).f1)) := (blk_cell BK106.out 1).trans rfl
                  have hcz38_2 : wc.cell? ⟨gb106, 2, none⟩ = some (.int .i64 ((rd_T34 l0 a1).f2)) := (blk_cell BK106.out 2).trans rfl
                  have hcz38_3 : wc.cell? ⟨gb106, 3, none⟩ = some (.int .i64 ((rd_T34 l0 a1).f3)) := (blk_cell BK106.out 3).trans rfl
                  have hfz38_0 := blk_frozen BK106.out 0
                  have hfz38_1 := blk_frozen BK106.out 1
                  have hfz38_2 := blk_frozen BK106.out 2
                  have hfz38_3 := blk_frozen BK106.out 3
                  go_wp2
                  repeat (go_quiet (fail); try go_wp2)
                  go_ret
                  exact fin_ (below_later HB.out)
                · rw [if_neg c37] at H
                  have c37b0 := decide_eq_false c37
                  clear c37
                  obtain ⟨y114, hy114⟩ : ∃ y_ : List ByteArray, y_ = (([] : List ByteArray)) := ⟨_, rfl⟩
                  replace H : (spec_l5Check.l0 kj8 l0 a2 (wrap64 (a1 + 1)) y114 0 ((rd_T34 l0 a1).f0) ((rd_T34 l0 a1).f1) ((rd_T34 l0 a1).f2) ((rd_T34 l0 a1).f3)) = some r := by first | (rw [hy114]; with_reducible exact H) | (rw [hy114]; exact H) | exact H
                  have Ny114 := Aside0.mk hy114
                  clear hy114
                  have H' := Aside0.mk H
                  clear H
                  have hcz39_0 : wc.cell? ⟨gb106, 0, none⟩ = some (.string ((rd_T34 l0 a1).f0)) := (blk_cell BK106.out 0).trans rfl
                  have hcz39_1 : wc.cell? ⟨gb106, 1, none⟩ = some (.int .i64 ((rd_T34 l0 a1).f1)) := (blk_cell BK106.out 1).trans rfl
                  have hcz39_2 : wc.cell? ⟨gb106, 2, none⟩ = some (.int .i64 ((rd_T34 l0 a1).f2)) := (blk_cell BK106.out 2).trans rfl
                  have hcz39_3 : wc.cell? ⟨gb106, 3, none⟩ = some (.int .i64 ((rd_T34 l0 a1).f3)) := (blk_cell BK106.out 3).trans rfl
                  have hfz39_0 := blk_frozen BK106.out 0
                  have hfz39_1 := blk_frozen BK106.out 1
                  have hfz39_2 := blk_frozen BK106.out 2
                  have hfz39_3 := blk_frozen BK106.out 3
                  go_wp2_with (first | ((with_reducible refine gate_dst (N := 76) rfl ?_); refine Kd.R_lit Kd.string _ 9 ?hg (N := 76) ?hd (xs := ([] : List ByteArray)) (inner := []) (ok := fun _ => True) (okp := fun _ => True) ?hr ?hp (fun _ hk => hk) trivial (Below.refl _ _) (Nat.le_refl _) (by simp) ?_; (case hd => rfl); (case hg => rfl); (case hr => first | (go_simp; done) | (go_simp; rfl)); (case hp => exact (Reps.none _ _)); intro v115 w40 ho41 hb hg_ hnew_; clear hg_ hnew_; (first | rw [← Ny114.out] at ho41 | (simp only [Int.reduceToNat] at ho41; rw [← Ny114.out] at ho41)); have n0_ := Aside0.mk (Kd.R_lower ho41 (below_size (below_later HB.out))); have n1_ := Aside0.mk (blk_below (blk_later BK106.out) hb); have n2_ := Aside0.mk (below_step (below_later HB.out) hb); clear BK106; clear HB; have HO116 := n0_; have BK106 := n1_; have HB := n2_; clear n0_ n1_ n2_; clear hb ho41))
                  repeat (go_quiet (first | ((with_reducible refine gate_dst (N := 76) rfl ?_); refine Kd.R_lit Kd.string _ 9 ?hg (N := 76) ?hd (xs := ([] : List ByteArray)) (inner := []) (ok := fun _ => True) (okp := fun _ => True) ?hr ?hp (fun _ hk => hk) trivial (Below.refl _ _) (Nat.le_refl _) (by simp) ?_; (case hd => rfl); (case hg => rfl); (case hr => first | (go_simp; done) | (go_simp; rfl)); (case hp => exact (Reps.none _ _)); intro v115 w40 ho41 hb hg_ hnew_; clear hg_ hnew_; (first | rw [← Ny114.out] at ho41 | (simp only [Int.reduceToNat] at ho41; rw [← Ny114.out] at ho41)); have n0_ := Aside0.mk (Kd.R_lower ho41 (below_size (below_later HB.out))); have n1_ := Aside0.mk (blk_below (blk_later BK106.out) hb); have n2_ := Aside0.mk (below_step (below_later HB.out) hb); clear BK106; clear HB; have HO116 := n0_; have BK106 := n1_; have HB := n2_; clear n0_ n1_ n2_; clear hb ho41)); try go_wp2_with (first | ((with_reducible refine gate_dst (N := 76) rfl ?_); refine Kd.R_lit Kd.string _ 9 ?hg (N := 76) ?hd (xs := ([] : List ByteArray)) (inner := []) (ok := fun _ => True) (okp := fun _ => True) ?hr ?hp (fun _ hk => hk) trivial (Below.refl _ _) (Nat.le_refl _) (by simp) ?_; (case hd => rfl); (case hg => rfl); (case hr => first | (go_simp; done) | (go_simp; rfl)); (case hp => exact (Reps.none _ _)); intro v115 w40 ho41 hb hg_ hnew_; clear hg_ hnew_; (first | rw [← Ny114.out] at ho41 | (simp only [Int.reduceToNat] at ho41; rw [← Ny114.out] at ho41)); have n0_ := Aside0.mk (Kd.R_lower ho41 (below_size (below_later HB.out))); have n1_ := Aside0.mk (blk_below (blk_later BK106.out) hb); have n2_ := Aside0.mk (below_step (below_later HB.out) hb); clear BK106; clear HB; have HO116 := n0_; have BK106 := n1_; have HB := n2_; clear n0_ n1_ n2_; clear hb ho41)))
                  go_loopg [8, 9, 10] kj8 (fun kq v8 v9 v10 w' => ∃ (x8_3 : Int) (x9_3 : List ByteArray) (x10_3 : Int), v8 = .int .i64 x8_3 ∧ v10 = .int .i64 x10_3 ∧ Aside0 (spec_l5Check.l0 kq l0 a2 x8_3 x9_3 x10_3 ((rd_T34 l0 a1).f0) ((rd_T34 l0 a1).f1) ((rd_T34 l0 a1).f2) ((rd_T34 l0 a1).f3) = some r) ∧ Aside0 (kq ≤ kj8) ∧ Aside0 (Kd.R Kd.string 9 w' w.heap.size (fun _ => True) v9 x9_3) ∧ Aside0 (w'.heap[gb106]? = some (.cells #[.string ((rd_T34 l0 a1).f0), .int .i64 ((rd_T34 l0 a1).f1), .int .i64 ((rd_T34 l0 a1).f2), .int .i64 ((rd_T34 l0 a1).f3)] 34 (0, 0))) ∧ Aside0 (Below w.heap.size w w'))
                  case atStart => exact ⟨(wrap64 (a1 + 1)), (y114), (0), sr, sr, H', ⟨Nat.le_refl _⟩, ⟨R_later HO116.out⟩, ⟨by (with_reducible repeat (first | refine blk_drewN ?_ _ | refine blk_drew ?_ | refine blk_alloc ?_ _)); exact BK106.out⟩, ⟨below_later HB.out⟩⟩
                  case round =>
                    clear H'
                    try clear c6
                    try clear c7b0
                    try clear c8b0
                    try clear c35
                    try clear c36
                    try clear c36b0
                    try clear c36b1
                    try clear c37
                    try clear c37b0
                    try clear hcz11_0
                    try clear hcz11_1
                    try clear hcz11_2
                    try clear hcz11_3
                    try clear hcz39_0
                    try clear hcz39_1
                    try clear hcz39_2
                    try clear hcz39_3
                    try clear hfz11_0
                    try clear hfz11_1
                    try clear hfz11_2
                    try clear hfz11_3
                    try clear hfz39_0
                    try clear hfz39_1
                    try clear hfz39_2
                    try clear hfz39_3
                    try clear hx105_0
                    try clear hx105_1
                    try clear hx105_2
                    try clear hx105_3
                    try clear p105
                    try clear q105
                    obtain ⟨x8_3, x9_3, x10_3, rfl, rfl, HA, HK3, HO_9, BK106, HB⟩ := hrel
                    cases gk with
                    | zero => exact absurd HA.out (by simp [spec_l5Check.l0])
                    | succ k3 =>
                      have H := HA.out
                      clear HA
                      simp only [spec_l5Check.l0] at H
                      by_cases c42 : x10_3 < ((rd_T34 l0 a1).f3)
                      · rw [if_pos c42] at H
                        have c42b0 := decide_eq_true c42
                        clear c42
                        by_cases c43 : x8_3 ≥ (l0.length : Int)
                        · rw [if_pos c43] at H
                          have c43b0 : decide ((l0.length : Int) ≤ x8_3) = true := decide_eq_true c43
                          clear c43
                          obtain rfl := Option.some.inj H
                          have hcz44_0 : wr.cell? ⟨gb106, 0, none⟩ = some (.string ((rd_T34 l0 a1).f0)) := (blk_cell BK106.out 0).trans rfl
                          have hcz44_1 : wr.cell? ⟨gb106, 1, none⟩ = some (.int .i64 ((rd_T34 l0 a1).f1)) := (blk_cell BK106.out 1).trans rfl
                          have hcz44_2 : wr.cell? ⟨gb106, 2, none⟩ = some (.int .i64 ((rd_T34 l0 a1).f2)) := (blk_cell BK106.out 2).trans rfl
                          have hcz44_3 : wr.cell? ⟨gb106, 3, none⟩ = some (.int .i64 ((rd_T34 l0 a1).f3)) := (blk_cell BK106.out 3).trans rfl
                          have hfz44_0 := blk_frozen BK106.out 0
                          have hfz44_1 := blk_frozen BK106.out 1
                          have hfz44_2 := blk_frozen BK106.out 2
                          have hfz44_3 := blk_frozen BK106.out 3
                          go_wp2
                          repeat (go_quiet (fail); try go_wp2)
                          go_ret
                          exact fin_ (below_later HB.out)
                        · rw [if_neg c43] at H
                          have c43b0 : decide ((l0.length : Int) ≤ x8_3) = false := decide_eq_false c43
                          clear c43
                          have H' := Aside0.mk H
                          clear H
                          have hcz45_0 : wr.cell? ⟨gb106, 0, none⟩ = some (.string ((rd_T34 l0 a1).f0)) := (blk_cell BK106.out 0).trans rfl
                          have hcz45_1 : wr.cell? ⟨gb106, 1, none⟩ = some (.int .i64 ((rd_T34 l0 a1).f1)) := (blk_cell BK106.out 1).trans rfl
                          have hcz45_2 : wr.cell? ⟨gb106, 2, none⟩ = some (.int .i64 ((rd_T34 l0 a1).f2)) := (blk_cell BK106.out 2).trans rfl
                          have hcz45_3 : wr.cell? ⟨gb106, 3, none⟩ = some (.int .i64 ((rd_T34 l0 a1).f3)) := (blk_cell BK106.out 3).trans rfl
                          have hfz45_0 := blk_frozen BK106.out 0
                          have hfz45_1 := blk_frozen BK106.out 1
                          have hfz45_2 := blk_frozen BK106.out 2
                          have hfz45_3 := blk_frozen BK106.out 3
                          go_wp2
                          repeat (go_quiet (fail); try go_wp2)
                          go_loopg [11] k3 (fun kq v11 w' => ∃ (x11_4 : Int), v11 = .int .i64 x11_4 ∧ Aside0 (spec_l5Check.l1 kq l0 a2 x8_3 x9_3 x10_3 x11_4 ((rd_T34 l0 a1).f0) ((rd_T34 l0 a1).f1) ((rd_T34 l0 a1).f2) ((rd_T34 l0 a1).f3) = some r) ∧ Aside0 (kq ≤ k3) ∧ Aside0 (Kd.R Kd.string 9 w' w.heap.size (fun _ => True) u9 x9_3) ∧ Aside0 (w'.heap[gb106]? = some (.cells #[.string ((rd_T34 l0 a1).f0), .int .i64 ((rd_T34 l0 a1).f1), .int .i64 ((rd_T34 l0 a1).f2), .int .i64 ((rd_T34 l0 a1).f3)] 34 (0, 0))) ∧ Aside0 (Below w.heap.size w w'))
                          case atStart => exact ⟨(0), sr, H', ⟨Nat.le_refl _⟩, ⟨R_later HO_9.out⟩, ⟨by (with_reducible repeat (first | refine blk_drewN ?_ _ | refine blk_drew ?_ | refine blk_alloc ?_ _)); exact BK106.out⟩, ⟨below_later HB.out⟩⟩
                          case round =>
                            clear H'
                            try clear c6
                            try clear c7b0
                            try clear c8b0
                            try clear c35
                            try clear c36
                            try clear c36b0
                            try clear c36b1
                            try clear c37
                            try clear c37b0
                            try clear c42
                            try clear c42b0
                            try clear c43
                            try clear c43b0
                            try clear hcz11_0
                            try clear hcz11_1
                            try clear hcz11_2
                            try clear hcz11_3
                            try clear hcz39_0
                            try clear hcz39_1
                            try clear hcz39_2
                            try clear hcz39_3
                            try clear hcz45_0
                            try clear hcz45_1
                            try clear hcz45_2
                            try clear hcz45_3
                            try clear hfz11_0
                            try clear hfz11_1
                            try clear hfz11_2
                            try clear hfz11_3
                            try clear hfz39_0
                            try clear hfz39_1
                            try clear hfz39_2
                            try clear hfz39_3
                            try clear hfz45_0
                            try clear hfz45_1
                            try clear hfz45_2
                            try clear hfz45_3
                            try clear hx105_0
                            try clear hx105_1
                            try clear hx105_2
                            try clear hx105_3
                            try clear p105
                            try clear q105
                            obtain ⟨x11_4, rfl, HA, HK4, HO_9, BK106, HB⟩ := hrel
                            cases gk with
                            | zero => exact absurd HA.out (by simp [spec_l5Check.l1])
                            | succ k4 =>
                              have H := HA.out
                              clear HA
                              simp only [spec_l5Check.l1] at H
                              by_cases c46 : x11_4 < (x9_3.length : Int)
                              · rw [if_pos c46] at H
                                have c46b0 := decide_eq_true c46
                                clear c46
                                replace H := ifd H
                                obtain ⟨c47b0, H⟩ := H
                                replace H := ifd H
                                obtain ⟨c48b0, H⟩ := H
                                replace H := ifd H
                                obtain ⟨c49b0, H⟩ := H
                                by_cases c50 : (rdOf ByteArray.empty x9_3 x11_4).toList = ((rd_T34 l0 x8_3).f0).toList
                                · rw [if_pos c50] at H
                                  have c50b0 : ((rdOf ByteArray.empty x9_3 x11_4).toList == ((rd_T34 l0 x8_3).f0).toList) = true := beq_iff_eq.mpr c50
                                  have c50b1 : ((rdOf ByteArray.empty x9_3 x11_4).toList != ((rd_T34 l0 x8_3).f0).toList) = false := bne_eq_false_iff_eq.mpr c50
                                  clear c50
                                  obtain rfl := Option.some.inj H
                                  obtain ⟨Ao51, co51, eo51⟩ := Kd.R_slice HO_9.out
                                  subst eo51
                                  have p117 : 0 ≤ (x11_4 : Int) := dcd
                                  have q117 : x11_4 < (x9_3.length : Int) := dcd
                                  obtain ⟨ad117, e117, hx117_0⟩ := Kd.at_string (Kd.R_reads' HO_9.out).2.2 x11_4 p117 q117
                                  cases e117
                                  replace p117 := eq_true p117
                                  replace q117 := eq_true q117
                                  have p118 : 0 ≤ (x8_3 : Int) := dcd
                                  have q118 : x8_3 < (l0.length : Int) := dcd
                                  obtain ⟨ad118, e118, hx118_0, hx118_1, hx118_2, hx118_3⟩ := at_T34 HR0.out x8_3 p118 q118
                                  obtain rfl : ad105 = ad118 := (by injection e118)
                                  replace hx118_0 := crd HB hx118_0
                                  replace hx118_1 := crd HB hx118_1
                                  replace hx118_2 := crd HB hx118_2
                                  replace hx118_3 := crd HB hx118_3
                                  replace p118 := eq_true p118
                                  replace q118 := eq_true q118
                                  go_wp2
                                  repeat (go_quiet (fail); try go_wp2)
                                  go_ret
                                  exact fin_ (below_later HB.out)
                                · rw [if_neg c50] at H
                                  have c50b0 : ((rdOf ByteArray.empty x9_3 x11_4).toList == ((rd_T34 l0 x8_3).f0).toList) = false := beq_eq_false_iff_ne.mpr c50
                                  have c50b1 : ((rdOf ByteArray.empty x9_3 x11_4).toList != ((rd_T34 l0 x8_3).f0).toList) = true := bne_iff_ne.mpr c50
                                  have H' := Aside0.mk H
                                  clear H
                                  obtain ⟨Ao52, co52, eo52⟩ := Kd.R_slice HO_9.out
                                  subst eo52
                                  have p117 : 0 ≤ (x11_4 : Int) := dcd
                                  have q117 : x11_4 < (x9_3.length : Int) := dcd
                                  obtain ⟨ad117, e117, hx117_0⟩ := Kd.at_string (Kd.R_reads' HO_9.out).2.2 x11_4 p117 q117
                                  cases e117
                                  replace p117 := eq_true p117
                                  replace q117 := eq_true q117
                                  have p118 : 0 ≤ (x8_3 : Int) := dcd
                                  have q118 : x8_3 < (l0.length : Int) := dcd
                                  obtain ⟨ad118, e118, hx118_0, hx118_1, hx118_2, hx118_3⟩ := at_T34 HR0.out x8_3 p118 q118
                                  obtain rfl : ad105 = ad118 := (by injection e118)
                                  replace hx118_0 := crd HB hx118_0
                                  replace hx118_1 := crd HB hx118_1
                                  replace hx118_2 := crd HB hx118_2
                                  replace hx118_3 := crd HB hx118_3
                                  replace p118 := eq_true p118
                                  replace q118 := eq_true q118
                                  go_wp2
                                  repeat (go_quiet (fail); try go_wp2)
                                  go_roundg k4
                                  case measure => have := HJ3.out; have := HJ8.out; have := HK3.out; have := HK4.out; omega
                                  case rel => exact ⟨(wrap64 (x11_4 + 1)), sr, H', ⟨by have := HJ3.out; have := HJ8.out; have := HK3.out; have := HK4.out; omega⟩, ⟨R_later HO_9.out⟩, ⟨by (with_reducible repeat (first | refine blk_drewN ?_ _ | refine blk_drew ?_ | refine blk_alloc ?_ _)); exact BK106.out⟩, ⟨below_later HB.out⟩⟩
                              · rw [if_neg c46] at H
                                have c46b0 := decide_eq_false c46
                                clear c46
                                replace H := ifd H
                                obtain ⟨c53b0, H⟩ := H
                                replace H := ifd H
                                obtain ⟨c54b0, H⟩ := H
                                replace H := ifs H
                                obtain ⟨c55, H⟩ := H
                                have LMc55 := Aside0.mk c55
                                clear c55
                                obtain ⟨y120, hy120⟩ : ∃ y_ : List ByteArray, y_ = (x9_3 ++ [(rd_T34 l0 x8_3).f0]) := ⟨_, rfl⟩
                                replace H : ((spec_l5Check.f k4 l0 x8_3 (wrap64 (a2 + 1))).bind fun t123 => (if t123 < 0 then (some (-1)) else (spec_l5Check.l0 k4 l0 a2 t123 y120 (wrap64 (x10_3 + 1)) ((rd_T34 l0 a1).f0) ((rd_T34 l0 a1).f1) ((rd_T34 l0 a1).f2) ((rd_T34 l0 a1).f3)))) = some r := by first | (rw [hy120]; with_reducible exact H) | (rw [hy120]; exact H) | exact H
                                have Ny120 := Aside0.mk hy120
                                clear hy120
                                replace H := bnd H
                                obtain ⟨t123, A56, H⟩ := H
                                by_cases c57 : t123 < 0
                                · rw [if_pos c57] at H
                                  have c57b0 := decide_eq_true c57
                                  clear c57
                                  obtain rfl := Option.some.inj H
                                  obtain ⟨Ao58, co58, eo58⟩ := Kd.R_slice HO_9.out
                                  subst eo58
                                  have p119 : 0 ≤ (x8_3 : Int) := dcd
                                  have q119 : x8_3 < (l0.length : Int) := dcd
                                  obtain ⟨ad119, e119, hx119_0, hx119_1, hx119_2, hx119_3⟩ := at_T34 HR0.out x8_3 p119 q119
                                  obtain rfl : ad105 = ad119 := (by injection e119)
                                  replace hx119_0 := crd HB hx119_0
                                  replace hx119_1 := crd HB hx119_1
                                  replace hx119_2 := crd HB hx119_2
                                  replace hx119_3 := crd HB hx119_3
                                  replace p119 := eq_true p119
                                  replace q119 := eq_true q119
                                  go_wp2_with (first | ((with_reducible refine gate_builtin (b := .append) (xs := #[.tmp 103, .tmp 109]) rfl ?_); at_builtin; refine Kd.R_append Kd.string (w0 := w) w.heap.size rfl (.tmp 103) (.tmp 109) 43 9 (.string ⟨#[]⟩) 16 rfl Try.underlying43 info9 rfl (by decide) (by omega) (.slice Ao58 x9_3.length co58) x9_3 ((rd_T34 l0 x8_3).f0) [.string ((rd_T34 l0 x8_3).f0)] (fun _ => True) (fun _ => False) rfl rfl ?aP (fun _ hk => hk.elim) ?aF ?aO ?aB ?aS ?aL ?_; (case aP => exact rfl); (case aB => exact (below_later HB.out)); (case aF => exact (fun _ _ => trivial)); (case aO => exact (R_later HO_9.out)); (case aS => exact (below_size (below_later HB.out))); (case aL => have := LMc55.out; omega); intro v121 w59 ho hb hg hat; rw [← Ny120.out] at ho; have n0_ := Aside0.mk (blk_grown (blk_later BK106.out) hg (Kd.R_ne HO_9.out BK106.out (by decide))); have n1_ := Aside0.mk (hb); have n2_ := Aside0.mk (ho); clear BK106; clear HB; clear HO_9; have BK106 := n0_; have HB := n1_; have HO122 := n2_; clear n0_ n1_ n2_; clear ho hb hg hat) | (go_at_call 17; (with_reducible refine (ih k4 (by have := HJ3.out; have := HJ8.out; have := HK3.out; have := HK4.out; omega) _ _ l0 x8_3 (wrap64 (a2 + 1)) t123 _ ?side1 ?side2 A56.out).mono ?_); (case side1 => repeat (first | exact (Kd.C_below HR0.out HB.out) | (with_reducible refine Kd.C_alloc ?_ _) | (with_reducible refine Kd.C_drewN ?_ _) | (with_reducible refine Kd.C_drew ?_))); (case side2 => exact HC0.out); rintro e w60 ⟨rfl, hb⟩; have n0_ := Aside0.mk (Kd.R_below (R_later HO122.out) hb); have n1_ := Aside0.mk (blk_below (blk_later BK106.out) hb); have n2_ := Aside0.mk (below_step (below_later HB.out) hb); clear HO122; clear BK106; clear HB; have HO122 := n0_; have BK106 := n1_; have HB := n2_; clear n0_ n1_ n2_; (try clear hb); (try clear hk)))
                                  repeat (go_quiet (first | ((with_reducible refine gate_builtin (b := .append) (xs := #[.tmp 103, .tmp 109]) rfl ?_); at_builtin; refine Kd.R_append Kd.string (w0 := w) w.heap.size rfl (.tmp 103) (.tmp 109) 43 9 (.string ⟨#[]⟩) 16 rfl Try.underlying43 info9 rfl (by decide) (by omega) (.slice Ao58 x9_3.length co58) x9_3 ((rd_T34 l0 x8_3).f0) [.string ((rd_T34 l0 x8_3).f0)] (fun _ => True) (fun _ => False) rfl rfl ?aP (fun _ hk => hk.elim) ?aF ?aO ?aB ?aS ?aL ?_; (case aP => exact rfl); (case aB => exact (below_later HB.out)); (case aF => exact (fun _ _ => trivial)); (case aO => exact (R_later HO_9.out)); (case aS => exact (below_size (below_later HB.out))); (case aL => have := LMc55.out; omega); intro v121 w59 ho hb hg hat; rw [← Ny120.out] at ho; have n0_ := Aside0.mk (blk_grown (blk_later BK106.out) hg (Kd.R_ne HO_9.out BK106.out (by decide))); have n1_ := Aside0.mk (hb); have n2_ := Aside0.mk (ho); clear BK106; clear HB; clear HO_9; have BK106 := n0_; have HB := n1_; have HO122 := n2_; clear n0_ n1_ n2_; clear ho hb hg hat) | (go_at_call 17; (with_reducible refine (ih k4 (by have := HJ3.out; have := HJ8.out; have := HK3.out; have := HK4.out; omega) _ _ l0 x8_3 (wrap64 (a2 + 1)) t123 _ ?side1 ?side2 A56.out).mono ?_); (case side1 => repeat (first | exact (Kd.C_below HR0.out HB.out) | (with_reducible refine Kd.C_alloc ?_ _) | (with_reducible refine Kd.C_drewN ?_ _) | (with_reducible refine Kd.C_drew ?_))); (case side2 => exact HC0.out); rintro e w60 ⟨rfl, hb⟩; have n0_ := Aside0.mk (Kd.R_below (R_later HO122.out) hb); have n1_ := Aside0.mk (blk_below (blk_later BK106.out) hb); have n2_ := Aside0.mk (below_step (below_later HB.out) hb); clear HO122; clear BK106; clear HB; have HO122 := n0_; have BK106 := n1_; have HB := n2_; clear n0_ n1_ n2_; (try clear hb); (try clear hk))); try go_wp2_with (first | ((with_reducible refine gate_builtin (b := .append) (xs := #[.tmp 103, .tmp 109]) rfl ?_); at_builtin; refine Kd.R_append Kd.string (w0 := w) w.heap.size rfl (.tmp 103) (.tmp 109) 43 9 (.string ⟨#[]⟩) 16 rfl Try.underlying43 info9 rfl (by decide) (by omega) (.slice Ao58 x9_3.length co58) x9_3 ((rd_T34 l0 x8_3).f0) [.string ((rd_T34 l0 x8_3).f0)] (fun _ => True) (fun _ => False) rfl rfl ?aP (fun _ hk => hk.elim) ?aF ?aO ?aB ?aS ?aL ?_; (case aP => exact rfl); (case aB => exact (below_later HB.out)); (case aF => exact (fun _ _ => trivial)); (case aO => exact (R_later HO_9.out)); (case aS => exact (below_size (below_later HB.out))); (case aL => have := LMc55.out; omega); intro v121 w59 ho hb hg hat; rw [← Ny120.out] at ho; have n0_ := Aside0.mk (blk_grown (blk_later BK106.out) hg (Kd.R_ne HO_9.out BK106.out (by decide))); have n1_ := Aside0.mk (hb); have n2_ := Aside0.mk (ho); clear BK106; clear HB; clear HO_9; have BK106 := n0_; have HB := n1_; have HO122 := n2_; clear n0_ n1_ n2_; clear ho hb hg hat) | (go_at_call 17; (with_reducible refine (ih k4 (by have := HJ3.out; have := HJ8.out; have := HK3.out; have := HK4.out; omega) _ _ l0 x8_3 (wrap64 (a2 + 1)) t123 _ ?side1 ?side2 A56.out).mono ?_); (case side1 => repeat (first | exact (Kd.C_below HR0.out HB.out) | (with_reducible refine Kd.C_alloc ?_ _) | (with_reducible refine Kd.C_drewN ?_ _) | (with_reducible refine Kd.C_drew ?_))); (case side2 => exact HC0.out); rintro e w60 ⟨rfl, hb⟩; have n0_ := Aside0.mk (Kd.R_below (R_later HO122.out) hb); have n1_ := Aside0.mk (blk_below (blk_later BK106.out) hb); have n2_ := Aside0.mk (below_step (below_later HB.out) hb); clear HO122; clear BK106; clear HB; have HO122 := n0_; have BK106 := n1_; have HB := n2_; clear n0_ n1_ n2_; (try clear hb); (try clear hk))))
                                  go_ret
                                  exact fin_ (below_later HB.out)
                                · rw [if_neg c57] at H
                                  have c57b0 := decide_eq_false c57
                                  clear c57
                                  have H' := Aside0.mk H
                                  clear H
                                  obtain ⟨Ao61, co61, eo61⟩ := Kd.R_slice HO_9.out
                                  subst eo61
                                  have p119 : 0 ≤ (x8_3 : Int) := dcd
                                  have q119 : x8_3 < (l0.length : Int) := dcd
                                  obtain ⟨ad119, e119, hx119_0, hx119_1, hx119_2, hx119_3⟩ := at_T34 HR0.out x8_3 p119 q119
                                  obtain rfl : ad105 = ad119 := (by injection e119)
                                  replace hx119_0 := crd HB hx119_0
                                  replace hx119_1 := crd HB hx119_1
                                  replace hx119_2 := crd HB hx119_2
                                  replace hx119_3 := crd HB hx119_3
                                  replace p119 := eq_true p119
                                  replace q119 := eq_true q119
                                  go_wp2_with (first | ((with_reducible refine gate_builtin (b := .append) (xs := #[.tmp 103, .tmp 109]) rfl ?_); at_builtin; refine Kd.R_append Kd.string (w0 := w) w.heap.size rfl (.tmp 103) (.tmp 109) 43 9 (.string ⟨#[]⟩) 16 rfl Try.underlying43 info9 rfl (by decide) (by omega) (.slice Ao61 x9_3.length co61) x9_3 ((rd_T34 l0 x8_3).f0) [.string ((rd_T34 l0 x8_3).f0)] (fun _ => True) (fun _ => False) rfl rfl ?aP (fun _ hk => hk.elim) ?aF ?aO ?aB ?aS ?aL ?_; (case aP => exact rfl); (case aB => exact (below_later HB.out)); (case aF => exact (fun _ _ => trivial)); (case aO => exact (R_later HO_9.out)); (case aS => exact (below_size (below_later HB.out))); (case aL => have := LMc55.out; omega); intro v121 w62 ho hb hg hat; rw [← Ny120.out] at ho; have n0_ := Aside0.mk (blk_grown (blk_later BK106.out) hg (Kd.R_ne HO_9.out BK106.out (by decide))); have n1_ := Aside0.mk (hb); have n2_ := Aside0.mk (ho); clear BK106; clear HB; clear HO_9; have BK106 := n0_; have HB := n1_; have HO122 := n2_; clear n0_ n1_ n2_; clear ho hb hg hat) | (go_at_call 17; (with_reducible refine (ih k4 (by have := HJ3.out; have := HJ8.out; have := HK3.out; have := HK4.out; omega) _ _ l0 x8_3 (wrap64 (a2 + 1)) t123 _ ?side1 ?side2 A56.out).mono ?_); (case side1 => repeat (first | exact (Kd.C_below HR0.out HB.out) | (with_reducible refine Kd.C_alloc ?_ _) | (with_reducible refine Kd.C_drewN ?_ _) | (with_reducible refine Kd.C_drew ?_))); (case side2 => exact HC0.out); rintro e w63 ⟨rfl, hb⟩; have n0_ := Aside0.mk (Kd.R_below (R_later HO122.out) hb); have n1_ := Aside0.mk (blk_below (blk_later BK106.out) hb); have n2_ := Aside0.mk (below_step (below_later HB.out) hb); clear HO122; clear BK106; clear HB; have HO122 := n0_; have BK106 := n1_; have HB := n2_; clear n0_ n1_ n2_; (try clear hb); (try clear hk)))
                                  repeat (go_quiet (first | ((with_reducible refine gate_builtin (b := .append) (xs := #[.tmp 103, .tmp 109]) rfl ?_); at_builtin; refine Kd.R_append Kd.string (w0 := w) w.heap.size rfl (.tmp 103) (.tmp 109) 43 9 (.string ⟨#[]⟩) 16 rfl Try.underlying43 info9 rfl (by decide) (by omega) (.slice Ao61 x9_3.length co61) x9_3 ((rd_T34 l0 x8_3).f0) [.string ((rd_T34 l0 x8_3).f0)] (fun _ => True) (fun _ => False) rfl rfl ?aP (fun _ hk => hk.elim) ?aF ?aO ?aB ?aS ?aL ?_; (case aP => exact rfl); (case aB => exact (below_later HB.out)); (case aF => exact (fun _ _ => trivial)); (case aO => exact (R_later HO_9.out)); (case aS => exact (below_size (below_later HB.out))); (case aL => have := LMc55.out; omega); intro v121 w62 ho hb hg hat; rw [← Ny120.out] at ho; have n0_ := Aside0.mk (blk_grown (blk_later BK106.out) hg (Kd.R_ne HO_9.out BK106.out (by decide))); have n1_ := Aside0.mk (hb); have n2_ := Aside0.mk (ho); clear BK106; clear HB; clear HO_9; have BK106 := n0_; have HB := n1_; have HO122 := n2_; clear n0_ n1_ n2_; clear ho hb hg hat) | (go_at_call 17; (with_reducible refine (ih k4 (by have := HJ3.out; have := HJ8.out; have := HK3.out; have := HK4.out; omega) _ _ l0 x8_3 (wrap64 (a2 + 1)) t123 _ ?side1 ?side2 A56.out).mono ?_); (case side1 => repeat (first | exact (Kd.C_below HR0.out HB.out) | (with_reducible refine Kd.C_alloc ?_ _) | (with_reducible refine Kd.C_drewN ?_ _) | (with_reducible refine Kd.C_drew ?_))); (case side2 => exact HC0.out); rintro e w63 ⟨rfl, hb⟩; have n0_ := Aside0.mk (Kd.R_below (R_later HO122.out) hb); have n1_ := Aside0.mk (blk_below (blk_later BK106.out) hb); have n2_ := Aside0.mk (below_step (below_later HB.out) hb); clear HO122; clear BK106; clear HB; have HO122 := n0_; have BK106 := n1_; have HB := n2_; clear n0_ n1_ n2_; (try clear hb); (try clear hk))); try go_wp2_with (first | ((with_reducible refine gate_builtin (b := .append) (xs := #[.tmp 103, .tmp 109]) rfl ?_); at_builtin; refine Kd.R_append Kd.string (w0 := w) w.heap.size rfl (.tmp 103) (.tmp 109) 43 9 (.string ⟨#[]⟩) 16 rfl Try.underlying43 info9 rfl (by decide) (by omega) (.slice Ao61 x9_3.length co61) x9_3 ((rd_T34 l0 x8_3).f0) [.string ((rd_T34 l0 x8_3).f0)] (fun _ => True) (fun _ => False) rfl rfl ?aP (fun _ hk => hk.elim) ?aF ?aO ?aB ?aS ?aL ?_; (case aP => exact rfl); (case aB => exact (below_later HB.out)); (case aF => exact (fun _ _ => trivial)); (case aO => exact (R_later HO_9.out)); (case aS => exact (below_size (below_later HB.out))); (case aL => have := LMc55.out; omega); intro v121 w62 ho hb hg hat; rw [← Ny120.out] at ho; have n0_ := Aside0.mk (blk_grown (blk_later BK106.out) hg (Kd.R_ne HO_9.out BK106.out (by decide))); have n1_ := Aside0.mk (hb); have n2_ := Aside0.mk (ho); clear BK106; clear HB; clear HO_9; have BK106 := n0_; have HB := n1_; have HO122 := n2_; clear n0_ n1_ n2_; clear ho hb hg hat) | (go_at_call 17; (with_reducible refine (ih k4 (by have := HJ3.out; have := HJ8.out; have := HK3.out; have := HK4.out; omega) _ _ l0 x8_3 (wrap64 (a2 + 1)) t123 _ ?side1 ?side2 A56.out).mono ?_); (case side1 => repeat (first | exact (Kd.C_below HR0.out HB.out) | (with_reducible refine Kd.C_alloc ?_ _) | (with_reducible refine Kd.C_drewN ?_ _) | (with_reducible refine Kd.C_drew ?_))); (case side2 => exact HC0.out); rintro e w63 ⟨rfl, hb⟩; have n0_ := Aside0.mk (Kd.R_below (R_later HO122.out) hb); have n1_ := Aside0.mk (blk_below (blk_later BK106.out) hb); have n2_ := Aside0.mk (below_step (below_later HB.out) hb); clear HO122; clear BK106; clear HB; have HO122 := n0_; have BK106 := n1_; have HB := n2_; clear n0_ n1_ n2_; (try clear hb); (try clear hk))))
                                  go_roundg k4
                                  case measure => have := HJ3.out; have := HJ8.out; have := HK3.out; have := HK4.out; omega
                                  case rel => exact ⟨(t123), (y120), (wrap64 (x10_3 + 1)), sr, sr, H', ⟨by have := HJ3.out; have := HJ8.out; have := HK3.out; have := HK4.out; omega⟩, ⟨R_later HO122.out⟩, ⟨by (with_reducible repeat (first | refine blk_drewN ?_ _ | refine blk_drew ?_ | refine blk_alloc ?_ _)); exact BK106.out⟩, ⟨below_later HB.out⟩⟩
                      · rw [if_neg c42] at H
                        have c42b0 := decide_eq_false c42
                        clear c42
                        obtain rfl := Option.some.inj H
                        have hcz64_0 : wr.cell? ⟨gb106, 0, none⟩ = some (.string ((rd_T34 l0 a1).f0)) := (blk_cell BK106.out 0).trans rfl
                        have hcz64_1 : wr.cell? ⟨gb106, 1, none⟩ = some (.int .i64 ((rd_T34 l0 a1).f1)) := (blk_cell BK106.out 1).trans rfl
                        have hcz64_2 : wr.cell? ⟨gb106, 2, none⟩ = some (.int .i64 ((rd_T34 l0 a1).f2)) := (blk_cell BK106.out 2).trans rfl
                        have hcz64_3 : wr.cell? ⟨gb106, 3, none⟩ = some (.int .i64 ((rd_T34 l0 a1).f3)) := (blk_cell BK106.out 3).trans rfl
                        have hfz64_0 := blk_frozen BK106.out 0
                        have hfz64_1 := blk_frozen BK106.out 1
                        have hfz64_2 := blk_frozen BK106.out 2
                        have hfz64_3 := blk_frozen BK106.out 3
                        go_wp2
                        repeat (go_quiet (fail); try go_wp2)
                        go_ret
                        exact fin_ (below_later HB.out)
              · rw [if_neg c36] at H
                have c36b0 : (((rd_T34 l0 a1).f1) == 7) = false := beq_eq_false_iff_ne.mpr c36
                have c36b1 : (((rd_T34 l0 a1).f1) != 7) = true := bne_iff_ne.mpr c36
                replace H := bnd H
                obtain ⟨t113, A65, H⟩ := H
                by_cases c66 : t113 = true
                · subst c66
                  replace H := ifp rfl H
                  by_cases c67 : ((rd_T34 l0 a1).f3) = 0
                  · rw [if_pos c67] at H
                    have c67b0 : (((rd_T34 l0 a1).f3) == 0) = true := beq_iff_eq.mpr c67
                    have c67b1 : (((rd_T34 l0 a1).f3) != 0) = false := bne_eq_false_iff_eq.mpr c67
                    clear c67
                    obtain rfl := Option.some.inj H
                    have hcz68_0 : wc.cell? ⟨gb106, 0, none⟩ = some (.string ((rd_T34 l0 a1).f0)) := (blk_cell BK106.out 0).trans rfl
                    have hcz68_1 : wc.cell? ⟨gb106, 1, none⟩ = some (.int .i64 ((rd_T34 l0 a1).f1)) := (blk_cell BK106.out 1).trans rfl
                    have hcz68_2 : wc.cell? ⟨gb106, 2, none⟩ = some (.int .i64 ((rd_T34 l0 a1).f2)) := (blk_cell BK106.out 2).trans rfl
                    have hcz68_3 : wc.cell? ⟨gb106, 3, none⟩ = some (.int .i64 ((rd_T34 l0 a1).f3)) := (blk_cell BK106.out 3).trans rfl
                    have hfz68_0 := blk_frozen BK106.out 0
                    have hfz68_1 := blk_frozen BK106.out 1
                    have hfz68_2 := blk_frozen BK106.out 2
                    have hfz68_3 := blk_frozen BK106.out 3
                    go_wp2_with (first | (go_at_call 26; (with_reducible refine (spec_l5Type.calls ((rd_T34 l0 a1).f1) true _ A65.out).mono ?_); rintro e w' ⟨rfl, ⟨nd, rfl⟩⟩; (try first | exact ⟨rfl, _, World.drewN_drewN _ _ _⟩ | exact ⟨rfl, _, Eq.trans (World.drewN_drewN _ _ _) (congrArg (World.drewN _) (Nat.add_assoc _ _ _))⟩)))
                    repeat (go_quiet (first | (go_at_call 26; (with_reducible refine (spec_l5Type.calls ((rd_T34 l0 a1).f1) true _ A65.out).mono ?_); rintro e w' ⟨rfl, ⟨nd, rfl⟩⟩; (try first | exact ⟨rfl, _, World.drewN_drewN _ _ _⟩ | exact ⟨rfl, _, Eq.trans (World.drewN_drewN _ _ _) (congrArg (World.drewN _) (Nat.add_assoc _ _ _))⟩))); try go_wp2_with (first | (go_at_call 26; (with_reducible refine (spec_l5Type.calls ((rd_T34 l0 a1).f1) true _ A65.out).mono ?_); rintro e w' ⟨rfl, ⟨nd, rfl⟩⟩; (try first | exact ⟨rfl, _, World.drewN_drewN _ _ _⟩ | exact ⟨rfl, _, Eq.trans (World.drewN_drewN _ _ _) (congrArg (World.drewN _) (Nat.add_assoc _ _ _))⟩))))
                    go_ret
                    exact fin_ (below_later HB.out)
                  · rw [if_neg c67] at H
                    have c67b0 : (((rd_T34 l0 a1).f3) == 0) = false := beq_eq_false_iff_ne.mpr c67
                    have c67b1 : (((rd_T34 l0 a1).f3) != 0) = true := bne_iff_ne.mpr c67
                    obtain rfl := Option.some.inj H
                    have hcz69_0 : wc.cell? ⟨gb106, 0, none⟩ = some (.string ((rd_T34 l0 a1).f0)) := (blk_cell BK106.out 0).trans rfl
                    have hcz69_1 : wc.cell? ⟨gb106, 1, none⟩ = some (.int .i64 ((rd_T34 l0 a1).f1)) := (blk_cell BK106.out 1).trans rfl
                    have hcz69_2 : wc.cell? ⟨gb106, 2, none⟩ = some (.int .i64 ((rd_T34 l0 a1).f2)) := (blk_cell BK106.out 2).trans rfl
                    have hcz69_3 : wc.cell? ⟨gb106, 3, none⟩ = some (.int .i64 ((rd_T34 l0 a1).f3)) := (blk_cell BK106.out 3).trans rfl
                    have hfz69_0 := blk_frozen BK106.out 0
                    have hfz69_1 := blk_frozen BK106.out 1
                    have hfz69_2 := blk_frozen BK106.out 2
                    have hfz69_3 := blk_frozen BK106.out 3
                    go_wp2_with (first | (go_at_call 26; (with_reducible refine (spec_l5Type.calls ((rd_T34 l0 a1).f1) true _ A65.out).mono ?_); rintro e w' ⟨rfl, ⟨nd, rfl⟩⟩; (try first | exact ⟨rfl, _, World.drewN_drewN _ _ _⟩ | exact ⟨rfl, _, Eq.trans (World.drewN_drewN _ _ _) (congrArg (World.drewN _) (Nat.add_assoc _ _ _))⟩)))
                    repeat (go_quiet (first | (go_at_call 26; (with_reducible refine (spec_l5Type.calls ((rd_T34 l0 a1).f1) true _ A65.out).mono ?_); rintro e w' ⟨rfl, ⟨nd, rfl⟩⟩; (try first | exact ⟨rfl, _, World.drewN_drewN _ _ _⟩ | exact ⟨rfl, _, Eq.trans (World.drewN_drewN _ _ _) (congrArg (World.drewN _) (Nat.add_assoc _ _ _))⟩))); try go_wp2_with (first | (go_at_call 26; (with_reducible refine (spec_l5Type.calls ((rd_T34 l0 a1).f1) true _ A65.out).mono ?_); rintro e w' ⟨rfl, ⟨nd, rfl⟩⟩; (try first | exact ⟨rfl, _, World.drewN_drewN _ _ _⟩ | exact ⟨rfl, _, Eq.trans (World.drewN_drewN _ _ _) (congrArg (World.drewN _) (Nat.add_assoc _ _ _))⟩))))
                    go_ret
                    exact fin_ (below_later HB.out)
                · replace c66 := Bool.eq_false_iff.mpr c66
                  subst c66
                  replace H := ifn Bool.false_ne_true H
                  obtain rfl := Option.some.inj H
                  have hcz70_0 : wc.cell? ⟨gb106, 0, none⟩ = some (.string ((rd_T34 l0 a1).f0)) := (blk_cell BK106.out 0).trans rfl
                  have hcz70_1 : wc.cell? ⟨gb106, 1, none⟩ = some (.int .i64 ((rd_T34 l0 a1).f1)) := (blk_cell BK106.out 1).trans rfl
                  have hcz70_2 : wc.cell? ⟨gb106, 2, none⟩ = some (.int .i64 ((rd_T34 l0 a1).f2)) := (blk_cell BK106.out 2).trans rfl
                  have hcz70_3 : wc.cell? ⟨gb106, 3, none⟩ = some (.int .i64 ((rd_T34 l0 a1).f3)) := (blk_cell BK106.out 3).trans rfl
                  have hfz70_0 := blk_frozen BK106.out 0
                  have hfz70_1 := blk_frozen BK106.out 1
                  have hfz70_2 := blk_frozen BK106.out 2
                  have hfz70_3 := blk_frozen BK106.out 3
                  go_wp2_with (first | (go_at_call 26; (with_reducible refine (spec_l5Type.calls ((rd_T34 l0 a1).f1) false _ A65.out).mono ?_); rintro e w' ⟨rfl, ⟨nd, rfl⟩⟩; (try first | exact ⟨rfl, _, World.drewN_drewN _ _ _⟩ | exact ⟨rfl, _, Eq.trans (World.drewN_drewN _ _ _) (congrArg (World.drewN _) (Nat.add_assoc _ _ _))⟩)))
                  repeat (go_quiet (first | (go_at_call 26; (with_reducible refine (spec_l5Type.calls ((rd_T34 l0 a1).f1) false _ A65.out).mono ?_); rintro e w' ⟨rfl, ⟨nd, rfl⟩⟩; (try first | exact ⟨rfl, _, World.drewN_drewN _ _ _⟩ | exact ⟨rfl, _, Eq.trans (World.drewN_drewN _ _ _) (congrArg (World.drewN _) (Nat.add_assoc _ _ _))⟩))); try go_wp2_with (first | (go_at_call 26; (with_reducible refine (spec_l5Type.calls ((rd_T34 l0 a1).f1) false _ A65.out).mono ?_); rintro e w' ⟨rfl, ⟨nd, rfl⟩⟩; (try first | exact ⟨rfl, _, World.drewN_drewN _ _ _⟩ | exact ⟨rfl, _, Eq.trans (World.drewN_drewN _ _ _) (congrArg (World.drewN _) (Nat.add_assoc _ _ _))⟩))))
                  go_ret
                  exact fin_ (below_later HB.out)
/-! ### spec_SchemaOk: function 10 -/
def spec_SchemaOk.f (k : Nat) (l0 : List (S34)) : Option (Bool) := (spec_l1In.f (l0.length : Int) 2 20).bind fun t124 => (if t124 = true then ((spec_l5Check.f k l0 0 1).bind fun t125 => (some (t125 == (l0.length : Int)))) else (some false))
set_option maxHeartbeats 8000000 in
set_option maxRecDepth 100000 in
theorem spec_SchemaOk.calls (k : Nat) (A0 : Option Addr) (c0 : Nat) (l0 : List (S34)) (r : Bool) (w : World) (hr0 : Kd.C k34 w A0 l0.length l0) (hc0 : l0.length ≤ c0) (h : spec_SchemaOk.f k l0 = some r) :
    Calls Try.prog 10 #[.slice A0 l0.length c0] w fun e w' => e = .returned (.bool r) ∧ Below w.heap.size w w' := by
  have HR0 := Aside0.mk hr0
  have HC0 := Aside0.mk hc0
  clear hr0 hc0
  have HB := Aside0.mk (Below.refl w.heap.size w)
  have H : ((spec_l1In.f (l0.length : Int) 2 20).bind fun t124 => (if t124 = true then ((spec_l5Check.f k l0 0 1).bind fun t125 => (some (t125 == (l0.length : Int)))) else (some false))) = some r := h
  clear h
  replace H := bnd H
  obtain ⟨t124, A2, H⟩ := H
  by_cases c3 : t124 = true
  · subst c3
    replace H := ifp rfl H
    replace H := bnd H
    obtain ⟨t125, A4, H⟩ := H
    obtain rfl := Option.some.inj H
    go_enter Try.func10, Try.ntmps10
    go_wp2_with (first | ((with_reducible refine gate_callee (f := 16) rfl ?_); refine gl_ (some 5) Try.func16 #[.int .i64 (l0.length : Int), .int .i64 2, .int .i64 20] rfl ?_; (with_reducible refine (spec_l1In.calls (l0.length : Int) 2 20 true _ A2.out).mono ?_); rintro e w' ⟨rfl, ⟨nd, rfl⟩⟩; refine ⟨_, rfl, ?_⟩) | (go_at_call 17; (with_reducible refine (spec_l5Check.calls k _ _ l0 0 1 t125 _ ?side1 ?side2 A4.out).mono ?_); (case side1 => exact C_later HR0.out); (case side2 => exact HC0.out); rintro e w5 ⟨rfl, hb⟩; replace HB := bst HB hb; (try clear hb)))
    go_ret
    exact fin_ (below_later HB.out)
  · replace c3 := Bool.eq_false_iff.mpr c3
    subst c3
    replace H := ifn Bool.false_ne_true H
    obtain rfl := Option.some.inj H
    go_enter Try.func10, Try.ntmps10
    go_wp2_with (first | ((with_reducible refine gate_callee (f := 16) rfl ?_); refine gl_ (some 5) Try.func16 #[.int .i64 (l0.length : Int), .int .i64 2, .int .i64 20] rfl ?_; (with_reducible refine (spec_l1In.calls (l0.length : Int) 2 20 false _ A2.out).mono ?_); rintro e w' ⟨rfl, ⟨nd, rfl⟩⟩; refine ⟨_, rfl, ?_⟩))
    go_ret
    exact fin_ (below_later HB.out)

/-! ### spec_l22Sign: function 18 -/
def spec_l22Sign.f (a0 : Int) : Option (ByteArray) := if 0 ≤ a0 then (if a0 ≤ (wrap64 (a0 + 1)) then (if (wrap64 (a0 + 1)) ≤ 3 then (some ((⟨#[33, 63, 42]⟩ : ByteArray).extract (a0 : Int).toNat ((wrap64 (a0 + 1)) : Int).toNat)) else (none)) else (none)) else (none)
set_option maxHeartbeats 8000000 in
set_option maxRecDepth 100000 in
theorem spec_l22Sign.calls (a0 : Int) (r : ByteArray) (w : World) (h : spec_l22Sign.f a0 = some r) :
    Calls Try.prog 18 #[.int .i64 a0] w fun e w' => e = .returned (.string r) ∧ Drawn0 w w' := by
  have H : (if 0 ≤ a0 then (if a0 ≤ (wrap64 (a0 + 1)) then (if (wrap64 (a0 + 1)) ≤ 3 then (some ((⟨#[33, 63, 42]⟩ : ByteArray).extract (a0 : Int).toNat ((wrap64 (a0 + 1)) : Int).toNat)) else (none)) else (none)) else (none)) = some r := h
  clear h
  replace H := ifs H
  obtain ⟨c2, H⟩ := H
  have c2b0 := eq_true c2
  have c2b1 := decide_eq_true c2
  clear c2
  replace H := ifs H
  obtain ⟨c3, H⟩ := H
  have c3b0 := eq_true c3
  have c3b1 := decide_eq_true c3
  replace H := ifs H
  obtain ⟨c4, H⟩ := H
  have c4b0 := eq_true c4
  have c4b1 := decide_eq_true c4
  obtain rfl := Option.some.inj H
  go_enter Try.func18, Try.ntmps18
  go_wp2
  go_ret
  exact ⟨by first | rfl | (simp; done) | (simp [*]; done), by repeat (first | exact Drawn0.refl _ | apply Drawn0.step)⟩
/-! ### spec_l22Type: function 19 -/
def spec_l22Type.f (a0 : Int) : Option (ByteArray) := if a0 = 0 then (some (⟨#[98]⟩ : ByteArray)) else (if a0 = 1 then (some (⟨#[105]⟩ : ByteArray)) else (if a0 = 2 then (some (⟨#[108]⟩ : ByteArray)) else (if a0 = 5 then (some (⟨#[100]⟩ : ByteArray)) else (if a0 = 6 then (some (⟨#[116]⟩ : ByteArray)) else (some (⟨#[103]⟩ : ByteArray))))))
set_option maxHeartbeats 8000000 in
set_option maxRecDepth 100000 in
theorem spec_l22Type.calls (a0 : Int) (r : ByteArray) (w : World) (h : spec_l22Type.f a0 = some r) :
    Calls Try.prog 19 #[.int .i64 a0] w fun e w' => e = .returned (.string r) ∧ Drawn0 w w' := by
  have H : (if a0 = 0 then (some (⟨#[98]⟩ : ByteArray)) else (if a0 = 1 then (some (⟨#[105]⟩ : ByteArray)) else (if a0 = 2 then (some (⟨#[108]⟩ : ByteArray)) else (if a0 = 5 then (some (⟨#[100]⟩ : ByteArray)) else (if a0 = 6 then (some (⟨#[116]⟩ : ByteArray)) else (some (⟨#[103]⟩ : ByteArray))))))) = some r := h
  clear h
  by_cases c2 : a0 = 0
  · rw [if_pos c2] at H
    have c2b0 : (a0 == 0) = true := beq_iff_eq.mpr c2
    have c2b1 : (a0 != 0) = false := bne_eq_false_iff_eq.mpr c2
    clear c2
    obtain rfl := Option.some.inj H
    go_enter Try.func19, Try.ntmps19
    go_wp2
    go_ret
    exact ⟨by first | rfl | (simp; done) | (simp [*]; done), by repeat (first | exact Drawn0.refl _ | apply Drawn0.step)⟩
  · rw [if_neg c2] at H
    have c2b0 : (a0 == 0) = false := beq_eq_false_iff_ne.mpr c2
    have c2b1 : (a0 != 0) = true := bne_iff_ne.mpr c2
    by_cases c3 : a0 = 1
    · rw [if_pos c3] at H
      have c3b0 : (a0 == 1) = true := beq_iff_eq.mpr c3
      have c3b1 : (a0 != 1) = false := bne_eq_false_iff_eq.mpr c3
      clear c3
      obtain rfl := Option.some.inj H
      go_enter Try.func19, Try.ntmps19
      go_wp2
      go_ret
      exact ⟨by first | rfl | (simp; done) | (simp [*]; done), by repeat (first | exact Drawn0.refl _ | apply Drawn0.step)⟩
    · rw [if_neg c3] at H
      have c3b0 : (a0 == 1) = false := beq_eq_false_iff_ne.mpr c3
      have c3b1 : (a0 != 1) = true := bne_iff_ne.mpr c3
      by_cases c4 : a0 = 2
      · rw [if_pos c4] at H
        have c4b0 : (a0 == 2) = true := beq_iff_eq.mpr c4
        have c4b1 : (a0 != 2) = false := bne_eq_false_iff_eq.mpr c4
        clear c4
        obtain rfl := Option.some.inj H
        go_enter Try.func19, Try.ntmps19
        go_wp2
        go_ret
        exact ⟨by first | rfl | (simp; done) | (simp [*]; done), by repeat (first | exact Drawn0.refl _ | apply Drawn0.step)⟩
      · rw [if_neg c4] at H
        have c4b0 : (a0 == 2) = false := beq_eq_false_iff_ne.mpr c4
        have c4b1 : (a0 != 2) = true := bne_iff_ne.mpr c4
        by_cases c5 : a0 = 5
        · rw [if_pos c5] at H
          have c5b0 : (a0 == 5) = true := beq_iff_eq.mpr c5
          have c5b1 : (a0 != 5) = false := bne_eq_false_iff_eq.mpr c5
          clear c5
          obtain rfl := Option.some.inj H
          go_enter Try.func19, Try.ntmps19
          go_wp2
          go_ret
          exact ⟨by first | rfl | (simp; done) | (simp [*]; done), by repeat (first | exact Drawn0.refl _ | apply Drawn0.step)⟩
        · rw [if_neg c5] at H
          have c5b0 : (a0 == 5) = false := beq_eq_false_iff_ne.mpr c5
          have c5b1 : (a0 != 5) = true := bne_iff_ne.mpr c5
          by_cases c6 : a0 = 6
          · rw [if_pos c6] at H
            have c6b0 : (a0 == 6) = true := beq_iff_eq.mpr c6
            have c6b1 : (a0 != 6) = false := bne_eq_false_iff_eq.mpr c6
            clear c6
            obtain rfl := Option.some.inj H
            go_enter Try.func19, Try.ntmps19
            go_wp2
            go_ret
            exact ⟨by first | rfl | (simp; done) | (simp [*]; done), by repeat (first | exact Drawn0.refl _ | apply Drawn0.step)⟩
          · rw [if_neg c6] at H
            have c6b0 : (a0 == 6) = false := beq_eq_false_iff_ne.mpr c6
            have c6b1 : (a0 != 6) = true := bne_iff_ne.mpr c6
            obtain rfl := Option.some.inj H
            go_enter Try.func19, Try.ntmps19
            go_wp2
            go_ret
            exact ⟨by first | rfl | (simp; done) | (simp [*]; done), by repeat (first | exact Drawn0.refl _ | apply Drawn0.step)⟩

end Go.Proofs.Ytbmcjgkppjnafaa.PFnExactSchemaPrint
