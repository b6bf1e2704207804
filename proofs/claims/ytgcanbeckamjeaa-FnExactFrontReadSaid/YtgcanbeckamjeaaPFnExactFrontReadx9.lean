/- The machine's side of FnExactFrontRead, written by wip/tools/hyb.py of this repo: each Go function as a plain Lean function, and the proof that the call comes to just its answer. No condition. -/
import Derived.Test.YtgcanbeckamjeaaPFnExactFrontReadx0
import Derived.Test.YtgcanbeckamjeaaPFnExactFrontReadx5
import Derived.Test.YtgcanbeckamjeaaPFnExactFrontReadx8
namespace Go.Proofs.Ytgcanbeckamjeaa.PFnExactFrontRead
open Go.RowKit Go.Proofs.YtgcanbeckamjeaaW.PrintWords Go.Proofs.YtgcanbeckamjeaaW.PrintLast Go.Proofs.YtgcanbeckamjeaaW.PrintMore Go.Proofs.YtgcanbeckamjeaaW.PrintMore2
attribute [local go_sem] max2_int min2_int max_two min_two max_three min_three max_four min_four   -- for this text's walks alone
set_option linter.unusedVariables false
set_option linter.unusedSimpArgs false

/-! ### impl_LengthRead: function 23 -/
theorem impl_LengthRead.cutC {w : World} {A : Option Addr} {l : List Int} {i j : Int} (h : j ≤ (l.length : Int)) (hC : (Kd.int .u8).C w A ((l.take j.toNat).drop i.toNat).length ((l.take j.toNat).drop i.toNat)) : (Kd.int .u8).C w A (j.toNat - i.toNat) ((l.take j.toNat).drop i.toNat) := by
  rw [List.length_drop, List.length_take, Nat.min_eq_left (Int.toNat_le.mpr h)] at hC
  exact hC
def impl_LengthRead.l0 : Nat → List Int → Int → List (S59) → List Int → Int → Int → Option ((List (S59)) × Int × Bool)
  | 0, _, _, _, _, _, _ => none
  | k + 1, x0, x8, x10, x23, x24, x25 => if x25 < x24 then (if 0 ≤ x25 then (if x25 < (x23.length : Int) then ((impl_within.f (rd x23 x25) 0 40).bind fun t307 => (if t307 = true then (if (rd x23 x25) > (wrap64 ((x0.length : Int) - x8)) then (some (([] : List (S59)), 0, false)) else (if 0 ≤ x8 then (if x8 ≤ (wrap64 (x8 + (rd x23 x25))) then (if (wrap64 (x8 + (rd x23 x25))) ≤ (x0.length : Int) then (if x10.length < 5864062014805 then (impl_LengthRead.l0 k x0 (wrap64 (x8 + (rd x23 x25))) (x10 ++ [(⟨0, strOfNums ((x0.take ((wrap64 (x8 + (rd x23 x25))) : Int).toNat).drop (x8 : Int).toNat)⟩ : S59)]) x23 x24 (wrap64 (x25 + 1))) else (none)) else (none)) else (none)) else (none))) else (some (([] : List (S59)), 0, false)))) else (none)) else (none)) else (some (x10, x8, true))
def impl_LengthRead.f (k : Nat) (l0 : List Int) (a1 : Int) : Option ((List (S59)) × Int × Bool) := (impl_DeltaRead.f k l0 a1).bind fun bt298 => (if bt298.2.2 = true then (impl_LengthRead.l0 k l0 bt298.2.1 (([] : List (S59))) bt298.1 (bt298.1.length : Int) 0) else (some (([] : List (S59)), 0, false)))
theorem impl_LengthRead.mono_l : ∀ k, (∀ y0 y1 y2 y3 y4 y5, LeO (impl_LengthRead.l0 k y0 y1 y2 y3 y4 y5) (impl_LengthRead.l0 (k + 1) y0 y1 y2 y3 y4 y5))
  | 0 => fun _ _ _ _ _ _ r h => by simp [impl_LengthRead.l0] at h
  | k + 1 => by
    have ih0 := impl_LengthRead.mono_l k
    · intro y0 y1 y2 y3 y4 y5
      unfold impl_LengthRead.l0
      repeat' first
      | (with_reducible exact ih0 _ _ _ _ _ _)
      | (with_reducible exact impl_DeltaRead.mono _ _ _)
      | (with_reducible exact LeO.refl _)
      | (with_reducible exact LeO.none _)
      | (with_reducible refine LeO.ite ?_ ?_)
      | (with_reducible refine LeO.bind ?_ (fun _ => ?_))
      | exact ih0 _ _ _ _ _ _
      | exact impl_DeltaRead.mono _ _ _
      | exact LeO.none _
      | refine LeO.ite ?_ ?_
      | refine LeO.bind ?_ (fun _ => ?_)
theorem impl_LengthRead.mono : ∀ a0 a1 k, LeO (impl_LengthRead.f k a0 a1) (impl_LengthRead.f (k + 1) a0 a1) := by
  intro a0 a1 k
  have ih0 := impl_LengthRead.mono_l k
  unfold impl_LengthRead.f
  repeat' first
      | (with_reducible exact ih0 _ _ _ _ _ _)
      | (with_reducible exact impl_DeltaRead.mono _ _ _)
      | (with_reducible exact LeO.refl _)
      | (with_reducible exact LeO.none _)
      | (with_reducible refine LeO.ite ?_ ?_)
      | (with_reducible refine LeO.bind ?_ (fun _ => ?_))
      | exact ih0 _ _ _ _ _ _
      | exact impl_DeltaRead.mono _ _ _
      | exact LeO.none _
      | refine LeO.ite ?_ ?_
      | refine LeO.bind ?_ (fun _ => ?_)
set_option maxHeartbeats 8000000 in
set_option maxRecDepth 100000 in
theorem impl_LengthRead.calls (k : Nat) (A0 : Option Addr) (c0 : Nat) (l0 : List Int) (a1 : Int) (r1 : List (S59)) (r2 : Int) (r3 : Bool) (w : World) (hr0 : Kd.C (Kd.int .u8) w A0 l0.length l0) (hc0 : l0.length ≤ c0) (h : impl_LengthRead.f k l0 a1 = some (r1, r2, r3)) :
    Calls Try.prog 23 #[.slice A0 l0.length c0, .int .i64 a1] w fun e w' => ∃ v0_ : Value, e = .returned (.tuple #[v0_, .int .i64 r2, .bool r3]) ∧ Kd.R k59 59 w' w.heap.size (fun _ => True) v0_ r1 ∧ Below w.heap.size w w' := by
  have hu59 := Try.underlying59
  have HR0 := Aside0.mk hr0
  have HC0 := Aside0.mk hc0
  clear hr0 hc0
  have HB := Aside0.mk (Below.refl w.heap.size w)
  have H : ((impl_DeltaRead.f k l0 a1).bind fun bt298 => (if bt298.2.2 = true then (impl_LengthRead.l0 k l0 bt298.2.1 (([] : List (S59))) bt298.1 (bt298.1.length : Int) 0) else (some (([] : List (S59)), 0, false)))) = some (r1, r2, r3) := h
  clear h
  replace H := Option.bind_eq_some_iff.mp H
  obtain ⟨⟨t298, t299, t300⟩, A30, H⟩ := H
  replace H : (if t300 = true then (impl_LengthRead.l0 k l0 t299 (([] : List (S59))) t298 (t298.length : Int) 0) else (some (([] : List (S59)), 0, false))) = some (r1, r2, r3) := H
  have A3 := Aside0.mk A30
  clear A30
  by_cases c4 : t300 = true
  · subst c4
    have H1 : (impl_LengthRead.l0 k l0 t299 (([] : List (S59))) t298 (t298.length : Int) 0) = some (r1, r2, r3) := by rw [if_pos rfl] at H; exact H
    clear H
    have H := H1
    clear H1
    obtain ⟨y303, hy303⟩ : ∃ y_ : List (S59), y_ = (([] : List (S59))) := ⟨_, rfl⟩
    replace H : (impl_LengthRead.l0 k l0 t299 y303 t298 (t298.length : Int) 0) = some (r1, r2, r3) := by first | (rw [hy303]; with_reducible exact H) | (have H2_ := (Option.bind_some _ _).symm.trans H; rw [hy303]; with_reducible exact H2_) | (have H2_ := (Option.bind_some _ _).symm.trans H; with_reducible exact H2_) | with_reducible exact H | (rw [hy303]; exact H) | exact H
    have Ny303 := Aside0.mk hy303
    clear hy303
    have H' := Aside0.mk H
    clear H
    go_enter Try.func23, Try.ntmps23
    go_wp2_with (first | ((with_reducible refine gate_callee (f := 11) rfl ?_); refine goesL_ (some 16) rfl rfl Try.func11 (by kernel_rfl) rfl #[.slice A0 l0.length c0, .int .i64 a1] rfl (by (try simp only [List.map_toArray, List.map_cons, List.map_nil]); first | done | rfl | (simp only [List.length_drop, List.length_take]; rfl)) ?_; (with_reducible refine (impl_DeltaRead.calls k _ _ l0 a1 t298 t299 true _ ?side1 ?side2 A3.out).mono ?_); (case side1 => repeat (first | exact HR0.out | (with_reducible refine Kd.C_alloc ?_ _) | (with_reducible refine Kd.C_drewN ?_ _) | (with_reducible refine Kd.C_drew ?_))); (case side2 => exact HC0.out); rintro e w5 ⟨v301, rfl, ho0, hb⟩; refine ⟨_, rfl, ?_⟩; have n0_ := Aside0.mk (Kd.R_lower ho0 (below_size (below_later HB.out))); have n1_ := Aside0.mk (below_step (below_later HB.out) hb); clear HB; have HO302 := n0_; have HB := n1_; clear n0_ n1_; (try clear hb); (try clear hb2); (try clear hk); (try clear hi); (try clear ho0)) | ((with_reducible refine gate_dst (N := 22) rfl ?_); (try (refine gate_guard (by rfl) ?_; dsimp only)); refine Kd.R_lit k59 _ 59 ?hg (N := 22) ?hd (xs := ([] : List (S59))) (inner := []) (ok := fun _ => True) (okp := fun _ => True) ?hr ?hp (fun _ hk => hk) trivial (Below.refl _ _) (Nat.le_refl _) (by simp) ?_; (case hd => rfl); (case hg => rfl); (case hr => first | (go_simp; done) | (go_simp; rfl)); (case hp => exact (Reps.none _ _)); intro v304 w6 ho7 hb hg_ hnew_; clear hg_ hnew_; (first | rw [← Ny303.out] at ho7 | (simp only [Int.reduceToNat] at ho7; rw [← Ny303.out] at ho7)); have n0_ := Aside0.mk (Kd.R_below (R_later HO302.out) hb); have n1_ := Aside0.mk (Kd.R_lower ho7 (below_size (below_later HB.out))); have n2_ := Aside0.mk (below_step (below_later HB.out) hb); clear HO302; clear HB; have HO302 := n0_; have HO305 := n1_; have HB := n2_; clear n0_ n1_ n2_; clear hb ho7; obtain ⟨Ao8, co8, eo8⟩ := Kd.R_slice HO302.out; subst eo8))
    go_loopg [8, 10, 25] k (fun kq v8 v10 v25 w' => ∃ (x8_1 : Int) (x10_1 : List (S59)) (x25_1 : Int), v8 = .int .i64 x8_1 ∧ v25 = .int .i64 x25_1 ∧ Aside0 (impl_LengthRead.l0 kq l0 x8_1 x10_1 t298 (t298.length : Int) x25_1 = some (r1, r2, r3)) ∧ Aside0 (kq ≤ k) ∧ Aside0 (Kd.R k59 59 w' w.heap.size (fun _ => True) v10 x10_1) ∧ Aside0 (Kd.R (Kd.int .i64) 3 w' w.heap.size (fun _ => True) (.slice Ao8 t298.length co8) t298) ∧ Aside0 (Below w.heap.size w w'))
    case atStart => exact ⟨(t299), (y303), (0), (by first | rfl | (simp; done) | (simp [*]; done)), (by first | rfl | (simp; done) | (simp [*]; done)), H', ⟨Nat.le_refl _⟩, ⟨by (with_reducible repeat (first | apply Kd.R_alloc | apply Kd.R_drewN | apply Kd.R_drew)); exact HO305.out⟩, ⟨by (with_reducible repeat (first | apply Kd.R_alloc | apply Kd.R_drewN | apply Kd.R_drew)); exact HO302.out⟩, ⟨below_later HB.out⟩⟩
    case round =>
      clear H'
      try clear c1
      try clear c2
      try clear p2
      try clear c4
      obtain ⟨x8_1, x10_1, x25_1, rfl, rfl, HA, HK1, HO_10, HO_23, HB⟩ := hrel
      cases gk with
      | zero => exact absurd HA.out (by simp [impl_LengthRead.l0])
      | succ k1 =>
        have H := HA.out
        clear HA
        simp only [impl_LengthRead.l0] at H
        by_cases c9 : x25_1 < (t298.length : Int)
        · rw [if_pos c9] at H
          have c9b0 : decide (x25_1 < (t298.length : Int)) = true := decide_eq_true c9
          clear c9
          by_cases c10 : 0 ≤ x25_1
          · rw [if_pos c10] at H
            have c10b0 : decide (0 ≤ x25_1) = true := decide_eq_true c10
            clear c10
            by_cases c11 : x25_1 < (t298.length : Int)
            · rw [if_pos c11] at H
              have c11b0 : decide (x25_1 < (t298.length : Int)) = true := decide_eq_true c11
              clear c11
              replace H := Option.bind_eq_some_iff.mp H
              obtain ⟨t307, A120, H⟩ := H
              replace H : (if t307 = true then (if (rd t298 x25_1) > (wrap64 ((l0.length : Int) - x8_1)) then (some (([] : List (S59)), 0, false)) else (if 0 ≤ x8_1 then (if x8_1 ≤ (wrap64 (x8_1 + (rd t298 x25_1))) then (if (wrap64 (x8_1 + (rd t298 x25_1))) ≤ (l0.length : Int) then (if x10_1.length < 5864062014805 then (impl_LengthRead.l0 k1 l0 (wrap64 (x8_1 + (rd t298 x25_1))) (x10_1 ++ [(⟨0, strOfNums ((l0.take ((wrap64 (x8_1 + (rd t298 x25_1))) : Int).toNat).drop (x8_1 : Int).toNat)⟩ : S59)]) t298 (t298.length : Int) (wrap64 (x25_1 + 1))) else (none)) else (none)) else (none)) else (none))) else (some (([] : List (S59)), 0, false))) = some (r1, r2, r3) := H
              have A12 := Aside0.mk A120
              clear A120
              by_cases c13 : t307 = true
              · subst c13
                have H1 : (if (rd t298 x25_1) > (wrap64 ((l0.length : Int) - x8_1)) then (some (([] : List (S59)), 0, false)) else (if 0 ≤ x8_1 then (if x8_1 ≤ (wrap64 (x8_1 + (rd t298 x25_1))) then (if (wrap64 (x8_1 + (rd t298 x25_1))) ≤ (l0.length : Int) then (if x10_1.length < 5864062014805 then (impl_LengthRead.l0 k1 l0 (wrap64 (x8_1 + (rd t298 x25_1))) (x10_1 ++ [(⟨0, strOfNums ((l0.take ((wrap64 (x8_1 + (rd t298 x25_1))) : Int).toNat).drop (x8_1 : Int).toNat)⟩ : S59)]) t298 (t298.length : Int) (wrap64 (x25_1 + 1))) else (none)) else (none)) else (none)) else (none))) = some (r1, r2, r3) := by rw [if_pos rfl] at H; exact H
                clear H
                have H := H1
                clear H1
                by_cases c14 : (rd t298 x25_1) > (wrap64 ((l0.length : Int) - x8_1))
                · rw [if_pos c14] at H
                  have c14b0 : decide ((wrap64 ((l0.length : Int) - x8_1)) < (rd t298 x25_1)) = true := decide_eq_true c14
                  clear c14
                  simp only [Option.some.injEq, Prod.mk.injEq] at H
                  obtain ⟨rfl, rfl, rfl⟩ := H
                  have p306 : 0 ≤ (x25_1 : Int) := of_decide_eq_true (by first | (with_reducible assumption) | assumption)
                  have q306 : x25_1 < (t298.length : Int) := of_decide_eq_true (by first | (with_reducible assumption) | assumption)
                  obtain ⟨ad306, e306, hx306_0⟩ := Kd.at_int (Kd.R_reads' HO_23.out).2.2 x25_1 p306 q306
                  cases e306
                  replace p306 := eq_true p306
                  replace q306 := eq_true q306
                  go_wp2_with (first | ((with_reducible refine gate_callee (f := 39) rfl ?_); refine goesL_ (some 30) rfl rfl Try.func39 (by kernel_rfl) rfl #[.int .i64 (rd t298 x25_1), .int .i64 0, .int .i64 40] rfl (by (try simp only [List.map_toArray, List.map_cons, List.map_nil]); first | done | rfl | (simp only [List.length_drop, List.length_take]; rfl)) ?_; (with_reducible refine (impl_within.calls (rd t298 x25_1) 0 40 true _ A12.out).mono ?_); rintro e w' ⟨rfl, ⟨nd, rfl⟩⟩; refine ⟨_, rfl, ?_⟩))
                  go_ret3
                  exact ⟨_, by first | rfl | (simp [errW_none, errW_some] <;> rfl) | (simp [*, errW_none, errW_some] <;> rfl), by first | exact Kd.R_nil _ _ _ _ _ | exact Kd.N_nil _ _ _ _ _ | exact Kd.V_nil _ _ _ _ _ | exact Kd.Q_nil _ _ _ _ _ | exact Kd.S_nil _ _ _ _ _, below_later HB.out⟩
                · rw [if_neg c14] at H
                  have c14b0 : decide ((wrap64 ((l0.length : Int) - x8_1)) < (rd t298 x25_1)) = false := decide_eq_false c14
                  clear c14
                  by_cases c15 : 0 ≤ x8_1
                  · rw [if_pos c15] at H
                    have c15b0 := eq_true c15
                    have c15b1 : decide (0 ≤ x8_1) = true := decide_eq_true c15
                    clear c15
                    by_cases c16 : x8_1 ≤ (wrap64 (x8_1 + (rd t298 x25_1)))
                    · rw [if_pos c16] at H
                      have c16b0 := eq_true c16
                      have c16b1 : decide (x8_1 ≤ (wrap64 (x8_1 + (rd t298 x25_1)))) = true := decide_eq_true c16
                      by_cases c17 : (wrap64 (x8_1 + (rd t298 x25_1))) ≤ (l0.length : Int)
                      · rw [if_pos c17] at H
                        have c17b0 := eq_true c17
                        have c17b1 : decide ((wrap64 (x8_1 + (rd t298 x25_1))) ≤ (l0.length : Int)) = true := decide_eq_true c17
                        by_cases c18 : x10_1.length < 5864062014805
                        · rw [if_pos c18] at H
                          have LMc18 := Aside0.mk c18
                          clear c18
                          obtain ⟨y309, hy309⟩ : ∃ y_ : List (S59), y_ = (x10_1 ++ [(⟨0, strOfNums ((l0.take ((wrap64 (x8_1 + (rd t298 x25_1))) : Int).toNat).drop (x8_1 : Int).toNat)⟩ : S59)]) := ⟨_, rfl⟩
                          replace H : (impl_LengthRead.l0 k1 l0 (wrap64 (x8_1 + (rd t298 x25_1))) y309 t298 (t298.length : Int) (wrap64 (x25_1 + 1))) = some (r1, r2, r3) := by first | (rw [hy309]; with_reducible exact H) | (have H2_ := (Option.bind_some _ _).symm.trans H; rw [hy309]; with_reducible exact H2_) | (have H2_ := (Option.bind_some _ _).symm.trans H; with_reducible exact H2_) | with_reducible exact H | (rw [hy309]; exact H) | exact H
                          have Ny309 := Aside0.mk hy309
                          clear hy309
                          have H' := Aside0.mk H
                          clear H
                          have p306 : 0 ≤ (x25_1 : Int) := of_decide_eq_true (by first | (with_reducible assumption) | assumption)
                          have q306 : x25_1 < (t298.length : Int) := of_decide_eq_true (by first | (with_reducible assumption) | assumption)
                          obtain ⟨ad306, e306, hx306_0⟩ := Kd.at_int (Kd.R_reads' HO_23.out).2.2 x25_1 p306 q306
                          cases e306
                          replace p306 := eq_true p306
                          replace q306 := eq_true q306
                          go_wp2_with (first | ((with_reducible refine gate_callee (f := 39) rfl ?_); refine goesL_ (some 30) rfl rfl Try.func39 (by kernel_rfl) rfl #[.int .i64 (rd t298 x25_1), .int .i64 0, .int .i64 40] rfl (by (try simp only [List.map_toArray, List.map_cons, List.map_nil]); first | done | rfl | (simp only [List.length_drop, List.length_take]; rfl)) ?_; (with_reducible refine (impl_within.calls (rd t298 x25_1) 0 40 true _ A12.out).mono ?_); rintro e w' ⟨rfl, ⟨nd, rfl⟩⟩; refine ⟨_, rfl, ?_⟩; obtain ⟨i019, hi019, _, hsz19, _⟩ := info_parts info5; obtain ⟨A19, hcut19, hA19, hC19⟩ := print_mid_of (P := Try.prog) (Value.int .u8) 0 22 5 .i64 .i64 Try.underlying22 hi019 hsz19 A0 c0 l0 x8_1 (wrap64 (x8_1 + (rd t298 x25_1))) (of_decide_eq_true (by first | (with_reducible assumption) | assumption)) (by first | omega | exact of_decide_eq_true (by first | (with_reducible assumption) | assumption)) (of_decide_eq_true (by first | (with_reducible assumption) | assumption)) HC0.out; have HR308 := Aside0.mk (Kd.C_of_reads (h1 := fun _ => rfl) (hA19 _ (Kd.reads_of_C HR0.out))); have HC308 := Aside0.mk hC19; clear hA19 hC19 hi019 hsz19; have hcv20 := fun nd_ : Nat => Kd.C_string (P := Try.prog) (A := A19) (c := (c0 - x8_1.toNat)) Try.underlying22 Try.underlying5 Try.underlying9 (impl_LengthRead.cutC (of_decide_eq_true (by first | (with_reducible assumption) | assumption)) (Kd.C_below HR308.out (pw_below_drewN HB.out nd_)))) | ((with_reducible refine gate_builtin (b := .append) (xs := #[.tmp 40, .tmp 49]) rfl ?_); (try (refine gate_guard (by rfl) ?_; dsimp only)); at_builtin; refine Kd.R_append k59 (w0 := w) w.heap.size rfl (.tmp 40) (.tmp 49) 37 59 (.agg #[(.int .i64 0), (.string ⟨#[]⟩)]) 24 rfl Try.underlying37 info59 rfl (by decide) (by omega) u10 x10_1 (⟨0, strOfNums ((l0.take ((wrap64 (x8_1 + (rd t298 x25_1))) : Int).toNat).drop (x8_1 : Int).toNat)⟩ : S59) [.int .i64 0, .string (strOfNums ((l0.take ((wrap64 (x8_1 + (rd t298 x25_1))) : Int).toNat).drop (x8_1 : Int).toNat))] (fun _ => True) (fun _ => False) rfl rfl ?aP (fun _ hk => hk.elim) ?aF ?aO ?aB ?aS ?aL ?_; (case aP => exact k59_mkM _ _ _ (⟨0, strOfNums ((l0.take ((wrap64 (x8_1 + (rd t298 x25_1))) : Int).toNat).drop (x8_1 : Int).toNat)⟩ : S59)); (case aB => exact (below_later HB.out)); (case aF => exact (fun _ _ => trivial)); (case aO => exact (R_later HO_10.out)); (case aS => exact (below_size (below_later HB.out))); (case aL => have := LMc18.out; omega); intro v310 w21 ho hb hg hat; rw [← Ny309.out] at ho; have n0_ := Aside0.mk (Kd.R_over' (R_later HO_23.out) (Kd.R_typed (R_later HO_10.out)) (by decide) hg); have n1_ := Aside0.mk (hb); have n2_ := Aside0.mk (ho); clear HO_23; clear HB; clear HO_10; have HO_23 := n0_; have HB := n1_; have HO311 := n2_; clear n0_ n1_ n2_; clear ho hb hg hat))
                          go_roundg k1
                          case measure => have := HK1.out; omega
                          case rel => exact ⟨(wrap64 (x8_1 + (rd t298 x25_1))), (y309), (wrap64 (x25_1 + 1)), (by first | rfl | (simp; done) | (simp [*]; done)), (by first | rfl | (simp; done) | (simp [*]; done)), H', ⟨by have := HK1.out; omega⟩, ⟨by (with_reducible repeat (first | apply Kd.R_alloc | apply Kd.R_drewN | apply Kd.R_drew)); exact HO311.out⟩, ⟨by (with_reducible repeat (first | apply Kd.R_alloc | apply Kd.R_drewN | apply Kd.R_drew)); exact HO_23.out⟩, ⟨below_later HB.out⟩⟩
                        · rw [if_neg c18] at H
                          exact absurd H (by simp)
                      · rw [if_neg c17] at H
                        exact absurd H (by simp)
                    · rw [if_neg c16] at H
                      exact absurd H (by simp)
                  · rw [if_neg c15] at H
                    exact absurd H (by simp)
              · replace c13 := Bool.eq_false_iff.mpr c13
                subst c13
                have H1 : (some (([] : List (S59)), 0, false)) = some (r1, r2, r3) := by rw [if_neg (show ¬ (false = true) by decide)] at H; exact H
                clear H
                have H := H1
                clear H1
                simp only [Option.some.injEq, Prod.mk.injEq] at H
                obtain ⟨rfl, rfl, rfl⟩ := H
                have p306 : 0 ≤ (x25_1 : Int) := of_decide_eq_true (by first | (with_reducible assumption) | assumption)
                have q306 : x25_1 < (t298.length : Int) := of_decide_eq_true (by first | (with_reducible assumption) | assumption)
                obtain ⟨ad306, e306, hx306_0⟩ := Kd.at_int (Kd.R_reads' HO_23.out).2.2 x25_1 p306 q306
                cases e306
                replace p306 := eq_true p306
                replace q306 := eq_true q306
                go_wp2_with (first | ((with_reducible refine gate_callee (f := 39) rfl ?_); refine goesL_ (some 30) rfl rfl Try.func39 (by kernel_rfl) rfl #[.int .i64 (rd t298 x25_1), .int .i64 0, .int .i64 40] rfl (by (try simp only [List.map_toArray, List.map_cons, List.map_nil]); first | done | rfl | (simp only [List.length_drop, List.length_take]; rfl)) ?_; (with_reducible refine (impl_within.calls (rd t298 x25_1) 0 40 false _ A12.out).mono ?_); rintro e w' ⟨rfl, ⟨nd, rfl⟩⟩; refine ⟨_, rfl, ?_⟩))
                go_ret3
                exact ⟨_, by first | rfl | (simp [errW_none, errW_some] <;> rfl) | (simp [*, errW_none, errW_some] <;> rfl), by first | exact Kd.R_nil _ _ _ _ _ | exact Kd.N_nil _ _ _ _ _ | exact Kd.V_nil _ _ _ _ _ | exact Kd.Q_nil _ _ _ _ _ | exact Kd.S_nil _ _ _ _ _, below_later HB.out⟩
            · rw [if_neg c11] at H
              exact absurd H (by simp)
          · rw [if_neg c10] at H
            exact absurd H (by simp)
        · rw [if_neg c9] at H
          have c9b0 : decide (x25_1 < (t298.length : Int)) = false := decide_eq_false c9
          clear c9
          simp only [Option.some.injEq, Prod.mk.injEq] at H
          obtain ⟨rfl, rfl, rfl⟩ := H
          go_wp2
          go_ret3
          exact ⟨_, by first | rfl | (simp [errW_none, errW_some] <;> rfl) | (simp [*, errW_none, errW_some] <;> rfl), by (with_reducible repeat (first | apply Kd.R_alloc | apply Kd.R_drewN | apply Kd.R_drew)); exact HO_10.out, below_later HB.out⟩
  · replace c4 := Bool.eq_false_iff.mpr c4
    subst c4
    have H1 : (some (([] : List (S59)), 0, false)) = some (r1, r2, r3) := by rw [if_neg (show ¬ (false = true) by decide)] at H; exact H
    clear H
    have H := H1
    clear H1
    simp only [Option.some.injEq, Prod.mk.injEq] at H
    obtain ⟨rfl, rfl, rfl⟩ := H
    go_enter Try.func23, Try.ntmps23
    go_wp2_with (first | ((with_reducible refine gate_callee (f := 11) rfl ?_); refine goesL_ (some 16) rfl rfl Try.func11 (by kernel_rfl) rfl #[.slice A0 l0.length c0, .int .i64 a1] rfl (by (try simp only [List.map_toArray, List.map_cons, List.map_nil]); first | done | rfl | (simp only [List.length_drop, List.length_take]; rfl)) ?_; (with_reducible refine (impl_DeltaRead.calls k _ _ l0 a1 t298 t299 false _ ?side1 ?side2 A3.out).mono ?_); (case side1 => repeat (first | exact HR0.out | (with_reducible refine Kd.C_alloc ?_ _) | (with_reducible refine Kd.C_drewN ?_ _) | (with_reducible refine Kd.C_drew ?_))); (case side2 => exact HC0.out); rintro e w22 ⟨v301, rfl, ho0, hb⟩; refine ⟨_, rfl, ?_⟩; have n0_ := Aside0.mk (Kd.R_lower ho0 (below_size (below_later HB.out))); have n1_ := Aside0.mk (below_step (below_later HB.out) hb); clear HB; have HO302 := n0_; have HB := n1_; clear n0_ n1_; (try clear hb); (try clear hb2); (try clear hk); (try clear hi); (try clear ho0)))
    go_ret3
    exact ⟨_, by first | rfl | (simp [errW_none, errW_some] <;> rfl) | (simp [*, errW_none, errW_some] <;> rfl), by first | exact Kd.R_nil _ _ _ _ _ | exact Kd.N_nil _ _ _ _ _ | exact Kd.V_nil _ _ _ _ _ | exact Kd.Q_nil _ _ _ _ _ | exact Kd.S_nil _ _ _ _ _, below_later HB.out⟩

/-! ### impl_FrontRead: function 28 -/
mutual
def impl_FrontRead.j0 : Nat → List Int → List (S59) → Int → Bool → Option ((List (S59)) × Int × Bool)
  | 0, _, _, _, _ => none
  | k + 1, x7, x10, x11, x40 => if x40 = true then (some (([] : List (S59)), 0, false)) else (impl_FrontRead.l0 k x10 x11 (([] : List (S59))) (⟨#[]⟩ : ByteArray) x7 (x7.length : Int) 0)
def impl_FrontRead.l0 : Nat → List (S59) → Int → List (S59) → ByteArray → List Int → Int → Int → Option ((List (S59)) × Int × Bool)
  | 0, _, _, _, _, _, _, _ => none
  | k + 1, x10, x11, x12, x13, x42, x43, x44 => if x44 < x43 then (if 0 ≤ x44 then (if x44 < (x42.length : Int) then ((impl_within.f (rd x42 x44) 0 (x13.size : Int)).bind fun t326 => (if t326 = true then (if x44 < (x10.length : Int) then (if (wrap64 ((rd x42 x44) + (((rd_T59 x10 x44).f1).size : Int))) > 40 then (some (([] : List (S59)), 0, false)) else (if 0 ≤ (rd x42 x44) then (if (rd x42 x44) ≤ (x13.size : Int) then (if (x13.extract 0 ((rd x42 x44) : Int).toNat).size + ((rd_T59 x10 x44).f1).size ≤ 9223372036854775807 then (if x12.length < 5864062014805 then (impl_FrontRead.l0 k x10 x11 (x12 ++ [(⟨0, (x13.extract 0 ((rd x42 x44) : Int).toNat) ++ ((rd_T59 x10 x44).f1)⟩ : S59)]) ((x13.extract 0 ((rd x42 x44) : Int).toNat) ++ ((rd_T59 x10 x44).f1)) x42 x43 (wrap64 (x44 + 1))) else (none)) else (none)) else (none)) else (none))) else (none)) else (some (([] : List (S59)), 0, false)))) else (none)) else (none)) else (some (x12, x11, true))
end
def impl_FrontRead.f (k : Nat) (l0 : List Int) (a1 : Int) : Option ((List (S59)) × Int × Bool) := (impl_DeltaRead.f k l0 a1).bind fun bt312 => (if bt312.2.2 = true then ((impl_LengthRead.f k l0 bt312.2.1).bind fun bt317 => (if bt317.2.2 = true then (impl_FrontRead.j0 k bt312.1 bt317.1 bt317.2.1 ((bt317.1.length : Int) != (bt312.1.length : Int))) else (impl_FrontRead.j0 k bt312.1 bt317.1 bt317.2.1 true))) else (some (([] : List (S59)), 0, false)))
theorem impl_FrontRead.mono_l : ∀ k, (∀ y0 y1 y2 y3, LeO (impl_FrontRead.j0 k y0 y1 y2 y3) (impl_FrontRead.j0 (k + 1) y0 y1 y2 y3)) ∧ (∀ y0 y1 y2 y3 y4 y5 y6, LeO (impl_FrontRead.l0 k y0 y1 y2 y3 y4 y5 y6) (impl_FrontRead.l0 (k + 1) y0 y1 y2 y3 y4 y5 y6))
  | 0 => ⟨fun _ _ _ _ r h => by simp [impl_FrontRead.j0] at h, fun _ _ _ _ _ _ _ r h => by simp [impl_FrontRead.l0] at h⟩
  | k + 1 => by
    obtain ⟨ih0, ih1⟩ := impl_FrontRead.mono_l k
    refine ⟨?_, ?_⟩
    · intro y0 y1 y2 y3
      unfold impl_FrontRead.j0
      repeat' first
      | (with_reducible exact ih0 _ _ _ _)
      | (with_reducible exact ih1 _ _ _ _ _ _ _)
      | (with_reducible exact impl_DeltaRead.mono _ _ _)
      | (with_reducible exact impl_LengthRead.mono _ _ _)
      | (with_reducible exact LeO.refl _)
      | (with_reducible exact LeO.none _)
      | (with_reducible refine LeO.ite ?_ ?_)
      | (with_reducible refine LeO.bind ?_ (fun _ => ?_))
      | exact ih0 _ _ _ _
      | exact ih1 _ _ _ _ _ _ _
      | exact impl_DeltaRead.mono _ _ _
      | exact impl_LengthRead.mono _ _ _
      | exact LeO.none _
      | refine LeO.ite ?_ ?_
      | refine LeO.bind ?_ (fun _ => ?_)
    · intro y0 y1 y2 y3 y4 y5 y6
      unfold impl_FrontRead.l0
      repeat' first
      | (with_reducible exact ih0 _ _ _ _)
      | (with_reducible exact ih1 _ _ _ _ _ _ _)
      | (with_reducible exact impl_DeltaRead.mono _ _ _)
      | (with_reducible exact impl_LengthRead.mono _ _ _)
      | (with_reducible exact LeO.refl _)
      | (with_reducible exact LeO.none _)
      | (with_reducible refine LeO.ite ?_ ?_)
      | (with_reducible refine LeO.bind ?_ (fun _ => ?_))
      | exact ih0 _ _ _ _
      | exact ih1 _ _ _ _ _ _ _
      | exact impl_DeltaRead.mono _ _ _
      | exact impl_LengthRead.mono _ _ _
      | exact LeO.none _
      | refine LeO.ite ?_ ?_
      | refine LeO.bind ?_ (fun _ => ?_)
theorem impl_FrontRead.mono : ∀ a0 a1 k, LeO (impl_FrontRead.f k a0 a1) (impl_FrontRead.f (k + 1) a0 a1) := by
  intro a0 a1 k
  obtain ⟨ih0, ih1⟩ := impl_FrontRead.mono_l k
  unfold impl_FrontRead.f
  repeat' first
      | (with_reducible exact ih0 _ _ _ _)
      | (with_reducible exact ih1 _ _ _ _ _ _ _)
      | (with_reducible exact impl_DeltaRead.mono _ _ _)
      | (with_reducible exact impl_LengthRead.mono _ _ _)
      | (with_reducible exact LeO.refl _)
      | (with_reducible exact LeO.none _)
      | (with_reducible refine LeO.ite ?_ ?_)
      | (with_reducible refine LeO.bind ?_ (fun _ => ?_))
      | exact ih0 _ _ _ _
      | exact ih1 _ _ _ _ _ _ _
      | exact impl_DeltaRead.mono _ _ _
      | exact impl_LengthRead.mono _ _ _
      | exact LeO.none _
      | refine LeO.ite ?_ ?_
      | refine LeO.bind ?_ (fun _ => ?_)
set_option maxHeartbeats 8000000 in
set_option maxRecDepth 100000 in
theorem impl_FrontRead.calls (k : Nat) (A0 : Option Addr) (c0 : Nat) (l0 : List Int) (a1 : Int) (r1 : List (S59)) (r2 : Int) (r3 : Bool) (w : World) (hr0 : Kd.C (Kd.int .u8) w A0 l0.length l0) (hc0 : l0.length ≤ c0) (h : impl_FrontRead.f k l0 a1 = some (r1, r2, r3)) :
    Calls Try.prog 28 #[.slice A0 l0.length c0, .int .i64 a1] w fun e w' => ∃ v0_ : Value, e = .returned (.tuple #[v0_, .int .i64 r2, .bool r3]) ∧ Kd.R k59 59 w' w.heap.size (fun _ => True) v0_ r1 ∧ Below w.heap.size w w' := by
  have hu59 := Try.underlying59
  have HR0 := Aside0.mk hr0
  have HC0 := Aside0.mk hc0
  clear hr0 hc0
  have HB := Aside0.mk (Below.refl w.heap.size w)
  have H : ((impl_DeltaRead.f k l0 a1).bind fun bt312 => (if bt312.2.2 = true then ((impl_LengthRead.f k l0 bt312.2.1).bind fun bt317 => (if bt317.2.2 = true then (impl_FrontRead.j0 k bt312.1 bt317.1 bt317.2.1 ((bt317.1.length : Int) != (bt312.1.length : Int))) else (impl_FrontRead.j0 k bt312.1 bt317.1 bt317.2.1 true))) else (some (([] : List (S59)), 0, false)))) = some (r1, r2, r3) := h
  clear h
  replace H := Option.bind_eq_some_iff.mp H
  obtain ⟨⟨t312, t313, t314⟩, A30, H⟩ := H
  replace H : (if t314 = true then ((impl_LengthRead.f k l0 t313).bind fun bt317 => (if bt317.2.2 = true then (impl_FrontRead.j0 k t312 bt317.1 bt317.2.1 ((bt317.1.length : Int) != (t312.length : Int))) else (impl_FrontRead.j0 k t312 bt317.1 bt317.2.1 true))) else (some (([] : List (S59)), 0, false))) = some (r1, r2, r3) := H
  have A3 := Aside0.mk A30
  clear A30
  by_cases c4 : t314 = true
  · subst c4
    have H1 : ((impl_LengthRead.f k l0 t313).bind fun bt317 => (if bt317.2.2 = true then (impl_FrontRead.j0 k t312 bt317.1 bt317.2.1 ((bt317.1.length : Int) != (t312.length : Int))) else (impl_FrontRead.j0 k t312 bt317.1 bt317.2.1 true))) = some (r1, r2, r3) := by rw [if_pos rfl] at H; exact H
    clear H
    have H := H1
    clear H1
    replace H := Option.bind_eq_some_iff.mp H
    obtain ⟨⟨t317, t318, t319⟩, A50, H⟩ := H
    replace H : (if t319 = true then (impl_FrontRead.j0 k t312 t317 t318 ((t317.length : Int) != (t312.length : Int))) else (impl_FrontRead.j0 k t312 t317 t318 true)) = some (r1, r2, r3) := H
    have A5 := Aside0.mk A50
    clear A50
    have HC6 := Aside0.mk H
    clear H
    go_enter Try.func28, Try.ntmps28
    go_upto_region 5 with (first | (go_at_call 11; (with_reducible refine (impl_DeltaRead.calls k _ _ l0 a1 t312 t313 true _ ?side1 ?side2 A3.out).mono ?_); (case side1 => repeat (first | exact HR0.out | (with_reducible refine Kd.C_alloc ?_ _) | (with_reducible refine Kd.C_drewN ?_ _) | (with_reducible refine Kd.C_drew ?_))); (case side2 => exact HC0.out); rintro e w7 ⟨v315, rfl, ho0, hb⟩; have n0_ := Aside0.mk (Kd.R_lower ho0 (below_size (below_later HB.out))); have n1_ := Aside0.mk (below_step (below_later HB.out) hb); clear HB; have HO316 := n0_; have HB := n1_; clear n0_ n1_; (try clear hb); (try clear hb2); (try clear hk); (try clear hi); (try clear ho0)) | (go_at_call 23; (with_reducible refine (impl_LengthRead.calls k _ _ l0 t313 t317 t318 t319 _ ?side1 ?side2 A5.out).mono ?_); (case side1 => repeat (first | exact (Kd.C_below HR0.out HB.out) | (with_reducible refine Kd.C_alloc ?_ _) | (with_reducible refine Kd.C_drewN ?_ _) | (with_reducible refine Kd.C_drew ?_))); (case side2 => exact HC0.out); rintro e w8 ⟨v320, rfl, ho0, hb⟩; have n0_ := Aside0.mk (Kd.R_below (R_later HO316.out) hb); have n1_ := Aside0.mk (Kd.R_lower ho0 (below_size (below_later HB.out))); have n2_ := Aside0.mk (below_step (below_later HB.out) hb); clear HO316; clear HB; have HO316 := n0_; have HO321 := n1_; have HB := n2_; clear n0_ n1_ n2_; (try clear hb); (try clear hb2); (try clear hk); (try clear hi); (try clear ho0)))
    repeat (go_quiet (first | (go_at_call 11; (with_reducible refine (impl_DeltaRead.calls k _ _ l0 a1 t312 t313 true _ ?side1 ?side2 A3.out).mono ?_); (case side1 => repeat (first | exact HR0.out | (with_reducible refine Kd.C_alloc ?_ _) | (with_reducible refine Kd.C_drewN ?_ _) | (with_reducible refine Kd.C_drew ?_))); (case side2 => exact HC0.out); rintro e w7 ⟨v315, rfl, ho0, hb⟩; have n0_ := Aside0.mk (Kd.R_lower ho0 (below_size (below_later HB.out))); have n1_ := Aside0.mk (below_step (below_later HB.out) hb); clear HB; have HO316 := n0_; have HB := n1_; clear n0_ n1_; (try clear hb); (try clear hb2); (try clear hk); (try clear hi); (try clear ho0)) | (go_at_call 23; (with_reducible refine (impl_LengthRead.calls k _ _ l0 t313 t317 t318 t319 _ ?side1 ?side2 A5.out).mono ?_); (case side1 => repeat (first | exact (Kd.C_below HR0.out HB.out) | (with_reducible refine Kd.C_alloc ?_ _) | (with_reducible refine Kd.C_drewN ?_ _) | (with_reducible refine Kd.C_drew ?_))); (case side2 => exact HC0.out); rintro e w8 ⟨v320, rfl, ho0, hb⟩; have n0_ := Aside0.mk (Kd.R_below (R_later HO316.out) hb); have n1_ := Aside0.mk (Kd.R_lower ho0 (below_size (below_later HB.out))); have n2_ := Aside0.mk (below_step (below_later HB.out) hb); clear HO316; clear HB; have HO316 := n0_; have HO321 := n1_; have HB := n2_; clear n0_ n1_ n2_; (try clear hb); (try clear hb2); (try clear hk); (try clear hi); (try clear ho0))); go_upto_region 5 with (first | (go_at_call 11; (with_reducible refine (impl_DeltaRead.calls k _ _ l0 a1 t312 t313 true _ ?side1 ?side2 A3.out).mono ?_); (case side1 => repeat (first | exact HR0.out | (with_reducible refine Kd.C_alloc ?_ _) | (with_reducible refine Kd.C_drewN ?_ _) | (with_reducible refine Kd.C_drew ?_))); (case side2 => exact HC0.out); rintro e w7 ⟨v315, rfl, ho0, hb⟩; have n0_ := Aside0.mk (Kd.R_lower ho0 (below_size (below_later HB.out))); have n1_ := Aside0.mk (below_step (below_later HB.out) hb); clear HB; have HO316 := n0_; have HB := n1_; clear n0_ n1_; (try clear hb); (try clear hb2); (try clear hk); (try clear hi); (try clear ho0)) | (go_at_call 23; (with_reducible refine (impl_LengthRead.calls k _ _ l0 t313 t317 t318 t319 _ ?side1 ?side2 A5.out).mono ?_); (case side1 => repeat (first | exact (Kd.C_below HR0.out HB.out) | (with_reducible refine Kd.C_alloc ?_ _) | (with_reducible refine Kd.C_drewN ?_ _) | (with_reducible refine Kd.C_drew ?_))); (case side2 => exact HC0.out); rintro e w8 ⟨v320, rfl, ho0, hb⟩; have n0_ := Aside0.mk (Kd.R_below (R_later HO316.out) hb); have n1_ := Aside0.mk (Kd.R_lower ho0 (below_size (below_later HB.out))); have n2_ := Aside0.mk (below_step (below_later HB.out) hb); clear HO316; clear HB; have HO316 := n0_; have HO321 := n1_; have HB := n2_; clear n0_ n1_ n2_; (try clear hb); (try clear hb2); (try clear hk); (try clear hi); (try clear ho0))))
    (try simp only [Act.put, List.setIfInBounds_toArray, List.set_cons_zero, List.set_cons_succ])
    go_cut [40] (fun v40 wc => ∃ (kq : Nat) (x40_5 : Bool), v40 = .bool x40_5 ∧ Aside0 (impl_FrontRead.j0 kq t312 t317 t318 x40_5 = some (r1, r2, r3)) ∧ Aside0 (kq ≤ k) ∧ Aside0 (Kd.R (Kd.int .i64) 3 wc w.heap.size (fun _ => True) v315 t312) ∧ Aside0 (Kd.R k59 59 wc w.heap.size (fun _ => True) v320 t317) ∧ Aside0 (Below w.heap.size w wc))
    case first =>
      have H := HC6.out
      clear HC6
      by_cases c9 : t319 = true
      · subst c9
        have H1 : (impl_FrontRead.j0 k t312 t317 t318 ((t317.length : Int) != (t312.length : Int))) = some (r1, r2, r3) := by rw [if_pos rfl] at H; exact H
        clear H
        have H := H1
        clear H1
        have H' := Aside0.mk H
        clear H
        obtain ⟨Ao10, co10, eo10⟩ := Kd.R_slice HO321.out
        subst eo10
        obtain ⟨Ao11, co11, eo11⟩ := Kd.R_slice HO316.out
        subst eo11
        go_wp2
        repeat (go_quiet (fail); try go_wp2)
        go_meet
        case rel => exact ⟨_, (((t317.length : Int) != (t312.length : Int))), (by first | rfl | (simp; done) | (simp [*]; done)), H', ⟨by first | omega | exact Nat.le_refl _⟩, ⟨by (with_reducible repeat (first | apply Kd.R_alloc | apply Kd.R_drewN | apply Kd.R_drew)); exact HO316.out⟩, ⟨by (with_reducible repeat (first | apply Kd.R_alloc | apply Kd.R_drewN | apply Kd.R_drew)); exact HO321.out⟩, ⟨below_later HB.out⟩⟩
      · replace c9 := Bool.eq_false_iff.mpr c9
        subst c9
        have H1 : (impl_FrontRead.j0 k t312 t317 t318 true) = some (r1, r2, r3) := by rw [if_neg (show ¬ (false = true) by decide)] at H; exact H
        clear H
        have H := H1
        clear H1
        have H' := Aside0.mk H
        clear H
        go_wp2
        repeat (go_quiet (fail); try go_wp2)
        go_meet
        case rel => exact ⟨_, (true), (by first | rfl | (simp; done) | (simp [*]; done)), H', ⟨by first | omega | exact Nat.le_refl _⟩, ⟨by (with_reducible repeat (first | apply Kd.R_alloc | apply Kd.R_drewN | apply Kd.R_drew)); exact HO316.out⟩, ⟨by (with_reducible repeat (first | apply Kd.R_alloc | apply Kd.R_drewN | apply Kd.R_drew)); exact HO321.out⟩, ⟨below_later HB.out⟩⟩
    case rest =>
      clear HC6
      try clear c2
      try clear p2
      try clear c4
      try clear c9
      obtain ⟨kq, x40_5, rfl, HA, HJ5, HO_7, HO_10, HB⟩ := hcut
      cases kq with
      | zero => exact absurd HA.out (by simp [impl_FrontRead.j0])
      | succ kj5 =>
        have H := HA.out
        clear HA
        simp only [impl_FrontRead.j0] at H
        by_cases c12 : x40_5 = true
        · subst c12
          have H1 : (some (([] : List (S59)), 0, false)) = some (r1, r2, r3) := by rw [if_pos rfl] at H; exact H
          clear H
          have H := H1
          clear H1
          simp only [Option.some.injEq, Prod.mk.injEq] at H
          obtain ⟨rfl, rfl, rfl⟩ := H
          go_wp2
          repeat (go_quiet (fail); try go_wp2)
          go_ret3
          exact ⟨_, by first | rfl | (simp [errW_none, errW_some] <;> rfl) | (simp [*, errW_none, errW_some] <;> rfl), by first | exact Kd.R_nil _ _ _ _ _ | exact Kd.N_nil _ _ _ _ _ | exact Kd.V_nil _ _ _ _ _ | exact Kd.Q_nil _ _ _ _ _ | exact Kd.S_nil _ _ _ _ _, below_later HB.out⟩
        · replace c12 := Bool.eq_false_iff.mpr c12
          subst c12
          have H1 : (impl_FrontRead.l0 kj5 t317 t318 (([] : List (S59))) (⟨#[]⟩ : ByteArray) t312 (t312.length : Int) 0) = some (r1, r2, r3) := by rw [if_neg (show ¬ (false = true) by decide)] at H; exact H
          clear H
          have H := H1
          clear H1
          obtain ⟨y322, hy322⟩ : ∃ y_ : List (S59), y_ = (([] : List (S59))) := ⟨_, rfl⟩
          replace H : (impl_FrontRead.l0 kj5 t317 t318 y322 (⟨#[]⟩ : ByteArray) t312 (t312.length : Int) 0) = some (r1, r2, r3) := by first | (rw [hy322]; with_reducible exact H) | (have H2_ := (Option.bind_some _ _).symm.trans H; rw [hy322]; with_reducible exact H2_) | (have H2_ := (Option.bind_some _ _).symm.trans H; with_reducible exact H2_) | with_reducible exact H | (rw [hy322]; exact H) | exact H
          have Ny322 := Aside0.mk hy322
          clear hy322
          have H' := Aside0.mk H
          clear H
          go_wp2_with (first | ((with_reducible refine gate_dst (N := 41) rfl ?_); (try (refine gate_guard (by rfl) ?_; dsimp only)); refine Kd.R_lit k59 _ 59 ?hg (N := 41) ?hd (xs := ([] : List (S59))) (inner := []) (ok := fun _ => True) (okp := fun _ => True) ?hr ?hp (fun _ hk => hk) trivial (Below.refl _ _) (Nat.le_refl _) (by simp) ?_; (case hd => rfl); (case hg => rfl); (case hr => first | (go_simp; done) | (go_simp; rfl)); (case hp => exact (Reps.none _ _)); intro v323 w13 ho14 hb hg_ hnew_; clear hg_ hnew_; (first | rw [← Ny322.out] at ho14 | (simp only [Int.reduceToNat] at ho14; rw [← Ny322.out] at ho14)); have n0_ := Aside0.mk (Kd.R_below (R_later HO_7.out) hb); have n1_ := Aside0.mk (Kd.R_elder' (R_later HO_10.out) (Kd.R_base ho14) hb); have n2_ := Aside0.mk (Kd.R_lower (Kd.R_new' ho14 (Kd.R_lt (R_later HO_10.out))) (below_size (below_later HB.out))); have n3_ := Aside0.mk (below_step (below_later HB.out) hb); clear HO_7; clear HO_10; clear HB; have HO_7 := n0_; have HO_10 := n1_; have HO324 := n2_; have HB := n3_; clear n0_ n1_ n2_ n3_; clear hb ho14; obtain ⟨Ao15, co15, eo15⟩ := Kd.R_slice HO_7.out; subst eo15))
          repeat (go_quiet (first | ((with_reducible refine gate_dst (N := 41) rfl ?_); (try (refine gate_guard (by rfl) ?_; dsimp only)); refine Kd.R_lit k59 _ 59 ?hg (N := 41) ?hd (xs := ([] : List (S59))) (inner := []) (ok := fun _ => True) (okp := fun _ => True) ?hr ?hp (fun _ hk => hk) trivial (Below.refl _ _) (Nat.le_refl _) (by simp) ?_; (case hd => rfl); (case hg => rfl); (case hr => first | (go_simp; done) | (go_simp; rfl)); (case hp => exact (Reps.none _ _)); intro v323 w13 ho14 hb hg_ hnew_; clear hg_ hnew_; (first | rw [← Ny322.out] at ho14 | (simp only [Int.reduceToNat] at ho14; rw [← Ny322.out] at ho14)); have n0_ := Aside0.mk (Kd.R_below (R_later HO_7.out) hb); have n1_ := Aside0.mk (Kd.R_elder' (R_later HO_10.out) (Kd.R_base ho14) hb); have n2_ := Aside0.mk (Kd.R_lower (Kd.R_new' ho14 (Kd.R_lt (R_later HO_10.out))) (below_size (below_later HB.out))); have n3_ := Aside0.mk (below_step (below_later HB.out) hb); clear HO_7; clear HO_10; clear HB; have HO_7 := n0_; have HO_10 := n1_; have HO324 := n2_; have HB := n3_; clear n0_ n1_ n2_ n3_; clear hb ho14; obtain ⟨Ao15, co15, eo15⟩ := Kd.R_slice HO_7.out; subst eo15)); try go_wp2_with (first | ((with_reducible refine gate_dst (N := 41) rfl ?_); (try (refine gate_guard (by rfl) ?_; dsimp only)); refine Kd.R_lit k59 _ 59 ?hg (N := 41) ?hd (xs := ([] : List (S59))) (inner := []) (ok := fun _ => True) (okp := fun _ => True) ?hr ?hp (fun _ hk => hk) trivial (Below.refl _ _) (Nat.le_refl _) (by simp) ?_; (case hd => rfl); (case hg => rfl); (case hr => first | (go_simp; done) | (go_simp; rfl)); (case hp => exact (Reps.none _ _)); intro v323 w13 ho14 hb hg_ hnew_; clear hg_ hnew_; (first | rw [← Ny322.out] at ho14 | (simp only [Int.reduceToNat] at ho14; rw [← Ny322.out] at ho14)); have n0_ := Aside0.mk (Kd.R_below (R_later HO_7.out) hb); have n1_ := Aside0.mk (Kd.R_elder' (R_later HO_10.out) (Kd.R_base ho14) hb); have n2_ := Aside0.mk (Kd.R_lower (Kd.R_new' ho14 (Kd.R_lt (R_later HO_10.out))) (below_size (below_later HB.out))); have n3_ := Aside0.mk (below_step (below_later HB.out) hb); clear HO_7; clear HO_10; clear HB; have HO_7 := n0_; have HO_10 := n1_; have HO324 := n2_; have HB := n3_; clear n0_ n1_ n2_ n3_; clear hb ho14; obtain ⟨Ao15, co15, eo15⟩ := Kd.R_slice HO_7.out; subst eo15)))
          go_loopg [12, 13, 44] kj5 (fun kq v12 v13 v44 w' => ∃ (x12_2 : List (S59)) (x13_2 : ByteArray) (x44_2 : Int), v13 = .string x13_2 ∧ v44 = .int .i64 x44_2 ∧ Aside0 (impl_FrontRead.l0 kq t317 t318 x12_2 x13_2 t312 (t312.length : Int) x44_2 = some (r1, r2, r3)) ∧ Aside0 (kq ≤ kj5) ∧ Aside0 (Kd.R k59 59 w' w.heap.size (fun k_ => some k_ ≠ (v12 : Value).ownBlock) v320 t317) ∧ Aside0 (Kd.R k59 59 w' w.heap.size (fun k_ => some k_ ≠ (v320 : Value).ownBlock) v12 x12_2) ∧ Aside0 (Kd.R (Kd.int .i64) 3 w' w.heap.size (fun _ => True) (.slice Ao15 t312.length co15) t312) ∧ Aside0 (Below w.heap.size w w'))
          case atStart => exact ⟨(y322), ((⟨#[]⟩ : ByteArray)), (0), (by first | rfl | (simp; done) | (simp [*]; done)), (by first | rfl | (simp; done) | (simp [*]; done)), H', ⟨Nat.le_refl _⟩, ⟨by (with_reducible repeat (first | apply Kd.R_alloc | apply Kd.R_drewN | apply Kd.R_drew)); exact Kd.R_mono HO_10.out (fun _ hk => hk.2)⟩, ⟨by (with_reducible repeat (first | apply Kd.R_alloc | apply Kd.R_drewN | apply Kd.R_drew)); exact Kd.R_mono HO324.out (fun _ hk => hk.2)⟩, ⟨by (with_reducible repeat (first | apply Kd.R_alloc | apply Kd.R_drewN | apply Kd.R_drew)); exact HO_7.out⟩, ⟨below_later HB.out⟩⟩
          case round =>
            clear H'
            try clear c1
            try clear c2
            try clear p2
            try clear c4
            try clear c9
            try clear c12
            try clear p2
            obtain ⟨x12_2, x13_2, x44_2, rfl, rfl, HA, HK2, HO_10, HO_12, HO_42, HB⟩ := hrel
            cases gk with
            | zero => exact absurd HA.out (by simp [impl_FrontRead.l0])
            | succ k2 =>
              have H := HA.out
              clear HA
              simp only [impl_FrontRead.l0] at H
              by_cases c16 : x44_2 < (t312.length : Int)
              · rw [if_pos c16] at H
                have c16b0 : decide (x44_2 < (t312.length : Int)) = true := decide_eq_true c16
                clear c16
                by_cases c17 : 0 ≤ x44_2
                · rw [if_pos c17] at H
                  have c17b0 : decide (0 ≤ x44_2) = true := decide_eq_true c17
                  clear c17
                  by_cases c18 : x44_2 < (t312.length : Int)
                  · rw [if_pos c18] at H
                    have c18b0 : decide (x44_2 < (t312.length : Int)) = true := decide_eq_true c18
                    clear c18
                    replace H := Option.bind_eq_some_iff.mp H
                    obtain ⟨t326, A190, H⟩ := H
                    replace H : (if t326 = true then (if x44_2 < (t317.length : Int) then (if (wrap64 ((rd t312 x44_2) + (((rd_T59 t317 x44_2).f1).size : Int))) > 40 then (some (([] : List (S59)), 0, false)) else (if 0 ≤ (rd t312 x44_2) then (if (rd t312 x44_2) ≤ (x13_2.size : Int) then (if (x13_2.extract 0 ((rd t312 x44_2) : Int).toNat).size + ((rd_T59 t317 x44_2).f1).size ≤ 9223372036854775807 then (if x12_2.length < 5864062014805 then (impl_FrontRead.l0 k2 t317 t318 (x12_2 ++ [(⟨0, (x13_2.extract 0 ((rd t312 x44_2) : Int).toNat) ++ ((rd_T59 t317 x44_2).f1)⟩ : S59)]) ((x13_2.extract 0 ((rd t312 x44_2) : Int).toNat) ++ ((rd_T59 t317 x44_2).f1)) t312 (t312.length : Int) (wrap64 (x44_2 + 1))) else (none)) else (none)) else (none)) else (none))) else (none)) else (some (([] : List (S59)), 0, false))) = some (r1, r2, r3) := H
                    have A19 := Aside0.mk A190
                    clear A190
                    by_cases c20 : t326 = true
                    · subst c20
                      have H1 : (if x44_2 < (t317.length : Int) then (if (wrap64 ((rd t312 x44_2) + (((rd_T59 t317 x44_2).f1).size : Int))) > 40 then (some (([] : List (S59)), 0, false)) else (if 0 ≤ (rd t312 x44_2) then (if (rd t312 x44_2) ≤ (x13_2.size : Int) then (if (x13_2.extract 0 ((rd t312 x44_2) : Int).toNat).size + ((rd_T59 t317 x44_2).f1).size ≤ 9223372036854775807 then (if x12_2.length < 5864062014805 then (impl_FrontRead.l0 k2 t317 t318 (x12_2 ++ [(⟨0, (x13_2.extract 0 ((rd t312 x44_2) : Int).toNat) ++ ((rd_T59 t317 x44_2).f1)⟩ : S59)]) ((x13_2.extract 0 ((rd t312 x44_2) : Int).toNat) ++ ((rd_T59 t317 x44_2).f1)) t312 (t312.length : Int) (wrap64 (x44_2 + 1))) else (none)) else (none)) else (none)) else (none))) else (none)) = some (r1, r2, r3) := by rw [if_pos rfl] at H; exact H
                      clear H
                      have H := H1
                      clear H1
                      by_cases c21 : x44_2 < (t317.length : Int)
                      · rw [if_pos c21] at H
                        have c21b0 : decide (x44_2 < (t317.length : Int)) = true := decide_eq_true c21
                        clear c21
                        by_cases c22 : (wrap64 ((rd t312 x44_2) + (((rd_T59 t317 x44_2).f1).size : Int))) > 40
                        · rw [if_pos c22] at H
                          have c22b0 : decide (40 < (wrap64 ((rd t312 x44_2) + (((rd_T59 t317 x44_2).f1).size : Int)))) = true := decide_eq_true c22
                          clear c22
                          simp only [Option.some.injEq, Prod.mk.injEq] at H
                          obtain ⟨rfl, rfl, rfl⟩ := H
                          have p325 : 0 ≤ (x44_2 : Int) := of_decide_eq_true (by first | (with_reducible assumption) | assumption)
                          have q325 : x44_2 < (t312.length : Int) := of_decide_eq_true (by first | (with_reducible assumption) | assumption)
                          obtain ⟨ad325, e325, hx325_0⟩ := Kd.at_int (Kd.R_reads' HO_42.out).2.2 x44_2 p325 q325
                          cases e325
                          replace p325 := eq_true p325
                          replace q325 := eq_true q325
                          go_wp2_with (first | (go_at_call 39; (with_reducible refine (impl_within.calls (rd t312 x44_2) 0 (x13_2.size : Int) true _ A19.out).mono ?_); rintro e w' ⟨rfl, ⟨nd, rfl⟩⟩; (try first | exact ⟨rfl, _, World.drewN_drewN _ _ _⟩ | exact ⟨rfl, _, Eq.trans (World.drewN_drewN _ _ _) (congrArg (World.drewN _) (Nat.add_assoc _ _ _))⟩); obtain ⟨Ao23, co23, eo23⟩ := Kd.R_slice HO_10.out; subst eo23; have p327 : 0 ≤ (x44_2 : Int) := of_decide_eq_true (by first | (with_reducible assumption) | assumption); have q327 : x44_2 < (t317.length : Int) := of_decide_eq_true (by first | (with_reducible assumption) | assumption); obtain ⟨ad327, e327, hx327_0, hx327_1⟩ := at_T59 (Kd.R_reads' HO_10.out).2.2 x44_2 p327 q327; cases e327; replace p327 := eq_true p327; replace q327 := eq_true q327))
                          repeat (go_quiet (first | (go_at_call 39; (with_reducible refine (impl_within.calls (rd t312 x44_2) 0 (x13_2.size : Int) true _ A19.out).mono ?_); rintro e w' ⟨rfl, ⟨nd, rfl⟩⟩; (try first | exact ⟨rfl, _, World.drewN_drewN _ _ _⟩ | exact ⟨rfl, _, Eq.trans (World.drewN_drewN _ _ _) (congrArg (World.drewN _) (Nat.add_assoc _ _ _))⟩); obtain ⟨Ao23, co23, eo23⟩ := Kd.R_slice HO_10.out; subst eo23; have p327 : 0 ≤ (x44_2 : Int) := of_decide_eq_true (by first | (with_reducible assumption) | assumption); have q327 : x44_2 < (t317.length : Int) := of_decide_eq_true (by first | (with_reducible assumption) | assumption); obtain ⟨ad327, e327, hx327_0, hx327_1⟩ := at_T59 (Kd.R_reads' HO_10.out).2.2 x44_2 p327 q327; cases e327; replace p327 := eq_true p327; replace q327 := eq_true q327)); try go_wp2_with (first | (go_at_call 39; (with_reducible refine (impl_within.calls (rd t312 x44_2) 0 (x13_2.size : Int) true _ A19.out).mono ?_); rintro e w' ⟨rfl, ⟨nd, rfl⟩⟩; (try first | exact ⟨rfl, _, World.drewN_drewN _ _ _⟩ | exact ⟨rfl, _, Eq.trans (World.drewN_drewN _ _ _) (congrArg (World.drewN _) (Nat.add_assoc _ _ _))⟩); obtain ⟨Ao23, co23, eo23⟩ := Kd.R_slice HO_10.out; subst eo23; have p327 : 0 ≤ (x44_2 : Int) := of_decide_eq_true (by first | (with_reducible assumption) | assumption); have q327 : x44_2 < (t317.length : Int) := of_decide_eq_true (by first | (with_reducible assumption) | assumption); obtain ⟨ad327, e327, hx327_0, hx327_1⟩ := at_T59 (Kd.R_reads' HO_10.out).2.2 x44_2 p327 q327; cases e327; replace p327 := eq_true p327; replace q327 := eq_true q327)))
                          go_ret3
                          exact ⟨_, by first | rfl | (simp [errW_none, errW_some] <;> rfl) | (simp [*, errW_none, errW_some] <;> rfl), by first | exact Kd.R_nil _ _ _ _ _ | exact Kd.N_nil _ _ _ _ _ | exact Kd.V_nil _ _ _ _ _ | exact Kd.Q_nil _ _ _ _ _ | exact Kd.S_nil _ _ _ _ _, below_later HB.out⟩
                        · rw [if_neg c22] at H
                          have c22b0 : decide (40 < (wrap64 ((rd t312 x44_2) + (((rd_T59 t317 x44_2).f1).size : Int)))) = false := decide_eq_false c22
                          clear c22
                          by_cases c24 : 0 ≤ (rd t312 x44_2)
                          · rw [if_pos c24] at H
                            have c24b0 := eq_true c24
                            have c24b1 : decide (0 ≤ (rd t312 x44_2)) = true := decide_eq_true c24
                            clear c24
                            by_cases c25 : (rd t312 x44_2) ≤ (x13_2.size : Int)
                            · rw [if_pos c25] at H
                              have c25b0 := eq_true c25
                              have c25b1 : decide ((rd t312 x44_2) ≤ (x13_2.size : Int)) = true := decide_eq_true c25
                              clear c25
                              by_cases c26 : (x13_2.extract 0 ((rd t312 x44_2) : Int).toNat).size + ((rd_T59 t317 x44_2).f1).size ≤ 9223372036854775807
                              · rw [if_pos c26] at H
                                have c26b0 := eq_true c26
                                have c26b1 : decide ((x13_2.extract 0 ((rd t312 x44_2) : Int).toNat).size + ((rd_T59 t317 x44_2).f1).size ≤ 9223372036854775807) = true := decide_eq_true c26
                                try have c26b2 : (9223372036854775807 < (x13_2.extract 0 ((rd t312 x44_2) : Int).toNat).size + ((rd_T59 t317 x44_2).f1).size) = False := eq_false (Nat.not_lt.2 c26)
                                by_cases c27 : x12_2.length < 5864062014805
                                · rw [if_pos c27] at H
                                  have LMc27 := Aside0.mk c27
                                  clear c27
                                  obtain ⟨y329, hy329⟩ : ∃ y_ : List (S59), y_ = (x12_2 ++ [(⟨0, (x13_2.extract 0 ((rd t312 x44_2) : Int).toNat) ++ ((rd_T59 t317 x44_2).f1)⟩ : S59)]) := ⟨_, rfl⟩
                                  replace H : (impl_FrontRead.l0 k2 t317 t318 y329 ((x13_2.extract 0 ((rd t312 x44_2) : Int).toNat) ++ ((rd_T59 t317 x44_2).f1)) t312 (t312.length : Int) (wrap64 (x44_2 + 1))) = some (r1, r2, r3) := by first | (rw [hy329]; with_reducible exact H) | (have H2_ := (Option.bind_some _ _).symm.trans H; rw [hy329]; with_reducible exact H2_) | (have H2_ := (Option.bind_some _ _).symm.trans H; with_reducible exact H2_) | with_reducible exact H | (rw [hy329]; exact H) | exact H
                                  have Ny329 := Aside0.mk hy329
                                  clear hy329
                                  have H' := Aside0.mk H
                                  clear H
                                  have p325 : 0 ≤ (x44_2 : Int) := of_decide_eq_true (by first | (with_reducible assumption) | assumption)
                                  have q325 : x44_2 < (t312.length : Int) := of_decide_eq_true (by first | (with_reducible assumption) | assumption)
                                  obtain ⟨ad325, e325, hx325_0⟩ := Kd.at_int (Kd.R_reads' HO_42.out).2.2 x44_2 p325 q325
                                  cases e325
                                  replace p325 := eq_true p325
                                  replace q325 := eq_true q325
                                  go_wp2_with (first | (go_at_call 39; (with_reducible refine (impl_within.calls (rd t312 x44_2) 0 (x13_2.size : Int) true _ A19.out).mono ?_); rintro e w' ⟨rfl, ⟨nd, rfl⟩⟩; (try first | exact ⟨rfl, _, World.drewN_drewN _ _ _⟩ | exact ⟨rfl, _, Eq.trans (World.drewN_drewN _ _ _) (congrArg (World.drewN _) (Nat.add_assoc _ _ _))⟩); obtain ⟨Ao28, co28, eo28⟩ := Kd.R_slice HO_10.out; subst eo28; have p327 : 0 ≤ (x44_2 : Int) := of_decide_eq_true (by first | (with_reducible assumption) | assumption); have q327 : x44_2 < (t317.length : Int) := of_decide_eq_true (by first | (with_reducible assumption) | assumption); obtain ⟨ad327, e327, hx327_0, hx327_1⟩ := at_T59 (Kd.R_reads' HO_10.out).2.2 x44_2 p327 q327; cases e327; replace p327 := eq_true p327; replace q327 := eq_true q327; have p328 : 0 ≤ (x44_2 : Int) := of_decide_eq_true (by first | (with_reducible assumption) | assumption); have q328 : x44_2 < (t317.length : Int) := of_decide_eq_true (by first | (with_reducible assumption) | assumption); obtain ⟨ad328, e328, hx328_0, hx328_1⟩ := at_T59 (Kd.R_reads' HO_10.out).2.2 x44_2 p328 q328; obtain rfl : ad327 = ad328 := (by injection e328); replace p328 := eq_true p328; replace q328 := eq_true q328) | ((with_reducible refine gate_builtin (b := .append) (xs := #[.tmp 74, .tmp 77]) rfl ?_); (try (refine gate_guard (by rfl) ?_; dsimp only)); at_builtin; refine Kd.R_append k59 (w0 := w) w.heap.size rfl (.tmp 74) (.tmp 77) 37 59 (.agg #[(.int .i64 0), (.string ⟨#[]⟩)]) 24 rfl Try.underlying37 info59 rfl (by decide) (by omega) u12 x12_2 (⟨0, (x13_2.extract 0 ((rd t312 x44_2) : Int).toNat) ++ ((rd_T59 t317 x44_2).f1)⟩ : S59) [.int .i64 0, .string ((x13_2.extract 0 ((rd t312 x44_2) : Int).toNat) ++ ((rd_T59 t317 x44_2).f1))] (fun k_ => some k_ ≠ (.slice (some ad327) t317.length co28 : Value).ownBlock) (fun _ => False) rfl rfl ?aP (fun _ hk => hk.elim) ?aF ?aO ?aB ?aS ?aL ?_; (case aP => exact k59_mkM _ _ _ (⟨0, (x13_2.extract 0 ((rd t312 x44_2) : Int).toNat) ++ ((rd_T59 t317 x44_2).f1)⟩ : S59)); (case aB => exact (below_later HB.out)); (case aF => exact (fun k_ hk => Kd.fresh' (Kd.R_lt (R_later HO_10.out)) k_ hk)); (case aO => exact (R_later HO_12.out)); (case aS => exact (below_size (below_later HB.out))); (case aL => have := LMc27.out; omega); intro v330 w29 ho hb hg hat; rw [← Ny329.out] at ho; have n0_ := Aside0.mk (Kd.R_after (ok := (fun _ => True)) (by (with_reducible repeat (first | apply Kd.R_alloc | apply Kd.R_drewN | apply Kd.R_drew)); exact Kd.R_mono HO_10.out (fun _ hk => ⟨trivial, hk⟩)) hg hat); have n1_ := Aside0.mk (Kd.R_over' (R_later HO_42.out) (Kd.R_typed (R_later HO_12.out)) (by decide) hg); have n2_ := Aside0.mk (hb); have n3_ := Aside0.mk (ho); clear HO_10; clear HO_42; clear HB; clear HO_12; have HO_10 := n0_; have HO_42 := n1_; have HB := n2_; have HO331 := n3_; clear n0_ n1_ n2_ n3_; clear ho hb hg hat))
                                  repeat (go_quiet (first | (go_at_call 39; (with_reducible refine (impl_within.calls (rd t312 x44_2) 0 (x13_2.size : Int) true _ A19.out).mono ?_); rintro e w' ⟨rfl, ⟨nd, rfl⟩⟩; (try first | exact ⟨rfl, _, World.drewN_drewN _ _ _⟩ | exact ⟨rfl, _, Eq.trans (World.drewN_drewN _ _ _) (congrArg (World.drewN _) (Nat.add_assoc _ _ _))⟩); obtain ⟨Ao28, co28, eo28⟩ := Kd.R_slice HO_10.out; subst eo28; have p327 : 0 ≤ (x44_2 : Int) := of_decide_eq_true (by first | (with_reducible assumption) | assumption); have q327 : x44_2 < (t317.length : Int) := of_decide_eq_true (by first | (with_reducible assumption) | assumption); obtain ⟨ad327, e327, hx327_0, hx327_1⟩ := at_T59 (Kd.R_reads' HO_10.out).2.2 x44_2 p327 q327; cases e327; replace p327 := eq_true p327; replace q327 := eq_true q327; have p328 : 0 ≤ (x44_2 : Int) := of_decide_eq_true (by first | (with_reducible assumption) | assumption); have q328 : x44_2 < (t317.length : Int) := of_decide_eq_true (by first | (with_reducible assumption) | assumption); obtain ⟨ad328, e328, hx328_0, hx328_1⟩ := at_T59 (Kd.R_reads' HO_10.out).2.2 x44_2 p328 q328; obtain rfl : ad327 = ad328 := (by injection e328); replace p328 := eq_true p328; replace q328 := eq_true q328) | ((with_reducible refine gate_builtin (b := .append) (xs := #[.tmp 74, .tmp 77]) rfl ?_); (try (refine gate_guard (by rfl) ?_; dsimp only)); at_builtin; refine Kd.R_append k59 (w0 := w) w.heap.size rfl (.tmp 74) (.tmp 77) 37 59 (.agg #[(.int .i64 0), (.string ⟨#[]⟩)]) 24 rfl Try.underlying37 info59 rfl (by decide) (by omega) u12 x12_2 (⟨0, (x13_2.extract 0 ((rd t312 x44_2) : Int).toNat) ++ ((rd_T59 t317 x44_2).f1)⟩ : S59) [.int .i64 0, .string ((x13_2.extract 0 ((rd t312 x44_2) : Int).toNat) ++ ((rd_T59 t317 x44_2).f1))] (fun k_ => some k_ ≠ (.slice (some ad327) t317.length co28 : Value).ownBlock) (fun _ => False) rfl rfl ?aP (fun _ hk => hk.elim) ?aF ?aO ?aB ?aS ?aL ?_; (case aP => exact k59_mkM _ _ _ (⟨0, (x13_2.extract 0 ((rd t312 x44_2) : Int).toNat) ++ ((rd_T59 t317 x44_2).f1)⟩ : S59)); (case aB => exact (below_later HB.out)); (case aF => exact (fun k_ hk => Kd.fresh' (Kd.R_lt (R_later HO_10.out)) k_ hk)); (case aO => exact (R_later HO_12.out)); (case aS => exact (below_size (below_later HB.out))); (case aL => have := LMc27.out; omega); intro v330 w29 ho hb hg hat; rw [← Ny329.out] at ho; have n0_ := Aside0.mk (Kd.R_after (ok := (fun _ => True)) (by (with_reducible repeat (first | apply Kd.R_alloc | apply Kd.R_drewN | apply Kd.R_drew)); exact Kd.R_mono HO_10.out (fun _ hk => ⟨trivial, hk⟩)) hg hat); have n1_ := Aside0.mk (Kd.R_over' (R_later HO_42.out) (Kd.R_typed (R_later HO_12.out)) (by decide) hg); have n2_ := Aside0.mk (hb); have n3_ := Aside0.mk (ho); clear HO_10; clear HO_42; clear HB; clear HO_12; have HO_10 := n0_; have HO_42 := n1_; have HB := n2_; have HO331 := n3_; clear n0_ n1_ n2_ n3_; clear ho hb hg hat)); try go_wp2_with (first | (go_at_call 39; (with_reducible refine (impl_within.calls (rd t312 x44_2) 0 (x13_2.size : Int) true _ A19.out).mono ?_); rintro e w' ⟨rfl, ⟨nd, rfl⟩⟩; (try first | exact ⟨rfl, _, World.drewN_drewN _ _ _⟩ | exact ⟨rfl, _, Eq.trans (World.drewN_drewN _ _ _) (congrArg (World.drewN _) (Nat.add_assoc _ _ _))⟩); obtain ⟨Ao28, co28, eo28⟩ := Kd.R_slice HO_10.out; subst eo28; have p327 : 0 ≤ (x44_2 : Int) := of_decide_eq_true (by first | (with_reducible assumption) | assumption); have q327 : x44_2 < (t317.length : Int) := of_decide_eq_true (by first | (with_reducible assumption) | assumption); obtain ⟨ad327, e327, hx327_0, hx327_1⟩ := at_T59 (Kd.R_reads' HO_10.out).2.2 x44_2 p327 q327; cases e327; replace p327 := eq_true p327; replace q327 := eq_true q327; have p328 : 0 ≤ (x44_2 : Int) := of_decide_eq_true (by first | (with_reducible assumption) | assumption); have q328 : x44_2 < (t317.length : Int) := of_decide_eq_true (by first | (with_reducible assumption) | assumption); obtain ⟨ad328, e328, hx328_0, hx328_1⟩ := at_T59 (Kd.R_reads' HO_10.out).2.2 x44_2 p328 q328; obtain rfl : ad327 = ad328 := (by injection e328); replace p328 := eq_true p328; replace q328 := eq_true q328) | ((with_reducible refine gate_builtin (b := .append) (xs := #[.tmp 74, .tmp 77]) rfl ?_); (try (refine gate_guard (by rfl) ?_; dsimp only)); at_builtin; refine Kd.R_append k59 (w0 := w) w.heap.size rfl (.tmp 74) (.tmp 77) 37 59 (.agg #[(.int .i64 0), (.string ⟨#[]⟩)]) 24 rfl Try.underlying37 info59 rfl (by decide) (by omega) u12 x12_2 (⟨0, (x13_2.extract 0 ((rd t312 x44_2) : Int).toNat) ++ ((rd_T59 t317 x44_2).f1)⟩ : S59) [.int .i64 0, .string ((x13_2.extract 0 ((rd t312 x44_2) : Int).toNat) ++ ((rd_T59 t317 x44_2).f1))] (fun k_ => some k_ ≠ (.slice (some ad327) t317.length co28 : Value).ownBlock) (fun _ => False) rfl rfl ?aP (fun _ hk => hk.elim) ?aF ?aO ?aB ?aS ?aL ?_; (case aP => exact k59_mkM _ _ _ (⟨0, (x13_2.extract 0 ((rd t312 x44_2) : Int).toNat) ++ ((rd_T59 t317 x44_2).f1)⟩ : S59)); (case aB => exact (below_later HB.out)); (case aF => exact (fun k_ hk => Kd.fresh' (Kd.R_lt (R_later HO_10.out)) k_ hk)); (case aO => exact (R_later HO_12.out)); (case aS => exact (below_size (below_later HB.out))); (case aL => have := LMc27.out; omega); intro v330 w29 ho hb hg hat; rw [← Ny329.out] at ho; have n0_ := Aside0.mk (Kd.R_after (ok := (fun _ => True)) (by (with_reducible repeat (first | apply Kd.R_alloc | apply Kd.R_drewN | apply Kd.R_drew)); exact Kd.R_mono HO_10.out (fun _ hk => ⟨trivial, hk⟩)) hg hat); have n1_ := Aside0.mk (Kd.R_over' (R_later HO_42.out) (Kd.R_typed (R_later HO_12.out)) (by decide) hg); have n2_ := Aside0.mk (hb); have n3_ := Aside0.mk (ho); clear HO_10; clear HO_42; clear HB; clear HO_12; have HO_10 := n0_; have HO_42 := n1_; have HB := n2_; have HO331 := n3_; clear n0_ n1_ n2_ n3_; clear ho hb hg hat)))
                                  go_roundg k2
                                  case measure => have := HJ5.out; have := HK2.out; omega
                                  case rel => exact ⟨(y329), ((x13_2.extract 0 ((rd t312 x44_2) : Int).toNat) ++ ((rd_T59 t317 x44_2).f1)), (wrap64 (x44_2 + 1)), (by first | rfl | (simp; done) | (simp [*]; done)), (by first | rfl | (simp; done) | (simp [*]; done)), H', ⟨by have := HJ5.out; have := HK2.out; omega⟩, ⟨by (with_reducible repeat (first | apply Kd.R_alloc | apply Kd.R_drewN | apply Kd.R_drew)); exact Kd.R_mono HO_10.out (fun _ hk => hk.2)⟩, ⟨by (with_reducible repeat (first | apply Kd.R_alloc | apply Kd.R_drewN | apply Kd.R_drew)); exact HO331.out⟩, ⟨by (with_reducible repeat (first | apply Kd.R_alloc | apply Kd.R_drewN | apply Kd.R_drew)); exact HO_42.out⟩, ⟨below_later HB.out⟩⟩
                                · rw [if_neg c27] at H
                                  exact absurd H (by simp)
                              · rw [if_neg c26] at H
                                exact absurd H (by simp)
                            · rw [if_neg c25] at H
                              exact absurd H (by simp)
                          · rw [if_neg c24] at H
                            exact absurd H (by simp)
                      · rw [if_neg c21] at H
                        exact absurd H (by simp)
                    · replace c20 := Bool.eq_false_iff.mpr c20
                      subst c20
                      have H1 : (some (([] : List (S59)), 0, false)) = some (r1, r2, r3) := by rw [if_neg (show ¬ (false = true) by decide)] at H; exact H
                      clear H
                      have H := H1
                      clear H1
                      simp only [Option.some.injEq, Prod.mk.injEq] at H
                      obtain ⟨rfl, rfl, rfl⟩ := H
                      have p325 : 0 ≤ (x44_2 : Int) := of_decide_eq_true (by first | (with_reducible assumption) | assumption)
                      have q325 : x44_2 < (t312.length : Int) := of_decide_eq_true (by first | (with_reducible assumption) | assumption)
                      obtain ⟨ad325, e325, hx325_0⟩ := Kd.at_int (Kd.R_reads' HO_42.out).2.2 x44_2 p325 q325
                      cases e325
                      replace p325 := eq_true p325
                      replace q325 := eq_true q325
                      go_wp2_with (first | (go_at_call 39; (with_reducible refine (impl_within.calls (rd t312 x44_2) 0 (x13_2.size : Int) false _ A19.out).mono ?_); rintro e w' ⟨rfl, ⟨nd, rfl⟩⟩; (try first | exact ⟨rfl, _, World.drewN_drewN _ _ _⟩ | exact ⟨rfl, _, Eq.trans (World.drewN_drewN _ _ _) (congrArg (World.drewN _) (Nat.add_assoc _ _ _))⟩)))
                      repeat (go_quiet (first | (go_at_call 39; (with_reducible refine (impl_within.calls (rd t312 x44_2) 0 (x13_2.size : Int) false _ A19.out).mono ?_); rintro e w' ⟨rfl, ⟨nd, rfl⟩⟩; (try first | exact ⟨rfl, _, World.drewN_drewN _ _ _⟩ | exact ⟨rfl, _, Eq.trans (World.drewN_drewN _ _ _) (congrArg (World.drewN _) (Nat.add_assoc _ _ _))⟩))); try go_wp2_with (first | (go_at_call 39; (with_reducible refine (impl_within.calls (rd t312 x44_2) 0 (x13_2.size : Int) false _ A19.out).mono ?_); rintro e w' ⟨rfl, ⟨nd, rfl⟩⟩; (try first | exact ⟨rfl, _, World.drewN_drewN _ _ _⟩ | exact ⟨rfl, _, Eq.trans (World.drewN_drewN _ _ _) (congrArg (World.drewN _) (Nat.add_assoc _ _ _))⟩))))
                      go_ret3
                      exact ⟨_, by first | rfl | (simp [errW_none, errW_some] <;> rfl) | (simp [*, errW_none, errW_some] <;> rfl), by first | exact Kd.R_nil _ _ _ _ _ | exact Kd.N_nil _ _ _ _ _ | exact Kd.V_nil _ _ _ _ _ | exact Kd.Q_nil _ _ _ _ _ | exact Kd.S_nil _ _ _ _ _, below_later HB.out⟩
                  · rw [if_neg c18] at H
                    exact absurd H (by simp)
                · rw [if_neg c17] at H
                  exact absurd H (by simp)
              · rw [if_neg c16] at H
                have c16b0 : decide (x44_2 < (t312.length : Int)) = false := decide_eq_false c16
                clear c16
                simp only [Option.some.injEq, Prod.mk.injEq] at H
                obtain ⟨rfl, rfl, rfl⟩ := H
                go_wp2
                repeat (go_quiet (fail); try go_wp2)
                go_ret3
                exact ⟨_, by first | rfl | (simp [errW_none, errW_some] <;> rfl) | (simp [*, errW_none, errW_some] <;> rfl), by (with_reducible repeat (first | apply Kd.R_alloc | apply Kd.R_drewN | apply Kd.R_drew)); exact Kd.R_mono HO_12.out (fun _ hk => trivial), below_later HB.out⟩
  · replace c4 := Bool.eq_false_iff.mpr c4
    subst c4
    have H1 : (some (([] : List (S59)), 0, false)) = some (r1, r2, r3) := by rw [if_neg (show ¬ (false = true) by decide)] at H; exact H
    clear H
    have H := H1
    clear H1
    simp only [Option.some.injEq, Prod.mk.injEq] at H
    obtain ⟨rfl, rfl, rfl⟩ := H
    go_enter Try.func28, Try.ntmps28
    go_wp2_with (first | (go_at_call 11; (with_reducible refine (impl_DeltaRead.calls k _ _ l0 a1 t312 t313 false _ ?side1 ?side2 A3.out).mono ?_); (case side1 => repeat (first | exact HR0.out | (with_reducible refine Kd.C_alloc ?_ _) | (with_reducible refine Kd.C_drewN ?_ _) | (with_reducible refine Kd.C_drew ?_))); (case side2 => exact HC0.out); rintro e w30 ⟨v315, rfl, ho0, hb⟩; have n0_ := Aside0.mk (Kd.R_lower ho0 (below_size (below_later HB.out))); have n1_ := Aside0.mk (below_step (below_later HB.out) hb); clear HB; have HO316 := n0_; have HB := n1_; clear n0_ n1_; (try clear hb); (try clear hb2); (try clear hk); (try clear hi); (try clear ho0)))
    repeat (go_quiet (first | (go_at_call 11; (with_reducible refine (impl_DeltaRead.calls k _ _ l0 a1 t312 t313 false _ ?side1 ?side2 A3.out).mono ?_); (case side1 => repeat (first | exact HR0.out | (with_reducible refine Kd.C_alloc ?_ _) | (with_reducible refine Kd.C_drewN ?_ _) | (with_reducible refine Kd.C_drew ?_))); (case side2 => exact HC0.out); rintro e w30 ⟨v315, rfl, ho0, hb⟩; have n0_ := Aside0.mk (Kd.R_lower ho0 (below_size (below_later HB.out))); have n1_ := Aside0.mk (below_step (below_later HB.out) hb); clear HB; have HO316 := n0_; have HB := n1_; clear n0_ n1_; (try clear hb); (try clear hb2); (try clear hk); (try clear hi); (try clear ho0))); try go_wp2_with (first | (go_at_call 11; (with_reducible refine (impl_DeltaRead.calls k _ _ l0 a1 t312 t313 false _ ?side1 ?side2 A3.out).mono ?_); (case side1 => repeat (first | exact HR0.out | (with_reducible refine Kd.C_alloc ?_ _) | (with_reducible refine Kd.C_drewN ?_ _) | (with_reducible refine Kd.C_drew ?_))); (case side2 => exact HC0.out); rintro e w30 ⟨v315, rfl, ho0, hb⟩; have n0_ := Aside0.mk (Kd.R_lower ho0 (below_size (below_later HB.out))); have n1_ := Aside0.mk (below_step (below_later HB.out) hb); clear HB; have HO316 := n0_; have HB := n1_; clear n0_ n1_; (try clear hb); (try clear hb2); (try clear hk); (try clear hi); (try clear ho0))))
    go_ret3
    exact ⟨_, by first | rfl | (simp [errW_none, errW_some] <;> rfl) | (simp [*, errW_none, errW_some] <;> rfl), by first | exact Kd.R_nil _ _ _ _ _ | exact Kd.N_nil _ _ _ _ _ | exact Kd.V_nil _ _ _ _ _ | exact Kd.Q_nil _ _ _ _ _ | exact Kd.S_nil _ _ _ _ _, below_later HB.out⟩

end Go.Proofs.Ytgcanbeckamjeaa.PFnExactFrontRead
