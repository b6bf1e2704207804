/- The machine's side of FnExactPredMay, written by wip/tools/hyb.py of this repo: each Go function as a plain Lean function, and the proof that the call comes to just its answer. No condition. -/
import Derived.Test.YtlioghbcomdghaaPFnExactPredMayx0
import Derived.Test.YtlioghbcomdghaaPFnExactPredMayx1
import Derived.Test.YtlioghbcomdghaaPFnExactPredMayx8
namespace Go.Proofs.Ytlioghbcomdghaa.PFnExactPredMay
open Go.RowKit Go.Proofs.YtlioghbcomdghaaW.PrintWords Go.Proofs.YtlioghbcomdghaaW.PrintLast Go.Proofs.YtlioghbcomdghaaW.PrintMore Go.Proofs.YtlioghbcomdghaaW.PrintMore2
attribute [local go_sem] max2_int min2_int max_two min_two max_three min_three max_four min_four   -- for this text's walks alone
set_option linter.unusedVariables false
set_option linter.unusedSimpArgs false

attribute [local go_sem high] eqA59
/-! ### impl_wayTo: function 57 -/
def impl_wayTo.l0 : Nat → List (S57) → Int → List Int → List Int → Int → Option (List Int)
  | 0, _, _, _, _, _ => none
  | k + 1, x0, x1, x5, x6, x7 => if 0 ≤ x1 then (if x1 < (x5.length : Int) then (if x7 ≤ (rd x5 x1) then ((impl_colAfter.f k x0 x7 1).bind fun t330 => (if t330 > (rd x5 x1) then (if x6.length < 17592186044416 then (impl_wayTo.l0 k x0 x1 x5 (x6 ++ [x7]) (wrap64 (x7 + 1))) else (none)) else (impl_wayTo.l0 k x0 x1 x5 x6 t330))) else (some x6)) else (none)) else (none)
def impl_wayTo.f (k : Nat) (l0 : List (S57)) (a1 : Int) : Option (List Int) := (impl_SchemaLeaves.f k l0).bind fun t322 => ((impl_within.f a1 0 (wrap64 ((t322.length : Int) - 1))).bind fun t325 => (if t325 = true then (impl_wayTo.l0 k l0 a1 t322 (([] : List Int)) 1) else (some ([] : List Int))))
set_option maxHeartbeats 8000000 in
set_option maxRecDepth 100000 in
theorem impl_wayTo.calls (k : Nat) (A0 : Option Addr) (c0 : Nat) (l0 : List (S57)) (a1 : Int) (r : List Int) (w : World) (hr0 : Kd.C k57 w A0 l0.length l0) (hc0 : l0.length ≤ c0) (h : impl_wayTo.f k l0 a1 = some r) :
    Calls Try.prog 57 #[.slice A0 l0.length c0, .int .i64 a1] w fun e w' => ∃ v0_ : Value, e = .returned (v0_) ∧ Kd.R (Kd.int .i64) 3 w' w.heap.size (fun _ => True) v0_ r ∧ Below w.heap.size w w' := by
  have HR0 := Aside0.mk hr0
  have HC0 := Aside0.mk hc0
  clear hr0 hc0
  have HB := Aside0.mk (Below.refl w.heap.size w)
  have H : ((impl_SchemaLeaves.f k l0).bind fun t322 => ((impl_within.f a1 0 (wrap64 ((t322.length : Int) - 1))).bind fun t325 => (if t325 = true then (impl_wayTo.l0 k l0 a1 t322 (([] : List Int)) 1) else (some ([] : List Int))))) = some r := h
  clear h
  replace H := bnd H
  obtain ⟨t322, A3, H⟩ := H
  replace H := bnd H
  obtain ⟨t325, A4, H⟩ := H
  by_cases c5 : t325 = true
  · subst c5
    replace H := ifp rfl H
    obtain ⟨y326, hy326⟩ : ∃ y_ : List Int, y_ = (([] : List Int)) := ⟨_, rfl⟩
    replace H : (impl_wayTo.l0 k l0 a1 t322 y326 1) = some r := by first | (rw [hy326]; with_reducible exact H) | (rw [hy326]; exact H) | exact H
    have Ny326 := Aside0.mk hy326
    clear hy326
    have H' := Aside0.mk H
    clear H
    go_enter Try.func57, Try.ntmps57
    go_wp2_with (first | ((with_reducible refine gate_callee (f := 45) rfl ?_); refine gl_ (some 10) Try.func45 #[.slice A0 l0.length c0] rfl ?_; (with_reducible refine (impl_SchemaLeaves.calls k _ _ l0 t322 _ ?side1 ?side2 A3.out).mono ?_); (case side1 => exact C_later HR0.out); (case side2 => exact HC0.out); rintro e w6 ⟨v323, rfl, ho0, hb⟩; refine ⟨_, rfl, ?_⟩; have HO324 := Aside0.mk (Kd.R_lower ho0 (below_size (below_later HB.out))); replace HB := bst HB hb; (try clear hb); (try clear hk); (try clear ho0); obtain ⟨Ao7, co7, eo7⟩ := Kd.R_slice HO324.out; subst eo7) | ((with_reducible refine gate_callee (f := 42) rfl ?_); refine gl_ (some 15) Try.func42 #[.int .i64 a1, .int .i64 0, .int .i64 (wrap64 ((t322.length : Int) - 1))] rfl ?_; (with_reducible refine (impl_within.calls a1 0 (wrap64 ((t322.length : Int) - 1)) true _ A4.out).mono ?_); rintro e w' ⟨rfl, ⟨nd, rfl⟩⟩; refine ⟨_, rfl, ?_⟩) | ((with_reducible refine gate_dst (N := 17) rfl ?_); refine Kd.R_lit (Kd.int .i64) _ 3 ?hg (N := 17) ?hd (xs := ([] : List Int)) (inner := []) (ok := fun _ => True) (okp := fun _ => True) ?hr ?hp (fun _ hk => hk) trivial (Below.refl _ _) (Nat.le_refl _) (by simp) ?_; (case hd => rfl); (case hg => rfl); (case hr => first | (go_simp; done) | (go_simp; rfl)); (case hp => exact (Reps.none _ _)); intro v327 w8 ho9 hb hg_ hnew_; clear hg_ hnew_; (first | rw [← Ny326.out] at ho9 | (simp only [Int.reduceToNat] at ho9; rw [← Ny326.out] at ho9)); have HO328 := Aside0.mk (Kd.R_lower (Kd.R_new' ho9 (Kd.R_lt (R_later HO324.out))) (below_size (below_later HB.out))); replace HO324 := Aside0.mk (Kd.R_elder' (R_later HO324.out) (Kd.R_base ho9) hb); replace HB := bst HB hb; clear hb ho9))
    go_loopg [6, 7] k (fun kq v6 v7 w' => ∃ (x6_1 : List Int) (x7_1 : Int), v7 = .int .i64 x7_1 ∧ Aside0 (impl_wayTo.l0 kq l0 a1 t322 x6_1 x7_1 = some r) ∧ Aside0 (kq ≤ k) ∧ Aside0 (Kd.R (Kd.int .i64) 3 w' w.heap.size (fun k_ => some k_ ≠ (v6 : Value).ownBlock) (.slice Ao7 t322.length co7) t322) ∧ Aside0 (Kd.R (Kd.int .i64) 3 w' w.heap.size (fun k_ => some k_ ≠ ((.slice Ao7 t322.length co7) : Value).ownBlock) v6 x6_1) ∧ Aside0 (Below w.heap.size w w'))
    case atStart => exact ⟨(y326), (1), sr, H', ⟨Nat.le_refl _⟩, ⟨R_later (Kd.R_mono HO324.out (fun _ hk => hk.2))⟩, ⟨R_later (Kd.R_mono HO328.out (fun _ hk => hk.2))⟩, ⟨below_later HB.out⟩⟩
    case round =>
      clear H'
      try clear c5
      obtain ⟨x6_1, x7_1, rfl, HA, HK1, HO_5, HO_6, HB⟩ := hrel
      cases gk with
      | zero => exact absurd HA.out (by simp [impl_wayTo.l0])
      | succ k1 =>
        have H := HA.out
        clear HA
        simp only [impl_wayTo.l0] at H
        replace H := ifd H
        obtain ⟨c10b0, H⟩ := H
        replace H := ifd H
        obtain ⟨c11b0, H⟩ := H
        by_cases c12 : x7_1 ≤ (rd t322 a1)
        · rw [if_pos c12] at H
          have c12b0 := decide_eq_true c12
          clear c12
          replace H := bnd H
          obtain ⟨t330, A13, H⟩ := H
          by_cases c14 : t330 > (rd t322 a1)
          · rw [if_pos c14] at H
            have c14b0 : decide ((rd t322 a1) < t330) = true := decide_eq_true c14
            clear c14
            replace H := ifs H
            obtain ⟨c15, H⟩ := H
            have LMc15 := Aside0.mk c15
            clear c15
            obtain ⟨y332, hy332⟩ : ∃ y_ : List Int, y_ = (x6_1 ++ [x7_1]) := ⟨_, rfl⟩
            replace H : (impl_wayTo.l0 k1 l0 a1 t322 y332 (wrap64 (x7_1 + 1))) = some r := by first | (rw [hy332]; with_reducible exact H) | (rw [hy332]; exact H) | exact H
            have Ny332 := Aside0.mk hy332
            clear hy332
            have H' := Aside0.mk H
            clear H
            have p329 : 0 ≤ (a1 : Int) := dcd
            have q329 : a1 < (t322.length : Int) := dcd
            obtain ⟨ad329, e329, hx329_0⟩ := Kd.at_int (Kd.R_reads' HO_5.out).2.2 a1 p329 q329
            cases e329
            replace p329 := eq_true p329
            replace q329 := eq_true q329
            go_wp2_with (first | ((with_reducible refine gate_callee (f := 55) rfl ?_); refine gl_ (some 26) Try.func55 #[.slice A0 l0.length c0, .int .i64 x7_1, .int .i64 1] rfl ?_; (with_reducible refine (impl_colAfter.calls k1 _ _ l0 x7_1 1 t330 _ ?side1 ?side2 A13.out).mono ?_); (case side1 => repeat (first | exact (Kd.C_below HR0.out HB.out) | (with_reducible refine Kd.C_alloc ?_ _) | (with_reducible refine Kd.C_drewN ?_ _) | (with_reducible refine Kd.C_drew ?_))); (case side2 => exact HC0.out); rintro e w16 ⟨rfl, hb⟩; refine ⟨_, rfl, ?_⟩; replace HO_5 := Aside0.mk (Kd.R_below (R_later HO_5.out) hb); replace HO_6 := Aside0.mk (Kd.R_below (R_later HO_6.out) hb); replace HB := bst HB hb; (try clear hb); (try clear hk); have p331 : 0 ≤ (a1 : Int) := dcd; have q331 : a1 < (t322.length : Int) := dcd; obtain ⟨ad331, e331, hx331_0⟩ := Kd.at_int (Kd.R_reads' HO_5.out).2.2 a1 p331 q331; obtain rfl : ad329 = ad331 := (by injection e331); replace p331 := eq_true p331; replace q331 := eq_true q331) | ((with_reducible refine gate_builtin (b := .append) (xs := #[.tmp 33, .tmp 35]) rfl ?_); at_builtin; refine Kd.R_append (Kd.int .i64) (w0 := w) w.heap.size rfl (.tmp 33) (.tmp 35) 54 3 (.int .i64 0) 8 rfl Try.underlying54 info3 rfl (by decide) (by omega) u6 x6_1 x7_1 [.int .i64 x7_1] (fun k_ => some k_ ≠ (.slice (some ad329) t322.length co7 : Value).ownBlock) (fun _ => False) rfl rfl ?aP (fun _ hk => hk.elim) ?aF ?aO ?aB ?aS ?aL ?_; (case aP => exact rfl); (case aB => exact (below_later HB.out)); (case aF => exact (fun k_ hk => Kd.fresh' (Kd.R_lt (R_later HO_5.out)) k_ hk)); (case aO => exact (R_later HO_6.out)); (case aS => exact (below_size (below_later HB.out))); (case aL => have := LMc15.out; omega); intro v333 w17 ho hb hg hat; rw [← Ny332.out] at ho; have n0_ := Aside0.mk (Kd.R_after (ok := (fun _ => True)) (by (with_reducible repeat (first | apply Kd.R_alloc | apply Kd.R_drewN | apply Kd.R_drew)); exact Kd.R_mono HO_5.out (fun _ hk => ⟨trivial, hk⟩)) hg hat); have n1_ := Aside0.mk (hb); have n2_ := Aside0.mk (ho); clear HO_5; clear HB; clear HO_6; have HO_5 := n0_; have HB := n1_; have HO334 := n2_; clear n0_ n1_ n2_; clear ho hb hg hat))
            go_roundg k1
            case measure => have := HK1.out; omega
            case rel => exact ⟨(y332), (wrap64 (x7_1 + 1)), sr, H', ⟨by have := HK1.out; omega⟩, ⟨R_later (Kd.R_mono HO_5.out (fun _ hk => hk.2))⟩, ⟨R_later HO334.out⟩, ⟨below_later HB.out⟩⟩
          · rw [if_neg c14] at H
            have c14b0 : decide ((rd t322 a1) < t330) = false := decide_eq_false c14
            clear c14
            have H' := Aside0.mk H
            clear H
            have p329 : 0 ≤ (a1 : Int) := dcd
            have q329 : a1 < (t322.length : Int) := dcd
            obtain ⟨ad329, e329, hx329_0⟩ := Kd.at_int (Kd.R_reads' HO_5.out).2.2 a1 p329 q329
            cases e329
            replace p329 := eq_true p329
            replace q329 := eq_true q329
            go_wp2_with (first | ((with_reducible refine gate_callee (f := 55) rfl ?_); refine gl_ (some 26) Try.func55 #[.slice A0 l0.length c0, .int .i64 x7_1, .int .i64 1] rfl ?_; (with_reducible refine (impl_colAfter.calls k1 _ _ l0 x7_1 1 t330 _ ?side1 ?side2 A13.out).mono ?_); (case side1 => repeat (first | exact (Kd.C_below HR0.out HB.out) | (with_reducible refine Kd.C_alloc ?_ _) | (with_reducible refine Kd.C_drewN ?_ _) | (with_reducible refine Kd.C_drew ?_))); (case side2 => exact HC0.out); rintro e w18 ⟨rfl, hb⟩; refine ⟨_, rfl, ?_⟩; replace HO_5 := Aside0.mk (Kd.R_below (R_later HO_5.out) hb); replace HO_6 := Aside0.mk (Kd.R_below (R_later HO_6.out) hb); replace HB := bst HB hb; (try clear hb); have p331 : 0 ≤ (a1 : Int) := dcd; have q331 : a1 < (t322.length : Int) := dcd; obtain ⟨ad331, e331, hx331_0⟩ := Kd.at_int (Kd.R_reads' HO_5.out).2.2 a1 p331 q331; obtain rfl : ad329 = ad331 := (by injection e331); replace p331 := eq_true p331; replace q331 := eq_true q331))
            go_roundg k1
            case measure => have := HK1.out; omega
            case rel => exact ⟨(x6_1), (t330), sr, H', ⟨by have := HK1.out; omega⟩, ⟨R_later HO_5.out⟩, ⟨R_later HO_6.out⟩, ⟨below_later HB.out⟩⟩
        · rw [if_neg c12] at H
          have c12b0 := decide_eq_false c12
          clear c12
          obtain rfl := Option.some.inj H
          have p329 : 0 ≤ (a1 : Int) := dcd
          have q329 : a1 < (t322.length : Int) := dcd
          obtain ⟨ad329, e329, hx329_0⟩ := Kd.at_int (Kd.R_reads' HO_5.out).2.2 a1 p329 q329
          cases e329
          replace p329 := eq_true p329
          replace q329 := eq_true q329
          go_wp2
          go_ret
          exact ⟨_, by first | rfl | (simp [errW_none, errW_some] <;> rfl) | (simp [*, errW_none, errW_some] <;> rfl), by (with_reducible repeat (first | apply Kd.R_alloc | apply Kd.R_drewN | apply Kd.R_drew)); exact Kd.R_mono HO_6.out (fun _ hk => trivial), below_later HB.out⟩
  · replace c5 := Bool.eq_false_iff.mpr c5
    subst c5
    replace H := ifn Bool.false_ne_true H
    obtain rfl := Option.some.inj H
    go_enter Try.func57, Try.ntmps57
    go_wp2_with (first | ((with_reducible refine gate_callee (f := 45) rfl ?_); refine gl_ (some 10) Try.func45 #[.slice A0 l0.length c0] rfl ?_; (with_reducible refine (impl_SchemaLeaves.calls k _ _ l0 t322 _ ?side1 ?side2 A3.out).mono ?_); (case side1 => exact C_later HR0.out); (case side2 => exact HC0.out); rintro e w19 ⟨v323, rfl, ho0, hb⟩; refine ⟨_, rfl, ?_⟩; have HO324 := Aside0.mk (Kd.R_lower ho0 (below_size (below_later HB.out))); replace HB := bst HB hb; (try clear hb); (try clear ho0); obtain ⟨Ao20, co20, eo20⟩ := Kd.R_slice HO324.out; subst eo20) | ((with_reducible refine gate_callee (f := 42) rfl ?_); refine gl_ (some 15) Try.func42 #[.int .i64 a1, .int .i64 0, .int .i64 (wrap64 ((t322.length : Int) - 1))] rfl ?_; (with_reducible refine (impl_within.calls a1 0 (wrap64 ((t322.length : Int) - 1)) false _ A4.out).mono ?_); rintro e w' ⟨rfl, ⟨nd, rfl⟩⟩; refine ⟨_, rfl, ?_⟩))
    go_ret
    exact ⟨_, by first | rfl | (simp [errW_none, errW_some] <;> rfl) | (simp [*, errW_none, errW_some] <;> rfl), by first | exact Kd.R_nil _ _ _ _ _ | exact Kd.N_nil _ _ _ _ _ | exact Kd.V_nil _ _ _ _ _ | exact Kd.Q_nil _ _ _ _ _ | exact Kd.S_nil _ _ _ _ _, below_later HB.out⟩

/-! ### impl_LeafMax: function 46 -/
def impl_LeafMax.l0 : Nat → List (S57) → Int → Int → List Int → Int → Int → Option (Int × Int)
  | 0, _, _, _, _, _, _ => none
  | k + 1, x0, x7, x8, x17, x18, x19 => if x19 < x18 then (if 0 ≤ x19 then (if x19 < (x17.length : Int) then (if 0 ≤ (rd x17 x19) then (if (rd x17 x19) < (x0.length : Int) then (if ((rd_T57 x0 (rd x17 x19)).f2) = 0 then (if ((rd_T57 x0 (rd x17 x19)).f2) = 2 then (impl_LeafMax.l0 k x0 x7 (wrap64 (x8 + 1)) x17 x18 (wrap64 (x19 + 1))) else (impl_LeafMax.l0 k x0 x7 x8 x17 x18 (wrap64 (x19 + 1)))) else (if ((rd_T57 x0 (rd x17 x19)).f2) = 2 then (impl_LeafMax.l0 k x0 (wrap64 (x7 + 1)) (wrap64 (x8 + 1)) x17 x18 (wrap64 (x19 + 1))) else (impl_LeafMax.l0 k x0 (wrap64 (x7 + 1)) x8 x17 x18 (wrap64 (x19 + 1))))) else (none)) else (none)) else (none)) else (none)) else (some (x7, x8))
def impl_LeafMax.f (k : Nat) (l0 : List (S57)) (a1 : Int) : Option (Int × Int) := (impl_wayTo.f k l0 a1).bind fun t335 => (if (t335.length : Int) = 0 then (some ((-1), (-1))) else (impl_LeafMax.l0 k l0 0 0 t335 (t335.length : Int) 0))
set_option maxHeartbeats 8000000 in
set_option maxRecDepth 100000 in
theorem impl_LeafMax.calls (k : Nat) (A0 : Option Addr) (c0 : Nat) (l0 : List (S57)) (a1 : Int) (r1 : Int) (r2 : Int) (w : World) (hr0 : Kd.C k57 w A0 l0.length l0) (hc0 : l0.length ≤ c0) (h : impl_LeafMax.f k l0 a1 = some (r1, r2)) :
    Calls Try.prog 46 #[.slice A0 l0.length c0, .int .i64 a1] w fun e w' => e = .returned (.tuple #[.int .i64 r1, .int .i64 r2]) ∧ Below w.heap.size w w' := by
  have HR0 := Aside0.mk hr0
  have HC0 := Aside0.mk hc0
  clear hr0 hc0
  have HB := Aside0.mk (Below.refl w.heap.size w)
  have H : ((impl_wayTo.f k l0 a1).bind fun t335 => (if (t335.length : Int) = 0 then (some ((-1), (-1))) else (impl_LeafMax.l0 k l0 0 0 t335 (t335.length : Int) 0))) = some (r1, r2) := h
  clear h
  replace H := bnd H
  obtain ⟨t335, A3, H⟩ := H
  by_cases c4 : (t335.length : Int) = 0
  · rw [if_pos c4] at H
    have c4b0 : ((t335.length : Int) == 0) = true := beq_iff_eq.mpr c4
    have c4b1 : ((t335.length : Int) != 0) = false := bne_eq_false_iff_eq.mpr c4
    clear c4
    simp only [Option.some.injEq, Prod.mk.injEq] at H
    obtain ⟨rfl, rfl⟩ := H
    go_enter Try.func46, Try.ntmps46
    go_wp2_with (first | ((with_reducible refine gate_callee (f := 57) rfl ?_); refine gl_ (some 13) Try.func57 #[.slice A0 l0.length c0, .int .i64 a1] rfl ?_; (with_reducible refine (impl_wayTo.calls k _ _ l0 a1 t335 _ ?side1 ?side2 A3.out).mono ?_); (case side1 => exact C_later HR0.out); (case side2 => exact HC0.out); rintro e w5 ⟨v336, rfl, ho0, hb⟩; refine ⟨_, rfl, ?_⟩; have HO337 := Aside0.mk (Kd.R_lower ho0 (below_size (below_later HB.out))); replace HB := bst HB hb; (try clear hb); (try clear ho0); obtain ⟨Ao6, co6, eo6⟩ := Kd.R_slice HO337.out; subst eo6))
    go_ret2
    exact fin_ (below_later HB.out)
  · rw [if_neg c4] at H
    have c4b0 : ((t335.length : Int) == 0) = false := beq_eq_false_iff_ne.mpr c4
    have c4b1 : ((t335.length : Int) != 0) = true := bne_iff_ne.mpr c4
    have c4b2 : ¬ (t335 = []) := fun h_ => c4 (by rw [h_]; rfl)
    have H' := Aside0.mk H
    clear H
    go_enter Try.func46, Try.ntmps46
    go_wp2_with (first | ((with_reducible refine gate_callee (f := 57) rfl ?_); refine gl_ (some 13) Try.func57 #[.slice A0 l0.length c0, .int .i64 a1] rfl ?_; (with_reducible refine (impl_wayTo.calls k _ _ l0 a1 t335 _ ?side1 ?side2 A3.out).mono ?_); (case side1 => exact C_later HR0.out); (case side2 => exact HC0.out); rintro e w7 ⟨v336, rfl, ho0, hb⟩; refine ⟨_, rfl, ?_⟩; have HO337 := Aside0.mk (Kd.R_lower ho0 (below_size (below_later HB.out))); replace HB := bst HB hb; (try clear hb); (try clear ho0); obtain ⟨Ao8, co8, eo8⟩ := Kd.R_slice HO337.out; subst eo8))
    go_loopg [7, 8, 19] k (fun kq v7 v8 v19 w' => ∃ (x7_1 : Int) (x8_1 : Int) (x19_1 : Int), v7 = .int .i64 x7_1 ∧ v8 = .int .i64 x8_1 ∧ v19 = .int .i64 x19_1 ∧ Aside0 (impl_LeafMax.l0 kq l0 x7_1 x8_1 t335 (t335.length : Int) x19_1 = some (r1, r2)) ∧ Aside0 (kq ≤ k) ∧ Aside0 (Kd.R (Kd.int .i64) 3 w' w.heap.size (fun _ => True) (.slice Ao8 t335.length co8) t335) ∧ Aside0 (Below w.heap.size w w'))
    case atStart => exact ⟨(0), (0), (0), sr, sr, sr, H', ⟨Nat.le_refl _⟩, ⟨R_later HO337.out⟩, ⟨below_later HB.out⟩⟩
    case round =>
      clear H'
      try clear c4
      try clear c4b0
      try clear c4b1
      try clear c4b2
      obtain ⟨x7_1, x8_1, x19_1, rfl, rfl, rfl, HA, HK1, HO_17, HB⟩ := hrel
      cases gk with
      | zero => exact absurd HA.out (by simp [impl_LeafMax.l0])
      | succ k1 =>
        have H := HA.out
        clear HA
        simp only [impl_LeafMax.l0] at H
        by_cases c9 : x19_1 < (t335.length : Int)
        · rw [if_pos c9] at H
          have c9b0 := decide_eq_true c9
          clear c9
          replace H := ifd H
          obtain ⟨c10b0, H⟩ := H
          replace H := ifd H
          obtain ⟨c11b0, H⟩ := H
          replace H := ifd H
          obtain ⟨c12b0, H⟩ := H
          replace H := ifd H
          obtain ⟨c13b0, H⟩ := H
          by_cases c14 : ((rd_T57 l0 (rd t335 x19_1)).f2) = 0
          · rw [if_pos c14] at H
            have c14b0 : (((rd_T57 l0 (rd t335 x19_1)).f2) == 0) = true := beq_iff_eq.mpr c14
            have c14b1 : (((rd_T57 l0 (rd t335 x19_1)).f2) != 0) = false := bne_eq_false_iff_eq.mpr c14
            clear c14
            by_cases c15 : ((rd_T57 l0 (rd t335 x19_1)).f2) = 2
            · rw [if_pos c15] at H
              have c15b0 : (((rd_T57 l0 (rd t335 x19_1)).f2) == 2) = true := beq_iff_eq.mpr c15
              have c15b1 : (((rd_T57 l0 (rd t335 x19_1)).f2) != 2) = false := bne_eq_false_iff_eq.mpr c15
              clear c15
              have H' := Aside0.mk H
              clear H
              have p338 : 0 ≤ (x19_1 : Int) := dcd
              have q338 : x19_1 < (t335.length : Int) := dcd
              obtain ⟨ad338, e338, hx338_0⟩ := Kd.at_int (Kd.R_reads' HO_17.out).2.2 x19_1 p338 q338
              cases e338
              replace p338 := eq_true p338
              replace q338 := eq_true q338
              have p339 : 0 ≤ ((rd t335 x19_1) : Int) := dcd
              have q339 : (rd t335 x19_1) < (l0.length : Int) := dcd
              obtain ⟨ad339, e339, hx339_0, hx339_1, hx339_2, hx339_3⟩ := at_T57 HR0.out (rd t335 x19_1) p339 q339
              cases e339
              replace hx339_0 := crd HB hx339_0
              replace hx339_1 := crd HB hx339_1
              replace hx339_2 := crd HB hx339_2
              replace hx339_3 := crd HB hx339_3
              replace p339 := eq_true p339
              replace q339 := eq_true q339
              have p340 : 0 ≤ ((rd t335 x19_1) : Int) := dcd
              have q340 : (rd t335 x19_1) < (l0.length : Int) := dcd
              obtain ⟨ad340, e340, hx340_0, hx340_1, hx340_2, hx340_3⟩ := at_T57 HR0.out (rd t335 x19_1) p340 q340
              obtain rfl : ad339 = ad340 := (by injection e340)
              replace hx340_0 := crd HB hx340_0
              replace hx340_1 := crd HB hx340_1
              replace hx340_2 := crd HB hx340_2
              replace hx340_3 := crd HB hx340_3
              replace p340 := eq_true p340
              replace q340 := eq_true q340
              go_wp2
              go_roundg k1
              case measure => have := HK1.out; omega
              case rel => exact ⟨(x7_1), (wrap64 (x8_1 + 1)), (wrap64 (x19_1 + 1)), sr, sr, sr, H', ⟨by have := HK1.out; omega⟩, ⟨R_later HO_17.out⟩, ⟨below_later HB.out⟩⟩
            · rw [if_neg c15] at H
              have c15b0 : (((rd_T57 l0 (rd t335 x19_1)).f2) == 2) = false := beq_eq_false_iff_ne.mpr c15
              have c15b1 : (((rd_T57 l0 (rd t335 x19_1)).f2) != 2) = true := bne_iff_ne.mpr c15
              have H' := Aside0.mk H
              clear H
              have p338 : 0 ≤ (x19_1 : Int) := dcd
              have q338 : x19_1 < (t335.length : Int) := dcd
              obtain ⟨ad338, e338, hx338_0⟩ := Kd.at_int (Kd.R_reads' HO_17.out).2.2 x19_1 p338 q338
              cases e338
              replace p338 := eq_true p338
              replace q338 := eq_true q338
              have p339 : 0 ≤ ((rd t335 x19_1) : Int) := dcd
              have q339 : (rd t335 x19_1) < (l0.length : Int) := dcd
              obtain ⟨ad339, e339, hx339_0, hx339_1, hx339_2, hx339_3⟩ := at_T57 HR0.out (rd t335 x19_1) p339 q339
              cases e339
              replace hx339_0 := crd HB hx339_0
              replace hx339_1 := crd HB hx339_1
              replace hx339_2 := crd HB hx339_2
              replace hx339_3 := crd HB hx339_3
              replace p339 := eq_true p339
              replace q339 := eq_true q339
              have p340 : 0 ≤ ((rd t335 x19_1) : Int) := dcd
              have q340 : (rd t335 x19_1) < (l0.length : Int) := dcd
              obtain ⟨ad340, e340, hx340_0, hx340_1, hx340_2, hx340_3⟩ := at_T57 HR0.out (rd t335 x19_1) p340 q340
              obtain rfl : ad339 = ad340 := (by injection e340)
              replace hx340_0 := crd HB hx340_0
              replace hx340_1 := crd HB hx340_1
              replace hx340_2 := crd HB hx340_2
              replace hx340_3 := crd HB hx340_3
              replace p340 := eq_true p340
              replace q340 := eq_true q340
              go_wp2
              go_roundg k1
              case measure => have := HK1.out; omega
              case rel => exact ⟨(x7_1), (x8_1), (wrap64 (x19_1 + 1)), sr, sr, sr, H', ⟨by have := HK1.out; omega⟩, ⟨R_later HO_17.out⟩, ⟨below_later HB.out⟩⟩
          · rw [if_neg c14] at H
            have c14b0 : (((rd_T57 l0 (rd t335 x19_1)).f2) == 0) = false := beq_eq_false_iff_ne.mpr c14
            have c14b1 : (((rd_T57 l0 (rd t335 x19_1)).f2) != 0) = true := bne_iff_ne.mpr c14
            by_cases c16 : ((rd_T57 l0 (rd t335 x19_1)).f2) = 2
            · rw [if_pos c16] at H
              have c16b0 : (((rd_T57 l0 (rd t335 x19_1)).f2) == 2) = true := beq_iff_eq.mpr c16
              have c16b1 : (((rd_T57 l0 (rd t335 x19_1)).f2) != 2) = false := bne_eq_false_iff_eq.mpr c16
              clear c16
              have H' := Aside0.mk H
              clear H
              have p338 : 0 ≤ (x19_1 : Int) := dcd
              have q338 : x19_1 < (t335.length : Int) := dcd
              obtain ⟨ad338, e338, hx338_0⟩ := Kd.at_int (Kd.R_reads' HO_17.out).2.2 x19_1 p338 q338
              cases e338
              replace p338 := eq_true p338
              replace q338 := eq_true q338
              have p339 : 0 ≤ ((rd t335 x19_1) : Int) := dcd
              have q339 : (rd t335 x19_1) < (l0.length : Int) := dcd
              obtain ⟨ad339, e339, hx339_0, hx339_1, hx339_2, hx339_3⟩ := at_T57 HR0.out (rd t335 x19_1) p339 q339
              cases e339
              replace hx339_0 := crd HB hx339_0
              replace hx339_1 := crd HB hx339_1
              replace hx339_2 := crd HB hx339_2
              replace hx339_3 := crd HB hx339_3
              replace p339 := eq_true p339
              replace q339 := eq_true q339
              have p341 : 0 ≤ ((rd t335 x19_1) : Int) := dcd
              have q341 : (rd t335 x19_1) < (l0.length : Int) := dcd
              obtain ⟨ad341, e341, hx341_0, hx341_1, hx341_2, hx341_3⟩ := at_T57 HR0.out (rd t335 x19_1) p341 q341
              obtain rfl : ad339 = ad341 := (by injection e341)
              replace hx341_0 := crd HB hx341_0
              replace hx341_1 := crd HB hx341_1
              replace hx341_2 := crd HB hx341_2
              replace hx341_3 := crd HB hx341_3
              replace p341 := eq_true p341
              replace q341 := eq_true q341
              go_wp2
              go_roundg k1
              case measure => have := HK1.out; omega
              case rel => exact ⟨(wrap64 (x7_1 + 1)), (wrap64 (x8_1 + 1)), (wrap64 (x19_1 + 1)), sr, sr, sr, H', ⟨by have := HK1.out; omega⟩, ⟨R_later HO_17.out⟩, ⟨below_later HB.out⟩⟩
            · rw [if_neg c16] at H
              have c16b0 : (((rd_T57 l0 (rd t335 x19_1)).f2) == 2) = false := beq_eq_false_iff_ne.mpr c16
              have c16b1 : (((rd_T57 l0 (rd t335 x19_1)).f2) != 2) = true := bne_iff_ne.mpr c16
              have H' := Aside0.mk H
              clear H
              have p338 : 0 ≤ (x19_1 : Int) := dcd
              have q338 : x19_1 < (t335.length : Int) := dcd
              obtain ⟨ad338, e338, hx338_0⟩ := Kd.at_int (Kd.R_reads' HO_17.out).2.2 x19_1 p338 q338
              cases e338
              replace p338 := eq_true p338
              replace q338 := eq_true q338
              have p339 : 0 ≤ ((rd t335 x19_1) : Int) := dcd
              have q339 : (rd t335 x19_1) < (l0.length : Int) := dcd
              obtain ⟨ad339, e339, hx339_0, hx339_1, hx339_2, hx339_3⟩ := at_T57 HR0.out (rd t335 x19_1) p339 q339
              cases e339
              replace hx339_0 := crd HB hx339_0
              replace hx339_1 := crd HB hx339_1
              replace hx339_2 := crd HB hx339_2
              replace hx339_3 := crd HB hx339_3
              replace p339 := eq_true p339
              replace q339 := eq_true q339
              have p341 : 0 ≤ ((rd t335 x19_1) : Int) := dcd
              have q341 : (rd t335 x19_1) < (l0.length : Int) := dcd
              obtain ⟨ad341, e341, hx341_0, hx341_1, hx341_2, hx341_3⟩ := at_T57 HR0.out (rd t335 x19_1) p341 q341
              obtain rfl : ad339 = ad341 := (by injection e341)
              replace hx341_0 := crd HB hx341_0
              replace hx341_1 := crd HB hx341_1
              replace hx341_2 := crd HB hx341_2
              replace hx341_3 := crd HB hx341_3
              replace p341 := eq_true p341
              replace q341 := eq_true q341
              go_wp2
              go_roundg k1
              case measure => have := HK1.out; omega
              case rel => exact ⟨(wrap64 (x7_1 + 1)), (x8_1), (wrap64 (x19_1 + 1)), sr, sr, sr, H', ⟨by have := HK1.out; omega⟩, ⟨R_later HO_17.out⟩, ⟨below_later HB.out⟩⟩
        · rw [if_neg c9] at H
          have c9b0 := decide_eq_false c9
          clear c9
          simp only [Option.some.injEq, Prod.mk.injEq] at H
          obtain ⟨rfl, rfl⟩ := H
          go_wp2
          go_ret2
          exact fin_ (below_later HB.out)

/-! ### impl_LeafOf: function 26 -/
def impl_LeafOf.f (k : Nat) (l0 : List (S57)) (a1 : Int) : Option (Int × Int × Int × Bool) := (impl_SchemaLeaves.f k l0).bind fun t343 => ((impl_within.f a1 0 (wrap64 ((t343.length : Int) - 1))).bind fun t346 => (if t346 = true then ((impl_LeafMax.f k l0 a1).bind fun bt347 => (if 0 ≤ a1 then (if a1 < (t343.length : Int) then (if 0 ≤ (rd t343 a1) then (if (rd t343 a1) < (l0.length : Int) then (some ((rd_T57 l0 (rd t343 a1)).f1, bt347.2, bt347.1, true)) else (none)) else (none)) else (none)) else (none))) else (some (0, 0, 0, false))))
set_option maxHeartbeats 8000000 in
set_option maxRecDepth 100000 in
theorem impl_LeafOf.calls (k : Nat) (A0 : Option Addr) (c0 : Nat) (l0 : List (S57)) (a1 : Int) (r1 : Int) (r2 : Int) (r3 : Int) (r4 : Bool) (w : World) (hr0 : Kd.C k57 w A0 l0.length l0) (hc0 : l0.length ≤ c0) (h : impl_LeafOf.f k l0 a1 = some (r1, r2, r3, r4)) :
    Calls Try.prog 26 #[.slice A0 l0.length c0, .int .i64 a1] w fun e w' => e = .returned (.tuple #[.agg #[.int .i64 r1, .int .i64 r2, .int .i64 r3], .bool r4]) ∧ Below w.heap.size w w' := by
  have hu70 := Try.underlying70
  have HR0 := Aside0.mk hr0
  have HC0 := Aside0.mk hc0
  clear hr0 hc0
  have HB := Aside0.mk (Below.refl w.heap.size w)
  have H : ((impl_SchemaLeaves.f k l0).bind fun t343 => ((impl_within.f a1 0 (wrap64 ((t343.length : Int) - 1))).bind fun t346 => (if t346 = true then ((impl_LeafMax.f k l0 a1).bind fun bt347 => (if 0 ≤ a1 then (if a1 < (t343.length : Int) then (if 0 ≤ (rd t343 a1) then (if (rd t343 a1) < (l0.length : Int) then (some ((rd_T57 l0 (rd t343 a1)).f1, bt347.2, bt347.1, true)) else (none)) else (none)) else (none)) else (none))) else (some (0, 0, 0, false))))) = some (r1, r2, r3, r4) := h
  clear h
  replace H := bnd H
  obtain ⟨t343, A3, H⟩ := H
  replace H := bnd H
  obtain ⟨t346, A4, H⟩ := H
  by_cases c5 : t346 = true
  · subst c5
    replace H := ifp rfl H
    replace H := Option.bind_eq_some_iff.mp H
    obtain ⟨⟨t347, t348⟩, A60, H⟩ := H
    replace H : (if 0 ≤ a1 then (if a1 < (t343.length : Int) then (if 0 ≤ (rd t343 a1) then (if (rd t343 a1) < (l0.length : Int) then (some ((rd_T57 l0 (rd t343 a1)).f1, t348, t347, true)) else (none)) else (none)) else (none)) else (none)) = some (r1, r2, r3, r4) := H
    have A6 := Aside0.mk A60
    clear A60
    replace H := ifd H
    obtain ⟨c7b0, H⟩ := H
    replace H := ifd H
    obtain ⟨c8b0, H⟩ := H
    replace H := ifd H
    obtain ⟨c9b0, H⟩ := H
    replace H := ifd H
    obtain ⟨c10b0, H⟩ := H
    simp only [Option.some.injEq, Prod.mk.injEq] at H
    obtain ⟨rfl, rfl, rfl, rfl⟩ := H
    go_enter Try.func26, Try.ntmps26
    go_wp2_with (first | ((with_reducible refine gate_dst (N := 4) rfl ?_); refine bx_ 4 #[.int .i64 0, .int .i64 0, .int .i64 0] 70 ?_; intro gb342 hg w11 hbox hb; have BK342 := Aside0.mk (hbox); have GW342 := gwe HB hg; have GE342 := GW342; replace HB := bst HB hb; clear hb hbox hg) | ((with_reducible refine gate_callee (f := 45) rfl ?_); refine gl_ (some 10) Try.func45 #[.slice A0 l0.length c0] rfl ?_; (with_reducible refine (impl_SchemaLeaves.calls k _ _ l0 t343 _ ?side1 ?side2 A3.out).mono ?_); (case side1 => repeat (first | exact (Kd.C_below HR0.out HB.out) | (with_reducible refine Kd.C_alloc ?_ _) | (with_reducible refine Kd.C_drewN ?_ _) | (with_reducible refine Kd.C_drew ?_))); (case side2 => exact HC0.out); rintro e w12 ⟨v344, rfl, ho0, hb⟩; refine ⟨_, rfl, ?_⟩; have HO345 := Aside0.mk (Kd.R_lower ho0 (below_size (below_later HB.out))); replace BK342 := bkb BK342 hb; replace HB := bst HB hb; (try clear hb); (try clear ho0); obtain ⟨Ao13, co13, eo13⟩ := Kd.R_slice HO345.out; subst eo13) | ((with_reducible refine gate_callee (f := 42) rfl ?_); refine gl_ (some 15) Try.func42 #[.int .i64 a1, .int .i64 0, .int .i64 (wrap64 ((t343.length : Int) - 1))] rfl ?_; (with_reducible refine (impl_within.calls a1 0 (wrap64 ((t343.length : Int) - 1)) true _ A4.out).mono ?_); rintro e w' ⟨rfl, ⟨nd, rfl⟩⟩; refine ⟨_, rfl, ?_⟩; (try (rw [drewN_self w12]; generalize hq_ : World.drewN w12 _ = w12; have n0_ : Aside0 (Kd.R (Kd.int .i64) 3 w12 w.heap.size (fun _ => True) (.slice Ao13 t343.length co13) t343) := ⟨by rw [← hq_]; exact (R_later HO345.out)⟩; have n1_ : Aside0 (w12.heap[gb342]? = some (.cells #[.int .i64 0, .int .i64 0, .int .i64 0] 70 (0, 0))) := ⟨by rw [← hq_]; exact (blk_later BK342.out)⟩; have n2_ : Aside0 (Below w.heap.size w w12) := ⟨by rw [← hq_]; exact (below_later HB.out)⟩; clear HO345 BK342 HB hq_; have HO345 := n0_; have BK342 := n1_; have HB := n2_; clear n0_ n1_ n2_))) | ((with_reducible refine gate_callee (f := 46) rfl ?_); refine gl_ (some 21) Try.func46 #[.slice A0 l0.length c0, .int .i64 a1] rfl ?_; (with_reducible refine (impl_LeafMax.calls k _ _ l0 a1 t347 t348 _ ?side1 ?side2 A6.out).mono ?_); (case side1 => repeat (first | exact (Kd.C_below HR0.out HB.out) | (with_reducible refine Kd.C_alloc ?_ _) | (with_reducible refine Kd.C_drewN ?_ _) | (with_reducible refine Kd.C_drew ?_))); (case side2 => exact HC0.out); rintro e w14 ⟨rfl, hb⟩; refine ⟨_, rfl, ?_⟩; replace HO345 := Aside0.mk (Kd.R_below (R_later HO345.out) hb); replace BK342 := bkb BK342 hb; replace HB := bst HB hb; (try clear hb); have p349 : 0 ≤ (a1 : Int) := dcd; have q349 : a1 < (t343.length : Int) := dcd; obtain ⟨ad349, e349, hx349_0⟩ := Kd.at_int (Kd.R_reads' HO345.out).2.2 a1 p349 q349; cases e349; replace p349 := eq_true p349; replace q349 := eq_true q349; have p350 : 0 ≤ ((rd t343 a1) : Int) := dcd; have q350 : (rd t343 a1) < (l0.length : Int) := dcd; obtain ⟨ad350, e350, hx350_0, hx350_1, hx350_2, hx350_3⟩ := at_T57 HR0.out (rd t343 a1) p350 q350; cases e350; replace hx350_0 := crd HB hx350_0; replace hx350_1 := crd HB hx350_1; replace hx350_2 := crd HB hx350_2; replace hx350_3 := crd HB hx350_3; replace p350 := eq_true p350; replace q350 := eq_true q350; obtain ⟨hcz15_0, hcz15_1, hcz15_2, hfz15_0, hfz15_1, hfz15_2⟩ := cl3 BK342))
    refine bodyPost_ret (results_ct rfl _ _ gb342 70 #[.int .i64 ((rd_T57 l0 (rd t343 a1)).f1), .int .i64 t348, .int .i64 t347] (0, 0) _ rfl (by (with_reducible repeat (first | refine blk_drewN ?_ _ | refine blk_drew ?_ | refine blk_alloc ?_ _)); refine blk_put (cs := #[.int .i64 ((rd_T57 l0 (rd t343 a1)).f1), .int .i64 t348, .int .i64 0]) ?_ 2 _ rfl; (with_reducible repeat (first | refine blk_drewN ?_ _ | refine blk_drew ?_ | refine blk_alloc ?_ _)); refine blk_put (cs := #[.int .i64 ((rd_T57 l0 (rd t343 a1)).f1), .int .i64 0, .int .i64 0]) ?_ 1 _ rfl; (with_reducible repeat (first | refine blk_drewN ?_ _ | refine blk_drew ?_ | refine blk_alloc ?_ _)); refine blk_put (cs := #[.int .i64 0, .int .i64 0, .int .i64 0]) ?_ 0 _ rfl; (with_reducible repeat (first | refine blk_drewN ?_ _ | refine blk_drew ?_ | refine blk_alloc ?_ _)); exact BK342.out) Try.underlying70 rfl (by kernel_rfl)) rfl ?_
    exact fin_ (below_later HB.out)
  · replace c5 := Bool.eq_false_iff.mpr c5
    subst c5
    replace H := ifn Bool.false_ne_true H
    simp only [Option.some.injEq, Prod.mk.injEq] at H
    obtain ⟨rfl, rfl, rfl, rfl⟩ := H
    go_enter Try.func26, Try.ntmps26
    go_wp2_with (first | ((with_reducible refine gate_dst (N := 4) rfl ?_); refine bx_ 4 #[.int .i64 0, .int .i64 0, .int .i64 0] 70 ?_; intro gb342 hg w16 hbox hb; have BK342 := Aside0.mk (hbox); have GW342 := gwe HB hg; have GE342 := GW342; replace HB := bst HB hb; clear hb hbox hg) | ((with_reducible refine gate_callee (f := 45) rfl ?_); refine gl_ (some 10) Try.func45 #[.slice A0 l0.length c0] rfl ?_; (with_reducible refine (impl_SchemaLeaves.calls k _ _ l0 t343 _ ?side1 ?side2 A3.out).mono ?_); (case side1 => repeat (first | exact (Kd.C_below HR0.out HB.out) | (with_reducible refine Kd.C_alloc ?_ _) | (with_reducible refine Kd.C_drewN ?_ _) | (with_reducible refine Kd.C_drew ?_))); (case side2 => exact HC0.out); rintro e w17 ⟨v344, rfl, ho0, hb⟩; refine ⟨_, rfl, ?_⟩; have HO345 := Aside0.mk (Kd.R_lower ho0 (below_size (below_later HB.out))); replace BK342 := bkb BK342 hb; replace HB := bst HB hb; (try clear hb); (try clear ho0); obtain ⟨Ao18, co18, eo18⟩ := Kd.R_slice HO345.out; subst eo18) | ((with_reducible refine gate_callee (f := 42) rfl ?_); refine gl_ (some 15) Try.func42 #[.int .i64 a1, .int .i64 0, .int .i64 (wrap64 ((t343.length : Int) - 1))] rfl ?_; (with_reducible refine (impl_within.calls a1 0 (wrap64 ((t343.length : Int) - 1)) false _ A4.out).mono ?_); rintro e w' ⟨rfl, ⟨nd, rfl⟩⟩; refine ⟨_, rfl, ?_⟩; (try (rw [drewN_self w17]; generalize hq_ : World.drewN w17 _ = w17; have n0_ : Aside0 (Kd.R (Kd.int .i64) 3 w17 w.heap.size (fun _ => True) (.slice Ao18 t343.length co18) t343) := ⟨by rw [← hq_]; exact (R_later HO345.out)⟩; have n1_ : Aside0 (w17.heap[gb342]? = some (.cells #[.int .i64 0, .int .i64 0, .int .i64 0] 70 (0, 0))) := ⟨by rw [← hq_]; exact (blk_later BK342.out)⟩; have n2_ : Aside0 (Below w.heap.size w w17) := ⟨by rw [← hq_]; exact (below_later HB.out)⟩; clear HO345 BK342 HB hq_; have HO345 := n0_; have BK342 := n1_; have HB := n2_; clear n0_ n1_ n2_)); obtain ⟨hcz19_0, hcz19_1, hcz19_2, hfz19_0, hfz19_1, hfz19_2⟩ := cl3 BK342))
    refine bodyPost_ret (results_ct rfl _ _ gb342 70 #[.int .i64 0, .int .i64 0, .int .i64 0] (0, 0) _ rfl (by (with_reducible repeat (first | refine blk_drewN ?_ _ | refine blk_drew ?_ | refine blk_alloc ?_ _)); refine blk_put (cs := #[.int .i64 0, .int .i64 0, .int .i64 0]) ?_ 2 _ rfl; (with_reducible repeat (first | refine blk_drewN ?_ _ | refine blk_drew ?_ | refine blk_alloc ?_ _)); refine blk_put (cs := #[.int .i64 0, .int .i64 0, .int .i64 0]) ?_ 1 _ rfl; (with_reducible repeat (first | refine blk_drewN ?_ _ | refine blk_drew ?_ | refine blk_alloc ?_ _)); refine blk_put (cs := #[.int .i64 0, .int .i64 0, .int .i64 0]) ?_ 0 _ rfl; (with_reducible repeat (first | refine blk_drewN ?_ _ | refine blk_drew ?_ | refine blk_alloc ?_ _)); exact BK342.out) Try.underlying70 rfl (by kernel_rfl)) rfl ?_
    exact fin_ (below_later HB.out)

/-! ### impl_isInt32: function 65 -/
def impl_isInt32.f (a0 : Int) : Option (Bool) := (impl_within.f a0 (-2147483648) 2147483647).bind fun t351 => (some t351)
set_option maxHeartbeats 8000000 in
set_option maxRecDepth 100000 in
theorem impl_isInt32.calls (a0 : Int) (r : Bool) (w : World) (h : impl_isInt32.f a0 = some r) :
    Calls Try.prog 65 #[.int .i64 a0] w fun e w' => e = .returned (.bool r) ∧ Drawn0 w w' := by
  have H : ((impl_within.f a0 (-2147483648) 2147483647).bind fun t351 => (some t351)) = some r := h
  clear h
  replace H := bnd H
  obtain ⟨t351, A2, H⟩ := H
  obtain rfl := Option.some.inj H
  go_enter Try.func65, Try.ntmps65
  go_wp2_with (first | ((with_reducible refine gate_callee (f := 42) rfl ?_); refine gl_ (some 4) Try.func42 #[.int .i64 a0, .int .i64 (-2147483648), .int .i64 2147483647] rfl ?_; (with_reducible refine (impl_within.calls a0 (-2147483648) 2147483647 t351 _ A2.out).mono ?_); rintro e w' ⟨rfl, ⟨nd, rfl⟩⟩; refine ⟨_, rfl, ?_⟩))
  go_ret
  exact ⟨by first | rfl | (simp; done) | (simp [*]; done), by repeat (first | exact Drawn0.refl _ | apply Drawn0.step)⟩

/-! ### impl_ValOk: function 56 -/
def impl_ValOk.f (a0 : Int) (a1_0 : Int) (a1_1 : ByteArray) : Option (Bool) := if a0 = 0 then ((impl_within.f a1_0 0 1).bind fun t353 => (if t353 = true then (some (a1_1.toList == ([] : List UInt8))) else (some false))) else (if a0 = 1 then ((impl_isInt32.f a1_0).bind fun t354 => (if t354 = true then (some (a1_1.toList == ([] : List UInt8))) else (some false))) else (if a0 = 2 then (some (a1_1.toList == ([] : List UInt8))) else (if a0 = 5 then (some (a1_1.toList == ([] : List UInt8))) else (if a0 = 6 then (if a1_0 = 0 then (some (decide ((a1_1.size : Int) ≤ 40))) else (some false)) else (some false)))))
set_option maxHeartbeats 8000000 in
set_option maxRecDepth 100000 in
theorem impl_ValOk.calls (a0 : Int) (a1_0 : Int) (a1_1 : ByteArray) (r : Bool) (w : World) (h : impl_ValOk.f a0 a1_0 a1_1 = some r) :
    Calls Try.prog 56 #[.int .i64 a0, .agg #[.int .i64 a1_0, .string a1_1]] w fun e w' => e = .returned (.bool r) ∧ Below w.heap.size w w' := by
  have hu59 := Try.underlying59
  have HB := Aside0.mk (Below.refl w.heap.size w)
  have H : (if a0 = 0 then ((impl_within.f a1_0 0 1).bind fun t353 => (if t353 = true then (some (a1_1.toList == ([] : List UInt8))) else (some false))) else (if a0 = 1 then ((impl_isInt32.f a1_0).bind fun t354 => (if t354 = true then (some (a1_1.toList == ([] : List UInt8))) else (some false))) else (if a0 = 2 then (some (a1_1.toList == ([] : List UInt8))) else (if a0 = 5 then (some (a1_1.toList == ([] : List UInt8))) else (if a0 = 6 then (if a1_0 = 0 then (some (decide ((a1_1.size : Int) ≤ 40))) else (some false)) else (some false)))))) = some r := h
  clear h
  by_cases c3 : a0 = 0
  · rw [if_pos c3] at H
    have c3b0 : (a0 == 0) = true := beq_iff_eq.mpr c3
    have c3b1 : (a0 != 0) = false := bne_eq_false_iff_eq.mpr c3
    clear c3
    replace H := bnd H
    obtain ⟨t353, A4, H⟩ := H
    by_cases c5 : t353 = true
    · subst c5
      replace H := ifp rfl H
      obtain rfl := Option.some.inj H
      go_enter Try.func56, Try.ntmps56
      go_wp2_with (first | ((with_reducible refine gate_dst (N := 3) rfl ?_); (try (refine gate_guard (by rfl) ?_; dsimp only)); refine bx_ 3 #[.int .i64 a1_0, .string a1_1] 59 ?_; intro gb352 hg w6 hbox hb; have BK352 := Aside0.mk (hbox); have GW352 := gwe HB hg; have GE352 := GW352; replace HB := bst HB hb; clear hb hbox hg; obtain ⟨hcz7_0, hcz7_1, hfz7_0, hfz7_1⟩ := cl2 BK352) | ((with_reducible refine gate_callee (f := 42) rfl ?_); refine gl_ (some 10) Try.func42 #[.int .i64 a1_0, .int .i64 0, .int .i64 1] rfl ?_; (with_reducible refine (impl_within.calls a1_0 0 1 true _ A4.out).mono ?_); rintro e w' ⟨rfl, ⟨nd, rfl⟩⟩; refine ⟨_, rfl, ?_⟩))
      go_ret
      exact fin_ (below_later HB.out)
    · replace c5 := Bool.eq_false_iff.mpr c5
      subst c5
      replace H := ifn Bool.false_ne_true H
      obtain rfl := Option.some.inj H
      go_enter Try.func56, Try.ntmps56
      go_wp2_with (first | ((with_reducible refine gate_dst (N := 3) rfl ?_); (try (refine gate_guard (by rfl) ?_; dsimp only)); refine bx_ 3 #[.int .i64 a1_0, .string a1_1] 59 ?_; intro gb352 hg w8 hbox hb; have BK352 := Aside0.mk (hbox); have GW352 := gwe HB hg; have GE352 := GW352; replace HB := bst HB hb; clear hb hbox hg; obtain ⟨hcz9_0, hcz9_1, hfz9_0, hfz9_1⟩ := cl2 BK352) | ((with_reducible refine gate_callee (f := 42) rfl ?_); refine gl_ (some 10) Try.func42 #[.int .i64 a1_0, .int .i64 0, .int .i64 1] rfl ?_; (with_reducible refine (impl_within.calls a1_0 0 1 false _ A4.out).mono ?_); rintro e w' ⟨rfl, ⟨nd, rfl⟩⟩; refine ⟨_, rfl, ?_⟩))
      go_ret
      exact fin_ (below_later HB.out)
  · rw [if_neg c3] at H
    have c3b0 : (a0 == 0) = false := beq_eq_false_iff_ne.mpr c3
    have c3b1 : (a0 != 0) = true := bne_iff_ne.mpr c3
    by_cases c10 : a0 = 1
    · rw [if_pos c10] at H
      have c10b0 : (a0 == 1) = true := beq_iff_eq.mpr c10
      have c10b1 : (a0 != 1) = false := bne_eq_false_iff_eq.mpr c10
      clear c10
      replace H := bnd H
      obtain ⟨t354, A11, H⟩ := H
      by_cases c12 : t354 = true
      · subst c12
        replace H := ifp rfl H
        obtain rfl := Option.some.inj H
        go_enter Try.func56, Try.ntmps56
        go_wp2_with (first | ((with_reducible refine gate_dst (N := 3) rfl ?_); (try (refine gate_guard (by rfl) ?_; dsimp only)); refine bx_ 3 #[.int .i64 a1_0, .string a1_1] 59 ?_; intro gb352 hg w13 hbox hb; have BK352 := Aside0.mk (hbox); have GW352 := gwe HB hg; have GE352 := GW352; replace HB := bst HB hb; clear hb hbox hg; obtain ⟨hcz14_0, hcz14_1, hfz14_0, hfz14_1⟩ := cl2 BK352) | ((with_reducible refine gate_callee (f := 65) rfl ?_); refine gl_ (some 20) Try.func65 #[.int .i64 a1_0] rfl ?_; (with_reducible refine (impl_isInt32.calls a1_0 true _ A11.out).mono ?_); rintro e w' ⟨rfl, ⟨nd, rfl⟩⟩; refine ⟨_, rfl, ?_⟩))
        go_ret
        exact fin_ (below_later HB.out)
      · replace c12 := Bool.eq_false_iff.mpr c12
        subst c12
        replace H := ifn Bool.false_ne_true H
        obtain rfl := Option.some.inj H
        go_enter Try.func56, Try.ntmps56
        go_wp2_with (first | ((with_reducible refine gate_dst (N := 3) rfl ?_); (try (refine gate_guard (by rfl) ?_; dsimp only)); refine bx_ 3 #[.int .i64 a1_0, .string a1_1] 59 ?_; intro gb352 hg w15 hbox hb; have BK352 := Aside0.mk (hbox); have GW352 := gwe HB hg; have GE352 := GW352; replace HB := bst HB hb; clear hb hbox hg; obtain ⟨hcz16_0, hcz16_1, hfz16_0, hfz16_1⟩ := cl2 BK352) | ((with_reducible refine gate_callee (f := 65) rfl ?_); refine gl_ (some 20) Try.func65 #[.int .i64 a1_0] rfl ?_; (with_reducible refine (impl_isInt32.calls a1_0 false _ A11.out).mono ?_); rintro e w' ⟨rfl, ⟨nd, rfl⟩⟩; refine ⟨_, rfl, ?_⟩))
        go_ret
        exact fin_ (below_later HB.out)
    · rw [if_neg c10] at H
      have c10b0 : (a0 == 1) = false := beq_eq_false_iff_ne.mpr c10
      have c10b1 : (a0 != 1) = true := bne_iff_ne.mpr c10
      by_cases c17 : a0 = 2
      · rw [if_pos c17] at H
        have c17b0 : (a0 == 2) = true := beq_iff_eq.mpr c17
        have c17b1 : (a0 != 2) = false := bne_eq_false_iff_eq.mpr c17
        clear c17
        obtain rfl := Option.some.inj H
        go_enter Try.func56, Try.ntmps56
        go_wp2_with (first | ((with_reducible refine gate_dst (N := 3) rfl ?_); (try (refine gate_guard (by rfl) ?_; dsimp only)); refine bx_ 3 #[.int .i64 a1_0, .string a1_1] 59 ?_; intro gb352 hg w18 hbox hb; have BK352 := Aside0.mk (hbox); have GW352 := gwe HB hg; have GE352 := GW352; replace HB := bst HB hb; clear hb hbox hg; obtain ⟨hcz19_0, hcz19_1, hfz19_0, hfz19_1⟩ := cl2 BK352))
        go_ret
        exact fin_ (below_later HB.out)
      · rw [if_neg c17] at H
        have c17b0 : (a0 == 2) = false := beq_eq_false_iff_ne.mpr c17
        have c17b1 : (a0 != 2) = true := bne_iff_ne.mpr c17
        by_cases c20 : a0 = 5
        · rw [if_pos c20] at H
          have c20b0 : (a0 == 5) = true := beq_iff_eq.mpr c20
          have c20b1 : (a0 != 5) = false := bne_eq_false_iff_eq.mpr c20
          clear c20
          obtain rfl := Option.some.inj H
          go_enter Try.func56, Try.ntmps56
          go_wp2_with (first | ((with_reducible refine gate_dst (N := 3) rfl ?_); (try (refine gate_guard (by rfl) ?_; dsimp only)); refine bx_ 3 #[.int .i64 a1_0, .string a1_1] 59 ?_; intro gb352 hg w21 hbox hb; have BK352 := Aside0.mk (hbox); have GW352 := gwe HB hg; have GE352 := GW352; replace HB := bst HB hb; clear hb hbox hg; obtain ⟨hcz22_0, hcz22_1, hfz22_0, hfz22_1⟩ := cl2 BK352))
          go_ret
          exact fin_ (below_later HB.out)
        · rw [if_neg c20] at H
          have c20b0 : (a0 == 5) = false := beq_eq_false_iff_ne.mpr c20
          have c20b1 : (a0 != 5) = true := bne_iff_ne.mpr c20
          by_cases c23 : a0 = 6
          · rw [if_pos c23] at H
            have c23b0 : (a0 == 6) = true := beq_iff_eq.mpr c23
            have c23b1 : (a0 != 6) = false := bne_eq_false_iff_eq.mpr c23
            clear c23
            by_cases c24 : a1_0 = 0
            · rw [if_pos c24] at H
              have c24b0 : (a1_0 == 0) = true := beq_iff_eq.mpr c24
              have c24b1 : (a1_0 != 0) = false := bne_eq_false_iff_eq.mpr c24
              clear c24
              obtain rfl := Option.some.inj H
              go_enter Try.func56, Try.ntmps56
              go_wp2_with (first | ((with_reducible refine gate_dst (N := 3) rfl ?_); (try (refine gate_guard (by rfl) ?_; dsimp only)); refine bx_ 3 #[.int .i64 a1_0, .string a1_1] 59 ?_; intro gb352 hg w25 hbox hb; have BK352 := Aside0.mk (hbox); have GW352 := gwe HB hg; have GE352 := GW352; replace HB := bst HB hb; clear hb hbox hg; obtain ⟨hcz26_0, hcz26_1, hfz26_0, hfz26_1⟩ := cl2 BK352))
              go_ret
              exact fin_ (below_later HB.out)
            · rw [if_neg c24] at H
              have c24b0 : (a1_0 == 0) = false := beq_eq_false_iff_ne.mpr c24
              have c24b1 : (a1_0 != 0) = true := bne_iff_ne.mpr c24
              obtain rfl := Option.some.inj H
              go_enter Try.func56, Try.ntmps56
              go_wp2_with (first | ((with_reducible refine gate_dst (N := 3) rfl ?_); (try (refine gate_guard (by rfl) ?_; dsimp only)); refine bx_ 3 #[.int .i64 a1_0, .string a1_1] 59 ?_; intro gb352 hg w27 hbox hb; have BK352 := Aside0.mk (hbox); have GW352 := gwe HB hg; have GE352 := GW352; replace HB := bst HB hb; clear hb hbox hg; obtain ⟨hcz28_0, hcz28_1, hfz28_0, hfz28_1⟩ := cl2 BK352))
              go_ret
              exact fin_ (below_later HB.out)
          · rw [if_neg c23] at H
            have c23b0 : (a0 == 6) = false := beq_eq_false_iff_ne.mpr c23
            have c23b1 : (a0 != 6) = true := bne_iff_ne.mpr c23
            obtain rfl := Option.some.inj H
            go_enter Try.func56, Try.ntmps56
            go_wp2_with (first | ((with_reducible refine gate_dst (N := 3) rfl ?_); (try (refine gate_guard (by rfl) ?_; dsimp only)); refine bx_ 3 #[.int .i64 a1_0, .string a1_1] 59 ?_; intro gb352 hg w29 hbox hb; have BK352 := Aside0.mk (hbox); have GW352 := gwe HB hg; have GE352 := GW352; replace HB := bst HB hb; clear hb hbox hg))
            go_ret
            exact fin_ (below_later HB.out)

/-! ### impl_plainPred: function 43 -/
def impl_plainPred.j0 : Nat → Bool → Int → Int → Int → ByteArray → Int → Int → Int → Int → Int → Option (Bool)
  | 0, _, _, _, _, _, _, _, _, _, _ => none
  | k + 1, x30, x356000, x356001, x356002, x356003, x356004, x356005, x361000, x361001, x361002 => if x30 = true then (some false) else (if x356000 = 4 then (some (x356002 == 0 && (x356003.toList == ([] : List UInt8)))) else ((impl_ValOk.f x361000 x356002 x356003).bind fun t361 => (some t361)))
def impl_plainPred.f (k : Nat) (l0 : List (S57)) (a1_0 : Int) (a1_1 : Int) (a1_2 : Int) (a1_3 : ByteArray) (a1_4 : Int) (a1_5 : Int) : Option (Bool) := (impl_LeafOf.f k l0 a1_1).bind fun bt356 => (if bt356.2.2.2 = true then (if bt356.2.1 = 0 then (if a1_4 = 0 then (impl_plainPred.j0 k (a1_5 != 0) a1_0 a1_1 a1_2 a1_3 a1_4 a1_5 bt356.1 bt356.2.1 bt356.2.2.1) else (impl_plainPred.j0 k true a1_0 a1_1 a1_2 a1_3 a1_4 a1_5 bt356.1 bt356.2.1 bt356.2.2.1)) else (impl_plainPred.j0 k true a1_0 a1_1 a1_2 a1_3 a1_4 a1_5 bt356.1 bt356.2.1 bt356.2.2.1)) else (impl_plainPred.j0 k true a1_0 a1_1 a1_2 a1_3 a1_4 a1_5 bt356.1 bt356.2.1 bt356.2.2.1))
set_option maxHeartbeats 8000000 in
set_option maxRecDepth 100000 in
theorem impl_plainPred.calls (k : Nat) (A0 : Option Addr) (c0 : Nat) (l0 : List (S57)) (a1_0 : Int) (a1_1 : Int) (a1_2 : Int) (a1_3 : ByteArray) (a1_4 : Int) (a1_5 : Int) (r : Bool) (w : World) (hr0 : Kd.C k57 w A0 l0.length l0) (hc0 : l0.length ≤ c0) (h : impl_plainPred.f k l0 a1_0 a1_1 a1_2 a1_3 a1_4 a1_5 = some r) :
    Calls Try.prog 43 #[.slice A0 l0.length c0, .agg #[.int .i64 a1_0, .int .i64 a1_1, .int .i64 a1_2, .string a1_3, .int .i64 a1_4, .int .i64 a1_5]] w fun e w' => e = .returned (.bool r) ∧ Below w.heap.size w w' := by
  have hu61 := Try.underlying61
  have hu70 := Try.underlying70
  have hu59 := Try.underlying59
  have HR0 := Aside0.mk hr0
  have HC0 := Aside0.mk hc0
  clear hr0 hc0
  have HB := Aside0.mk (Below.refl w.heap.size w)
  have H : ((impl_LeafOf.f k l0 a1_1).bind fun bt356 => (if bt356.2.2.2 = true then (if bt356.2.1 = 0 then (if a1_4 = 0 then (impl_plainPred.j0 k (a1_5 != 0) a1_0 a1_1 a1_2 a1_3 a1_4 a1_5 bt356.1 bt356.2.1 bt356.2.2.1) else (impl_plainPred.j0 k true a1_0 a1_1 a1_2 a1_3 a1_4 a1_5 bt356.1 bt356.2.1 bt356.2.2.1)) else (impl_plainPred.j0 k true a1_0 a1_1 a1_2 a1_3 a1_4 a1_5 bt356.1 bt356.2.1 bt356.2.2.1)) else (impl_plainPred.j0 k true a1_0 a1_1 a1_2 a1_3 a1_4 a1_5 bt356.1 bt356.2.1 bt356.2.2.1))) = some r := h
  clear h
  replace H := Option.bind_eq_some_iff.mp H
  obtain ⟨⟨t356, t357, t358, t359⟩, A30, H⟩ := H
  replace H : (if t359 = true then (if t357 = 0 then (if a1_4 = 0 then (impl_plainPred.j0 k (a1_5 != 0) a1_0 a1_1 a1_2 a1_3 a1_4 a1_5 t356 t357 t358) else (impl_plainPred.j0 k true a1_0 a1_1 a1_2 a1_3 a1_4 a1_5 t356 t357 t358)) else (impl_plainPred.j0 k true a1_0 a1_1 a1_2 a1_3 a1_4 a1_5 t356 t357 t358)) else (impl_plainPred.j0 k true a1_0 a1_1 a1_2 a1_3 a1_4 a1_5 t356 t357 t358)) = some r := H
  have A3 := Aside0.mk A30
  clear A30
  have HC4 := Aside0.mk H
  clear H
  go_enter Try.func43, Try.ntmps43
  go_upto_region 2 with (first | ((with_reducible refine gate_dst (N := 3) rfl ?_); refine bx_ 3 #[.int .i64 a1_0, .int .i64 a1_1, .int .i64 a1_2, .string a1_3, .int .i64 a1_4, .int .i64 a1_5] 61 ?_; intro gb355 hg w5 hbox hb; have BK355 := Aside0.mk (hbox); have GW355 := gwe HB hg; have GE355 := GW355; replace HB := bst HB hb; clear hb hbox hg; obtain ⟨hcz6_0, hcz6_1, hcz6_2, hcz6_3, hcz6_4, hcz6_5, hfz6_0, hfz6_1, hfz6_2, hfz6_3, hfz6_4, hfz6_5⟩ := cl6 BK355) | ((with_reducible refine gate_callee (f := 26) rfl ?_); refine gl_ (some 11) Try.func26 #[.slice A0 l0.length c0, .int .i64 a1_1] rfl ?_; (with_reducible refine (impl_LeafOf.calls k _ _ l0 a1_1 t356 t357 t358 t359 _ ?side1 ?side2 A3.out).mono ?_); (case side1 => repeat (first | exact (Kd.C_below HR0.out HB.out) | (with_reducible refine Kd.C_alloc ?_ _) | (with_reducible refine Kd.C_drewN ?_ _) | (with_reducible refine Kd.C_drew ?_))); (case side2 => exact HC0.out); rintro e w7 ⟨rfl, hb⟩; refine ⟨_, rfl, ?_⟩; replace BK355 := bkb BK355 hb; replace HB := bst HB hb; (try clear hb)) | ((with_reducible refine gate_dst (N := 5) rfl ?_); refine bx_ 5 #[.int .i64 0, .int .i64 0, .int .i64 0] 70 ?_; intro gb360 hg w8 hbox hb; have BK360 := Aside0.mk (hbox); have GW360 := gwe HB hg; have GE360 := GW360; have NB355_360 := nbl BK355 hg; have NB360_355 := nbr (nbl BK355 hg); replace BK355 := bkb BK355 hb; replace HB := bst HB hb; clear hb hbox hg; have hnb9 := NB360_355.out; have hnc9 := NB355_360.out; obtain ⟨hcz10_0, hcz10_1, hcz10_2, hfz10_0, hfz10_1, hfz10_2⟩ := cl3 BK360))
  (try simp only [Act.put, List.setIfInBounds_toArray, List.set_cons_zero, List.set_cons_succ])
  go_cut [30] (fun v30 wc => ∃ (kq : Nat) (x30_3 : Bool), v30 = .bool x30_3 ∧ Aside0 (impl_plainPred.j0 kq x30_3 a1_0 a1_1 a1_2 a1_3 a1_4 a1_5 t356 t357 t358 = some r) ∧ Aside0 (kq ≤ k) ∧ Aside0 (wc.heap[gb355]? = some (.cells #[.int .i64 a1_0, .int .i64 a1_1, .int .i64 a1_2, .string a1_3, .int .i64 a1_4, .int .i64 a1_5] 61 (0, 0))) ∧ Aside0 (wc.heap[gb360]? = some (.cells #[.int .i64 t356, .int .i64 t357, .int .i64 t358] 70 (0, 0))) ∧ Aside0 (Below w.heap.size w wc))
  case first =>
    have H := HC4.out
    clear HC4
    by_cases c11 : t359 = true
    · subst c11
      replace H := ifp rfl H
      by_cases c12 : t357 = 0
      · rw [if_pos c12] at H
        have c12b0 : (t357 == 0) = true := beq_iff_eq.mpr c12
        have c12b1 : (t357 != 0) = false := bne_eq_false_iff_eq.mpr c12
        clear c12
        (first | rw [c12b0] | rw [c12b1] | (simp only [i64_w, i32_w]; rw [c12b0]) | skip)
        by_cases c13 : a1_4 = 0
        · rw [if_pos c13] at H
          have c13b0 : (a1_4 == 0) = true := beq_iff_eq.mpr c13
          have c13b1 : (a1_4 != 0) = false := bne_eq_false_iff_eq.mpr c13
          clear c13
          have H' := Aside0.mk H
          clear H
          have hnb14 := NB360_355.out
          have hnc14 := NB355_360.out
          obtain ⟨hcz15_0, hcz15_1, hcz15_2, hfz15_0, hfz15_1, hfz15_2⟩ := cl3 BK360
          obtain ⟨hcz16_0, hcz16_1, hcz16_2, hcz16_3, hcz16_4, hcz16_5, hfz16_0, hfz16_1, hfz16_2, hfz16_3, hfz16_4, hfz16_5⟩ := cl6 BK355
          go_wp2
          go_meet
          case rel => exact ⟨_, ((a1_5 != 0)), sr, H', ⟨by first | omega | exact Nat.le_refl _⟩, ⟨blk_later BK355.out⟩, ⟨blk_later BK360.out⟩, ⟨below_later HB.out⟩⟩
        · rw [if_neg c13] at H
          have c13b0 : (a1_4 == 0) = false := beq_eq_false_iff_ne.mpr c13
          have c13b1 : (a1_4 != 0) = true := bne_iff_ne.mpr c13
          have H' := Aside0.mk H
          clear H
          have hnb17 := NB360_355.out
          have hnc17 := NB355_360.out
          obtain ⟨hcz18_0, hcz18_1, hcz18_2, hfz18_0, hfz18_1, hfz18_2⟩ := cl3 BK360
          obtain ⟨hcz19_0, hcz19_1, hcz19_2, hcz19_3, hcz19_4, hcz19_5, hfz19_0, hfz19_1, hfz19_2, hfz19_3, hfz19_4, hfz19_5⟩ := cl6 BK355
          go_wp2
          go_meet
          case rel => exact ⟨_, (true), sr, H', ⟨by first | omega | exact Nat.le_refl _⟩, ⟨blk_later BK355.out⟩, ⟨blk_later BK360.out⟩, ⟨below_later HB.out⟩⟩
      · rw [if_neg c12] at H
        have c12b0 : (t357 == 0) = false := beq_eq_false_iff_ne.mpr c12
        have c12b1 : (t357 != 0) = true := bne_iff_ne.mpr c12
        (first | rw [c12b0] | rw [c12b1] | (simp only [i64_w, i32_w]; rw [c12b0]) | skip)
        have H' := Aside0.mk H
        clear H
        have hnb20 := NB360_355.out
        have hnc20 := NB355_360.out
        obtain ⟨hcz21_0, hcz21_1, hcz21_2, hfz21_0, hfz21_1, hfz21_2⟩ := cl3 BK360
        go_wp2
        go_meet
        case rel => exact ⟨_, (true), sr, H', ⟨by first | omega | exact Nat.le_refl _⟩, ⟨blk_later BK355.out⟩, ⟨blk_later BK360.out⟩, ⟨below_later HB.out⟩⟩
    · replace c11 := Bool.eq_false_iff.mpr c11
      subst c11
      replace H := ifn Bool.false_ne_true H
      have H' := Aside0.mk H
      clear H
      go_wp2
      go_meet
      case rel => exact ⟨_, (true), sr, H', ⟨by first | omega | exact Nat.le_refl _⟩, ⟨blk_later BK355.out⟩, ⟨blk_later BK360.out⟩, ⟨below_later HB.out⟩⟩
  case rest =>
    clear HC4
    try clear hcz10_0
    try clear hcz10_1
    try clear hcz10_2
    try clear hcz6_0
    try clear hcz6_1
    try clear hcz6_2
    try clear hcz6_3
    try clear hcz6_4
    try clear hcz6_5
    try clear hfz10_0
    try clear hfz10_1
    try clear hfz10_2
    try clear hfz6_0
    try clear hfz6_1
    try clear hfz6_2
    try clear hfz6_3
    try clear hfz6_4
    try clear hfz6_5
    obtain ⟨kq, x30_3, rfl, HA, HJ3, BK355, BK360, HB⟩ := hcut
    cases kq with
    | zero => exact absurd HA.out (by simp [impl_plainPred.j0])
    | succ kj3 =>
      have H := HA.out
      clear HA
      simp only [impl_plainPred.j0] at H
      by_cases c22 : x30_3 = true
      · subst c22
        replace H := ifp rfl H
        obtain rfl := Option.some.inj H
        go_wp2
        go_ret
        exact fin_ (below_later HB.out)
      · replace c22 := Bool.eq_false_iff.mpr c22
        subst c22
        replace H := ifn Bool.false_ne_true H
        by_cases c23 : a1_0 = 4
        · rw [if_pos c23] at H
          have c23b0 : (a1_0 == 4) = true := beq_iff_eq.mpr c23
          have c23b1 : (a1_0 != 4) = false := bne_eq_false_iff_eq.mpr c23
          clear c23
          obtain rfl := Option.some.inj H
          have hnb24 := NB355_360.out
          have hnc24 := NB360_355.out
          obtain ⟨hcz25_0, hcz25_1, hcz25_2, hcz25_3, hcz25_4, hcz25_5, hfz25_0, hfz25_1, hfz25_2, hfz25_3, hfz25_4, hfz25_5⟩ := cl6 BK355
          go_wp2
          go_ret
          exact fin_ (below_later HB.out)
        · rw [if_neg c23] at H
          have c23b0 : (a1_0 == 4) = false := beq_eq_false_iff_ne.mpr c23
          have c23b1 : (a1_0 != 4) = true := bne_iff_ne.mpr c23
          replace H := bnd H
          obtain ⟨t361, A26, H⟩ := H
          obtain rfl := Option.some.inj H
          have hnb27 := NB355_360.out
          have hnc27 := NB360_355.out
          obtain ⟨hcz28_0, hcz28_1, hcz28_2, hcz28_3, hcz28_4, hcz28_5, hfz28_0, hfz28_1, hfz28_2, hfz28_3, hfz28_4, hfz28_5⟩ := cl6 BK355
          obtain ⟨hcz29_0, hcz29_1, hcz29_2, hfz29_0, hfz29_1, hfz29_2⟩ := cl3 BK360
          go_wp2_with (first | ((with_reducible refine gate_callee (f := 56) rfl ?_); refine gl_ (some 42) Try.func56 #[.int .i64 t356, .agg #[.int .i64 a1_2, .string a1_3]] rfl ?_; (with_reducible refine (impl_ValOk.calls t356 a1_2 a1_3 t361 _ A26.out).mono ?_); rintro e w30 ⟨rfl, hb⟩; refine ⟨_, rfl, ?_⟩; replace BK355 := bkb BK355 hb; replace BK360 := bkb BK360 hb; replace HB := bst HB hb; (try clear hb)))
          go_ret
          exact fin_ (below_later HB.out)

/-! ### impl_isPair: function 44 -/
def impl_isPair.f (a0 : Int) : Option (Bool) := if a0 = 5 then (some true) else (some (a0 == 6))
set_option maxHeartbeats 8000000 in
set_option maxRecDepth 100000 in
theorem impl_isPair.calls (a0 : Int) (r : Bool) (w : World) (h : impl_isPair.f a0 = some r) :
    Calls Try.prog 44 #[.int .i64 a0] w fun e w' => e = .returned (.bool r) ∧ Drawn0 w w' := by
  have H : (if a0 = 5 then (some true) else (some (a0 == 6))) = some r := h
  clear h
  by_cases c2 : a0 = 5
  · rw [if_pos c2] at H
    have c2b0 : (a0 == 5) = true := beq_iff_eq.mpr c2
    have c2b1 : (a0 != 5) = false := bne_eq_false_iff_eq.mpr c2
    clear c2
    obtain rfl := Option.some.inj H
    go_enter Try.func44, Try.ntmps44
    go_wp2
    go_ret
    exact ⟨by first | rfl | (simp; done) | (simp [*]; done), by repeat (first | exact Drawn0.refl _ | apply Drawn0.step)⟩
  · rw [if_neg c2] at H
    have c2b0 : (a0 == 5) = false := beq_eq_false_iff_ne.mpr c2
    have c2b1 : (a0 != 5) = true := bne_iff_ne.mpr c2
    obtain rfl := Option.some.inj H
    go_enter Try.func44, Try.ntmps44
    go_wp2
    go_ret
    exact ⟨by first | rfl | (simp; done) | (simp [*]; done), by repeat (first | exact Drawn0.refl _ | apply Drawn0.step)⟩

end Go.Proofs.Ytlioghbcomdghaa.PFnExactPredMay
