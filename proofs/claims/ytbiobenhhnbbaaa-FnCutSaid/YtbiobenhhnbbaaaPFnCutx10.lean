/- The machine's side of FnCut, written by wip/tools/hyb.py of this repo: each Go function as a plain Lean function, and the proof that the call comes to just its answer. No condition. -/
import Derived.Test.YtbiobenhhnbbaaaPFnCutx0
import Derived.Test.YtbiobenhhnbbaaaPFnCutx1
import Derived.Test.YtbiobenhhnbbaaaPFnCutx2
import Derived.Test.YtbiobenhhnbbaaaPFnCutx8
import Derived.Test.YtbiobenhhnbbaaaPFnCutx9
namespace Go.Proofs.Ytbiobenhhnbbaaa.PFnCut
open Go.RowKit Go.Proofs.YtbiobenhhnbbaaaW.PrintWords Go.Proofs.YtbiobenhhnbbaaaW.PrintLast Go.Proofs.YtbiobenhhnbbaaaW.PrintMore Go.Proofs.YtbiobenhhnbbaaaW.PrintMore2
attribute [local go_sem] max2_int min2_int max_two min_two max_three min_three max_four min_four   -- for this text's walks alone
set_option linter.unusedVariables false
set_option linter.unusedSimpArgs false

attribute [local go_sem high] eqA35
/-! ### spec_ChunkCut: function 7 -/
mutual
def spec_ChunkCut.j0 : Nat → List (S35) → Int → List (S31) → Bool → Option ((List (S31)))
  | 0, _, _, _, _ => none
  | k + 1, x0, x1, x5, x24 => if x24 = true then (some x5) else (spec_ChunkCut.l0 k x0 x1 x5 (([] : List (S35))) 0 0)
def spec_ChunkCut.l0 : Nat → List (S35) → Int → List (S31) → List (S35) → Int → Int → Option ((List (S31)))
  | 0, _, _, _, _, _, _ => none
  | k + 1, x0, x1, x5, x6, x7, x8 => if x8 < (x0.length : Int) then (if 0 ≤ x8 then (if ((rd_T35 x0 x8).f0) = 0 then (if x7 = x1 then (if x5.length < 5864062014805 then ((some (([] : List (S35)) : List (S35))).bind fun y492 => (if y492.length < 3518437208883 then (spec_ChunkCut.l0 k x0 x1 (x5 ++ [(⟨x6⟩ : S31)]) (y492 ++ [(⟨(rd_T35 x0 x8).f0, (rd_T35 x0 x8).f1, (⟨(rd_T35 x0 x8).f2.f0, (rd_T35 x0 x8).f2.f1⟩ : S33)⟩ : S35)]) (0 + 1) (wrap64 (x8 + 1))) else (none))) else (none)) else (if x6.length < 3518437208883 then (spec_ChunkCut.l0 k x0 x1 x5 (x6 ++ [(⟨(rd_T35 x0 x8).f0, (rd_T35 x0 x8).f1, (⟨(rd_T35 x0 x8).f2.f0, (rd_T35 x0 x8).f2.f1⟩ : S33)⟩ : S35)]) (wrap64 (x7 + 1)) (wrap64 (x8 + 1))) else (none))) else (if x6.length < 3518437208883 then (spec_ChunkCut.l0 k x0 x1 x5 (x6 ++ [(⟨(rd_T35 x0 x8).f0, (rd_T35 x0 x8).f1, (⟨(rd_T35 x0 x8).f2.f0, (rd_T35 x0 x8).f2.f1⟩ : S33)⟩ : S35)]) x7 (wrap64 (x8 + 1))) else (none))) else (none)) else (if x5.length < 5864062014805 then (some (x5 ++ [(⟨x6⟩ : S31)])) else (none))
end
def spec_ChunkCut.f (k : Nat) (l0 : List (S35)) (a1 : Int) : Option ((List (S31))) := (some (([] : List (S31)) : List (S31))).bind fun y477 => (if a1 < 1 then (spec_ChunkCut.j0 k l0 a1 y477 true) else ((spec_l1In.f (l0.length : Int) 1 2000).bind fun t480 => (if t480 = true then (if 0 < (l0.length : Int) then (spec_ChunkCut.j0 k l0 a1 y477 (((rd_T35 l0 0).f0) != 0)) else (none)) else (spec_ChunkCut.j0 k l0 a1 y477 true))))
set_option maxHeartbeats 8000000 in
set_option maxRecDepth 100000 in
theorem spec_ChunkCut.calls (k : Nat) (A0 : Option Addr) (c0 : Nat) (l0 : List (S35)) (a1 : Int) (r : List (S31)) (w : World) (hr0 : Kd.C k35 w A0 l0.length l0) (hc0 : l0.length ≤ c0) (h : spec_ChunkCut.f k l0 a1 = some r) :
    Calls Try.prog 7 #[.slice A0 l0.length c0, .int .i64 a1] w fun e w' => ∃ v0_ : Value, e = .returned (v0_) ∧ Kd.S k31 31 w' w.heap.size (fun _ => True) v0_ r ∧ Below w.heap.size w w' := by
  have hu31 := Try.underlying31
  have hu35 := Try.underlying35
  have HR0 := Aside0.mk hr0
  have HC0 := Aside0.mk hc0
  clear hr0 hc0
  have HB := Aside0.mk (Below.refl w.heap.size w)
  have H : ((some (([] : List (S31)) : List (S31))).bind fun y477 => (if a1 < 1 then (spec_ChunkCut.j0 k l0 a1 y477 true) else ((spec_l1In.f (l0.length : Int) 1 2000).bind fun t480 => (if t480 = true then (if 0 < (l0.length : Int) then (spec_ChunkCut.j0 k l0 a1 y477 (((rd_T35 l0 0).f0) != 0)) else (none)) else (spec_ChunkCut.j0 k l0 a1 y477 true))))) = some r := h
  clear h
  replace H := bsm H
  obtain ⟨y477, Ny477, H⟩ := H
  have HC3 := Aside0.mk H
  clear H
  go_enter Try.func7, Try.ntmps7
  go_upto_region 2 with (first | ((with_reducible refine gate_dst (N := 9) rfl ?_); (try (refine gate_guard (by rfl) ?_; dsimp only)); refine Kd.S_lit k31 _ 31 ?hg (N := 9) ?hd (xs := ([] : List (S31))) (inner := []) (ok := fun _ => True) (okp := fun _ => True) ?hr ?hp (fun _ hk => hk) trivial (Below.refl _ _) (Nat.le_refl _) (by simp) ?_; (case hd => rfl); (case hg => rfl); (case hr => first | (go_simp; done) | (go_simp; rfl)); (case hp => exact (Reps.none _ _)); intro v478 w4 ho5 hb hg_ hnew_; clear hg_ hnew_; (first | rw [← Ny477.out] at ho5 | (simp only [Int.reduceToNat] at ho5; rw [← Ny477.out] at ho5)); have HO479 := Aside0.mk (Kd.S_lower ho5 (below_size (below_later HB.out))); replace HB := bst HB hb; clear hb ho5))
  (try simp only [Act.put, List.setIfInBounds_toArray, List.set_cons_zero, List.set_cons_succ])
  go_cut [24] (fun v24 wc => ∃ (kq : Nat) (x24_2 : Bool), v24 = .bool x24_2 ∧ Aside0 (spec_ChunkCut.j0 kq l0 a1 y477 x24_2 = some r) ∧ Aside0 (kq ≤ k) ∧ Aside0 (Kd.S k31 31 wc w.heap.size (fun _ => True) v478 y477) ∧ Aside0 (Below w.heap.size w wc))
  case first =>
    have H := HC3.out
    clear HC3
    by_cases c6 : a1 < 1
    · rw [if_pos c6] at H
      have c6b0 := decide_eq_true c6
      clear c6
      (first | rw [c6b0] | (simp only [i64_w, i32_w]; rw [c6b0]) | skip)
      have H' := Aside0.mk H
      clear H
      go_wp2
      go_meet
      case rel => exact ⟨_, (true), sr, H', ⟨by first | omega | exact Nat.le_refl _⟩, ⟨by (with_reducible repeat (first | apply Kd.S_alloc | apply Kd.S_drewN | apply Kd.S_drew)); exact HO479.out⟩, ⟨below_later HB.out⟩⟩
    · rw [if_neg c6] at H
      have c6b0 := decide_eq_false c6
      clear c6
      (first | rw [c6b0] | (simp only [i64_w, i32_w]; rw [c6b0]) | skip)
      replace H := bnd H
      obtain ⟨t480, A7, H⟩ := H
      by_cases c8 : t480 = true
      · subst c8
        replace H := ifp rfl H
        replace H := ifs H
        obtain ⟨c9, H⟩ := H
        have c9b0 := decide_eq_true c9
        have c9b1 : decide (0 < l0.length) = true := decide_eq_true (by omega)
        clear c9
        have H' := Aside0.mk H
        clear H
        go_wp2_with (first | (go_at_call 14; (with_reducible refine (spec_l1In.calls (l0.length : Int) 1 2000 true _ A7.out).mono ?_); rintro e w' ⟨rfl, ⟨nd, rfl⟩⟩; have p481 : 0 ≤ (0 : Int) := (by omega); have q481 : 0 < (l0.length : Int) := dcd; obtain ⟨ad481, e481, hx481_0, hx481_1, hx481_2, hx481_3⟩ := at_T35 HR0.out 0 p481 q481; cases e481; have qi481 : (0 < l0.length) = True := eq_true (by omega); (try rw [show ((0 : Int)).toNat = 0 from rfl] at hx481_0); (try rw [show 0 * 4 = 0 from rfl] at hx481_0); (try rw [Addr.add_zero'] at hx481_0); (try rw [show ((0 : Int)).toNat = 0 from rfl] at hx481_1); (try rw [show 0 * 4 = 0 from rfl] at hx481_1); (try rw [Addr.add_zero'] at hx481_1); (try rw [show ((0 : Int)).toNat = 0 from rfl] at hx481_2); (try rw [show 0 * 4 = 0 from rfl] at hx481_2); (try rw [Addr.add_zero'] at hx481_2); (try rw [show ((0 : Int)).toNat = 0 from rfl] at hx481_3); (try rw [show 0 * 4 = 0 from rfl] at hx481_3); (try rw [Addr.add_zero'] at hx481_3); replace hx481_0 := crd HB hx481_0; replace hx481_1 := crd HB hx481_1; replace hx481_2 := crd HB hx481_2; replace hx481_3 := crd HB hx481_3; replace p481 := eq_true p481; replace q481 := eq_true q481))
        go_meet
        case rel => exact ⟨_, ((((rd_T35 l0 0).f0) != 0)), sr, H', ⟨by first | omega | exact Nat.le_refl _⟩, ⟨by (with_reducible repeat (first | apply Kd.S_alloc | apply Kd.S_drewN | apply Kd.S_drew)); exact HO479.out⟩, ⟨below_later HB.out⟩⟩
      · replace c8 := Bool.eq_false_iff.mpr c8
        subst c8
        replace H := ifn Bool.false_ne_true H
        have H' := Aside0.mk H
        clear H
        go_wp2_with (first | (go_at_call 14; (with_reducible refine (spec_l1In.calls (l0.length : Int) 1 2000 false _ A7.out).mono ?_); rintro e w' ⟨rfl, ⟨nd, rfl⟩⟩))
        go_meet
        case rel => exact ⟨_, (true), sr, H', ⟨by first | omega | exact Nat.le_refl _⟩, ⟨by (with_reducible repeat (first | apply Kd.S_alloc | apply Kd.S_drewN | apply Kd.S_drew)); exact HO479.out⟩, ⟨below_later HB.out⟩⟩
  case rest =>
    clear HC3
    obtain ⟨kq, x24_2, rfl, HA, HJ2, HO_5, HB⟩ := hcut
    cases kq with
    | zero => exact absurd HA.out (by simp [spec_ChunkCut.j0])
    | succ kj2 =>
      have H := HA.out
      clear HA
      simp only [spec_ChunkCut.j0] at H
      by_cases c10 : x24_2 = true
      · subst c10
        replace H := ifp rfl H
        obtain rfl := Option.some.inj H
        go_wp2
        go_ret
        exact ⟨_, by first | rfl | (simp [errW_none, errW_some] <;> rfl) | (simp [*, errW_none, errW_some] <;> rfl), by (with_reducible repeat (first | apply Kd.S_alloc | apply Kd.S_drewN | apply Kd.S_drew)); exact HO_5.out, below_later HB.out⟩
      · replace c10 := Bool.eq_false_iff.mpr c10
        subst c10
        replace H := ifn Bool.false_ne_true H
        obtain ⟨y482, hy482⟩ : ∃ y_ : List (S35), y_ = (([] : List (S35))) := ⟨_, rfl⟩
        replace H : (spec_ChunkCut.l0 kj2 l0 a1 y477 y482 0 0) = some r := by first | (rw [hy482]; with_reducible exact H) | (rw [hy482]; exact H) | exact H
        have Ny482 := Aside0.mk hy482
        clear hy482
        have H' := Aside0.mk H
        clear H
        go_wp2_with (first | ((with_reducible refine gate_dst (N := 26) rfl ?_); (try (refine gate_guard (by rfl) ?_; dsimp only)); refine Kd.R_lit k35 _ 35 ?hg (N := 26) ?hd (xs := ([] : List (S35))) (inner := []) (ok := fun _ => True) (okp := fun _ => True) ?hr ?hp (fun _ hk => hk) trivial (Below.refl _ _) (Nat.le_refl _) (by simp) ?_; (case hd => rfl); (case hg => rfl); (case hr => first | (go_simp; done) | (go_simp; rfl)); (case hp => exact (Reps.none _ _)); intro v483 w11 ho12 hb hg_ hnew_; clear hg_ hnew_; (first | rw [← Ny482.out] at ho12 | (simp only [Int.reduceToNat] at ho12; rw [← Ny482.out] at ho12)); have HO484 := Aside0.mk (Kd.R_lower ho12 (below_size (below_later HB.out))); replace HO_5 := Aside0.mk (Kd.S_elder' (by (with_reducible repeat (first | apply Kd.S_alloc | apply Kd.S_drewN | apply Kd.S_drew)); exact HO_5.out) (Kd.R_base ho12) hb); replace HB := bst HB hb; clear hb ho12))
        go_loopg [5, 6, 7, 8] kj2 (fun kq v5 v6 v7 v8 w' => ∃ (x5_2 : List (S31)) (x6_2 : List (S35)) (x7_2 : Int) (x8_2 : Int), v7 = .int .i64 x7_2 ∧ v8 = .int .i64 x8_2 ∧ Aside0 (spec_ChunkCut.l0 kq l0 a1 x5_2 x6_2 x7_2 x8_2 = some r) ∧ Aside0 (kq ≤ kj2) ∧ Aside0 (Kd.S k31 31 w' w.heap.size (fun k_ => some k_ ≠ (v6 : Value).ownBlock) v5 x5_2) ∧ Aside0 (Kd.R k35 35 w' w.heap.size (fun _ => True) v6 x6_2) ∧ Aside0 (Below w.heap.size w w'))
        case atStart => exact ⟨(y477), (y482), (0), (0), sr, sr, H', ⟨Nat.le_refl _⟩, ⟨by (with_reducible repeat (first | apply Kd.S_alloc | apply Kd.S_drewN | apply Kd.S_drew)); exact Kd.S_mono HO_5.out (fun _ hk => hk.2)⟩, ⟨R_later HO484.out⟩, ⟨below_later HB.out⟩⟩
        case round =>
          clear H'
          try clear c10
          obtain ⟨x5_2, x6_2, x7_2, x8_2, rfl, rfl, HA, HK2, HO_5, HO_6, HB⟩ := hrel
          cases gk with
          | zero => exact absurd HA.out (by simp [spec_ChunkCut.l0])
          | succ k2 =>
            have H := HA.out
            clear HA
            simp only [spec_ChunkCut.l0] at H
            by_cases c13 : x8_2 < (l0.length : Int)
            · rw [if_pos c13] at H
              have c13b0 := decide_eq_true c13
              clear c13
              replace H := ifd H
              obtain ⟨c14b0, H⟩ := H
              by_cases c15 : ((rd_T35 l0 x8_2).f0) = 0
              · rw [if_pos c15] at H
                have c15b0 : (((rd_T35 l0 x8_2).f0) == 0) = true := beq_iff_eq.mpr c15
                have c15b1 : (((rd_T35 l0 x8_2).f0) != 0) = false := bne_eq_false_iff_eq.mpr c15
                clear c15
                by_cases c16 : x7_2 = a1
                · rw [if_pos c16] at H
                  have c16b0 : (x7_2 == a1) = true := beq_iff_eq.mpr c16
                  have c16b1 : (x7_2 != a1) = false := bne_eq_false_iff_eq.mpr c16
                  clear c16
                  replace H := ifs H
                  obtain ⟨c17, H⟩ := H
                  have LMc17 := Aside0.mk c17
                  clear c17
                  obtain ⟨y489, hy489⟩ : ∃ y_ : List (S31), y_ = (x5_2 ++ [(⟨x6_2⟩ : S31)]) := ⟨_, rfl⟩
                  replace H : ((some (([] : List (S35)) : List (S35))).bind fun y492 => (if y492.length < 3518437208883 then (spec_ChunkCut.l0 k2 l0 a1 y489 (y492 ++ [(⟨(rd_T35 l0 x8_2).f0, (rd_T35 l0 x8_2).f1, (⟨(rd_T35 l0 x8_2).f2.f0, (rd_T35 l0 x8_2).f2.f1⟩ : S33)⟩ : S35)]) (0 + 1) (wrap64 (x8_2 + 1))) else (none))) = some r := by first | (rw [hy489]; with_reducible exact H) | (rw [hy489]; exact H) | exact H
                  have Ny489 := Aside0.mk hy489
                  clear hy489
                  replace H := bsm H
                  obtain ⟨y492, Ny492, H⟩ := H
                  replace H := ifs H
                  obtain ⟨c18, H⟩ := H
                  have LMc18 := Aside0.mk c18
                  clear c18
                  obtain ⟨y496, hy496⟩ : ∃ y_ : List (S35), y_ = (y492 ++ [(⟨(rd_T35 l0 x8_2).f0, (rd_T35 l0 x8_2).f1, (⟨(rd_T35 l0 x8_2).f2.f0, (rd_T35 l0 x8_2).f2.f1⟩ : S33)⟩ : S35)]) := ⟨_, rfl⟩
                  replace H : (spec_ChunkCut.l0 k2 l0 a1 y489 y496 (0 + 1) (wrap64 (x8_2 + 1))) = some r := by first | (rw [hy496]; with_reducible exact H) | (rw [hy496]; exact H) | exact H
                  have Ny496 := Aside0.mk hy496
                  clear hy496
                  have H' := Aside0.mk H
                  clear H
                  have p488 : 0 ≤ (x8_2 : Int) := dcd
                  have q488 : x8_2 < (l0.length : Int) := dcd
                  obtain ⟨ad488, e488, hx488_0, hx488_1, hx488_2, hx488_3⟩ := at_T35 HR0.out x8_2 p488 q488
                  cases e488
                  replace hx488_0 := crd HB hx488_0
                  replace hx488_1 := crd HB hx488_1
                  replace hx488_2 := crd HB hx488_2
                  replace hx488_3 := crd HB hx488_3
                  replace p488 := eq_true p488
                  replace q488 := eq_true q488
                  obtain ⟨Ao19, co19, eo19⟩ := Kd.R_slice HO_6.out
                  subst eo19
                  go_wp2_with (first | ((with_reducible refine gate_builtin (b := .append) (xs := #[.tmp 42, .tmp 45]) rfl ?_); (try (refine gate_guard (by rfl) ?_; dsimp only)); at_builtin; refine Kd.S_append k31 (w0 := w) w.heap.size rfl (.tmp 42) (.tmp 45) 27 31 (.agg #[(.slice none 0 0)]) 24 rfl Try.underlying27 info31 rfl (by decide) (by omega) u5 x5_2 (⟨x6_2⟩ : S31) [.slice Ao19 x6_2.length co19] (fun _ => True) (fun k_ => some k_ = (.slice Ao19 x6_2.length co19 : Value).ownBlock) rfl rfl ?aP (fun k_ hk_ => ((Kd.R_mono (ok' := fun k_ => ((fun _ => True)) k_ ∧ some k_ ≠ (u5 : Value).ownBlock) (Kd.R_apart' (HO_6.out) (Kd.S_typed HO_5.out) (by decide)) (fun k_ hk => ⟨trivial, hk.2⟩))).1 k_ hk_.symm) ?aF ?aO ?aB ?aS ?aL ?_; (case aP => exact k31_mkM _ _ _ (⟨x6_2⟩ : S31) (Kd.R_mono (Kd.R_tight rfl (Kd.R_mono (ok' := fun k_ => ((fun _ => True)) k_ ∧ some k_ ≠ (u5 : Value).ownBlock) (Kd.R_apart' (HO_6.out) (Kd.S_typed HO_5.out) (by decide)) (fun k_ hk => ⟨trivial, hk.2⟩))) (fun _ h_ => h_))); (case aB => exact (below_later HB.out)); (case aF => exact (fun _ _ => trivial)); (case aO => exact (by (with_reducible repeat (first | apply Kd.S_alloc | apply Kd.S_drewN | apply Kd.S_drew)); exact Kd.S_mono HO_5.out (fun k_ hk => ⟨trivial, fun e_ => hk e_⟩))); (case aS => exact (below_size (below_later HB.out))); (case aL => have := LMc17.out; omega); intro v490 w20 ho hb hg hat; rw [← Ny489.out] at ho; have n0_ := Aside0.mk (hb); have n1_ := Aside0.mk (ho); clear HB; clear HO_5; clear HO_6; have HB := n0_; have HO491 := n1_; clear n0_ n1_; clear ho hb hg hat) | ((with_reducible refine gate_dst (N := 47) rfl ?_); (try (refine gate_guard (by rfl) ?_; dsimp only)); refine Kd.R_lit k35 _ 35 ?hg (N := 47) ?hd (xs := ([] : List (S35))) (inner := []) (ok := fun _ => True) (okp := fun _ => True) ?hr ?hp (fun _ hk => hk) trivial (Below.refl _ _) (Nat.le_refl _) (by simp) ?_; (case hd => rfl); (case hg => rfl); (case hr => first | (go_simp; done) | (go_simp; rfl)); (case hp => exact (Reps.none _ _)); intro v493 w21 ho22 hb hg_ hnew_; clear hg_ hnew_; (first | rw [← Ny492.out] at ho22 | (simp only [Int.reduceToNat] at ho22; rw [← Ny492.out] at ho22)); have HO494 := Aside0.mk (Kd.R_lower ho22 (below_size (below_later HB.out))); replace HO491 := Aside0.mk (Kd.S_elder' (by (with_reducible repeat (first | apply Kd.S_alloc | apply Kd.S_drewN | apply Kd.S_drew)); exact HO491.out) (Kd.R_base ho22) hb); replace HB := bst HB hb; clear hb ho22; have p495 : 0 ≤ (x8_2 : Int) := dcd; have q495 : x8_2 < (l0.length : Int) := dcd; obtain ⟨ad495, e495, hx495_0, hx495_1, hx495_2, hx495_3⟩ := at_T35 HR0.out x8_2 p495 q495; obtain rfl : ad488 = ad495 := (by injection e495); replace hx495_0 := crd HB hx495_0; replace hx495_1 := crd HB hx495_1; replace hx495_2 := crd HB hx495_2; replace hx495_3 := crd HB hx495_3; replace p495 := eq_true p495; replace q495 := eq_true q495) | ((with_reducible refine gate_builtin (b := .append) (xs := #[.tmp 50, .tmp 55]) rfl ?_); (try (refine gate_guard (by rfl) ?_; dsimp only)); at_builtin; refine Kd.R_append k35 (w0 := w) w.heap.size rfl (.tmp 50) (.tmp 55) 24 35 (.agg #[(.int .i64 0), (.int .i64 0), (.int .i64 0), (.string ⟨#[]⟩)]) 40 rfl Try.underlying24 info35 rfl (by decide) (by omega) v493 y492 (⟨(rd_T35 l0 x8_2).f0, (rd_T35 l0 x8_2).f1, (⟨(rd_T35 l0 x8_2).f2.f0, (rd_T35 l0 x8_2).f2.f1⟩ : S33)⟩ : S35) [.int .i64 ((rd_T35 l0 x8_2).f0), .int .i64 ((rd_T35 l0 x8_2).f1), .int .i64 ((rd_T35 l0 x8_2).f2.f0), .string ((rd_T35 l0 x8_2).f2.f1)] (fun _ => True) (fun _ => False) rfl rfl ?aP (fun _ hk => hk.elim) ?aF ?aO ?aB ?aS ?aL ?_; (case aP => exact k35_mkM _ _ _ (⟨(rd_T35 l0 x8_2).f0, (rd_T35 l0 x8_2).f1, (⟨(rd_T35 l0 x8_2).f2.f0, (rd_T35 l0 x8_2).f2.f1⟩ : S33)⟩ : S35)); (case aB => exact (below_later HB.out)); (case aF => exact (fun _ _ => trivial)); (case aO => exact (R_later HO494.out)); (case aS => exact (below_size (below_later HB.out))); (case aL => have := LMc18.out; omega); intro v497 w23 ho hb hg hat; rw [← Ny496.out] at ho; have n0_ := Aside0.mk (Kd.S_after (ok := (fun _ => True)) (by (with_reducible repeat (first | apply Kd.S_alloc | apply Kd.S_drewN | apply Kd.S_drew)); exact HO491.out) hg hat); have n1_ := Aside0.mk (hb); have n2_ := Aside0.mk (ho); clear HO491; clear HB; clear HO494; have HO491 := n0_; have HB := n1_; have HO498 := n2_; clear n0_ n1_ n2_; clear ho hb hg hat))
                  go_roundg k2
                  case measure => have := HJ2.out; have := HK2.out; omega
                  case rel => exact ⟨(y489), (y496), (0 + 1), (wrap64 (x8_2 + 1)), sr, sr, H', ⟨by have := HJ2.out; have := HK2.out; omega⟩, ⟨by (with_reducible repeat (first | apply Kd.S_alloc | apply Kd.S_drewN | apply Kd.S_drew)); exact Kd.S_mono HO491.out (fun _ hk => hk.2)⟩, ⟨R_later HO498.out⟩, ⟨below_later HB.out⟩⟩
                · rw [if_neg c16] at H
                  have c16b0 : (x7_2 == a1) = false := beq_eq_false_iff_ne.mpr c16
                  have c16b1 : (x7_2 != a1) = true := bne_iff_ne.mpr c16
                  replace H := ifs H
                  obtain ⟨c24, H⟩ := H
                  have LMc24 := Aside0.mk c24
                  clear c24
                  obtain ⟨y500, hy500⟩ : ∃ y_ : List (S35), y_ = (x6_2 ++ [(⟨(rd_T35 l0 x8_2).f0, (rd_T35 l0 x8_2).f1, (⟨(rd_T35 l0 x8_2).f2.f0, (rd_T35 l0 x8_2).f2.f1⟩ : S33)⟩ : S35)]) := ⟨_, rfl⟩
                  replace H : (spec_ChunkCut.l0 k2 l0 a1 x5_2 y500 (wrap64 (x7_2 + 1)) (wrap64 (x8_2 + 1))) = some r := by first | (rw [hy500]; with_reducible exact H) | (rw [hy500]; exact H) | exact H
                  have Ny500 := Aside0.mk hy500
                  clear hy500
                  have H' := Aside0.mk H
                  clear H
                  have p488 : 0 ≤ (x8_2 : Int) := dcd
                  have q488 : x8_2 < (l0.length : Int) := dcd
                  obtain ⟨ad488, e488, hx488_0, hx488_1, hx488_2, hx488_3⟩ := at_T35 HR0.out x8_2 p488 q488
                  cases e488
                  replace hx488_0 := crd HB hx488_0
                  replace hx488_1 := crd HB hx488_1
                  replace hx488_2 := crd HB hx488_2
                  replace hx488_3 := crd HB hx488_3
                  replace p488 := eq_true p488
                  replace q488 := eq_true q488
                  have p499 : 0 ≤ (x8_2 : Int) := dcd
                  have q499 : x8_2 < (l0.length : Int) := dcd
                  obtain ⟨ad499, e499, hx499_0, hx499_1, hx499_2, hx499_3⟩ := at_T35 HR0.out x8_2 p499 q499
                  obtain rfl : ad488 = ad499 := (by injection e499)
                  replace hx499_0 := crd HB hx499_0
                  replace hx499_1 := crd HB hx499_1
                  replace hx499_2 := crd HB hx499_2
                  replace hx499_3 := crd HB hx499_3
                  replace p499 := eq_true p499
                  replace q499 := eq_true q499
                  go_wp2_with (first | ((with_reducible refine gate_builtin (b := .append) (xs := #[.tmp 50, .tmp 55]) rfl ?_); (try (refine gate_guard (by rfl) ?_; dsimp only)); at_builtin; refine Kd.R_append k35 (w0 := w) w.heap.size rfl (.tmp 50) (.tmp 55) 24 35 (.agg #[(.int .i64 0), (.int .i64 0), (.int .i64 0), (.string ⟨#[]⟩)]) 40 rfl Try.underlying24 info35 rfl (by decide) (by omega) u6 x6_2 (⟨(rd_T35 l0 x8_2).f0, (rd_T35 l0 x8_2).f1, (⟨(rd_T35 l0 x8_2).f2.f0, (rd_T35 l0 x8_2).f2.f1⟩ : S33)⟩ : S35) [.int .i64 ((rd_T35 l0 x8_2).f0), .int .i64 ((rd_T35 l0 x8_2).f1), .int .i64 ((rd_T35 l0 x8_2).f2.f0), .string ((rd_T35 l0 x8_2).f2.f1)] (fun _ => True) (fun _ => False) rfl rfl ?aP (fun _ hk => hk.elim) ?aF ?aO ?aB ?aS ?aL ?_; (case aP => exact k35_mkM _ _ _ (⟨(rd_T35 l0 x8_2).f0, (rd_T35 l0 x8_2).f1, (⟨(rd_T35 l0 x8_2).f2.f0, (rd_T35 l0 x8_2).f2.f1⟩ : S33)⟩ : S35)); (case aB => exact (below_later HB.out)); (case aF => exact (fun _ _ => trivial)); (case aO => exact (R_later HO_6.out)); (case aS => exact (below_size (below_later HB.out))); (case aL => have := LMc24.out; omega); intro v501 w25 ho hb hg hat; rw [← Ny500.out] at ho; have n0_ := Aside0.mk (Kd.S_after (ok := (fun _ => True)) (by (with_reducible repeat (first | apply Kd.S_alloc | apply Kd.S_drewN | apply Kd.S_drew)); exact Kd.S_mono HO_5.out (fun _ hk => ⟨trivial, hk⟩)) hg hat); have n1_ := Aside0.mk (hb); have n2_ := Aside0.mk (ho); clear HO_5; clear HB; clear HO_6; have HO_5 := n0_; have HB := n1_; have HO502 := n2_; clear n0_ n1_ n2_; clear ho hb hg hat))
                  go_roundg k2
                  case measure => have := HJ2.out; have := HK2.out; omega
                  case rel => exact ⟨(x5_2), (y500), (wrap64 (x7_2 + 1)), (wrap64 (x8_2 + 1)), sr, sr, H', ⟨by have := HJ2.out; have := HK2.out; omega⟩, ⟨by (with_reducible repeat (first | apply Kd.S_alloc | apply Kd.S_drewN | apply Kd.S_drew)); exact Kd.S_mono HO_5.out (fun _ hk => hk.2)⟩, ⟨R_later HO502.out⟩, ⟨below_later HB.out⟩⟩
              · rw [if_neg c15] at H
                have c15b0 : (((rd_T35 l0 x8_2).f0) == 0) = false := beq_eq_false_iff_ne.mpr c15
                have c15b1 : (((rd_T35 l0 x8_2).f0) != 0) = true := bne_iff_ne.mpr c15
                replace H := ifs H
                obtain ⟨c26, H⟩ := H
                have LMc26 := Aside0.mk c26
                clear c26
                obtain ⟨y504, hy504⟩ : ∃ y_ : List (S35), y_ = (x6_2 ++ [(⟨(rd_T35 l0 x8_2).f0, (rd_T35 l0 x8_2).f1, (⟨(rd_T35 l0 x8_2).f2.f0, (rd_T35 l0 x8_2).f2.f1⟩ : S33)⟩ : S35)]) := ⟨_, rfl⟩
                replace H : (spec_ChunkCut.l0 k2 l0 a1 x5_2 y504 x7_2 (wrap64 (x8_2 + 1))) = some r := by first | (rw [hy504]; with_reducible exact H) | (rw [hy504]; exact H) | exact H
                have Ny504 := Aside0.mk hy504
                clear hy504
                have H' := Aside0.mk H
                clear H
                have p488 : 0 ≤ (x8_2 : Int) := dcd
                have q488 : x8_2 < (l0.length : Int) := dcd
                obtain ⟨ad488, e488, hx488_0, hx488_1, hx488_2, hx488_3⟩ := at_T35 HR0.out x8_2 p488 q488
                cases e488
                replace hx488_0 := crd HB hx488_0
                replace hx488_1 := crd HB hx488_1
                replace hx488_2 := crd HB hx488_2
                replace hx488_3 := crd HB hx488_3
                replace p488 := eq_true p488
                replace q488 := eq_true q488
                have p503 : 0 ≤ (x8_2 : Int) := dcd
                have q503 : x8_2 < (l0.length : Int) := dcd
                obtain ⟨ad503, e503, hx503_0, hx503_1, hx503_2, hx503_3⟩ := at_T35 HR0.out x8_2 p503 q503
                obtain rfl : ad488 = ad503 := (by injection e503)
                replace hx503_0 := crd HB hx503_0
                replace hx503_1 := crd HB hx503_1
                replace hx503_2 := crd HB hx503_2
                replace hx503_3 := crd HB hx503_3
                replace p503 := eq_true p503
                replace q503 := eq_true q503
                go_wp2_with (first | ((with_reducible refine gate_builtin (b := .append) (xs := #[.tmp 50, .tmp 55]) rfl ?_); (try (refine gate_guard (by rfl) ?_; dsimp only)); at_builtin; refine Kd.R_append k35 (w0 := w) w.heap.size rfl (.tmp 50) (.tmp 55) 24 35 (.agg #[(.int .i64 0), (.int .i64 0), (.int .i64 0), (.string ⟨#[]⟩)]) 40 rfl Try.underlying24 info35 rfl (by decide) (by omega) u6 x6_2 (⟨(rd_T35 l0 x8_2).f0, (rd_T35 l0 x8_2).f1, (⟨(rd_T35 l0 x8_2).f2.f0, (rd_T35 l0 x8_2).f2.f1⟩ : S33)⟩ : S35) [.int .i64 ((rd_T35 l0 x8_2).f0), .int .i64 ((rd_T35 l0 x8_2).f1), .int .i64 ((rd_T35 l0 x8_2).f2.f0), .string ((rd_T35 l0 x8_2).f2.f1)] (fun _ => True) (fun _ => False) rfl rfl ?aP (fun _ hk => hk.elim) ?aF ?aO ?aB ?aS ?aL ?_; (case aP => exact k35_mkM _ _ _ (⟨(rd_T35 l0 x8_2).f0, (rd_T35 l0 x8_2).f1, (⟨(rd_T35 l0 x8_2).f2.f0, (rd_T35 l0 x8_2).f2.f1⟩ : S33)⟩ : S35)); (case aB => exact (below_later HB.out)); (case aF => exact (fun _ _ => trivial)); (case aO => exact (R_later HO_6.out)); (case aS => exact (below_size (below_later HB.out))); (case aL => have := LMc26.out; omega); intro v505 w27 ho hb hg hat; rw [← Ny504.out] at ho; have n0_ := Aside0.mk (Kd.S_after (ok := (fun _ => True)) (by (with_reducible repeat (first | apply Kd.S_alloc | apply Kd.S_drewN | apply Kd.S_drew)); exact Kd.S_mono HO_5.out (fun _ hk => ⟨trivial, hk⟩)) hg hat); have n1_ := Aside0.mk (hb); have n2_ := Aside0.mk (ho); clear HO_5; clear HB; clear HO_6; have HO_5 := n0_; have HB := n1_; have HO506 := n2_; clear n0_ n1_ n2_; clear ho hb hg hat))
                go_roundg k2
                case measure => have := HJ2.out; have := HK2.out; omega
                case rel => exact ⟨(x5_2), (y504), (x7_2), (wrap64 (x8_2 + 1)), sr, sr, H', ⟨by have := HJ2.out; have := HK2.out; omega⟩, ⟨by (with_reducible repeat (first | apply Kd.S_alloc | apply Kd.S_drewN | apply Kd.S_drew)); exact Kd.S_mono HO_5.out (fun _ hk => hk.2)⟩, ⟨R_later HO506.out⟩, ⟨below_later HB.out⟩⟩
            · rw [if_neg c13] at H
              have c13b0 := decide_eq_false c13
              clear c13
              replace H := ifs H
              obtain ⟨c28, H⟩ := H
              have LMc28 := Aside0.mk c28
              clear c28
              obtain ⟨y485, hy485⟩ : ∃ y_ : List (S31), y_ = (x5_2 ++ [(⟨x6_2⟩ : S31)]) := ⟨_, rfl⟩
              replace H : (some y485) = some r := by first | (rw [hy485]; with_reducible exact H) | (rw [hy485]; exact H) | exact H
              have Ny485 := Aside0.mk hy485
              clear hy485
              obtain rfl := Option.some.inj H
              obtain ⟨Ao29, co29, eo29⟩ := Kd.R_slice HO_6.out
              subst eo29
              go_wp2_with (first | ((with_reducible refine gate_builtin (b := .append) (xs := #[.tmp 57, .tmp 60]) rfl ?_); (try (refine gate_guard (by rfl) ?_; dsimp only)); at_builtin; refine Kd.S_append k31 (w0 := w) w.heap.size rfl (.tmp 57) (.tmp 60) 27 31 (.agg #[(.slice none 0 0)]) 24 rfl Try.underlying27 info31 rfl (by decide) (by omega) u5 x5_2 (⟨x6_2⟩ : S31) [.slice Ao29 x6_2.length co29] (fun _ => True) (fun k_ => some k_ = (.slice Ao29 x6_2.length co29 : Value).ownBlock) rfl rfl ?aP (fun k_ hk_ => ((Kd.R_mono (ok' := fun k_ => ((fun _ => True)) k_ ∧ some k_ ≠ (u5 : Value).ownBlock) (Kd.R_apart' (HO_6.out) (Kd.S_typed HO_5.out) (by decide)) (fun k_ hk => ⟨trivial, hk.2⟩))).1 k_ hk_.symm) ?aF ?aO ?aB ?aS ?aL ?_; (case aP => exact k31_mkM _ _ _ (⟨x6_2⟩ : S31) (Kd.R_mono (Kd.R_tight rfl (Kd.R_mono (ok' := fun k_ => ((fun _ => True)) k_ ∧ some k_ ≠ (u5 : Value).ownBlock) (Kd.R_apart' (HO_6.out) (Kd.S_typed HO_5.out) (by decide)) (fun k_ hk => ⟨trivial, hk.2⟩))) (fun _ h_ => h_))); (case aB => exact (below_later HB.out)); (case aF => exact (fun _ _ => trivial)); (case aO => exact (by (with_reducible repeat (first | apply Kd.S_alloc | apply Kd.S_drewN | apply Kd.S_drew)); exact Kd.S_mono HO_5.out (fun k_ hk => ⟨trivial, fun e_ => hk e_⟩))); (case aS => exact (below_size (below_later HB.out))); (case aL => have := LMc28.out; omega); intro v486 w30 ho hb hg hat; rw [← Ny485.out] at ho; have n0_ := Aside0.mk (hb); have n1_ := Aside0.mk (ho); clear HB; clear HO_5; clear HO_6; have HB := n0_; have HO487 := n1_; clear n0_ n1_; clear ho hb hg hat))
              go_ret
              exact ⟨_, by first | rfl | (simp [errW_none, errW_some] <;> rfl) | (simp [*, errW_none, errW_some] <;> rfl), by (with_reducible repeat (first | apply Kd.S_alloc | apply Kd.S_drewN | apply Kd.S_drew)); exact HO487.out, below_later HB.out⟩
/-! ### impl_RowsOf: function 8 -/
def impl_RowsOf.l0 : Nat → Int → List (S35) → Int → Int → Option (Int)
  | 0, _, _, _, _ => none
  | k + 1, x3, x6, x7, x8 => if x8 < x7 then (if 0 ≤ x8 then (if x8 < (x6.length : Int) then (if ((rd_T35 x6 x8).f0) = 0 then (impl_RowsOf.l0 k (wrap64 (x3 + 1)) x6 x7 (wrap64 (x8 + 1))) else (impl_RowsOf.l0 k x3 x6 x7 (wrap64 (x8 + 1)))) else (none)) else (none)) else (some x3)
def impl_RowsOf.f (k : Nat) (l0 : List (S35)) : Option (Int) := impl_RowsOf.l0 k 0 l0 (l0.length : Int) 0
set_option maxHeartbeats 8000000 in
set_option maxRecDepth 100000 in
theorem impl_RowsOf.calls (k : Nat) (A0 : Option Addr) (c0 : Nat) (l0 : List (S35)) (r : Int) (w : World) (hr0 : Kd.C k35 w A0 l0.length l0) (hc0 : l0.length ≤ c0) (h : impl_RowsOf.f k l0 = some r) :
    Calls Try.prog 8 #[.slice A0 l0.length c0] w fun e w' => e = .returned (.int .i64 r) ∧ Below w.heap.size w w' := by
  have hu35 := Try.underlying35
  have HR0 := Aside0.mk hr0
  have HC0 := Aside0.mk hc0
  clear hr0 hc0
  have HB := Aside0.mk (Below.refl w.heap.size w)
  have H : (impl_RowsOf.l0 k 0 l0 (l0.length : Int) 0) = some r := h
  clear h
  have H' := Aside0.mk H
  clear H
  go_enter Try.func8, Try.ntmps8
  go_wp2
  go_loopg [3, 8] k (fun kq v3 v8 w' => ∃ (x3_1 : Int) (x8_1 : Int), v3 = .int .i64 x3_1 ∧ v8 = .int .i64 x8_1 ∧ Aside0 (impl_RowsOf.l0 kq x3_1 l0 (l0.length : Int) x8_1 = some r) ∧ Aside0 (kq ≤ k) ∧ Aside0 (Below w.heap.size w w'))
  case atStart => exact ⟨(0), (0), sr, sr, H', ⟨Nat.le_refl _⟩, ⟨below_later HB.out⟩⟩
  case round =>
    clear H'
    obtain ⟨x3_1, x8_1, rfl, rfl, HA, HK1, HB⟩ := hrel
    cases gk with
    | zero => exact absurd HA.out (by simp [impl_RowsOf.l0])
    | succ k1 =>
      have H := HA.out
      clear HA
      simp only [impl_RowsOf.l0] at H
      by_cases c2 : x8_1 < (l0.length : Int)
      · rw [if_pos c2] at H
        have c2b0 := decide_eq_true c2
        clear c2
        replace H := ifd H
        obtain ⟨c3b0, H⟩ := H
        replace H := ifd H
        obtain ⟨c4b0, H⟩ := H
        by_cases c5 : ((rd_T35 l0 x8_1).f0) = 0
        · rw [if_pos c5] at H
          have c5b0 : (((rd_T35 l0 x8_1).f0) == 0) = true := beq_iff_eq.mpr c5
          have c5b1 : (((rd_T35 l0 x8_1).f0) != 0) = false := bne_eq_false_iff_eq.mpr c5
          clear c5
          have H' := Aside0.mk H
          clear H
          have p507 : 0 ≤ (x8_1 : Int) := dcd
          have q507 : x8_1 < (l0.length : Int) := dcd
          obtain ⟨ad507, e507, hx507_0, hx507_1, hx507_2, hx507_3⟩ := at_T35 HR0.out x8_1 p507 q507
          cases e507
          replace hx507_0 := crd HB hx507_0
          replace hx507_1 := crd HB hx507_1
          replace hx507_2 := crd HB hx507_2
          replace hx507_3 := crd HB hx507_3
          replace p507 := eq_true p507
          replace q507 := eq_true q507
          go_wp2_with (first | ((with_reducible refine gate_dst (N := 5) rfl ?_); refine bx_ 5 #[.int .i64 0, .int .i64 0, .int .i64 0, .string (⟨#[]⟩ : ByteArray)] 35 ?_; intro gb508 hg w6 hbox hb; have BK508 := Aside0.mk (hbox); have GW508 := gwe HB hg; have GE508 := GW508; replace HB := bst HB hb; clear hb hbox hg; obtain ⟨hcz7_0, hcz7_1, hcz7_2, hcz7_3, hfz7_0, hfz7_1, hfz7_2, hfz7_3⟩ := cl4 BK508))
          go_roundg k1
          case measure => have := HK1.out; omega
          case rel => exact ⟨(wrap64 (x3_1 + 1)), (wrap64 (x8_1 + 1)), sr, sr, H', ⟨by have := HK1.out; omega⟩, ⟨below_later HB.out⟩⟩
        · rw [if_neg c5] at H
          have c5b0 : (((rd_T35 l0 x8_1).f0) == 0) = false := beq_eq_false_iff_ne.mpr c5
          have c5b1 : (((rd_T35 l0 x8_1).f0) != 0) = true := bne_iff_ne.mpr c5
          have H' := Aside0.mk H
          clear H
          have p507 : 0 ≤ (x8_1 : Int) := dcd
          have q507 : x8_1 < (l0.length : Int) := dcd
          obtain ⟨ad507, e507, hx507_0, hx507_1, hx507_2, hx507_3⟩ := at_T35 HR0.out x8_1 p507 q507
          cases e507
          replace hx507_0 := crd HB hx507_0
          replace hx507_1 := crd HB hx507_1
          replace hx507_2 := crd HB hx507_2
          replace hx507_3 := crd HB hx507_3
          replace p507 := eq_true p507
          replace q507 := eq_true q507
          go_wp2_with (first | ((with_reducible refine gate_dst (N := 5) rfl ?_); refine bx_ 5 #[.int .i64 0, .int .i64 0, .int .i64 0, .string (⟨#[]⟩ : ByteArray)] 35 ?_; intro gb508 hg w8 hbox hb; have BK508 := Aside0.mk (hbox); have GW508 := gwe HB hg; have GE508 := GW508; replace HB := bst HB hb; clear hb hbox hg; obtain ⟨hcz9_0, hcz9_1, hcz9_2, hcz9_3, hfz9_0, hfz9_1, hfz9_2, hfz9_3⟩ := cl4 BK508))
          go_roundg k1
          case measure => have := HK1.out; omega
          case rel => exact ⟨(x3_1), (wrap64 (x8_1 + 1)), sr, sr, H', ⟨by have := HK1.out; omega⟩, ⟨below_later HB.out⟩⟩
      · rw [if_neg c2] at H
        have c2b0 := decide_eq_false c2
        clear c2
        obtain rfl := Option.some.inj H
        go_wp2
        go_ret
        exact fin_ (below_later HB.out)

/-! ### laws_sameTriples: function 9 -/
def laws_sameTriples.l0 : Nat → List (S35) → List (S35) → Int → Option (Bool)
  | 0, _, _, _ => none
  | k + 1, x0, x1, x5 => if x5 < (x0.length : Int) then (if 0 ≤ x5 then (if x5 < (x1.length : Int) then (if (!(((rd_T35 x0 x5).f0) == ((rd_T35 x1 x5).f0)) || (!(((rd_T35 x0 x5).f1) == ((rd_T35 x1 x5).f1)) || ((!(((rd_T35 x0 x5).f2.f0) == ((rd_T35 x1 x5).f2.f0)) || (!((((rd_T35 x0 x5).f2.f1).toList) == (((rd_T35 x1 x5).f2.f1).toList))))))) = true then (some false) else (laws_sameTriples.l0 k x0 x1 (wrap64 (x5 + 1)))) else (none)) else (none)) else (some true)
def laws_sameTriples.f (k : Nat) (l0 : List (S35)) (l1 : List (S35)) : Option (Bool) := if (l0.length : Int) = (l1.length : Int) then (laws_sameTriples.l0 k l0 l1 0) else (some false)
set_option maxHeartbeats 8000000 in
set_option maxRecDepth 100000 in
theorem laws_sameTriples.calls (k : Nat) (A0 : Option Addr) (c0 : Nat) (l0 : List (S35)) (A1 : Option Addr) (c1 : Nat) (l1 : List (S35)) (r : Bool) (w : World) (hr0 : Kd.C k35 w A0 l0.length l0) (hc0 : l0.length ≤ c0) (hr1 : Kd.C k35 w A1 l1.length l1) (hc1 : l1.length ≤ c1) (h : laws_sameTriples.f k l0 l1 = some r) :
    Calls Try.prog 9 #[.slice A0 l0.length c0, .slice A1 l1.length c1] w fun e w' => e = .returned (.bool r) ∧ Drawn0 w w' := by
  have hu35 := Try.underlying35
  have HR0 := Aside0.mk hr0
  have HC0 := Aside0.mk hc0
  clear hr0 hc0
  have HR1 := Aside0.mk hr1
  have HC1 := Aside0.mk hc1
  clear hr1 hc1
  have H : (if (l0.length : Int) = (l1.length : Int) then (laws_sameTriples.l0 k l0 l1 0) else (some false)) = some r := h
  clear h
  by_cases c3 : (l0.length : Int) = (l1.length : Int)
  · rw [if_pos c3] at H
    have c3b0 : ((l0.length : Int) == (l1.length : Int)) = true := beq_iff_eq.mpr c3
    have c3b1 : ((l0.length : Int) != (l1.length : Int)) = false := bne_eq_false_iff_eq.mpr c3
    have c3b2 : (l0.length == l1.length) = true := by first | simpa using c3 | (simp at c3 ⊢; omega)
    clear c3
    have H' := Aside0.mk H
    clear H
    go_enter Try.func9, Try.ntmps9
    go_wp2
    repeat (go_quiet (fail); try go_wp2)
    go_loopg [5] k (fun kq v5 w' => ∃ (x5_1 : Int), v5 = .int .i64 x5_1 ∧ Aside0 (laws_sameTriples.l0 kq l0 l1 x5_1 = some r) ∧ Aside0 (kq ≤ k) ∧ Drawn0 w w')
    case atStart => exact ⟨(0), sr, H', ⟨Nat.le_refl _⟩, by repeat (first | exact Drawn0.refl _ | apply Drawn0.step)⟩
    case round =>
      clear H'
      try clear c1
      try clear c3
      try clear c3b0
      try clear c3b1
      try clear c3b2
      obtain ⟨x5_1, rfl, HA, HK1, ⟨m1, rfl⟩⟩ := hrel
      cases gk with
      | zero => exact absurd HA.out (by simp [laws_sameTriples.l0])
      | succ k1 =>
        have H := HA.out
        clear HA
        simp only [laws_sameTriples.l0] at H
        by_cases c4 : x5_1 < (l0.length : Int)
        · rw [if_pos c4] at H
          have c4b0 := decide_eq_true c4
          clear c4
          replace H := ifd H
          obtain ⟨c5b0, H⟩ := H
          replace H := ifd H
          obtain ⟨c6b0, H⟩ := H
          by_cases c7 : (!(((rd_T35 l0 x5_1).f0) == ((rd_T35 l1 x5_1).f0)) || (!(((rd_T35 l0 x5_1).f1) == ((rd_T35 l1 x5_1).f1)) || ((!(((rd_T35 l0 x5_1).f2.f0) == ((rd_T35 l1 x5_1).f2.f0)) || (!((((rd_T35 l0 x5_1).f2.f1).toList) == (((rd_T35 l1 x5_1).f2.f1).toList))))))) = true
          · rw [if_pos c7] at H
            have c7b0 : (!(((rd_T35 l0 x5_1).f0) == ((rd_T35 l1 x5_1).f0)) || (!(((rd_T35 l0 x5_1).f1) == ((rd_T35 l1 x5_1).f1)) || ((!(((rd_T35 l0 x5_1).f2.f0) == ((rd_T35 l1 x5_1).f2.f0)) || (!((((rd_T35 l0 x5_1).f2.f1).toList) == (((rd_T35 l1 x5_1).f2.f1).toList))))))) = true := c7
            clear c7
            obtain rfl := Option.some.inj H
            have p509 : 0 ≤ (x5_1 : Int) := dcd
            have q509 : x5_1 < (l0.length : Int) := dcd
            obtain ⟨ad509, e509, hx509_0, hx509_1, hx509_2, hx509_3⟩ := at_T35 HR0.out x5_1 p509 q509
            cases e509
            replace p509 := eq_true p509
            replace q509 := eq_true q509
            have p510 : 0 ≤ (x5_1 : Int) := dcd
            have q510 : x5_1 < (l1.length : Int) := dcd
            obtain ⟨ad510, e510, hx510_0, hx510_1, hx510_2, hx510_3⟩ := at_T35 HR1.out x5_1 p510 q510
            cases e510
            replace p510 := eq_true p510
            replace q510 := eq_true q510
            go_wp2
            repeat (go_quiet (fail); try go_wp2)
            go_ret
            exact ⟨by first | rfl | (simp; done) | (simp [*]; done), by repeat (first | exact Drawn0.refl _ | apply Drawn0.step)⟩
          · rw [if_neg c7] at H
            have c7b0 : (!(((rd_T35 l0 x5_1).f0) == ((rd_T35 l1 x5_1).f0)) || (!(((rd_T35 l0 x5_1).f1) == ((rd_T35 l1 x5_1).f1)) || ((!(((rd_T35 l0 x5_1).f2.f0) == ((rd_T35 l1 x5_1).f2.f0)) || (!((((rd_T35 l0 x5_1).f2.f1).toList) == (((rd_T35 l1 x5_1).f2.f1).toList))))))) = false := by simpa using c7
            clear c7
            have H' := Aside0.mk H
            clear H
            have p509 : 0 ≤ (x5_1 : Int) := dcd
            have q509 : x5_1 < (l0.length : Int) := dcd
            obtain ⟨ad509, e509, hx509_0, hx509_1, hx509_2, hx509_3⟩ := at_T35 HR0.out x5_1 p509 q509
            cases e509
            replace p509 := eq_true p509
            replace q509 := eq_true q509
            have p510 : 0 ≤ (x5_1 : Int) := dcd
            have q510 : x5_1 < (l1.length : Int) := dcd
            obtain ⟨ad510, e510, hx510_0, hx510_1, hx510_2, hx510_3⟩ := at_T35 HR1.out x5_1 p510 q510
            cases e510
            replace p510 := eq_true p510
            replace q510 := eq_true q510
            go_wp2
            repeat (go_quiet (fail); try go_wp2)
            go_roundg k1
            case measure => have := HK1.out; omega
            case rel => exact ⟨(wrap64 (x5_1 + 1)), sr, H', ⟨by have := HK1.out; omega⟩, by repeat (first | exact Drawn0.refl _ | apply Drawn0.step)⟩
        · rw [if_neg c4] at H
          have c4b0 := decide_eq_false c4
          clear c4
          obtain rfl := Option.some.inj H
          go_wp2
          repeat (go_quiet (fail); try go_wp2)
          go_ret
          exact ⟨by first | rfl | (simp; done) | (simp [*]; done), by repeat (first | exact Drawn0.refl _ | apply Drawn0.step)⟩
  · rw [if_neg c3] at H
    have c3b0 : ((l0.length : Int) == (l1.length : Int)) = false := beq_eq_false_iff_ne.mpr c3
    have c3b1 : ((l0.length : Int) != (l1.length : Int)) = true := bne_iff_ne.mpr c3
    have c3b2 : (l0.length == l1.length) = false := by first | simpa using c3 | (simp at c3 ⊢; omega)
    obtain rfl := Option.some.inj H
    go_enter Try.func9, Try.ntmps9
    go_wp2
    repeat (go_quiet (fail); try go_wp2)
    go_ret
    exact ⟨by first | rfl | (simp; done) | (simp [*]; done), by repeat (first | exact Drawn0.refl _ | apply Drawn0.step)⟩

/-! ### laws_FnCut: function 3 -/
def laws_FnCut.l0 : Nat → List (S35) → Int → List (S31) → List (S35) → Int → Option (Bool)
  | 0, _, _, _, _, _ => none
  | k + 1, x3, x4, x5, x6, x7 => if x7 < (x5.length : Int) then (if 0 ≤ x7 then ((impl_RowsOf.f k ((rd_T31 x5 x7).f0)).bind fun t526 => (if t526 < 1 then (some false) else (if t526 > x4 then (some false) else (if x7 < (wrap64 ((x5.length : Int) - 1)) then (if t526 = x4 then (if 0 < (((rd_T31 x5 x7).f0).length : Int) then (if ((rd_T35 ((rd_T31 x5 x7).f0) 0).f0) = 0 then (if x6.length + ((rd_T31 x5 x7).f0).length < 3518437208883 then (laws_FnCut.l0 k x3 x4 x5 (x6 ++ ((rd_T31 x5 x7).f0)) (wrap64 (x7 + 1))) else (none)) else (some false)) else (none)) else (some false)) else (if 0 < (((rd_T31 x5 x7).f0).length : Int) then (if ((rd_T35 ((rd_T31 x5 x7).f0) 0).f0) = 0 then (if x6.length + ((rd_T31 x5 x7).f0).length < 3518437208883 then (laws_FnCut.l0 k x3 x4 x5 (x6 ++ ((rd_T31 x5 x7).f0)) (wrap64 (x7 + 1))) else (none)) else (some false)) else (none)))))) else (none)) else (if (x5.length : Int) = 0 then (some true) else ((laws_sameTriples.f k x6 x3).bind fun t539 => (some t539)))
def laws_FnCut.f (k : Nat) (l0 : List Int) : Option (Bool) := (laws_big.f l0).bind fun t511 => (if t511 = true then (some true) else ((spec_DrawChunkCut.f k l0).bind fun bt512 => ((impl_ChunkCut.f k bt512.1 bt512.2).bind fun t516 => ((spec_ChunkCut.f k bt512.1 bt512.2).bind fun t519 => (if (t516.length : Int) = (t519.length : Int) then (laws_FnCut.l0 k bt512.1 bt512.2 t516 (([] : List (S35))) 0) else (some false))))))
set_option maxHeartbeats 8000000 in
set_option maxRecDepth 100000 in
theorem laws_FnCut.calls (k : Nat) (A0 : Option Addr) (c0 : Nat) (l0 : List Int) (r : Bool) (w : World) (hr0 : Kd.C (Kd.int .u8) w A0 l0.length l0) (hc0 : l0.length ≤ c0) (h : laws_FnCut.f k l0 = some true) :
    Calls Try.prog 3 #[.slice A0 l0.length c0] w fun e w' => e = .returned (.bool true) ∧ Below w.heap.size w w' := by
  have HR0 := Aside0.mk hr0
  have HC0 := Aside0.mk hc0
  clear hr0 hc0
  have HB := Aside0.mk (Below.refl w.heap.size w)
  have H : ((laws_big.f l0).bind fun t511 => (if t511 = true then (some true) else ((spec_DrawChunkCut.f k l0).bind fun bt512 => ((impl_ChunkCut.f k bt512.1 bt512.2).bind fun t516 => ((spec_ChunkCut.f k bt512.1 bt512.2).bind fun t519 => (if (t516.length : Int) = (t519.length : Int) then (laws_FnCut.l0 k bt512.1 bt512.2 t516 (([] : List (S35))) 0) else (some false))))))) = some true := h
  clear h
  replace H := bnd H
  obtain ⟨t511, A2, H⟩ := H
  by_cases c3 : t511 = true
  · subst c3
    replace H := ifp rfl H
    clear H
    go_enter Try.func3, Try.ntmps3
    go_wp2_with (first | ((with_reducible refine gate_callee (f := 4) rfl ?_); refine gl_ (some 10) Try.func4 #[.slice A0 l0.length c0] rfl ?_; (with_reducible refine (laws_big.calls _ _ l0 true _ ?side1 ?side2 A2.out).mono ?_); (case side1 => exact C_later HR0.out); (case side2 => exact HC0.out); rintro e w' ⟨rfl, ⟨nd, rfl⟩⟩; refine ⟨_, rfl, ?_⟩))
    go_ret
    exact fin_ (below_later HB.out)
  · replace c3 := Bool.eq_false_iff.mpr c3
    subst c3
    replace H := ifn Bool.false_ne_true H
    replace H := Option.bind_eq_some_iff.mp H
    obtain ⟨⟨t512, t513⟩, A40, H⟩ := H
    replace H : ((impl_ChunkCut.f k t512 t513).bind fun t516 => ((spec_ChunkCut.f k t512 t513).bind fun t519 => (if (t516.length : Int) = (t519.length : Int) then (laws_FnCut.l0 k t512 t513 t516 (([] : List (S35))) 0) else (some false)))) = some true := H
    have A4 := Aside0.mk A40
    clear A40
    replace H := bnd H
    obtain ⟨t516, A5, H⟩ := H
    replace H := bnd H
    obtain ⟨t519, A6, H⟩ := H
    by_cases c7 : (t516.length : Int) = (t519.length : Int)
    · rw [if_pos c7] at H
      have c7b0 : ((t516.length : Int) == (t519.length : Int)) = true := beq_iff_eq.mpr c7
      have c7b1 : ((t516.length : Int) != (t519.length : Int)) = false := bne_eq_false_iff_eq.mpr c7
      have c7b2 : (t516.length == t519.length) = true := by first | simpa using c7 | (simp at c7 ⊢; omega)
      clear c7
      obtain ⟨y522, hy522⟩ : ∃ y_ : List (S35), y_ = (([] : List (S35))) := ⟨_, rfl⟩
      replace H : (laws_FnCut.l0 k t512 t513 t516 y522 0) = some true := by first | (rw [hy522]; with_reducible exact H) | (rw [hy522]; exact H) | exact H
      have Ny522 := Aside0.mk hy522
      clear hy522
      have H' := Aside0.mk H
      clear H
      go_enter Try.func3, Try.ntmps3
      go_wp2_with (first | ((with_reducible refine gate_callee (f := 4) rfl ?_); refine gl_ (some 10) Try.func4 #[.slice A0 l0.length c0] rfl ?_; (with_reducible refine (laws_big.calls _ _ l0 false _ ?side1 ?side2 A2.out).mono ?_); (case side1 => exact C_later HR0.out); (case side2 => exact HC0.out); rintro e w' ⟨rfl, ⟨nd, rfl⟩⟩; refine ⟨_, rfl, ?_⟩) | ((with_reducible refine gate_callee (f := 5) rfl ?_); refine gl_ (some 13) Try.func5 #[.slice A0 l0.length c0] rfl ?_; (with_reducible refine (spec_DrawChunkCut.calls k _ _ l0 t512 t513 _ ?side1 ?side2 A4.out).mono ?_); (case side1 => exact C_later HR0.out); (case side2 => exact HC0.out); rintro e w8 ⟨v514, rfl, ho0, hb⟩; refine ⟨_, rfl, ?_⟩; have HO515 := Aside0.mk (Kd.Q_lower ho0 (below_size (below_later HB.out))); replace HB := bst HB hb; (try clear hb); (try clear hk); (try clear ho0); obtain ⟨Ao9, co9, eo9, _⟩ := Kd.Q_slice HO515.out; subst eo9) | ((with_reducible refine gate_callee (f := 6) rfl ?_); refine gl_ (some 18) Try.func6 #[.slice Ao9 t512.length co9, .int .i64 t513] rfl ?_; (with_reducible refine (impl_ChunkCut.calls k _ _ t512 t513 t516 _ ?side1 ?side2 A5.out).mono ?_); (case side1 => repeat (first | exact (Kd.Q_reads' HO515.out).2.2 | (with_reducible refine Kd.C_alloc ?_ _) | (with_reducible refine Kd.C_drewN ?_ _) | (with_reducible refine Kd.C_drew ?_))); (case side2 => exact (Kd.Q_reads' HO515.out).2.1); rintro e w10 ⟨v517, rfl, ho0, hb⟩; refine ⟨_, rfl, ?_⟩; have HO518 := Aside0.mk (Kd.S_lower (Kd.S_new' ho0 (Kd.Q_lt (by (with_reducible repeat (first | apply Kd.Q_alloc | apply Kd.Q_drewN | apply Kd.Q_drew)); exact HO515.out))) (below_size (below_later HB.out))); replace HO515 := Aside0.mk (Kd.Q_below (by (with_reducible repeat (first | apply Kd.Q_alloc | apply Kd.Q_drewN | apply Kd.Q_drew)); exact HO515.out) hb); replace HB := bst HB hb; (try clear hb); (try clear hk); (try clear ho0); obtain ⟨Ao11, co11, eo11⟩ := Kd.S_slice HO518.out; subst eo11) | ((with_reducible refine gate_callee (f := 7) rfl ?_); refine gl_ (some 23) Try.func7 #[.slice Ao9 t512.length co9, .int .i64 t513] rfl ?_; (with_reducible refine (spec_ChunkCut.calls k _ _ t512 t513 t519 _ ?side1 ?side2 A6.out).mono ?_); (case side1 => repeat (first | exact (Kd.Q_reads' HO515.out).2.2 | (with_reducible refine Kd.C_alloc ?_ _) | (with_reducible refine Kd.C_drewN ?_ _) | (with_reducible refine Kd.C_drew ?_))); (case side2 => exact (Kd.Q_reads' HO515.out).2.1); rintro e w12 ⟨v520, rfl, ho0, hb⟩; refine ⟨_, rfl, ?_⟩; have HO521 := Aside0.mk (Kd.S_lower (Kd.S_new' (Kd.S_new' ho0 (Kd.Q_lt (by (with_reducible repeat (first | apply Kd.Q_alloc | apply Kd.Q_drewN | apply Kd.Q_drew)); exact HO515.out))) (Kd.S_lt (by (with_reducible repeat (first | apply Kd.S_alloc | apply Kd.S_drewN | apply Kd.S_drew)); exact HO518.out))) (below_size (below_later HB.out))); replace HO515 := Aside0.mk (Kd.Q_below (by (with_reducible repeat (first | apply Kd.Q_alloc | apply Kd.Q_drewN | apply Kd.Q_drew)); exact HO515.out) hb); replace HO518 := Aside0.mk (Kd.S_elder' (by (with_reducible repeat (first | apply Kd.S_alloc | apply Kd.S_drewN | apply Kd.S_drew)); exact HO518.out) (Kd.S_base ho0) hb); replace HB := bst HB hb; (try clear hb); (try clear hk); (try clear ho0); obtain ⟨Ao13, co13, eo13⟩ := Kd.S_slice HO521.out; subst eo13) | ((with_reducible refine gate_dst (N := 26) rfl ?_); (try (refine gate_guard (by rfl) ?_; dsimp only)); refine Kd.R_lit k35 _ 35 ?hg (N := 26) ?hd (xs := ([] : List (S35))) (inner := []) (ok := fun _ => True) (okp := fun _ => True) ?hr ?hp (fun _ hk => hk) trivial (Below.refl _ _) (Nat.le_refl _) (by simp) ?_; (case hd => rfl); (case hg => rfl); (case hr => first | (go_simp; done) | (go_simp; rfl)); (case hp => exact (Reps.none _ _)); intro v523 w14 ho15 hb hg_ hnew_; clear hg_ hnew_; (first | rw [← Ny522.out] at ho15 | (simp only [Int.reduceToNat] at ho15; rw [← Ny522.out] at ho15)); have HO524 := Aside0.mk (Kd.R_lower (Kd.R_new' ho15 (Kd.Q_lt (by (with_reducible repeat (first | apply Kd.Q_alloc | apply Kd.Q_drewN | apply Kd.Q_drew)); exact HO515.out))) (below_size (below_later HB.out))); replace HO515 := Aside0.mk (Kd.Q_elder' (by (with_reducible repeat (first | apply Kd.Q_alloc | apply Kd.Q_drewN | apply Kd.Q_drew)); exact HO515.out) (Kd.R_base ho15) hb); replace HO518 := Aside0.mk (Kd.S_elder' (by (with_reducible repeat (first | apply Kd.S_alloc | apply Kd.S_drewN | apply Kd.S_drew)); exact HO518.out) (Kd.R_base ho15) hb); replace HO521 := Aside0.mk (Kd.S_elder' (by (with_reducible repeat (first | apply Kd.S_alloc | apply Kd.S_drewN | apply Kd.S_drew)); exact HO521.out) (Kd.R_base ho15) hb); replace HB := bst HB hb; clear hb ho15))
      go_loopg [6, 7] k (fun kq v6 v7 w' => ∃ (x6_1 : List (S35)) (x7_1 : Int), v7 = .int .i64 x7_1 ∧ Aside0 (laws_FnCut.l0 kq t512 t513 t516 x6_1 x7_1 = some true) ∧ Aside0 (kq ≤ k) ∧ Aside0 (Kd.Q k35 35 w' w.heap.size (fun k_ => some k_ ≠ (v6 : Value).ownBlock) (.slice Ao9 t512.length co9) t512) ∧ Aside0 (Kd.S k31 31 w' w.heap.size (fun k_ => some k_ ≠ ((.slice Ao9 t512.length co9) : Value).ownBlock ∧ some k_ ≠ (v6 : Value).ownBlock) (.slice Ao11 t516.length co11) t516) ∧ Aside0 (Kd.R k35 35 w' w.heap.size (fun k_ => some k_ ≠ ((.slice Ao9 t512.length co9) : Value).ownBlock) v6 x6_1) ∧ Aside0 (Below w.heap.size w w'))
      case atStart => exact ⟨(y522), (0), sr, H', ⟨Nat.le_refl _⟩, ⟨by (with_reducible repeat (first | apply Kd.Q_alloc | apply Kd.Q_drewN | apply Kd.Q_drew)); exact Kd.Q_mono HO515.out (fun _ hk => hk.2)⟩, ⟨by (with_reducible repeat (first | apply Kd.S_alloc | apply Kd.S_drewN | apply Kd.S_drew)); exact Kd.S_mono HO518.out (fun _ hk => ⟨hk.1.1.2, hk.2⟩)⟩, ⟨R_later (Kd.R_mono HO524.out (fun _ hk => hk.2))⟩, ⟨below_later HB.out⟩⟩
      case round =>
        clear H'
        try clear c3
        try clear c7
        try clear c7b0
        try clear c7b1
        try clear c7b2
        obtain ⟨x6_1, x7_1, rfl, HA, HK1, HO_3, HO_5, HO_6, HB⟩ := hrel
        cases gk with
        | zero => exact absurd HA.out (by simp [laws_FnCut.l0])
        | succ k1 =>
          have H := HA.out
          clear HA
          simp only [laws_FnCut.l0] at H
          by_cases c16 : x7_1 < (t516.length : Int)
          · rw [if_pos c16] at H
            have c16b0 := decide_eq_true c16
            clear c16
            replace H := ifd H
            obtain ⟨c17b0, H⟩ := H
            replace H := bnd H
            obtain ⟨t526, A18, H⟩ := H
            by_cases c19 : t526 < 1
            · rw [if_pos c19] at H
              cases H
            · rw [if_neg c19] at H
              have c19b0 := decide_eq_false c19
              clear c19
              by_cases c21 : t526 > t513
              · rw [if_pos c21] at H
                cases H
              · rw [if_neg c21] at H
                have c21b0 : decide (t513 < t526) = false := decide_eq_false c21
                clear c21
                by_cases c23 : x7_1 < (wrap64 ((t516.length : Int) - 1))
                · rw [if_pos c23] at H
                  have c23b0 := decide_eq_true c23
                  clear c23
                  by_cases c24 : t526 = t513
                  · rw [if_pos c24] at H
                    have c24b0 : (t526 == t513) = true := beq_iff_eq.mpr c24
                    have c24b1 : (t526 != t513) = false := bne_eq_false_iff_eq.mpr c24
                    clear c24
                    replace H := ifs H
                    obtain ⟨c25, H⟩ := H
                    have c25b0 := decide_eq_true c25
                    have c25b1 : decide (0 < ((rd_T31 t516 x7_1).f0).length) = true := decide_eq_true (by omega)
                    clear c25
                    by_cases c26 : ((rd_T35 ((rd_T31 t516 x7_1).f0) 0).f0) = 0
                    · rw [if_pos c26] at H
                      have c26b0 : (((rd_T35 ((rd_T31 t516 x7_1).f0) 0).f0) == 0) = true := beq_iff_eq.mpr c26
                      have c26b1 : (((rd_T35 ((rd_T31 t516 x7_1).f0) 0).f0) != 0) = false := bne_eq_false_iff_eq.mpr c26
                      clear c26
                      replace H := ifs H
                      obtain ⟨c27, H⟩ := H
                      have LMc27 := Aside0.mk c27
                      clear c27
                      obtain ⟨y530, hy530⟩ : ∃ y_ : List (S35), y_ = (x6_1 ++ ((rd_T31 t516 x7_1).f0)) := ⟨_, rfl⟩
                      replace H : (laws_FnCut.l0 k1 t512 t513 t516 y530 (wrap64 (x7_1 + 1))) = some true := by first | (rw [hy530]; with_reducible exact H) | (rw [hy530]; exact H) | exact H
                      have Ny530 := Aside0.mk hy530
                      clear hy530
                      have H' := Aside0.mk H
                      clear H
                      have p525 : 0 ≤ (x7_1 : Int) := dcd
                      have q525 : x7_1 < (t516.length : Int) := dcd
                      obtain ⟨ad525, A525_0, c525_0, e525, hx525_0, hl525_0, hi525_0⟩ := at_T31 (Kd.S_reads' HO_5.out).2.2 x7_1 p525 q525
                      cases e525
                      obtain ⟨ce525, hce525, hMe525, hcc525⟩ := Kd.S_get HO_5.out z31 x7_1 p525 (by first | exact q525 | exact dcd | (have e_ := (Kd.S_reads' HO_5.out).1; omega))
                      obtain ⟨ve525_0, rfl, ge525_0⟩ := k31_openM hMe525
                      have hv525_0 := hcc525 0 _ rfl
                      rw [Nat.add_zero, show (k31).sz = 1 from rfl, Nat.mul_one] at hv525_0
                      replace hv525_0 := Option.some.inj (hv525_0.symm.trans hx525_0)
                      rw [hv525_0] at ge525_0
                      have HL525_0 := Aside0.mk (show Kd.R k35 35 _ _ _ _ ((rd_T31 t516 x7_1).f0) from ge525_0)
                      clear hv525_0 ge525_0
                      clear hcc525 hce525
                      have HR525_0 := Aside0.mk hi525_0
                      have HC525_0 := Aside0.mk hl525_0
                      clear hi525_0 hl525_0
                      replace p525 := eq_true p525
                      replace q525 := eq_true q525
                      go_wp2_with (first | ((with_reducible refine gate_callee (f := 8) rfl ?_); refine gl_ (some 38) Try.func8 #[.slice A525_0 ((rd_T31 t516 x7_1).f0).length c525_0] rfl ?_; (with_reducible refine (impl_RowsOf.calls k1 _ _ ((rd_T31 t516 x7_1).f0) t526 _ ?side1 ?side2 A18.out).mono ?_); (case side1 => repeat (first | exact (by repeat (first | (with_reducible exact HR525_0.out) | (with_reducible refine Kd.C_alloc ?_ _) | (with_reducible refine Kd.C_drewN ?_ _) | (with_reducible refine Kd.C_drew ?_) | exact HR525_0.out)) | (with_reducible refine Kd.C_alloc ?_ _) | (with_reducible refine Kd.C_drewN ?_ _) | (with_reducible refine Kd.C_drew ?_))); (case side2 => exact HC525_0.out); rintro e w28 ⟨rfl, hb⟩; refine ⟨_, rfl, ?_⟩; replace HO_3 := Aside0.mk (Kd.Q_below (by (with_reducible repeat (first | apply Kd.Q_alloc | apply Kd.Q_drewN | apply Kd.Q_drew)); exact HO_3.out) hb); replace HO_5 := Aside0.mk (Kd.S_below (by (with_reducible repeat (first | apply Kd.S_alloc | apply Kd.S_drewN | apply Kd.S_drew)); exact HO_5.out) hb); replace HO_6 := Aside0.mk (Kd.R_below (R_later HO_6.out) hb); replace HL525_0 := Aside0.mk (Kd.R_below (R_later HL525_0.out) hb); replace HR525_0 := Aside0.mk (Kd.C_below (by repeat (first | (with_reducible exact HR525_0.out) | (with_reducible refine Kd.C_alloc ?_ _) | (with_reducible refine Kd.C_drewN ?_ _) | (with_reducible refine Kd.C_drew ?_) | exact HR525_0.out)) hb); replace HB := bst HB hb; (try clear hb); (try clear hk); have p527 : 0 ≤ (x7_1 : Int) := dcd; have q527 : x7_1 < (t516.length : Int) := dcd; obtain ⟨ad527, A527_0, c527_0, e527, hx527_0, hl527_0, hi527_0⟩ := at_T31 (Kd.S_reads' HO_5.out).2.2 x7_1 p527 q527; obtain rfl : ad525 = ad527 := (by injection e527); obtain ⟨ce527, hce527, hMe527, hcc527⟩ := Kd.S_get HO_5.out z31 x7_1 p527 (by first | exact q527 | exact dcd | (have e_ := (Kd.S_reads' HO_5.out).1; omega)); obtain ⟨ve527_0, rfl, ge527_0⟩ := k31_openM hMe527; have hv527_0 := hcc527 0 _ rfl; rw [Nat.add_zero, show (k31).sz = 1 from rfl, Nat.mul_one] at hv527_0; replace hv527_0 := Option.some.inj (hv527_0.symm.trans hx527_0); rw [hv527_0] at ge527_0; have HL527_0 := Aside0.mk (show Kd.R k35 35 _ _ _ _ ((rd_T31 t516 x7_1).f0) from ge527_0); clear hv527_0 ge527_0; clear hcc527 hce527; have HR527_0 := Aside0.mk hi527_0; have HC527_0 := Aside0.mk hl527_0; clear hi527_0 hl527_0; replace p527 := eq_true p527; replace q527 := eq_true q527; have p528 : 0 ≤ (0 : Int) := (by omega); have q528 : 0 < (((rd_T31 t516 x7_1).f0).length : Int) := dcd; obtain ⟨ad528, e528, hx528_0, hx528_1, hx528_2, hx528_3⟩ := at_T35 (by repeat (first | (with_reducible exact HR527_0.out) | (with_reducible refine Kd.C_alloc ?_ _) | (with_reducible refine Kd.C_drewN ?_ _) | (with_reducible refine Kd.C_drew ?_) | exact HR527_0.out)) 0 p528 q528; cases e528; have qi528 : (0 < ((rd_T31 t516 x7_1).f0).length) = True := eq_true (by omega); (try rw [show ((0 : Int)).toNat = 0 from rfl] at hx528_0); (try rw [show 0 * 4 = 0 from rfl] at hx528_0); (try rw [Addr.add_zero'] at hx528_0); (try rw [show ((0 : Int)).toNat = 0 from rfl] at hx528_1); (try rw [show 0 * 4 = 0 from rfl] at hx528_1); (try rw [Addr.add_zero'] at hx528_1); (try rw [show ((0 : Int)).toNat = 0 from rfl] at hx528_2); (try rw [show 0 * 4 = 0 from rfl] at hx528_2); (try rw [Addr.add_zero'] at hx528_2); (try rw [show ((0 : Int)).toNat = 0 from rfl] at hx528_3); (try rw [show 0 * 4 = 0 from rfl] at hx528_3); (try rw [Addr.add_zero'] at hx528_3); replace p528 := eq_true p528; replace q528 := eq_true q528; have p529 : 0 ≤ (x7_1 : Int) := dcd; have q529 : x7_1 < (t516.length : Int) := dcd; obtain ⟨ad529, A529_0, c529_0, e529, hx529_0, hl529_0, hi529_0⟩ := at_T31 (Kd.S_reads' HO_5.out).2.2 x7_1 p529 q529; obtain rfl : ad525 = ad529 := (by injection e529); obtain ⟨ce529, hce529, hMe529, hcc529⟩ := Kd.S_get HO_5.out z31 x7_1 p529 (by first | exact q529 | exact dcd | (have e_ := (Kd.S_reads' HO_5.out).1; omega)); obtain ⟨ve529_0, rfl, ge529_0⟩ := k31_openM hMe529; have hv529_0 := hcc529 0 _ rfl; rw [Nat.add_zero, show (k31).sz = 1 from rfl, Nat.mul_one] at hv529_0; replace hv529_0 := Option.some.inj (hv529_0.symm.trans hx529_0); rw [hv529_0] at ge529_0; have HL529_0 := Aside0.mk (show Kd.R k35 35 _ _ _ _ ((rd_T31 t516 x7_1).f0) from ge529_0); clear hv529_0 ge529_0; clear hcc529 hce529; have HR529_0 := Aside0.mk hi529_0; have HC529_0 := Aside0.mk hl529_0; clear hi529_0 hl529_0; replace p529 := eq_true p529; replace q529 := eq_true q529; have ea_ := Option.some.inj (hx527_0.symm.trans hx529_0); injection ea_ with ea_ en_ ec_; subst ea_; subst ec_; clear en_) | ((with_reducible refine gate_builtin (b := .append) (xs := #[.tmp 69, .tmp 74]) rfl ?_); (try (refine gate_guard (by rfl) ?_; dsimp only)); at_builtin; refine Kd.R_append_rows k35 (w0 := w) w.heap.size rfl (.tmp 69) (.tmp 74) 24 35 (.agg #[(.int .i64 0), (.int .i64 0), (.int .i64 0), (.string ⟨#[]⟩)]) 40 rfl Try.underlying24 info35 rfl (by decide) (by omega) u6 x6_1 ((rd_T31 t516 x7_1).f0) _ _ _ (fun k_ => some k_ ≠ (.slice Ao9 t512.length co9 : Value).ownBlock) (fun _ => False) rfl rfl ?aO ?aR (fun _ _ h => h) (fun _ h => h.elim) ?aF ?aB ?aS ?aL ?_; (case aR => repeat (first | exact (by repeat (first | (with_reducible exact HR529_0.out) | (with_reducible refine Kd.C_alloc ?_ _) | (with_reducible refine Kd.C_drewN ?_ _) | (with_reducible refine Kd.C_drew ?_) | exact HR529_0.out)) | (with_reducible refine Kd.C_alloc ?_ _) | (with_reducible refine Kd.C_drewN ?_ _) | (with_reducible refine Kd.C_drew ?_))); (case aB => exact (below_later HB.out)); (case aF => exact (fun k_ hk => Kd.fresh' (Kd.Q_lt (by (with_reducible repeat (first | apply Kd.Q_alloc | apply Kd.Q_drewN | apply Kd.Q_drew)); exact HO_3.out)) k_ hk)); (case aO => exact (R_later HO_6.out)); (case aS => exact (below_size (below_later HB.out))); (case aL => have := LMc27.out; omega); intro v531 w29 ho hb hg hat; rw [← Ny530.out] at ho; have n0_ := Aside0.mk (Kd.Q_after (ok := (fun _ => True)) (by (with_reducible repeat (first | apply Kd.Q_alloc | apply Kd.Q_drewN | apply Kd.Q_drew)); exact Kd.Q_mono HO_3.out (fun _ hk => ⟨trivial, hk⟩)) hg hat); have n1_ := Aside0.mk (Kd.S_after (ok := (fun k_ => some k_ ≠ (.slice Ao9 t512.length co9 : Value).ownBlock)) (by (with_reducible repeat (first | apply Kd.S_alloc | apply Kd.S_drewN | apply Kd.S_drew)); exact HO_5.out) hg hat); have n2_ := Aside0.mk (Kd.R_after (ok := (fun k_ => some k_ ≠ (.slice Ao9 t512.length co9 : Value).ownBlock ∧ some k_ ≠ (.slice (some ad525) t516.length co11 : Value).ownBlock)) (by (with_reducible repeat (first | apply Kd.R_alloc | apply Kd.R_drewN | apply Kd.R_drew)); exact Kd.R_mono HL525_0.out (fun _ hk => ⟨⟨hk.1.1, hk.2⟩, hk.1.2⟩)) hg hat); have n3_ := Aside0.mk (Kd.R_after (ok := (fun k_ => some k_ ≠ (.slice Ao9 t512.length co9 : Value).ownBlock ∧ some k_ ≠ (.slice (some ad525) t516.length co11 : Value).ownBlock)) (by (with_reducible repeat (first | apply Kd.R_alloc | apply Kd.R_drewN | apply Kd.R_drew)); exact Kd.R_mono HL527_0.out (fun _ hk => ⟨⟨hk.1.1, hk.2⟩, hk.1.2⟩)) hg hat); have n4_ := Aside0.mk (Kd.R_after (ok := (fun k_ => some k_ ≠ (.slice Ao9 t512.length co9 : Value).ownBlock ∧ some k_ ≠ (.slice (some ad525) t516.length co11 : Value).ownBlock)) (by (with_reducible repeat (first | apply Kd.R_alloc | apply Kd.R_drewN | apply Kd.R_drew)); exact Kd.R_mono HL529_0.out (fun _ hk => ⟨⟨hk.1.1, hk.2⟩, hk.1.2⟩)) hg hat); have n5_ := Aside0.mk (hb); have n6_ := Aside0.mk (ho); clear HO_3; clear HO_5; clear HL525_0; clear HL527_0; clear HL529_0; clear HB; clear HO_6; have HO_3 := n0_; have HO_5 := n1_; have HL525_0 := n2_; have HL527_0 := n3_; have HL529_0 := n4_; have HB := n5_; have HO532 := n6_; clear n0_ n1_ n2_ n3_ n4_ n5_ n6_; clear ho hb hg hat))
                      go_roundg k1
                      case measure => have := HK1.out; omega
                      case rel => exact ⟨(y530), (wrap64 (x7_1 + 1)), sr, H', ⟨by have := HK1.out; omega⟩, ⟨by (with_reducible repeat (first | apply Kd.Q_alloc | apply Kd.Q_drewN | apply Kd.Q_drew)); exact Kd.Q_mono HO_3.out (fun _ hk => hk.2)⟩, ⟨by (with_reducible repeat (first | apply Kd.S_alloc | apply Kd.S_drewN | apply Kd.S_drew)); exact HO_5.out⟩, ⟨R_later HO532.out⟩, ⟨below_later HB.out⟩⟩
                    · rw [if_neg c26] at H
                      cases H
                  · rw [if_neg c24] at H
                    cases H
                · rw [if_neg c23] at H
                  have c23b0 := decide_eq_false c23
                  clear c23
                  replace H := ifs H
                  obtain ⟨c32, H⟩ := H
                  have c32b0 := decide_eq_true c32
                  have c32b1 : decide (0 < ((rd_T31 t516 x7_1).f0).length) = true := decide_eq_true (by omega)
                  clear c32
                  by_cases c33 : ((rd_T35 ((rd_T31 t516 x7_1).f0) 0).f0) = 0
                  · rw [if_pos c33] at H
                    have c33b0 : (((rd_T35 ((rd_T31 t516 x7_1).f0) 0).f0) == 0) = true := beq_iff_eq.mpr c33
                    have c33b1 : (((rd_T35 ((rd_T31 t516 x7_1).f0) 0).f0) != 0) = false := bne_eq_false_iff_eq.mpr c33
                    clear c33
                    replace H := ifs H
                    obtain ⟨c34, H⟩ := H
                    have LMc34 := Aside0.mk c34
                    clear c34
                    obtain ⟨y536, hy536⟩ : ∃ y_ : List (S35), y_ = (x6_1 ++ ((rd_T31 t516 x7_1).f0)) := ⟨_, rfl⟩
                    replace H : (laws_FnCut.l0 k1 t512 t513 t516 y536 (wrap64 (x7_1 + 1))) = some true := by first | (rw [hy536]; with_reducible exact H) | (rw [hy536]; exact H) | exact H
                    have Ny536 := Aside0.mk hy536
                    clear hy536
                    have H' := Aside0.mk H
                    clear H
                    have p525 : 0 ≤ (x7_1 : Int) := dcd
                    have q525 : x7_1 < (t516.length : Int) := dcd
                    obtain ⟨ad525, A525_0, c525_0, e525, hx525_0, hl525_0, hi525_0⟩ := at_T31 (Kd.S_reads' HO_5.out).2.2 x7_1 p525 q525
                    cases e525
                    obtain ⟨ce525, hce525, hMe525, hcc525⟩ := Kd.S_get HO_5.out z31 x7_1 p525 (by first | exact q525 | exact dcd | (have e_ := (Kd.S_reads' HO_5.out).1; omega))
                    obtain ⟨ve525_0, rfl, ge525_0⟩ := k31_openM hMe525
                    have hv525_0 := hcc525 0 _ rfl
                    rw [Nat.add_zero, show (k31).sz = 1 from rfl, Nat.mul_one] at hv525_0
                    replace hv525_0 := Option.some.inj (hv525_0.symm.trans hx525_0)
                    rw [hv525_0] at ge525_0
                    have HL525_0 := Aside0.mk (show Kd.R k35 35 _ _ _ _ ((rd_T31 t516 x7_1).f0) from ge525_0)
                    clear hv525_0 ge525_0
                    clear hcc525 hce525
                    have HR525_0 := Aside0.mk hi525_0
                    have HC525_0 := Aside0.mk hl525_0
                    clear hi525_0 hl525_0
                    replace p525 := eq_true p525
                    replace q525 := eq_true q525
                    go_wp2_with (first | ((with_reducible refine gate_callee (f := 8) rfl ?_); refine gl_ (some 38) Try.func8 #[.slice A525_0 ((rd_T31 t516 x7_1).f0).length c525_0] rfl ?_; (with_reducible refine (impl_RowsOf.calls k1 _ _ ((rd_T31 t516 x7_1).f0) t526 _ ?side1 ?side2 A18.out).mono ?_); (case side1 => repeat (first | exact (by repeat (first | (with_reducible exact HR525_0.out) | (with_reducible refine Kd.C_alloc ?_ _) | (with_reducible refine Kd.C_drewN ?_ _) | (with_reducible refine Kd.C_drew ?_) | exact HR525_0.out)) | (with_reducible refine Kd.C_alloc ?_ _) | (with_reducible refine Kd.C_drewN ?_ _) | (with_reducible refine Kd.C_drew ?_))); (case side2 => exact HC525_0.out); rintro e w35 ⟨rfl, hb⟩; refine ⟨_, rfl, ?_⟩; replace HO_3 := Aside0.mk (Kd.Q_below (by (with_reducible repeat (first | apply Kd.Q_alloc | apply Kd.Q_drewN | apply Kd.Q_drew)); exact HO_3.out) hb); replace HO_5 := Aside0.mk (Kd.S_below (by (with_reducible repeat (first | apply Kd.S_alloc | apply Kd.S_drewN | apply Kd.S_drew)); exact HO_5.out) hb); replace HO_6 := Aside0.mk (Kd.R_below (R_later HO_6.out) hb); replace HL525_0 := Aside0.mk (Kd.R_below (R_later HL525_0.out) hb); replace HR525_0 := Aside0.mk (Kd.C_below (by repeat (first | (with_reducible exact HR525_0.out) | (with_reducible refine Kd.C_alloc ?_ _) | (with_reducible refine Kd.C_drewN ?_ _) | (with_reducible refine Kd.C_drew ?_) | exact HR525_0.out)) hb); replace HB := bst HB hb; (try clear hb); (try clear hk); have p533 : 0 ≤ (x7_1 : Int) := dcd; have q533 : x7_1 < (t516.length : Int) := dcd; obtain ⟨ad533, A533_0, c533_0, e533, hx533_0, hl533_0, hi533_0⟩ := at_T31 (Kd.S_reads' HO_5.out).2.2 x7_1 p533 q533; obtain rfl : ad525 = ad533 := (by injection e533); obtain ⟨ce533, hce533, hMe533, hcc533⟩ := Kd.S_get HO_5.out z31 x7_1 p533 (by first | exact q533 | exact dcd | (have e_ := (Kd.S_reads' HO_5.out).1; omega)); obtain ⟨ve533_0, rfl, ge533_0⟩ := k31_openM hMe533; have hv533_0 := hcc533 0 _ rfl; rw [Nat.add_zero, show (k31).sz = 1 from rfl, Nat.mul_one] at hv533_0; replace hv533_0 := Option.some.inj (hv533_0.symm.trans hx533_0); rw [hv533_0] at ge533_0; have HL533_0 := Aside0.mk (show Kd.R k35 35 _ _ _ _ ((rd_T31 t516 x7_1).f0) from ge533_0); clear hv533_0 ge533_0; clear hcc533 hce533; have HR533_0 := Aside0.mk hi533_0; have HC533_0 := Aside0.mk hl533_0; clear hi533_0 hl533_0; replace p533 := eq_true p533; replace q533 := eq_true q533; have p534 : 0 ≤ (0 : Int) := (by omega); have q534 : 0 < (((rd_T31 t516 x7_1).f0).length : Int) := dcd; obtain ⟨ad534, e534, hx534_0, hx534_1, hx534_2, hx534_3⟩ := at_T35 (by repeat (first | (with_reducible exact HR533_0.out) | (with_reducible refine Kd.C_alloc ?_ _) | (with_reducible refine Kd.C_drewN ?_ _) | (with_reducible refine Kd.C_drew ?_) | exact HR533_0.out)) 0 p534 q534; cases e534; have qi534 : (0 < ((rd_T31 t516 x7_1).f0).length) = True := eq_true (by omega); (try rw [show ((0 : Int)).toNat = 0 from rfl] at hx534_0); (try rw [show 0 * 4 = 0 from rfl] at hx534_0); (try rw [Addr.add_zero'] at hx534_0); (try rw [show ((0 : Int)).toNat = 0 from rfl] at hx534_1); (try rw [show 0 * 4 = 0 from rfl] at hx534_1); (try rw [Addr.add_zero'] at hx534_1); (try rw [show ((0 : Int)).toNat = 0 from rfl] at hx534_2); (try rw [show 0 * 4 = 0 from rfl] at hx534_2); (try rw [Addr.add_zero'] at hx534_2); (try rw [show ((0 : Int)).toNat = 0 from rfl] at hx534_3); (try rw [show 0 * 4 = 0 from rfl] at hx534_3); (try rw [Addr.add_zero'] at hx534_3); replace p534 := eq_true p534; replace q534 := eq_true q534; have p535 : 0 ≤ (x7_1 : Int) := dcd; have q535 : x7_1 < (t516.length : Int) := dcd; obtain ⟨ad535, A535_0, c535_0, e535, hx535_0, hl535_0, hi535_0⟩ := at_T31 (Kd.S_reads' HO_5.out).2.2 x7_1 p535 q535; obtain rfl : ad525 = ad535 := (by injection e535); obtain ⟨ce535, hce535, hMe535, hcc535⟩ := Kd.S_get HO_5.out z31 x7_1 p535 (by first | exact q535 | exact dcd | (have e_ := (Kd.S_reads' HO_5.out).1; omega)); obtain ⟨ve535_0, rfl, ge535_0⟩ := k31_openM hMe535; have hv535_0 := hcc535 0 _ rfl; rw [Nat.add_zero, show (k31).sz = 1 from rfl, Nat.mul_one] at hv535_0; replace hv535_0 := Option.some.inj (hv535_0.symm.trans hx535_0); rw [hv535_0] at ge535_0; have HL535_0 := Aside0.mk (show Kd.R k35 35 _ _ _ _ ((rd_T31 t516 x7_1).f0) from ge535_0); clear hv535_0 ge535_0; clear hcc535 hce535; have HR535_0 := Aside0.mk hi535_0; have HC535_0 := Aside0.mk hl535_0; clear hi535_0 hl535_0; replace p535 := eq_true p535; replace q535 := eq_true q535; have ea_ := Option.some.inj (hx533_0.symm.trans hx535_0); injection ea_ with ea_ en_ ec_; subst ea_; subst ec_; clear en_) | ((with_reducible refine gate_builtin (b := .append) (xs := #[.tmp 69, .tmp 74]) rfl ?_); (try (refine gate_guard (by rfl) ?_; dsimp only)); at_builtin; refine Kd.R_append_rows k35 (w0 := w) w.heap.size rfl (.tmp 69) (.tmp 74) 24 35 (.agg #[(.int .i64 0), (.int .i64 0), (.int .i64 0), (.string ⟨#[]⟩)]) 40 rfl Try.underlying24 info35 rfl (by decide) (by omega) u6 x6_1 ((rd_T31 t516 x7_1).f0) _ _ _ (fun k_ => some k_ ≠ (.slice Ao9 t512.length co9 : Value).ownBlock) (fun _ => False) rfl rfl ?aO ?aR (fun _ _ h => h) (fun _ h => h.elim) ?aF ?aB ?aS ?aL ?_; (case aR => repeat (first | exact (by repeat (first | (with_reducible exact HR535_0.out) | (with_reducible refine Kd.C_alloc ?_ _) | (with_reducible refine Kd.C_drewN ?_ _) | (with_reducible refine Kd.C_drew ?_) | exact HR535_0.out)) | (with_reducible refine Kd.C_alloc ?_ _) | (with_reducible refine Kd.C_drewN ?_ _) | (with_reducible refine Kd.C_drew ?_))); (case aB => exact (below_later HB.out)); (case aF => exact (fun k_ hk => Kd.fresh' (Kd.Q_lt (by (with_reducible repeat (first | apply Kd.Q_alloc | apply Kd.Q_drewN | apply Kd.Q_drew)); exact HO_3.out)) k_ hk)); (case aO => exact (R_later HO_6.out)); (case aS => exact (below_size (below_later HB.out))); (case aL => have := LMc34.out; omega); intro v537 w36 ho hb hg hat; rw [← Ny536.out] at ho; have n0_ := Aside0.mk (Kd.Q_after (ok := (fun _ => True)) (by (with_reducible repeat (first | apply Kd.Q_alloc | apply Kd.Q_drewN | apply Kd.Q_drew)); exact Kd.Q_mono HO_3.out (fun _ hk => ⟨trivial, hk⟩)) hg hat); have n1_ := Aside0.mk (Kd.S_after (ok := (fun k_ => some k_ ≠ (.slice Ao9 t512.length co9 : Value).ownBlock)) (by (with_reducible repeat (first | apply Kd.S_alloc | apply Kd.S_drewN | apply Kd.S_drew)); exact HO_5.out) hg hat); have n2_ := Aside0.mk (Kd.R_after (ok := (fun k_ => some k_ ≠ (.slice Ao9 t512.length co9 : Value).ownBlock ∧ some k_ ≠ (.slice (some ad525) t516.length co11 : Value).ownBlock)) (by (with_reducible repeat (first | apply Kd.R_alloc | apply Kd.R_drewN | apply Kd.R_drew)); exact Kd.R_mono HL525_0.out (fun _ hk => ⟨⟨hk.1.1, hk.2⟩, hk.1.2⟩)) hg hat); have n3_ := Aside0.mk (Kd.R_after (ok := (fun k_ => some k_ ≠ (.slice Ao9 t512.length co9 : Value).ownBlock ∧ some k_ ≠ (.slice (some ad525) t516.length co11 : Value).ownBlock)) (by (with_reducible repeat (first | apply Kd.R_alloc | apply Kd.R_drewN | apply Kd.R_drew)); exact Kd.R_mono HL533_0.out (fun _ hk => ⟨⟨hk.1.1, hk.2⟩, hk.1.2⟩)) hg hat); have n4_ := Aside0.mk (Kd.R_after (ok := (fun k_ => some k_ ≠ (.slice Ao9 t512.length co9 : Value).ownBlock ∧ some k_ ≠ (.slice (some ad525) t516.length co11 : Value).ownBlock)) (by (with_reducible repeat (first | apply Kd.R_alloc | apply Kd.R_drewN | apply Kd.R_drew)); exact Kd.R_mono HL535_0.out (fun _ hk => ⟨⟨hk.1.1, hk.2⟩, hk.1.2⟩)) hg hat); have n5_ := Aside0.mk (hb); have n6_ := Aside0.mk (ho); clear HO_3; clear HO_5; clear HL525_0; clear HL533_0; clear HL535_0; clear HB; clear HO_6; have HO_3 := n0_; have HO_5 := n1_; have HL525_0 := n2_; have HL533_0 := n3_; have HL535_0 := n4_; have HB := n5_; have HO538 := n6_; clear n0_ n1_ n2_ n3_ n4_ n5_ n6_; clear ho hb hg hat))
                    go_roundg k1
                    case measure => have := HK1.out; omega
                    case rel => exact ⟨(y536), (wrap64 (x7_1 + 1)), sr, H', ⟨by have := HK1.out; omega⟩, ⟨by (with_reducible repeat (first | apply Kd.Q_alloc | apply Kd.Q_drewN | apply Kd.Q_drew)); exact Kd.Q_mono HO_3.out (fun _ hk => hk.2)⟩, ⟨by (with_reducible repeat (first | apply Kd.S_alloc | apply Kd.S_drewN | apply Kd.S_drew)); exact HO_5.out⟩, ⟨R_later HO538.out⟩, ⟨below_later HB.out⟩⟩
                  · rw [if_neg c33] at H
                    cases H
          · rw [if_neg c16] at H
            have c16b0 := decide_eq_false c16
            clear c16
            by_cases c38 : (t516.length : Int) = 0
            · rw [if_pos c38] at H
              have c38b0 : ((t516.length : Int) == 0) = true := beq_iff_eq.mpr c38
              have c38b1 : ((t516.length : Int) != 0) = false := bne_eq_false_iff_eq.mpr c38
              clear c38
              clear H
              go_wp2
              go_ret
              exact fin_ (below_later HB.out)
            · rw [if_neg c38] at H
              have c38b0 : ((t516.length : Int) == 0) = false := beq_eq_false_iff_ne.mpr c38
              have c38b1 : ((t516.length : Int) != 0) = true := bne_iff_ne.mpr c38
              have c38b2 : ¬ (t516 = []) := fun h_ => c38 (by rw [h_]; rfl)
              replace H := bnd H
              obtain ⟨t539, A39, H⟩ := H
              have hr_ := Option.some.inj H
              clear H
              obtain ⟨Ao40, co40, eo40⟩ := Kd.R_slice HO_6.out
              subst eo40
              go_wp2_with (first | (go_at_call 9; (with_reducible refine (laws_sameTriples.calls k1 _ _ x6_1 _ _ t512 t539 _ ?side1 ?side2 ?side3 ?side4 A39.out).mono ?_); (case side1 => repeat (first | exact (Kd.R_reads' HO_6.out).2.2 | (with_reducible refine Kd.C_alloc ?_ _) | (with_reducible refine Kd.C_drewN ?_ _) | (with_reducible refine Kd.C_drew ?_))); (case side2 => exact (Kd.R_reads' HO_6.out).2.1); (case side3 => repeat (first | exact (Kd.Q_reads' HO_3.out).2.2 | (with_reducible refine Kd.C_alloc ?_ _) | (with_reducible refine Kd.C_drewN ?_ _) | (with_reducible refine Kd.C_drew ?_))); (case side4 => exact (Kd.Q_reads' HO_3.out).2.1); rintro e w' ⟨rfl, ⟨nd, rfl⟩⟩))
              go_ret
              exact fin_ (below_later HB.out)
    · rw [if_neg c7] at H
      cases H
/-- THE ONE PURE STATEMENT of laws_FnCut: yours. -/
def laws_FnCut.Pure : Prop := ∀ (l0 : List Int), l0.length ≤ maxLen → l0.length * 1 ≤ 140737488351232 → (∀ x ∈ l0, (Lit.int .u8 x).wf = true) → ∃ k, laws_FnCut.f k l0 = some true
theorem laws_FnCut.walk (P : laws_FnCut.Pure) (a0 : Option Addr) (len0 cap0 : Nat) (z0 : List Int) (w : World) (w0 : (a0 = none ∧ len0 = 0 ∧ cap0 = 0 ∧ z0 = []) ∨ ∃ x, a0 = some x ∧ len0 ≤ cap0 ∧ cap0 ≤ maxLen ∧ z0.length = cap0 ∧ (∀ i, i < z0.length → w.cell? (x.add i) = some (.int .u8 (z0.getD i 0))) ∧ ∀ n ∈ z0, (Lit.int .u8 n).wf = true) (y0 : len0 * 1 ≤ 140737488351232) :
    Calls Try.prog 3 #[.slice a0 len0 cap0] w fun e w' => e = .returned (.bool true) ∧ Below w.heap.size w w' := by
  obtain ⟨l0, rfl, hr0, hm0, hw0, hc0⟩ := ReadsInt.ofRowC w0
  obtain ⟨k, h⟩ := P l0 hm0 y0 hw0
  refine (laws_FnCut.calls k _ _ l0 true w (Kd.C_of_reads (d := (0 : Int)) (h1 := fun _ => rfl) hr0) hc0 h).mono ?_
  rintro e w' ⟨rfl, hd⟩
  exact ⟨rfl, hd⟩

end Go.Proofs.Ytbiobenhhnbbaaa.PFnCut
