/- The machine's side of FnCut, written by wip/tools/hyb.py of this repo: each Go function as a plain Lean function, and the proof that the call comes to just its answer. No condition. -/
import Derived.Test.YtbiobenhhnbbaaaPFnCutx0
namespace Go.Proofs.Ytbiobenhhnbbaaa.PFnCut
open Go.RowKit Go.Proofs.YtbiobenhhnbbaaaW.PrintWords Go.Proofs.YtbiobenhhnbbaaaW.PrintLast Go.Proofs.YtbiobenhhnbbaaaW.PrintMore Go.Proofs.YtbiobenhhnbbaaaW.PrintMore2
attribute [local go_sem] max2_int min2_int max_two min_two max_three min_three max_four min_four   -- for this text's walks alone
set_option linter.unusedVariables false
set_option linter.unusedSimpArgs false

/-! ### impl_ChunkCut: function 6 -/
mutual
def impl_ChunkCut.j0 : Nat → List (S35) → Int → Bool → Option ((List (S31)))
  | 0, _, _, _ => none
  | k + 1, x0, x1, x28 => if x28 = true then (some ([] : List (S31))) else (impl_ChunkCut.l0 k x1 (([] : List (S31))) x1 x0 (x0.length : Int) 0)
def impl_ChunkCut.l0 : Nat → Int → List (S31) → Int → List (S35) → Int → Int → Option ((List (S31)))
  | 0, _, _, _, _, _, _ => none
  | k + 1, x1, x5, x6, x31, x32, x33 => if x33 < x32 then (if 0 ≤ x33 then (if x33 < (x31.length : Int) then (if ((rd_T35 x31 x33).f0) = 0 then (if x6 = x1 then (if x5.length < 5864062014805 then ((some (x5 ++ [(⟨([] : List (S35))⟩ : S31)] : List (S31))).bind fun y459 => (if 0 ≤ (wrap64 ((y459.length : Int) - 1)) then (if (wrap64 ((y459.length : Int) - 1)) < (y459.length : Int) then (if ((rd_T31 y459 (wrap64 ((y459.length : Int) - 1))).f0).length < 3518437208883 then (impl_ChunkCut.l0 k x1 (y459.set ((wrap64 ((y459.length : Int) - 1)) : Int).toNat (⟨(((rd_T31 y459 (wrap64 ((y459.length : Int) - 1))).f0) ++ [(⟨(rd_T35 x31 x33).f0, (rd_T35 x31 x33).f1, (⟨(rd_T35 x31 x33).f2.f0, (rd_T35 x31 x33).f2.f1⟩ : S33)⟩ : S35)])⟩ : S31)) (0 + 1) x31 x32 (wrap64 (x33 + 1))) else (none)) else (none)) else (none))) else (none)) else (if 0 ≤ (wrap64 ((x5.length : Int) - 1)) then (if (wrap64 ((x5.length : Int) - 1)) < (x5.length : Int) then (if ((rd_T31 x5 (wrap64 ((x5.length : Int) - 1))).f0).length < 3518437208883 then (impl_ChunkCut.l0 k x1 (x5.set ((wrap64 ((x5.length : Int) - 1)) : Int).toNat (⟨(((rd_T31 x5 (wrap64 ((x5.length : Int) - 1))).f0) ++ [(⟨(rd_T35 x31 x33).f0, (rd_T35 x31 x33).f1, (⟨(rd_T35 x31 x33).f2.f0, (rd_T35 x31 x33).f2.f1⟩ : S33)⟩ : S35)])⟩ : S31)) (wrap64 (x6 + 1)) x31 x32 (wrap64 (x33 + 1))) else (none)) else (none)) else (none))) else (if 0 ≤ (wrap64 ((x5.length : Int) - 1)) then (if (wrap64 ((x5.length : Int) - 1)) < (x5.length : Int) then (if ((rd_T31 x5 (wrap64 ((x5.length : Int) - 1))).f0).length < 3518437208883 then (impl_ChunkCut.l0 k x1 (x5.set ((wrap64 ((x5.length : Int) - 1)) : Int).toNat (⟨(((rd_T31 x5 (wrap64 ((x5.length : Int) - 1))).f0) ++ [(⟨(rd_T35 x31 x33).f0, (rd_T35 x31 x33).f1, (⟨(rd_T35 x31 x33).f2.f0, (rd_T35 x31 x33).f2.f1⟩ : S33)⟩ : S35)])⟩ : S31)) x6 x31 x32 (wrap64 (x33 + 1))) else (none)) else (none)) else (none))) else (none)) else (none)) else (some x5)
end
def impl_ChunkCut.f (k : Nat) (l0 : List (S35)) (a1 : Int) : Option ((List (S31))) := if a1 < 1 then (impl_ChunkCut.j0 k l0 a1 true) else (if (l0.length : Int) = 0 then (impl_ChunkCut.j0 k l0 a1 true) else (if 0 < (l0.length : Int) then (if ((rd_T35 l0 0).f0) = 0 then (impl_ChunkCut.j0 k l0 a1 (decide ((l0.length : Int) > 2000))) else (impl_ChunkCut.j0 k l0 a1 true)) else (none)))
def impl_ChunkCut.T14 : Bool × List (List Nat × List Nat) := (true, [([], []), ([], []), ([1], [1]), ([2], [2]), ([3], [3]), ([], []), ([5], [5]), ([4, 6], [4, 6]), ([0, 0, 1, 2, 3, 4, 5, 6, 7], [0]), ([8, 0, 1, 2, 3, 4, 5, 6, 7], [8]), ([9, 7, 7, 0, 1, 2, 3, 4, 5, 6, 7], [7, 9])])
def impl_ChunkCut.B14 : List Nat := [0, 0, 2, 6, 14, 0, 32, 126, 255, 511, 1023]
theorem impl_ChunkCut.tab14 : rtab .any (opsOf Try.f6 14) = impl_ChunkCut.T14 := by kernel_rfl
theorem impl_ChunkCut.bits14 : waitsOk impl_ChunkCut.T14.2 impl_ChunkCut.B14 = true := by kernel_rfl
set_option maxHeartbeats 8000000 in
set_option maxRecDepth 100000 in
theorem impl_ChunkCut.calls (k : Nat) (A0 : Option Addr) (c0 : Nat) (l0 : List (S35)) (a1 : Int) (r : List (S31)) (w : World) (hr0 : Kd.C k35 w A0 l0.length l0) (hc0 : l0.length ≤ c0) (h : impl_ChunkCut.f k l0 a1 = some r) :
    Calls Try.prog 6 #[.slice A0 l0.length c0, .int .i64 a1] w fun e w' => ∃ v0_ : Value, e = .returned (v0_) ∧ Kd.S k31 31 w' w.heap.size (fun _ => True) v0_ r ∧ Below w.heap.size w w' := by
  have hu35 := Try.underlying35
  have hu31 := Try.underlying31
  have HR0 := Aside0.mk hr0
  have HC0 := Aside0.mk hc0
  clear hr0 hc0
  have HB := Aside0.mk (Below.refl w.heap.size w)
  have H : (if a1 < 1 then (impl_ChunkCut.j0 k l0 a1 true) else (if (l0.length : Int) = 0 then (impl_ChunkCut.j0 k l0 a1 true) else (if 0 < (l0.length : Int) then (if ((rd_T35 l0 0).f0) = 0 then (impl_ChunkCut.j0 k l0 a1 (decide ((l0.length : Int) > 2000))) else (impl_ChunkCut.j0 k l0 a1 true)) else (none)))) = some r := h
  clear h
  have HC3 := Aside0.mk H
  clear H
  go_enter Try.func6, Try.ntmps6
  go_upto_region 1 with (fail)
  go_cut [28] (fun v28 wc => ∃ (kq : Nat) (x28_2 : Bool), v28 = .bool x28_2 ∧ Aside0 (impl_ChunkCut.j0 kq l0 a1 x28_2 = some r) ∧ Aside0 (kq ≤ k) ∧ Aside0 (Below w.heap.size w wc))
  case first =>
    have H := HC3.out
    clear HC3
    by_cases c4 : a1 < 1
    · rw [if_pos c4] at H
      have c4b0 := decide_eq_true c4
      clear c4
      (first | rw [c4b0] | (simp only [i64_w, i32_w]; rw [c4b0]) | skip)
      have H' := Aside0.mk H
      clear H
      go_wp2
      go_meet
      case rel => exact ⟨_, (true), sr, H', ⟨by first | omega | exact Nat.le_refl _⟩, ⟨below_later HB.out⟩⟩
    · rw [if_neg c4] at H
      have c4b0 := decide_eq_false c4
      clear c4
      (first | rw [c4b0] | (simp only [i64_w, i32_w]; rw [c4b0]) | skip)
      by_cases c5 : (l0.length : Int) = 0
      · rw [if_pos c5] at H
        have c5b0 : ((l0.length : Int) == 0) = true := beq_iff_eq.mpr c5
        have c5b1 : ((l0.length : Int) != 0) = false := bne_eq_false_iff_eq.mpr c5
        clear c5
        have H' := Aside0.mk H
        clear H
        go_wp2
        go_meet
        case rel => exact ⟨_, (true), sr, H', ⟨by first | omega | exact Nat.le_refl _⟩, ⟨below_later HB.out⟩⟩
      · rw [if_neg c5] at H
        have c5b0 : ((l0.length : Int) == 0) = false := beq_eq_false_iff_ne.mpr c5
        have c5b1 : ((l0.length : Int) != 0) = true := bne_iff_ne.mpr c5
        have c5b2 : ¬ (l0 = []) := fun h_ => c5 (by rw [h_]; rfl)
        replace H := ifs H
        obtain ⟨c6, H⟩ := H
        have c6b0 := decide_eq_true c6
        have c6b1 : decide (0 < l0.length) = true := decide_eq_true (by omega)
        clear c6
        by_cases c7 : ((rd_T35 l0 0).f0) = 0
        · rw [if_pos c7] at H
          have c7b0 : (((rd_T35 l0 0).f0) == 0) = true := beq_iff_eq.mpr c7
          have c7b1 : (((rd_T35 l0 0).f0) != 0) = false := bne_eq_false_iff_eq.mpr c7
          clear c7
          have H' := Aside0.mk H
          clear H
          have p453 : 0 ≤ (0 : Int) := (by omega)
          have q453 : 0 < (l0.length : Int) := dcd
          obtain ⟨ad453, e453, hx453_0, hx453_1, hx453_2, hx453_3⟩ := at_T35 HR0.out 0 p453 q453
          cases e453
          have qi453 : (0 < l0.length) = True := eq_true (by omega)
          (try rw [show ((0 : Int)).toNat = 0 from rfl] at hx453_0)
          (try rw [show 0 * 4 = 0 from rfl] at hx453_0)
          (try rw [Addr.add_zero'] at hx453_0)
          (try rw [show ((0 : Int)).toNat = 0 from rfl] at hx453_1)
          (try rw [show 0 * 4 = 0 from rfl] at hx453_1)
          (try rw [Addr.add_zero'] at hx453_1)
          (try rw [show ((0 : Int)).toNat = 0 from rfl] at hx453_2)
          (try rw [show 0 * 4 = 0 from rfl] at hx453_2)
          (try rw [Addr.add_zero'] at hx453_2)
          (try rw [show ((0 : Int)).toNat = 0 from rfl] at hx453_3)
          (try rw [show 0 * 4 = 0 from rfl] at hx453_3)
          (try rw [Addr.add_zero'] at hx453_3)
          replace hx453_0 := crd HB hx453_0
          replace hx453_1 := crd HB hx453_1
          replace hx453_2 := crd HB hx453_2
          replace hx453_3 := crd HB hx453_3
          replace p453 := eq_true p453
          replace q453 := eq_true q453
          go_wp2
          go_meet
          case rel => exact ⟨_, (decide ((l0.length : Int) > 2000)), sr, H', ⟨by first | omega | exact Nat.le_refl _⟩, ⟨below_later HB.out⟩⟩
        · rw [if_neg c7] at H
          have c7b0 : (((rd_T35 l0 0).f0) == 0) = false := beq_eq_false_iff_ne.mpr c7
          have c7b1 : (((rd_T35 l0 0).f0) != 0) = true := bne_iff_ne.mpr c7
          have H' := Aside0.mk H
          clear H
          have p453 : 0 ≤ (0 : Int) := (by omega)
          have q453 : 0 < (l0.length : Int) := dcd
          obtain ⟨ad453, e453, hx453_0, hx453_1, hx453_2, hx453_3⟩ := at_T35 HR0.out 0 p453 q453
          cases e453
          have qi453 : (0 < l0.length) = True := eq_true (by omega)
          (try rw [show ((0 : Int)).toNat = 0 from rfl] at hx453_0)
          (try rw [show 0 * 4 = 0 from rfl] at hx453_0)
          (try rw [Addr.add_zero'] at hx453_0)
          (try rw [show ((0 : Int)).toNat = 0 from rfl] at hx453_1)
          (try rw [show 0 * 4 = 0 from rfl] at hx453_1)
          (try rw [Addr.add_zero'] at hx453_1)
          (try rw [show ((0 : Int)).toNat = 0 from rfl] at hx453_2)
          (try rw [show 0 * 4 = 0 from rfl] at hx453_2)
          (try rw [Addr.add_zero'] at hx453_2)
          (try rw [show ((0 : Int)).toNat = 0 from rfl] at hx453_3)
          (try rw [show 0 * 4 = 0 from rfl] at hx453_3)
          (try rw [Addr.add_zero'] at hx453_3)
          replace hx453_0 := crd HB hx453_0
          replace hx453_1 := crd HB hx453_1
          replace hx453_2 := crd HB hx453_2
          replace hx453_3 := crd HB hx453_3
          replace p453 := eq_true p453
          replace q453 := eq_true q453
          go_wp2
          go_meet
          case rel => exact ⟨_, (true), sr, H', ⟨by first | omega | exact Nat.le_refl _⟩, ⟨below_later HB.out⟩⟩
  case rest =>
    clear HC3
    obtain ⟨kq, x28_2, rfl, HA, HJ2, HB⟩ := hcut
    cases kq with
    | zero => exact absurd HA.out (by simp [impl_ChunkCut.j0])
    | succ kj2 =>
      have H := HA.out
      clear HA
      simp only [impl_ChunkCut.j0] at H
      by_cases c8 : x28_2 = true
      · subst c8
        replace H := ifp rfl H
        obtain rfl := Option.some.inj H
        go_wp2
        go_ret
        exact ⟨_, by first | rfl | (simp [errW_none, errW_some] <;> rfl) | (simp [*, errW_none, errW_some] <;> rfl), by first | exact Kd.S_nil _ _ _ _ _ | exact Kd.N_nil _ _ _ _ _ | exact Kd.V_nil _ _ _ _ _ | exact Kd.Q_nil _ _ _ _ _ | exact Kd.R_nil _ _ _ _ _, below_later HB.out⟩
      · replace c8 := Bool.eq_false_iff.mpr c8
        subst c8
        replace H := ifn Bool.false_ne_true H
        obtain ⟨y454, hy454⟩ : ∃ y_ : List (S31), y_ = (([] : List (S31))) := ⟨_, rfl⟩
        replace H : (impl_ChunkCut.l0 kj2 a1 y454 a1 l0 (l0.length : Int) 0) = some r := by first | (rw [hy454]; with_reducible exact H) | (rw [hy454]; exact H) | exact H
        have Ny454 := Aside0.mk hy454
        clear hy454
        have H' := Aside0.mk H
        clear H
        go_wp2_with (first | ((with_reducible refine gate_dst (N := 29) rfl ?_); (try (refine gate_guard (by rfl) ?_; dsimp only)); refine Kd.S_lit k31 _ 31 ?hg (N := 29) ?hd (xs := ([] : List (S31))) (inner := []) (ok := fun _ => True) (okp := fun _ => True) ?hr ?hp (fun _ hk => hk) trivial (Below.refl _ _) (Nat.le_refl _) (by simp) ?_; (case hd => rfl); (case hg => rfl); (case hr => first | (go_simp; done) | (go_simp; rfl)); (case hp => exact (Reps.none _ _)); intro v455 w9 ho10 hb hg_ hnew_; clear hg_ hnew_; (first | rw [← Ny454.out] at ho10 | (simp only [Int.reduceToNat] at ho10; rw [← Ny454.out] at ho10)); have HO456 := Aside0.mk (Kd.S_lower ho10 (below_size (below_later HB.out))); replace HB := bst HB hb; clear hb ho10))
        go_loopg [5, 6, 33] kj2 (fun kq v5 v6 v33 w' => ∃ (x5_2 : List (S31)) (x6_2 : Int) (x33_2 : Int), v6 = .int .i64 x6_2 ∧ v33 = .int .i64 x33_2 ∧ Aside0 (impl_ChunkCut.l0 kq a1 x5_2 x6_2 l0 (l0.length : Int) x33_2 = some r) ∧ Aside0 (kq ≤ kj2) ∧ Aside0 (Kd.S k31 31 w' w.heap.size (fun _ => True) v5 x5_2) ∧ Aside0 (Below w.heap.size w w'))
        case atStart => exact ⟨(y454), (a1), (0), sr, sr, H', ⟨Nat.le_refl _⟩, ⟨by (with_reducible repeat (first | apply Kd.S_alloc | apply Kd.S_drewN | apply Kd.S_drew)); exact HO456.out⟩, ⟨below_later HB.out⟩⟩
        case round =>
          clear H'
          try clear c8
          obtain ⟨x5_2, x6_2, x33_2, rfl, rfl, HA, HK2, HO_5, HB⟩ := hrel
          cases gk with
          | zero => exact absurd HA.out (by simp [impl_ChunkCut.l0])
          | succ k2 =>
            have H := HA.out
            clear HA
            simp only [impl_ChunkCut.l0] at H
            by_cases c11 : x33_2 < (l0.length : Int)
            · rw [if_pos c11] at H
              have c11b0 := decide_eq_true c11
              clear c11
              replace H := ifd H
              obtain ⟨c12b0, H⟩ := H
              replace H := ifd H
              obtain ⟨c13b0, H⟩ := H
              by_cases c14 : ((rd_T35 l0 x33_2).f0) = 0
              · rw [if_pos c14] at H
                have c14b0 : (((rd_T35 l0 x33_2).f0) == 0) = true := beq_iff_eq.mpr c14
                have c14b1 : (((rd_T35 l0 x33_2).f0) != 0) = false := bne_eq_false_iff_eq.mpr c14
                clear c14
                by_cases c15 : x6_2 = a1
                · rw [if_pos c15] at H
                  have c15b0 : (x6_2 == a1) = true := beq_iff_eq.mpr c15
                  have c15b1 : (x6_2 != a1) = false := bne_eq_false_iff_eq.mpr c15
                  clear c15
                  replace H := ifs H
                  obtain ⟨c16, H⟩ := H
                  have LMc16 := Aside0.mk c16
                  clear c16
                  replace H := bsm H
                  obtain ⟨y459, Ny459, H⟩ := H
                  obtain ⟨ji17, hji17⟩ : ∃ j_ : Int, (wrap64 ((y459.length : Int) - 1)) = j_ := ⟨_, rfl⟩
                  replace H : (if 0 ≤ (ji17) then (if (ji17) < (y459.length : Int) then (if ((rd_T31 y459 (ji17)).f0).length < 3518437208883 then (impl_ChunkCut.l0 k2 a1 (y459.set ((ji17) : Int).toNat (⟨(((rd_T31 y459 (ji17)).f0) ++ [(⟨(rd_T35 l0 x33_2).f0, (rd_T35 l0 x33_2).f1, (⟨(rd_T35 l0 x33_2).f2.f0, (rd_T35 l0 x33_2).f2.f1⟩ : S33)⟩ : S35)])⟩ : S31)) (0 + 1) l0 (l0.length : Int) (wrap64 (x33_2 + 1))) else (none)) else (none)) else (none)) = some r := by first | (rw [hji17] at H; exact H) | (simp only [hji17] at H ⊢; exact H)
                  have hji17w : (IntKind.i64.wrap ((y459.length : Int) - 1)) = ji17 := (i64_w _).trans hji17
                  replace H := ifd H
                  obtain ⟨c18b0, H⟩ := H
                  replace H := ifd H
                  obtain ⟨c19b0, H⟩ := H
                  replace H := ifs H
                  obtain ⟨c20, H⟩ := H
                  have LMc20 := Aside0.mk c20
                  clear c20
                  obtain ⟨y463, hy463⟩ : ∃ y_ : List (S35), y_ = (((rd_T31 y459 (ji17)).f0) ++ [(⟨(rd_T35 l0 x33_2).f0, (rd_T35 l0 x33_2).f1, (⟨(rd_T35 l0 x33_2).f2.f0, (rd_T35 l0 x33_2).f2.f1⟩ : S33)⟩ : S35)]) := ⟨_, rfl⟩
                  replace H : (impl_ChunkCut.l0 k2 a1 (y459.set ((ji17) : Int).toNat (⟨y463⟩ : S31)) (0 + 1) l0 (l0.length : Int) (wrap64 (x33_2 + 1))) = some r := by first | (rw [hy463]; with_reducible exact H) | (rw [hy463]; exact H) | exact H
                  have Ny463 := Aside0.mk hy463
                  clear hy463
                  obtain ⟨y466, hy466⟩ : ∃ y_ : List (S31), y_ = (y459.set ((ji17) : Int).toNat (⟨y463⟩ : S31)) := ⟨_, rfl⟩
                  replace H : (impl_ChunkCut.l0 k2 a1 y466 (0 + 1) l0 (l0.length : Int) (wrap64 (x33_2 + 1))) = some r := by first | (rw [hy466]; with_reducible exact H) | (rw [hy466]; exact H) | exact H
                  have Ny466 := Aside0.mk hy466
                  clear hy466
                  have H' := Aside0.mk H
                  clear H
                  have p457 : 0 ≤ (x33_2 : Int) := dcd
                  have q457 : x33_2 < (l0.length : Int) := dcd
                  obtain ⟨ad457, e457, hx457_0, hx457_1, hx457_2, hx457_3⟩ := at_T35 HR0.out x33_2 p457 q457
                  cases e457
                  replace hx457_0 := crd HB hx457_0
                  replace hx457_1 := crd HB hx457_1
                  replace hx457_2 := crd HB hx457_2
                  replace hx457_3 := crd HB hx457_3
                  replace p457 := eq_true p457
                  replace q457 := eq_true q457
                  try go_wp2_with (first | ((with_reducible refine gate_dst (N := 8) rfl ?_); (try (refine gate_guard (by rfl) ?_; dsimp only)); refine bx_ 8 #[.int .i64 0, .int .i64 0, .int .i64 0, .string (⟨#[]⟩ : ByteArray)] 35 ?_; intro gb458 hg w22 hbox hb; have BK458 := Aside0.mk (hbox); have GW458 := gwe HB hg; have GE458 := GW458; replace HO_5 := Aside0.mk (Kd.S_below (Kd.S_elderB (by (with_reducible repeat (first | apply Kd.S_alloc | apply Kd.S_drewN | apply Kd.S_drew)); exact HO_5.out) gb458 (Nat.le_of_eq hg.symm)) hb); replace HB := bst HB hb; clear hb hbox hg; obtain ⟨hcz23_0, hcz23_1, hcz23_2, hcz23_3, hfz23_0, hfz23_1, hfz23_2, hfz23_3⟩ := cl4 BK458) | ((with_reducible refine gate_builtin (b := .append) (xs := #[.tmp 43, .tmp 45]) rfl ?_); (try (refine gate_guard (by rfl) ?_; dsimp only)); at_builtin; refine Kd.S_append k31 (w0 := w) w.heap.size rfl (.tmp 43) (.tmp 45) 27 31 (.agg #[(.slice none 0 0)]) 24 rfl Try.underlying27 info31 rfl (by decide) (by omega) u5 x5_2 (⟨([] : List (S35))⟩ : S31) [.slice none 0 0] (fun k_ => k_ ≠ gb458) (fun _ => False) rfl (by first | (go_simp; done) | (go_simp; rfl)) ?aP (fun k_ hk_ => hk_.elim) ?aF ?aO ?aB ?aS ?aL ?_; (case aP => exact k31_mkM _ _ _ (⟨([] : List (S35))⟩ : S31) (Kd.R_nil _ _ _ _ _)); (case aB => exact (below_later HB.out)); (case aF => exact (fun k_ hk => Kd.freshB (g := gb458) (o := .cells #[.int .i64 ((rd_T35 l0 x33_2).f0), .int .i64 ((rd_T35 l0 x33_2).f1), .int .i64 ((rd_T35 l0 x33_2).f2.f0), .string ((rd_T35 l0 x33_2).f2.f1)] 35 (0, 0)) (blk_later BK458.out) k_ hk)); (case aO => exact (by (with_reducible repeat (first | apply Kd.S_alloc | apply Kd.S_drewN | apply Kd.S_drew)); exact Kd.S_mono (Kd.S_far (p := ⟨gb458, 3, none⟩) (Kd.S_far (p := ⟨gb458, 2, none⟩) (Kd.S_far (p := ⟨gb458, 1, none⟩) (Kd.S_far (p := ⟨gb458, 0, none⟩) (Kd.S_mono HO_5.out (fun k_ hk => (⟨hk, hk.2⟩ : _ ∧ k_ ≠ gb458))) (fun _ hk => hk.2) (.int .i64 ((rd_T35 l0 x33_2).f0))) (fun _ hk => hk.2) (.int .i64 ((rd_T35 l0 x33_2).f1))) (fun _ hk => hk.2) (.int .i64 ((rd_T35 l0 x33_2).f2.f0))) (fun _ hk => hk.2) (.string ((rd_T35 l0 x33_2).f2.f1))) (fun k_ hk => ⟨hk.1.2, fun e_ => e_⟩))); (case aS => exact (below_size (below_later HB.out))); (case aL => have := LMc16.out; omega); intro v460 w24 ho hb hg hat; rw [← Ny459.out] at ho; have n0_ := Aside0.mk (blk_grown (g := gb458) (o := .cells #[.int .i64 ((rd_T35 l0 x33_2).f0), .int .i64 ((rd_T35 l0 x33_2).f1), .int .i64 ((rd_T35 l0 x33_2).f2.f0), .string ((rd_T35 l0 x33_2).f2.f1)] 35 (0, 0)) (blk_later BK458.out) hg (Kd.S_ne HO_5.out BK458.out (by decide))); have n1_ := Aside0.mk (hb); have n2_ := Aside0.mk (ho); clear BK458; clear HB; clear HO_5; have BK458 := n0_; have HB := n1_; have HO461 := n2_; clear n0_ n1_ n2_; clear ho hb hg hat; obtain ⟨Ao25, co25, eo25⟩ := Kd.S_slice HO461.out; subst eo25))
                  have pz_ : 0 ≤ ((ji17) : Int) := dcd
                  have qz_ : (ji17) < (y459.length : Int) := dcd
                  obtain ⟨go27, co27, eo27, gb27, gl27, cl27, HG27⟩ := Kd.S_form HO461.out (by have h_ : ((ji17) : Int) < ((y459.length : Int) : Int) := dcd; have h2_ : 0 ≤ ((ji17) : Int) := (dcd); omega)
                  (first | cases eo27 | (injection eo27 with ea_ en_ ec_; (first | subst ea_ | (injection ea_ with ea_; subst ea_)); subst ec_; clear en_))
                  clear gb27 gl27 HG27
                  replace pz_ := eq_true pz_
                  replace qz_ := eq_true qz_
                  go_simp
                  try go_wp2
                  clear pz_ qz_
                  have n0_ := Aside0.mk (Kd.S_drew HO461.out)
                  have n1_ := Aside0.mk (blk_drew BK458.out)
                  have n2_ := Aside0.mk (below_drew1 HB.out)
                  clear HO461
                  clear BK458
                  clear HB
                  have HO461 := n0_
                  have BK458 := n1_
                  have HB := n2_
                  clear n0_ n1_ n2_
                  have p462 : 0 ≤ ((ji17) : Int) := dcd
                  have q462 : (ji17) < (y459.length : Int) := dcd
                  obtain ⟨ad462, A462_0, c462_0, e462, hx462_0, hl462_0, hi462_0⟩ := at_T31 (Kd.S_reads' HO461.out).2.2 (ji17) p462 q462
                  cases e462
                  obtain ⟨ce462, hce462, hMe462, hcc462⟩ := Kd.S_get HO461.out z31 (ji17) p462 (by first | exact q462 | exact dcd | (have e_ := (Kd.S_reads' HO461.out).1; omega))
                  obtain ⟨ve462_0, rfl, ge462_0⟩ := k31_openM hMe462
                  have hv462_0 := hcc462 0 _ rfl
                  rw [Nat.add_zero, show (k31).sz = 1 from rfl, Nat.mul_one] at hv462_0
                  replace hv462_0 := Option.some.inj (hv462_0.symm.trans hx462_0)
                  rw [hv462_0] at ge462_0
                  have HL462_0 := Aside0.mk (show Kd.R k35 35 _ _ _ _ ((rd_T31 y459 (ji17)).f0) from ge462_0)
                  clear hv462_0 ge462_0
                  have HX462_0 := Aside0.mk hx462_0
                  clear hcc462 hce462
                  have HR462_0 := Aside0.mk hi462_0
                  have HC462_0 := Aside0.mk hl462_0
                  clear hi462_0 hl462_0
                  replace p462 := eq_true p462
                  replace q462 := eq_true q462
                  obtain ⟨go27, co27, eo27, gb27, gl27, cl27, HG27⟩ := Kd.S_form HO461.out (by have h_ : ((ji17) : Int) < ((y459.length : Int) : Int) := dcd; have h2_ : 0 ≤ ((ji17) : Int) := (dcd); omega)
                  (first | cases eo27 | (injection eo27 with ea_ en_ ec_; (first | subst ea_ | (injection ea_ with ea_; subst ea_)); subst ec_; clear en_))
                  have GB27 := Aside0.mk gb27
                  have GG27 := Aside0.mk HG27
                  clear gb27 gl27 HG27
                  (first | simp only [add_plain] at hx462_0 | skip)
                  obtain ⟨oki27, ce27, hcl27, hM27, hcc27, _, _, hH27⟩ := Kd.S_elem HO461.out z31 ((ji17) : Int) (dcd) (by have h_ : ((ji17) : Int) < ((y459.length : Int) : Int) := dcd; first | exact h_ | (have e_ := (Kd.S_reads' HO461.out).1; omega) | simpa using h_)
                  obtain ⟨ve27_0, rfl, ge27_0⟩ := k31_openM hM27
                  have hv27 := hcc27 0 _ rfl
                  have hX27 := HX462_0.out
                  (try simp only [add_plain] at hX27)
                  (try simp only [Nat.add_zero] at hv27)
                  (try rw [show (k31).sz = 1 from rfl, Nat.mul_one] at hv27)
                  replace hv27 := Option.some.inj (hv27.symm.trans hX27)
                  subst hv27
                  clear hX27 hcc27 hcl27
                  have UU27 := Aside0.mk (show Kd.R k35 35 _ w.heap.size oki27 (.slice A462_0 ((rd_T31 y459 (ji17)).f0).length c462_0) ((rd_T31 y459 (ji17)).f0) from ge27_0)
                  have HH27 := Aside0.mk hH27
                  have HN27 := Aside0.mk (Kd.S_reads' HO461.out).1
                  clear hH27 ge27_0
                  refine start_ (n := 11) (S := fun w' => w'.cell? ⟨gb458, 0, none⟩ = some (.int .i64 ((rd_T35 l0 x33_2).f0)) ∧ w'.cell? ⟨gb458, 1, none⟩ = some (.int .i64 ((rd_T35 l0 x33_2).f1)) ∧ w'.cell? ⟨gb458, 2, none⟩ = some (.int .i64 ((rd_T35 l0 x33_2).f2.f0)) ∧ w'.cell? ⟨gb458, 3, none⟩ = some (.string ((rd_T35 l0 x33_2).f2.f1)) ∧ w'.cell? ⟨go27, ((ji17)).toNat, none⟩ = some (.slice A462_0 ((rd_T31 y459 (ji17)).f0).length c462_0)) (ds := [10]) #[false, false, false, false, false, false, false, false, false, false, false] (by kernel_rfl) rfl rfl ⟨(blk_cell BK458.out 0).trans rfl, (blk_cell BK458.out 1).trans rfl, (blk_cell BK458.out 2).trans rfl, (blk_cell BK458.out 3).trans rfl, hx462_0⟩ (fun hHeld => ?_); refine with_tabW impl_ChunkCut.tab14 impl_ChunkCut.bits14 (fun HT_ HW_ => ?_)
                  generalize w24.drew = w26 at HO461 BK458 HB GG27 HH27 HL462_0 HR462_0 HX462_0 UU27 hx462_0 hHeld ⊢
                  refine pu_ 0 54 ?_; refine pu_ 1 55 ?_; refine pu_ 2 56 ?_; refine pu_ 3 57 ?_; refine tk_ 4 58 hHeld ?_; refine tk_ 5 59 hHeld ?_
                  refine on_ 6 60 (fun K hK => ?_)
                  refine value_ (w1 := ?_) (v := ?_) (by rfl) rfl ?_ ?_
                  rotate_left 2
                  · go_simp
                    constructor
                    · rfl
                    · rfl
                  refine hK.out _ _ ⟨(blk_cell (blk_alloc BK458.out _) 0).trans rfl, (blk_cell (blk_alloc BK458.out _) 1).trans rfl, (blk_cell (blk_alloc BK458.out _) 2).trans rfl, (blk_cell (blk_alloc BK458.out _) 3).trans rfl, (World.cell?_alloc_lt _ _ _ (World.block_lt_of_cell? _ _ (hHeld.2.2.2.2))).trans (hHeld.2.2.2.2)⟩ (fun hHeld => ?_)
                  clear hK K
                  refine no_ (some 60) ?_
                  refine on_ 7 61 (fun K hK => ?_)
                  refine Kd.R_append_step k35 (w0 := w) w.heap.size (by rfl) (.tmp 58) (.tmp 60) 24 35 (.agg #[(.int .i64 0), (.int .i64 0), (.int .i64 0), (.string ⟨#[]⟩)]) 40 rfl Try.underlying24 info35 rfl (by decide) (by omega) (.slice A462_0 ((rd_T31 y459 (ji17)).f0).length c462_0) ((rd_T31 y459 (ji17)).f0) (⟨(rd_T35 l0 x33_2).f0, (rd_T35 l0 x33_2).f1, (⟨(rd_T35 l0 x33_2).f2.f0, (rd_T35 l0 x33_2).f2.f1⟩ : S33)⟩ : S35) [.int .i64 ((rd_T35 l0 x33_2).f0), .int .i64 ((rd_T35 l0 x33_2).f1), .int .i64 ((rd_T35 l0 x33_2).f2.f0), .string ((rd_T35 l0 x33_2).f2.f1)] (fun k_ => oki27 k_ ∨ ((fun k_ => k_ ≠ gb458)) k_ ∧ w26.heap.size ≤ k_) (fun _ => False) rfl rfl ?aP (fun _ hk => hk.elim) ?aF ?aO ?aB ?aS ?aL ?_
                  (case aP => exact k35_mkM _ _ _ (⟨(rd_T35 l0 x33_2).f0, (rd_T35 l0 x33_2).f1, (⟨(rd_T35 l0 x33_2).f2.f0, (rd_T35 l0 x33_2).f2.f1⟩ : S33)⟩ : S35))
                  (case aB => exact (below_later HB.out))
                  (case aF => exact (fun k_ hk => .inr ⟨Kd.freshB (blk_later BK458.out) k_ hk, hk⟩))
                  (case aO => exact (by (with_reducible repeat (first | apply Kd.R_alloc | apply Kd.R_drewN | apply Kd.R_drew)); exact Kd.R_mono UU27.out (fun _ hk => .inl hk)))
                  (case aS => exact (below_size (below_later HB.out)))
                  (case aL => have := LMc20.out; omega)
                  intro v464 w28 ho hb hg hat
                  (first | have HS4_ := cell_grown hg (hHeld.2.2.2.2) (by first | (rw [add_block]; exact (fun e_ => ((HL462_0.out.1 _ e_.symm).2) rfl)) | (show some (Addr.add _ _).block ≠ _; rw [add_block]; exact (fun e_ => ((HL462_0.out.1 _ e_.symm).2) rfl)) | exact (fun e_ => ((HL462_0.out.1 _ e_.symm).2) rfl)) | have HS4_ := cell_grown hg (cell_unalloc (hHeld.2.2.2.2) (by first | (rw [add_block]; exact Kd.S_lt HO461.out _ rfl) | (show (Addr.add _ _).block < _; rw [add_block]; exact Kd.S_lt HO461.out _ rfl) | exact Kd.S_lt HO461.out _ rfl)) (by first | (rw [add_block]; exact (fun e_ => ((HL462_0.out.1 _ e_.symm).2) rfl)) | (show some (Addr.add _ _).block ≠ _; rw [add_block]; exact (fun e_ => ((HL462_0.out.1 _ e_.symm).2) rfl)) | exact (fun e_ => ((HL462_0.out.1 _ e_.symm).2) rfl)))
                  rw [← Ny463.out] at ho
                  have n0_ := Aside0.mk (blk_grown (blk_later BK458.out) hg (Kd.R_away HL462_0.out (fun _ hk => hk.1)))
                  have n1_ := Aside0.mk (hb)
                  have n2_ := Aside0.mk (Kd.H_grown (Kd.H_widen (by repeat (first | exact HH27.out | refine Kd.H_alloc ?_ _ | refine Kd.H_drewN ?_ _ | refine Kd.H_drew ?_))) hg (fun k_ e_ => .inl (UU27.out.1 k_ e_)))
                  have n3_ := Aside0.mk (ho)
                  clear BK458
                  clear HB
                  clear HH27
                  clear HO461
                  clear UU27
                  clear HL462_0
                  have BK458 := n0_
                  have HB := n1_
                  have HH27 := n2_
                  have HO465 := n3_
                  clear n0_ n1_ n2_ n3_
                  clear ho hb hg hat
                  have p21 : 0 ≤ ((ji17) : Int) := dcd
                  have q21 : ((ji17) : Int) < ((y459.length : Int) : Int) := dcd
                  replace p21 := eq_true p21
                  replace q21 := eq_true q21
                  obtain ⟨Ao31, co31, eo31⟩ := Kd.R_slice HO465.out
                  (first | subst eo31 | (injection eo31 with f1_ f2_ f3_; have f4_ := f1_.symm; have f5_ := f3_.symm; clear f1_ f2_ f3_; subst f4_; subst f5_))
                  obtain ⟨_, _, hraw29, _, _, hcc29, _⟩ := Kd.H_raw HH27.out (dcd) (by have h_ : ((ji17) : Int) < ((y459.length : Int) : Int) := dcd; first | exact h_ | (have e_ := (HN27.out); omega) | simpa using h_)
                  obtain ⟨_, hfr29⟩ := Kd.H_at HH27.out (dcd) (by have h_ : ((ji17) : Int) < ((y459.length : Int) : Int) := dcd; first | exact h_ | (have e_ := (HN27.out); omega) | simpa using h_)
                  have hx29_0 := hcc29 0 _ rfl
                  have hf29_0 := hfr29 0
                  (try simp only [Nat.add_zero] at hx29_0 hf29_0)
                  (try rw [show (k31).sz = 1 from rfl, Nat.mul_one] at hx29_0)
                  (try rw [show (k31).sz = 1 from rfl, Nat.mul_one] at hf29_0)
                  have HP29 := Kd.S_seg0 HH27.out (dcd) (by have h_ : ((ji17) : Int) < ((y459.length : Int) : Int) := dcd; first | exact h_ | (have e_ := (HN27.out); omega) | simpa using h_) (seg := [.slice Ao31 y463.length co31]) (j := 0) (show 1 ≤ 1 from by decide) (x' := (⟨y463⟩ : S31)) (k31_mkM _ _ _ (⟨y463⟩ : S31) HO465.out) (fun _ hk => hk)
                  (try simp only [show (k31).sz = 1 from rfl, Nat.mul_one, Nat.add_zero] at HP29)
                  clear hcc29 hfr29
                  have HNB458_go27 := Aside0.mk (show gb458 ≠ go27 from by have h_ := Kd.R_ne hraw29 BK458.out (by decide); intro e_; exact h_ (by rw [e_]; rfl))
                  have HS29 := HP29.1
                  rw [← Ny466.out] at HS29
                  have HQ29 := Aside0.mk HS29
                  obtain ⟨_, hgg29⟩ := Kd.R_typed hraw29 go27 rfl
                  have GG29_ := Aside0.mk hgg29
                  clear HP29 HS29 hgg29
                  refine hK.out _ _ ⟨(blk_cell BK458.out 0).trans rfl, (blk_cell BK458.out 1).trans rfl, (blk_cell BK458.out 2).trans rfl, (blk_cell BK458.out 3).trans rfl, HS4_⟩ (fun hHeld => ?_)
                  clear hK K
                  refine no_ (some 61) ?_; refine pu_ 8 62 ?_; refine pu_ 9 63 ?_
                  refine last_ (i := 10) (N := none) #[true, true, true, true, true, true, true, true, true, true, true] rfl rfl (one_of HT_.out (by kernel_rfl)) (by decide) (fun K hK => ?_)
                  refine skip_ (w1 := ?_) (by rfl) rfl ?_ ?_
                  rotate_left
                  · go_simp
                    rfl
                  refine hK.out _ _ ?_
                  clear hK K
                  refine done_ (done_of HT_.out (by kernel_rfl)) ?_
                  try go_wp2
                  go_roundg k2
                  case measure => have := HJ2.out; have := HK2.out; omega
                  case rel => exact ⟨(y466), (0 + 1), (wrap64 (x33_2 + 1)), sr, sr, H', ⟨by have := HJ2.out; have := HK2.out; omega⟩, ⟨by (with_reducible repeat (first | apply Kd.S_alloc | apply Kd.S_drewN | apply Kd.S_drew)); exact Kd.S_mono HQ29.out (fun _ hk => trivial)⟩, ⟨by repeat (first | (with_reducible first | exact HB.out | apply below_alloc | apply pw_below_drewN | apply below_drew1 | refine below_set ?_ GB27.out | refine below_set ?_ GE458.out) | exact HB.out)⟩⟩
                · rw [if_neg c15] at H
                  have c15b0 : (x6_2 == a1) = false := beq_eq_false_iff_ne.mpr c15
                  have c15b1 : (x6_2 != a1) = true := bne_iff_ne.mpr c15
                  obtain ⟨ji32, hji32⟩ : ∃ j_ : Int, (wrap64 ((x5_2.length : Int) - 1)) = j_ := ⟨_, rfl⟩
                  replace H : (if 0 ≤ (ji32) then (if (ji32) < (x5_2.length : Int) then (if ((rd_T31 x5_2 (ji32)).f0).length < 3518437208883 then (impl_ChunkCut.l0 k2 a1 (x5_2.set ((ji32) : Int).toNat (⟨(((rd_T31 x5_2 (ji32)).f0) ++ [(⟨(rd_T35 l0 x33_2).f0, (rd_T35 l0 x33_2).f1, (⟨(rd_T35 l0 x33_2).f2.f0, (rd_T35 l0 x33_2).f2.f1⟩ : S33)⟩ : S35)])⟩ : S31)) (wrap64 (x6_2 + 1)) l0 (l0.length : Int) (wrap64 (x33_2 + 1))) else (none)) else (none)) else (none)) = some r := by first | (rw [hji32] at H; exact H) | (simp only [hji32] at H ⊢; exact H)
                  have hji32w : (IntKind.i64.wrap ((x5_2.length : Int) - 1)) = ji32 := (i64_w _).trans hji32
                  replace H := ifd H
                  obtain ⟨c33b0, H⟩ := H
                  replace H := ifd H
                  obtain ⟨c34b0, H⟩ := H
                  replace H := ifs H
                  obtain ⟨c35, H⟩ := H
                  have LMc35 := Aside0.mk c35
                  clear c35
                  obtain ⟨y468, hy468⟩ : ∃ y_ : List (S35), y_ = (((rd_T31 x5_2 (ji32)).f0) ++ [(⟨(rd_T35 l0 x33_2).f0, (rd_T35 l0 x33_2).f1, (⟨(rd_T35 l0 x33_2).f2.f0, (rd_T35 l0 x33_2).f2.f1⟩ : S33)⟩ : S35)]) := ⟨_, rfl⟩
                  replace H : (impl_ChunkCut.l0 k2 a1 (x5_2.set ((ji32) : Int).toNat (⟨y468⟩ : S31)) (wrap64 (x6_2 + 1)) l0 (l0.length : Int) (wrap64 (x33_2 + 1))) = some r := by first | (rw [hy468]; with_reducible exact H) | (rw [hy468]; exact H) | exact H
                  have Ny468 := Aside0.mk hy468
                  clear hy468
                  obtain ⟨y471, hy471⟩ : ∃ y_ : List (S31), y_ = (x5_2.set ((ji32) : Int).toNat (⟨y468⟩ : S31)) := ⟨_, rfl⟩
                  replace H : (impl_ChunkCut.l0 k2 a1 y471 (wrap64 (x6_2 + 1)) l0 (l0.length : Int) (wrap64 (x33_2 + 1))) = some r := by first | (rw [hy471]; with_reducible exact H) | (rw [hy471]; exact H) | exact H
                  have Ny471 := Aside0.mk hy471
                  clear hy471
                  have H' := Aside0.mk H
                  clear H
                  have p457 : 0 ≤ (x33_2 : Int) := dcd
                  have q457 : x33_2 < (l0.length : Int) := dcd
                  obtain ⟨ad457, e457, hx457_0, hx457_1, hx457_2, hx457_3⟩ := at_T35 HR0.out x33_2 p457 q457
                  cases e457
                  replace hx457_0 := crd HB hx457_0
                  replace hx457_1 := crd HB hx457_1
                  replace hx457_2 := crd HB hx457_2
                  replace hx457_3 := crd HB hx457_3
                  replace p457 := eq_true p457
                  replace q457 := eq_true q457
                  try go_wp2_with (first | ((with_reducible refine gate_dst (N := 8) rfl ?_); (try (refine gate_guard (by rfl) ?_; dsimp only)); refine bx_ 8 #[.int .i64 0, .int .i64 0, .int .i64 0, .string (⟨#[]⟩ : ByteArray)] 35 ?_; intro gb458 hg w37 hbox hb; have BK458 := Aside0.mk (hbox); have GW458 := gwe HB hg; have GE458 := GW458; replace HO_5 := Aside0.mk (Kd.S_below (Kd.S_elderB (by (with_reducible repeat (first | apply Kd.S_alloc | apply Kd.S_drewN | apply Kd.S_drew)); exact HO_5.out) gb458 (Nat.le_of_eq hg.symm)) hb); replace HB := bst HB hb; clear hb hbox hg; obtain ⟨hcz38_0, hcz38_1, hcz38_2, hcz38_3, hfz38_0, hfz38_1, hfz38_2, hfz38_3⟩ := cl4 BK458; obtain ⟨Ao39, co39, eo39⟩ := Kd.S_slice HO_5.out; subst eo39))
                  have n0_ : Aside0 (Kd.S k31 31 ((((w37.setCell ⟨gb458, 0, none⟩ (.int .i64 ((rd_T35 l0 x33_2).f0))).setCell ⟨gb458, 1, none⟩ (.int .i64 ((rd_T35 l0 x33_2).f1))).setCell ⟨gb458, 2, none⟩ (.int .i64 ((rd_T35 l0 x33_2).f2.f0))).setCell ⟨gb458, 3, none⟩ (.string ((rd_T35 l0 x33_2).f2.f1))) w.heap.size (fun k_ => k_ ≠ gb458) (.slice Ao39 x5_2.length co39) x5_2) := ⟨by (with_reducible repeat (first | apply Kd.S_alloc | apply Kd.S_drewN | apply Kd.S_drew)); exact Kd.S_mono (Kd.S_far (p := ⟨gb458, 3, none⟩) (Kd.S_far (p := ⟨gb458, 2, none⟩) (Kd.S_far (p := ⟨gb458, 1, none⟩) (Kd.S_far (p := ⟨gb458, 0, none⟩) (Kd.S_mono HO_5.out (fun k_ hk => (⟨hk, hk.2⟩ : _ ∧ k_ ≠ gb458))) (fun _ hk => hk.2) (.int .i64 ((rd_T35 l0 x33_2).f0))) (fun _ hk => hk.2) (.int .i64 ((rd_T35 l0 x33_2).f1))) (fun _ hk => hk.2) (.int .i64 ((rd_T35 l0 x33_2).f2.f0))) (fun _ hk => hk.2) (.string ((rd_T35 l0 x33_2).f2.f1))) (fun _ hk => hk.1.2)⟩
                  have n1_ : Aside0 (((((w37.setCell ⟨gb458, 0, none⟩ (.int .i64 ((rd_T35 l0 x33_2).f0))).setCell ⟨gb458, 1, none⟩ (.int .i64 ((rd_T35 l0 x33_2).f1))).setCell ⟨gb458, 2, none⟩ (.int .i64 ((rd_T35 l0 x33_2).f2.f0))).setCell ⟨gb458, 3, none⟩ (.string ((rd_T35 l0 x33_2).f2.f1))).heap[gb458]? = some (.cells #[.int .i64 ((rd_T35 l0 x33_2).f0), .int .i64 ((rd_T35 l0 x33_2).f1), .int .i64 ((rd_T35 l0 x33_2).f2.f0), .string ((rd_T35 l0 x33_2).f2.f1)] 35 (0, 0))) := ⟨blk_later BK458.out⟩
                  have n2_ : Aside0 (Below w.heap.size w ((((w37.setCell ⟨gb458, 0, none⟩ (.int .i64 ((rd_T35 l0 x33_2).f0))).setCell ⟨gb458, 1, none⟩ (.int .i64 ((rd_T35 l0 x33_2).f1))).setCell ⟨gb458, 2, none⟩ (.int .i64 ((rd_T35 l0 x33_2).f2.f0))).setCell ⟨gb458, 3, none⟩ (.string ((rd_T35 l0 x33_2).f2.f1)))) := ⟨below_later HB.out⟩
                  (try clear HO_5)
                  (try clear BK458)
                  (try clear HB)
                  generalize ((((w37.setCell ⟨gb458, 0, none⟩ (.int .i64 ((rd_T35 l0 x33_2).f0))).setCell ⟨gb458, 1, none⟩ (.int .i64 ((rd_T35 l0 x33_2).f1))).setCell ⟨gb458, 2, none⟩ (.int .i64 ((rd_T35 l0 x33_2).f2.f0))).setCell ⟨gb458, 3, none⟩ (.string ((rd_T35 l0 x33_2).f2.f1))) = w40 at n0_ n1_ n2_ ⊢
                  have HO_5 := n0_
                  have BK458 := n1_
                  have HB := n2_
                  clear n0_ n1_ n2_
                  have pz_ : 0 ≤ ((ji32) : Int) := dcd
                  have qz_ : (ji32) < (x5_2.length : Int) := dcd
                  obtain ⟨go42, co42, eo42, gb42, gl42, cl42, HG42⟩ := Kd.S_form HO_5.out (by have h_ : ((ji32) : Int) < ((x5_2.length : Int) : Int) := dcd; have h2_ : 0 ≤ ((ji32) : Int) := (dcd); omega)
                  (first | cases eo42 | (injection eo42 with ea_ en_ ec_; (first | subst ea_ | (injection ea_ with ea_; subst ea_)); subst ec_; clear en_))
                  clear gb42 gl42 HG42
                  replace pz_ := eq_true pz_
                  replace qz_ := eq_true qz_
                  go_simp
                  try go_wp2
                  clear pz_ qz_
                  have n0_ := Aside0.mk (Kd.S_drew HO_5.out)
                  have n1_ := Aside0.mk (blk_drew BK458.out)
                  have n2_ := Aside0.mk (below_drew1 HB.out)
                  clear HO_5
                  clear BK458
                  clear HB
                  have HO_5 := n0_
                  have BK458 := n1_
                  have HB := n2_
                  clear n0_ n1_ n2_
                  have p467 : 0 ≤ ((ji32) : Int) := dcd
                  have q467 : (ji32) < (x5_2.length : Int) := dcd
                  obtain ⟨ad467, A467_0, c467_0, e467, hx467_0, hl467_0, hi467_0⟩ := at_T31 (Kd.S_reads' HO_5.out).2.2 (ji32) p467 q467
                  cases e467
                  obtain ⟨ce467, hce467, hMe467, hcc467⟩ := Kd.S_get HO_5.out z31 (ji32) p467 (by first | exact q467 | exact dcd | (have e_ := (Kd.S_reads' HO_5.out).1; omega))
                  obtain ⟨ve467_0, rfl, ge467_0⟩ := k31_openM hMe467
                  have hv467_0 := hcc467 0 _ rfl
                  rw [Nat.add_zero, show (k31).sz = 1 from rfl, Nat.mul_one] at hv467_0
                  replace hv467_0 := Option.some.inj (hv467_0.symm.trans hx467_0)
                  rw [hv467_0] at ge467_0
                  have HL467_0 := Aside0.mk (show Kd.R k35 35 _ _ _ _ ((rd_T31 x5_2 (ji32)).f0) from ge467_0)
                  clear hv467_0 ge467_0
                  have HX467_0 := Aside0.mk hx467_0
                  clear hcc467 hce467
                  have HR467_0 := Aside0.mk hi467_0
                  have HC467_0 := Aside0.mk hl467_0
                  clear hi467_0 hl467_0
                  replace p467 := eq_true p467
                  replace q467 := eq_true q467
                  obtain ⟨go42, co42, eo42, gb42, gl42, cl42, HG42⟩ := Kd.S_form HO_5.out (by have h_ : ((ji32) : Int) < ((x5_2.length : Int) : Int) := dcd; have h2_ : 0 ≤ ((ji32) : Int) := (dcd); omega)
                  (first | cases eo42 | (injection eo42 with ea_ en_ ec_; (first | subst ea_ | (injection ea_ with ea_; subst ea_)); subst ec_; clear en_))
                  have GB42 := Aside0.mk gb42
                  have GG42 := Aside0.mk HG42
                  clear gb42 gl42 HG42
                  (first | simp only [add_plain] at hx467_0 | skip)
                  obtain ⟨oki42, ce42, hcl42, hM42, hcc42, _, _, hH42⟩ := Kd.S_elem HO_5.out z31 ((ji32) : Int) (dcd) (by have h_ : ((ji32) : Int) < ((x5_2.length : Int) : Int) := dcd; first | exact h_ | (have e_ := (Kd.S_reads' HO_5.out).1; omega) | simpa using h_)
                  obtain ⟨ve42_0, rfl, ge42_0⟩ := k31_openM hM42
                  have hv42 := hcc42 0 _ rfl
                  have hX42 := HX467_0.out
                  (try simp only [add_plain] at hX42)
                  (try simp only [Nat.add_zero] at hv42)
                  (try rw [show (k31).sz = 1 from rfl, Nat.mul_one] at hv42)
                  replace hv42 := Option.some.inj (hv42.symm.trans hX42)
                  subst hv42
                  clear hX42 hcc42 hcl42
                  have UU42 := Aside0.mk (show Kd.R k35 35 _ w.heap.size oki42 (.slice A467_0 ((rd_T31 x5_2 (ji32)).f0).length c467_0) ((rd_T31 x5_2 (ji32)).f0) from ge42_0)
                  have HH42 := Aside0.mk hH42
                  have HN42 := Aside0.mk (Kd.S_reads' HO_5.out).1
                  clear hH42 ge42_0
                  refine start_ (n := 11) (S := fun w' => w'.cell? ⟨gb458, 0, none⟩ = some (.int .i64 ((rd_T35 l0 x33_2).f0)) ∧ w'.cell? ⟨gb458, 1, none⟩ = some (.int .i64 ((rd_T35 l0 x33_2).f1)) ∧ w'.cell? ⟨gb458, 2, none⟩ = some (.int .i64 ((rd_T35 l0 x33_2).f2.f0)) ∧ w'.cell? ⟨gb458, 3, none⟩ = some (.string ((rd_T35 l0 x33_2).f2.f1)) ∧ w'.cell? ⟨go42, ((ji32)).toNat, none⟩ = some (.slice A467_0 ((rd_T31 x5_2 (ji32)).f0).length c467_0)) (ds := [10]) #[false, false, false, false, false, false, false, false, false, false, false] (by kernel_rfl) rfl rfl ⟨(blk_cell BK458.out 0).trans rfl, (blk_cell BK458.out 1).trans rfl, (blk_cell BK458.out 2).trans rfl, (blk_cell BK458.out 3).trans rfl, hx467_0⟩ (fun hHeld => ?_); refine with_tabW impl_ChunkCut.tab14 impl_ChunkCut.bits14 (fun HT_ HW_ => ?_)
                  generalize w40.drew = w41 at HO_5 BK458 HB GG42 HH42 HL467_0 HR467_0 HX467_0 UU42 hx467_0 hHeld ⊢
                  refine pu_ 0 54 ?_; refine pu_ 1 55 ?_; refine pu_ 2 56 ?_; refine pu_ 3 57 ?_; refine tk_ 4 58 hHeld ?_; refine tk_ 5 59 hHeld ?_
                  refine on_ 6 60 (fun K hK => ?_)
                  refine value_ (w1 := ?_) (v := ?_) (by rfl) rfl ?_ ?_
                  rotate_left 2
                  · go_simp
                    constructor
                    · rfl
                    · rfl
                  refine hK.out _ _ ⟨(blk_cell (blk_alloc BK458.out _) 0).trans rfl, (blk_cell (blk_alloc BK458.out _) 1).trans rfl, (blk_cell (blk_alloc BK458.out _) 2).trans rfl, (blk_cell (blk_alloc BK458.out _) 3).trans rfl, (World.cell?_alloc_lt _ _ _ (World.block_lt_of_cell? _ _ (hHeld.2.2.2.2))).trans (hHeld.2.2.2.2)⟩ (fun hHeld => ?_)
                  clear hK K
                  refine no_ (some 60) ?_
                  refine on_ 7 61 (fun K hK => ?_)
                  refine Kd.R_append_step k35 (w0 := w) w.heap.size (by rfl) (.tmp 58) (.tmp 60) 24 35 (.agg #[(.int .i64 0), (.int .i64 0), (.int .i64 0), (.string ⟨#[]⟩)]) 40 rfl Try.underlying24 info35 rfl (by decide) (by omega) (.slice A467_0 ((rd_T31 x5_2 (ji32)).f0).length c467_0) ((rd_T31 x5_2 (ji32)).f0) (⟨(rd_T35 l0 x33_2).f0, (rd_T35 l0 x33_2).f1, (⟨(rd_T35 l0 x33_2).f2.f0, (rd_T35 l0 x33_2).f2.f1⟩ : S33)⟩ : S35) [.int .i64 ((rd_T35 l0 x33_2).f0), .int .i64 ((rd_T35 l0 x33_2).f1), .int .i64 ((rd_T35 l0 x33_2).f2.f0), .string ((rd_T35 l0 x33_2).f2.f1)] (fun k_ => oki42 k_ ∨ ((fun k_ => k_ ≠ gb458)) k_ ∧ w41.heap.size ≤ k_) (fun _ => False) rfl rfl ?aP (fun _ hk => hk.elim) ?aF ?aO ?aB ?aS ?aL ?_
                  (case aP => exact k35_mkM _ _ _ (⟨(rd_T35 l0 x33_2).f0, (rd_T35 l0 x33_2).f1, (⟨(rd_T35 l0 x33_2).f2.f0, (rd_T35 l0 x33_2).f2.f1⟩ : S33)⟩ : S35))
                  (case aB => exact (below_later HB.out))
                  (case aF => exact (fun k_ hk => .inr ⟨Kd.freshB (blk_later BK458.out) k_ hk, hk⟩))
                  (case aO => exact (by (with_reducible repeat (first | apply Kd.R_alloc | apply Kd.R_drewN | apply Kd.R_drew)); exact Kd.R_mono UU42.out (fun _ hk => .inl hk)))
                  (case aS => exact (below_size (below_later HB.out)))
                  (case aL => have := LMc35.out; omega)
                  intro v469 w43 ho hb hg hat
                  (first | have HS4_ := cell_grown hg (hHeld.2.2.2.2) (by first | (rw [add_block]; exact (fun e_ => ((HL467_0.out.1 _ e_.symm).2) rfl)) | (show some (Addr.add _ _).block ≠ _; rw [add_block]; exact (fun e_ => ((HL467_0.out.1 _ e_.symm).2) rfl)) | exact (fun e_ => ((HL467_0.out.1 _ e_.symm).2) rfl)) | have HS4_ := cell_grown hg (cell_unalloc (hHeld.2.2.2.2) (by first | (rw [add_block]; exact Kd.S_lt HO_5.out _ rfl) | (show (Addr.add _ _).block < _; rw [add_block]; exact Kd.S_lt HO_5.out _ rfl) | exact Kd.S_lt HO_5.out _ rfl)) (by first | (rw [add_block]; exact (fun e_ => ((HL467_0.out.1 _ e_.symm).2) rfl)) | (show some (Addr.add _ _).block ≠ _; rw [add_block]; exact (fun e_ => ((HL467_0.out.1 _ e_.symm).2) rfl)) | exact (fun e_ => ((HL467_0.out.1 _ e_.symm).2) rfl)))
                  rw [← Ny468.out] at ho
                  have n0_ := Aside0.mk (blk_grown (blk_later BK458.out) hg (Kd.R_away HL467_0.out (fun _ hk => hk.1)))
                  have n1_ := Aside0.mk (hb)
                  have n2_ := Aside0.mk (Kd.H_grown (Kd.H_widen (by repeat (first | exact HH42.out | refine Kd.H_alloc ?_ _ | refine Kd.H_drewN ?_ _ | refine Kd.H_drew ?_))) hg (fun k_ e_ => .inl (UU42.out.1 k_ e_)))
                  have n3_ := Aside0.mk (ho)
                  clear BK458
                  clear HB
                  clear HH42
                  clear HO_5
                  clear UU42
                  clear HL467_0
                  have BK458 := n0_
                  have HB := n1_
                  have HH42 := n2_
                  have HO470 := n3_
                  clear n0_ n1_ n2_ n3_
                  clear ho hb hg hat
                  have p36 : 0 ≤ ((ji32) : Int) := dcd
                  have q36 : ((ji32) : Int) < ((x5_2.length : Int) : Int) := dcd
                  replace p36 := eq_true p36
                  replace q36 := eq_true q36
                  obtain ⟨Ao46, co46, eo46⟩ := Kd.R_slice HO470.out
                  (first | subst eo46 | (injection eo46 with f1_ f2_ f3_; have f4_ := f1_.symm; have f5_ := f3_.symm; clear f1_ f2_ f3_; subst f4_; subst f5_))
                  obtain ⟨_, _, hraw44, _, _, hcc44, _⟩ := Kd.H_raw HH42.out (dcd) (by have h_ : ((ji32) : Int) < ((x5_2.length : Int) : Int) := dcd; first | exact h_ | (have e_ := (HN42.out); omega) | simpa using h_)
                  obtain ⟨_, hfr44⟩ := Kd.H_at HH42.out (dcd) (by have h_ : ((ji32) : Int) < ((x5_2.length : Int) : Int) := dcd; first | exact h_ | (have e_ := (HN42.out); omega) | simpa using h_)
                  have hx44_0 := hcc44 0 _ rfl
                  have hf44_0 := hfr44 0
                  (try simp only [Nat.add_zero] at hx44_0 hf44_0)
                  (try rw [show (k31).sz = 1 from rfl, Nat.mul_one] at hx44_0)
                  (try rw [show (k31).sz = 1 from rfl, Nat.mul_one] at hf44_0)
                  have HP44 := Kd.S_seg0 HH42.out (dcd) (by have h_ : ((ji32) : Int) < ((x5_2.length : Int) : Int) := dcd; first | exact h_ | (have e_ := (HN42.out); omega) | simpa using h_) (seg := [.slice Ao46 y468.length co46]) (j := 0) (show 1 ≤ 1 from by decide) (x' := (⟨y468⟩ : S31)) (k31_mkM _ _ _ (⟨y468⟩ : S31) HO470.out) (fun _ hk => hk)
                  (try simp only [show (k31).sz = 1 from rfl, Nat.mul_one, Nat.add_zero] at HP44)
                  clear hcc44 hfr44
                  have HNB458_go42 := Aside0.mk (show gb458 ≠ go42 from by have h_ := Kd.R_ne hraw44 BK458.out (by decide); intro e_; exact h_ (by rw [e_]; rfl))
                  have HS44 := HP44.1
                  rw [← Ny471.out] at HS44
                  have HQ44 := Aside0.mk HS44
                  obtain ⟨_, hgg44⟩ := Kd.R_typed hraw44 go42 rfl
                  have GG44_ := Aside0.mk hgg44
                  clear HP44 HS44 hgg44
                  refine hK.out _ _ ⟨(blk_cell BK458.out 0).trans rfl, (blk_cell BK458.out 1).trans rfl, (blk_cell BK458.out 2).trans rfl, (blk_cell BK458.out 3).trans rfl, HS4_⟩ (fun hHeld => ?_)
                  clear hK K
                  refine no_ (some 61) ?_; refine pu_ 8 62 ?_; refine pu_ 9 63 ?_
                  refine last_ (i := 10) (N := none) #[true, true, true, true, true, true, true, true, true, true, true] rfl rfl (one_of HT_.out (by kernel_rfl)) (by decide) (fun K hK => ?_)
                  refine skip_ (w1 := ?_) (by rfl) rfl ?_ ?_
                  rotate_left
                  · go_simp
                    rfl
                  refine hK.out _ _ ?_
                  clear hK K
                  refine done_ (done_of HT_.out (by kernel_rfl)) ?_
                  try go_wp2
                  go_roundg k2
                  case measure => have := HJ2.out; have := HK2.out; omega
                  case rel => exact ⟨(y471), (wrap64 (x6_2 + 1)), (wrap64 (x33_2 + 1)), sr, sr, H', ⟨by have := HJ2.out; have := HK2.out; omega⟩, ⟨by (with_reducible repeat (first | apply Kd.S_alloc | apply Kd.S_drewN | apply Kd.S_drew)); exact Kd.S_mono HQ44.out (fun _ hk => trivial)⟩, ⟨by repeat (first | (with_reducible first | exact HB.out | apply below_alloc | apply pw_below_drewN | apply below_drew1 | refine below_set ?_ GB42.out | refine below_set ?_ GE458.out) | exact HB.out)⟩⟩
              · rw [if_neg c14] at H
                have c14b0 : (((rd_T35 l0 x33_2).f0) == 0) = false := beq_eq_false_iff_ne.mpr c14
                have c14b1 : (((rd_T35 l0 x33_2).f0) != 0) = true := bne_iff_ne.mpr c14
                obtain ⟨ji47, hji47⟩ : ∃ j_ : Int, (wrap64 ((x5_2.length : Int) - 1)) = j_ := ⟨_, rfl⟩
                replace H : (if 0 ≤ (ji47) then (if (ji47) < (x5_2.length : Int) then (if ((rd_T31 x5_2 (ji47)).f0).length < 3518437208883 then (impl_ChunkCut.l0 k2 a1 (x5_2.set ((ji47) : Int).toNat (⟨(((rd_T31 x5_2 (ji47)).f0) ++ [(⟨(rd_T35 l0 x33_2).f0, (rd_T35 l0 x33_2).f1, (⟨(rd_T35 l0 x33_2).f2.f0, (rd_T35 l0 x33_2).f2.f1⟩ : S33)⟩ : S35)])⟩ : S31)) x6_2 l0 (l0.length : Int) (wrap64 (x33_2 + 1))) else (none)) else (none)) else (none)) = some r := by first | (rw [hji47] at H; exact H) | (simp only [hji47] at H ⊢; exact H)
                have hji47w : (IntKind.i64.wrap ((x5_2.length : Int) - 1)) = ji47 := (i64_w _).trans hji47
                replace H := ifd H
                obtain ⟨c48b0, H⟩ := H
                replace H := ifd H
                obtain ⟨c49b0, H⟩ := H
                replace H := ifs H
                obtain ⟨c50, H⟩ := H
                have LMc50 := Aside0.mk c50
                clear c50
                obtain ⟨y473, hy473⟩ : ∃ y_ : List (S35), y_ = (((rd_T31 x5_2 (ji47)).f0) ++ [(⟨(rd_T35 l0 x33_2).f0, (rd_T35 l0 x33_2).f1, (⟨(rd_T35 l0 x33_2).f2.f0, (rd_T35 l0 x33_2).f2.f1⟩ : S33)⟩ : S35)]) := ⟨_, rfl⟩
                replace H : (impl_ChunkCut.l0 k2 a1 (x5_2.set ((ji47) : Int).toNat (⟨y473⟩ : S31)) x6_2 l0 (l0.length : Int) (wrap64 (x33_2 + 1))) = some r := by first | (rw [hy473]; with_reducible exact H) | (rw [hy473]; exact H) | exact H
                have Ny473 := Aside0.mk hy473
                clear hy473
                obtain ⟨y476, hy476⟩ : ∃ y_ : List (S31), y_ = (x5_2.set ((ji47) : Int).toNat (⟨y473⟩ : S31)) := ⟨_, rfl⟩
                replace H : (impl_ChunkCut.l0 k2 a1 y476 x6_2 l0 (l0.length : Int) (wrap64 (x33_2 + 1))) = some r := by first | (rw [hy476]; with_reducible exact H) | (rw [hy476]; exact H) | exact H
                have Ny476 := Aside0.mk hy476
                clear hy476
                have H' := Aside0.mk H
                clear H
                have p457 : 0 ≤ (x33_2 : Int) := dcd
                have q457 : x33_2 < (l0.length : Int) := dcd
                obtain ⟨ad457, e457, hx457_0, hx457_1, hx457_2, hx457_3⟩ := at_T35 HR0.out x33_2 p457 q457
                cases e457
                replace hx457_0 := crd HB hx457_0
                replace hx457_1 := crd HB hx457_1
                replace hx457_2 := crd HB hx457_2
                replace hx457_3 := crd HB hx457_3
                replace p457 := eq_true p457
                replace q457 := eq_true q457
                try go_wp2_with (first | ((with_reducible refine gate_dst (N := 8) rfl ?_); (try (refine gate_guard (by rfl) ?_; dsimp only)); refine bx_ 8 #[.int .i64 0, .int .i64 0, .int .i64 0, .string (⟨#[]⟩ : ByteArray)] 35 ?_; intro gb458 hg w52 hbox hb; have BK458 := Aside0.mk (hbox); have GW458 := gwe HB hg; have GE458 := GW458; replace HO_5 := Aside0.mk (Kd.S_below (Kd.S_elderB (by (with_reducible repeat (first | apply Kd.S_alloc | apply Kd.S_drewN | apply Kd.S_drew)); exact HO_5.out) gb458 (Nat.le_of_eq hg.symm)) hb); replace HB := bst HB hb; clear hb hbox hg; obtain ⟨hcz53_0, hcz53_1, hcz53_2, hcz53_3, hfz53_0, hfz53_1, hfz53_2, hfz53_3⟩ := cl4 BK458; obtain ⟨Ao54, co54, eo54⟩ := Kd.S_slice HO_5.out; subst eo54))
                have n0_ : Aside0 (Kd.S k31 31 ((((w52.setCell ⟨gb458, 0, none⟩ (.int .i64 ((rd_T35 l0 x33_2).f0))).setCell ⟨gb458, 1, none⟩ (.int .i64 ((rd_T35 l0 x33_2).f1))).setCell ⟨gb458, 2, none⟩ (.int .i64 ((rd_T35 l0 x33_2).f2.f0))).setCell ⟨gb458, 3, none⟩ (.string ((rd_T35 l0 x33_2).f2.f1))) w.heap.size (fun k_ => k_ ≠ gb458) (.slice Ao54 x5_2.length co54) x5_2) := ⟨by (with_reducible repeat (first | apply Kd.S_alloc | apply Kd.S_drewN | apply Kd.S_drew)); exact Kd.S_mono (Kd.S_far (p := ⟨gb458, 3, none⟩) (Kd.S_far (p := ⟨gb458, 2, none⟩) (Kd.S_far (p := ⟨gb458, 1, none⟩) (Kd.S_far (p := ⟨gb458, 0, none⟩) (Kd.S_mono HO_5.out (fun k_ hk => (⟨hk, hk.2⟩ : _ ∧ k_ ≠ gb458))) (fun _ hk => hk.2) (.int .i64 ((rd_T35 l0 x33_2).f0))) (fun _ hk => hk.2) (.int .i64 ((rd_T35 l0 x33_2).f1))) (fun _ hk => hk.2) (.int .i64 ((rd_T35 l0 x33_2).f2.f0))) (fun _ hk => hk.2) (.string ((rd_T35 l0 x33_2).f2.f1))) (fun _ hk => hk.1.2)⟩
                have n1_ : Aside0 (((((w52.setCell ⟨gb458, 0, none⟩ (.int .i64 ((rd_T35 l0 x33_2).f0))).setCell ⟨gb458, 1, none⟩ (.int .i64 ((rd_T35 l0 x33_2).f1))).setCell ⟨gb458, 2, none⟩ (.int .i64 ((rd_T35 l0 x33_2).f2.f0))).setCell ⟨gb458, 3, none⟩ (.string ((rd_T35 l0 x33_2).f2.f1))).heap[gb458]? = some (.cells #[.int .i64 ((rd_T35 l0 x33_2).f0), .int .i64 ((rd_T35 l0 x33_2).f1), .int .i64 ((rd_T35 l0 x33_2).f2.f0), .string ((rd_T35 l0 x33_2).f2.f1)] 35 (0, 0))) := ⟨blk_later BK458.out⟩
                have n2_ : Aside0 (Below w.heap.size w ((((w52.setCell ⟨gb458, 0, none⟩ (.int .i64 ((rd_T35 l0 x33_2).f0))).setCell ⟨gb458, 1, none⟩ (.int .i64 ((rd_T35 l0 x33_2).f1))).setCell ⟨gb458, 2, none⟩ (.int .i64 ((rd_T35 l0 x33_2).f2.f0))).setCell ⟨gb458, 3, none⟩ (.string ((rd_T35 l0 x33_2).f2.f1)))) := ⟨below_later HB.out⟩
                (try clear HO_5)
                (try clear BK458)
                (try clear HB)
                generalize ((((w52.setCell ⟨gb458, 0, none⟩ (.int .i64 ((rd_T35 l0 x33_2).f0))).setCell ⟨gb458, 1, none⟩ (.int .i64 ((rd_T35 l0 x33_2).f1))).setCell ⟨gb458, 2, none⟩ (.int .i64 ((rd_T35 l0 x33_2).f2.f0))).setCell ⟨gb458, 3, none⟩ (.string ((rd_T35 l0 x33_2).f2.f1))) = w55 at n0_ n1_ n2_ ⊢
                have HO_5 := n0_
                have BK458 := n1_
                have HB := n2_
                clear n0_ n1_ n2_
                have pz_ : 0 ≤ ((ji47) : Int) := dcd
                have qz_ : (ji47) < (x5_2.length : Int) := dcd
                obtain ⟨go57, co57, eo57, gb57, gl57, cl57, HG57⟩ := Kd.S_form HO_5.out (by have h_ : ((ji47) : Int) < ((x5_2.length : Int) : Int) := dcd; have h2_ : 0 ≤ ((ji47) : Int) := (dcd); omega)
                (first | cases eo57 | (injection eo57 with ea_ en_ ec_; (first | subst ea_ | (injection ea_ with ea_; subst ea_)); subst ec_; clear en_))
                clear gb57 gl57 HG57
                replace pz_ := eq_true pz_
                replace qz_ := eq_true qz_
                go_simp
                try go_wp2
                clear pz_ qz_
                have n0_ := Aside0.mk (Kd.S_drew HO_5.out)
                have n1_ := Aside0.mk (blk_drew BK458.out)
                have n2_ := Aside0.mk (below_drew1 HB.out)
                clear HO_5
                clear BK458
                clear HB
                have HO_5 := n0_
                have BK458 := n1_
                have HB := n2_
                clear n0_ n1_ n2_
                have p472 : 0 ≤ ((ji47) : Int) := dcd
                have q472 : (ji47) < (x5_2.length : Int) := dcd
                obtain ⟨ad472, A472_0, c472_0, e472, hx472_0, hl472_0, hi472_0⟩ := at_T31 (Kd.S_reads' HO_5.out).2.2 (ji47) p472 q472
                cases e472
                obtain ⟨ce472, hce472, hMe472, hcc472⟩ := Kd.S_get HO_5.out z31 (ji47) p472 (by first | exact q472 | exact dcd | (have e_ := (Kd.S_reads' HO_5.out).1; omega))
                obtain ⟨ve472_0, rfl, ge472_0⟩ := k31_openM hMe472
                have hv472_0 := hcc472 0 _ rfl
                rw [Nat.add_zero, show (k31).sz = 1 from rfl, Nat.mul_one] at hv472_0
                replace hv472_0 := Option.some.inj (hv472_0.symm.trans hx472_0)
                rw [hv472_0] at ge472_0
                have HL472_0 := Aside0.mk (show Kd.R k35 35 _ _ _ _ ((rd_T31 x5_2 (ji47)).f0) from ge472_0)
                clear hv472_0 ge472_0
                have HX472_0 := Aside0.mk hx472_0
                clear hcc472 hce472
                have HR472_0 := Aside0.mk hi472_0
                have HC472_0 := Aside0.mk hl472_0
                clear hi472_0 hl472_0
                replace p472 := eq_true p472
                replace q472 := eq_true q472
                obtain ⟨go57, co57, eo57, gb57, gl57, cl57, HG57⟩ := Kd.S_form HO_5.out (by have h_ : ((ji47) : Int) < ((x5_2.length : Int) : Int) := dcd; have h2_ : 0 ≤ ((ji47) : Int) := (dcd); omega)
                (first | cases eo57 | (injection eo57 with ea_ en_ ec_; (first | subst ea_ | (injection ea_ with ea_; subst ea_)); subst ec_; clear en_))
                have GB57 := Aside0.mk gb57
                have GG57 := Aside0.mk HG57
                clear gb57 gl57 HG57
                (first | simp only [add_plain] at hx472_0 | skip)
                obtain ⟨oki57, ce57, hcl57, hM57, hcc57, _, _, hH57⟩ := Kd.S_elem HO_5.out z31 ((ji47) : Int) (dcd) (by have h_ : ((ji47) : Int) < ((x5_2.length : Int) : Int) := dcd; first | exact h_ | (have e_ := (Kd.S_reads' HO_5.out).1; omega) | simpa using h_)
                obtain ⟨ve57_0, rfl, ge57_0⟩ := k31_openM hM57
                have hv57 := hcc57 0 _ rfl
                have hX57 := HX472_0.out
                (try simp only [add_plain] at hX57)
                (try simp only [Nat.add_zero] at hv57)
                (try rw [show (k31).sz = 1 from rfl, Nat.mul_one] at hv57)
                replace hv57 := Option.some.inj (hv57.symm.trans hX57)
                subst hv57
                clear hX57 hcc57 hcl57
                have UU57 := Aside0.mk (show Kd.R k35 35 _ w.heap.size oki57 (.slice A472_0 ((rd_T31 x5_2 (ji47)).f0).length c472_0) ((rd_T31 x5_2 (ji47)).f0) from ge57_0)
                have HH57 := Aside0.mk hH57
                have HN57 := Aside0.mk (Kd.S_reads' HO_5.out).1
                clear hH57 ge57_0
                refine start_ (n := 11) (S := fun w' => w'.cell? ⟨gb458, 0, none⟩ = some (.int .i64 ((rd_T35 l0 x33_2).f0)) ∧ w'.cell? ⟨gb458, 1, none⟩ = some (.int .i64 ((rd_T35 l0 x33_2).f1)) ∧ w'.cell? ⟨gb458, 2, none⟩ = some (.int .i64 ((rd_T35 l0 x33_2).f2.f0)) ∧ w'.cell? ⟨gb458, 3, none⟩ = some (.string ((rd_T35 l0 x33_2).f2.f1)) ∧ w'.cell? ⟨go57, ((ji47)).toNat, none⟩ = some (.slice A472_0 ((rd_T31 x5_2 (ji47)).f0).length c472_0)) (ds := [10]) #[false, false, false, false, false, false, false, false, false, false, false] (by kernel_rfl) rfl rfl ⟨(blk_cell BK458.out 0).trans rfl, (blk_cell BK458.out 1).trans rfl, (blk_cell BK458.out 2).trans rfl, (blk_cell BK458.out 3).trans rfl, hx472_0⟩ (fun hHeld => ?_); refine with_tabW impl_ChunkCut.tab14 impl_ChunkCut.bits14 (fun HT_ HW_ => ?_)
                generalize w55.drew = w56 at HO_5 BK458 HB GG57 HH57 HL472_0 HR472_0 HX472_0 UU57 hx472_0 hHeld ⊢
                refine pu_ 0 54 ?_; refine pu_ 1 55 ?_; refine pu_ 2 56 ?_; refine pu_ 3 57 ?_; refine tk_ 4 58 hHeld ?_; refine tk_ 5 59 hHeld ?_
                refine on_ 6 60 (fun K hK => ?_)
                refine value_ (w1 := ?_) (v := ?_) (by rfl) rfl ?_ ?_
                rotate_left 2
                · go_simp
                  constructor
                  · rfl
                  · rfl
                refine hK.out _ _ ⟨(blk_cell (blk_alloc BK458.out _) 0).trans rfl, (blk_cell (blk_alloc BK458.out _) 1).trans rfl, (blk_cell (blk_alloc BK458.out _) 2).trans rfl, (blk_cell (blk_alloc BK458.out _) 3).trans rfl, (World.cell?_alloc_lt _ _ _ (World.block_lt_of_cell? _ _ (hHeld.2.2.2.2))).trans (hHeld.2.2.2.2)⟩ (fun hHeld => ?_)
                clear hK K
                refine no_ (some 60) ?_
                refine on_ 7 61 (fun K hK => ?_)
                refine Kd.R_append_step k35 (w0 := w) w.heap.size (by rfl) (.tmp 58) (.tmp 60) 24 35 (.agg #[(.int .i64 0), (.int .i64 0), (.int .i64 0), (.string ⟨#[]⟩)]) 40 rfl Try.underlying24 info35 rfl (by decide) (by omega) (.slice A472_0 ((rd_T31 x5_2 (ji47)).f0).length c472_0) ((rd_T31 x5_2 (ji47)).f0) (⟨(rd_T35 l0 x33_2).f0, (rd_T35 l0 x33_2).f1, (⟨(rd_T35 l0 x33_2).f2.f0, (rd_T35 l0 x33_2).f2.f1⟩ : S33)⟩ : S35) [.int .i64 ((rd_T35 l0 x33_2).f0), .int .i64 ((rd_T35 l0 x33_2).f1), .int .i64 ((rd_T35 l0 x33_2).f2.f0), .string ((rd_T35 l0 x33_2).f2.f1)] (fun k_ => oki57 k_ ∨ ((fun k_ => k_ ≠ gb458)) k_ ∧ w56.heap.size ≤ k_) (fun _ => False) rfl rfl ?aP (fun _ hk => hk.elim) ?aF ?aO ?aB ?aS ?aL ?_
                (case aP => exact k35_mkM _ _ _ (⟨(rd_T35 l0 x33_2).f0, (rd_T35 l0 x33_2).f1, (⟨(rd_T35 l0 x33_2).f2.f0, (rd_T35 l0 x33_2).f2.f1⟩ : S33)⟩ : S35))
                (case aB => exact (below_later HB.out))
                (case aF => exact (fun k_ hk => .inr ⟨Kd.freshB (blk_later BK458.out) k_ hk, hk⟩))
                (case aO => exact (by (with_reducible repeat (first | apply Kd.R_alloc | apply Kd.R_drewN | apply Kd.R_drew)); exact Kd.R_mono UU57.out (fun _ hk => .inl hk)))
                (case aS => exact (below_size (below_later HB.out)))
                (case aL => have := LMc50.out; omega)
                intro v474 w58 ho hb hg hat
                (first | have HS4_ := cell_grown hg (hHeld.2.2.2.2) (by first | (rw [add_block]; exact (fun e_ => ((HL472_0.out.1 _ e_.symm).2) rfl)) | (show some (Addr.add _ _).block ≠ _; rw [add_block]; exact (fun e_ => ((HL472_0.out.1 _ e_.symm).2) rfl)) | exact (fun e_ => ((HL472_0.out.1 _ e_.symm).2) rfl)) | have HS4_ := cell_grown hg (cell_unalloc (hHeld.2.2.2.2) (by first | (rw [add_block]; exact Kd.S_lt HO_5.out _ rfl) | (show (Addr.add _ _).block < _; rw [add_block]; exact Kd.S_lt HO_5.out _ rfl) | exact Kd.S_lt HO_5.out _ rfl)) (by first | (rw [add_block]; exact (fun e_ => ((HL472_0.out.1 _ e_.symm).2) rfl)) | (show some (Addr.add _ _).block ≠ _; rw [add_block]; exact (fun e_ => ((HL472_0.out.1 _ e_.symm).2) rfl)) | exact (fun e_ => ((HL472_0.out.1 _ e_.symm).2) rfl)))
                rw [← Ny473.out] at ho
                have n0_ := Aside0.mk (blk_grown (blk_later BK458.out) hg (Kd.R_away HL472_0.out (fun _ hk => hk.1)))
                have n1_ := Aside0.mk (hb)
                have n2_ := Aside0.mk (Kd.H_grown (Kd.H_widen (by repeat (first | exact HH57.out | refine Kd.H_alloc ?_ _ | refine Kd.H_drewN ?_ _ | refine Kd.H_drew ?_))) hg (fun k_ e_ => .inl (UU57.out.1 k_ e_)))
                have n3_ := Aside0.mk (ho)
                clear BK458
                clear HB
                clear HH57
                clear HO_5
                clear UU57
                clear HL472_0
                have BK458 := n0_
                have HB := n1_
                have HH57 := n2_
                have HO475 := n3_
                clear n0_ n1_ n2_ n3_
                clear ho hb hg hat
                have p51 : 0 ≤ ((ji47) : Int) := dcd
                have q51 : ((ji47) : Int) < ((x5_2.length : Int) : Int) := dcd
                replace p51 := eq_true p51
                replace q51 := eq_true q51
                obtain ⟨Ao61, co61, eo61⟩ := Kd.R_slice HO475.out
                (first | subst eo61 | (injection eo61 with f1_ f2_ f3_; have f4_ := f1_.symm; have f5_ := f3_.symm; clear f1_ f2_ f3_; subst f4_; subst f5_))
                obtain ⟨_, _, hraw59, _, _, hcc59, _⟩ := Kd.H_raw HH57.out (dcd) (by have h_ : ((ji47) : Int) < ((x5_2.length : Int) : Int) := dcd; first | exact h_ | (have e_ := (HN57.out); omega) | simpa using h_)
                obtain ⟨_, hfr59⟩ := Kd.H_at HH57.out (dcd) (by have h_ : ((ji47) : Int) < ((x5_2.length : Int) : Int) := dcd; first | exact h_ | (have e_ := (HN57.out); omega) | simpa using h_)
                have hx59_0 := hcc59 0 _ rfl
                have hf59_0 := hfr59 0
                (try simp only [Nat.add_zero] at hx59_0 hf59_0)
                (try rw [show (k31).sz = 1 from rfl, Nat.mul_one] at hx59_0)
                (try rw [show (k31).sz = 1 from rfl, Nat.mul_one] at hf59_0)
                have HP59 := Kd.S_seg0 HH57.out (dcd) (by have h_ : ((ji47) : Int) < ((x5_2.length : Int) : Int) := dcd; first | exact h_ | (have e_ := (HN57.out); omega) | simpa using h_) (seg := [.slice Ao61 y473.length co61]) (j := 0) (show 1 ≤ 1 from by decide) (x' := (⟨y473⟩ : S31)) (k31_mkM _ _ _ (⟨y473⟩ : S31) HO475.out) (fun _ hk => hk)
                (try simp only [show (k31).sz = 1 from rfl, Nat.mul_one, Nat.add_zero] at HP59)
                clear hcc59 hfr59
                have HNB458_go57 := Aside0.mk (show gb458 ≠ go57 from by have h_ := Kd.R_ne hraw59 BK458.out (by decide); intro e_; exact h_ (by rw [e_]; rfl))
                have HS59 := HP59.1
                rw [← Ny476.out] at HS59
                have HQ59 := Aside0.mk HS59
                obtain ⟨_, hgg59⟩ := Kd.R_typed hraw59 go57 rfl
                have GG59_ := Aside0.mk hgg59
                clear HP59 HS59 hgg59
                refine hK.out _ _ ⟨(blk_cell BK458.out 0).trans rfl, (blk_cell BK458.out 1).trans rfl, (blk_cell BK458.out 2).trans rfl, (blk_cell BK458.out 3).trans rfl, HS4_⟩ (fun hHeld => ?_)
                clear hK K
                refine no_ (some 61) ?_; refine pu_ 8 62 ?_; refine pu_ 9 63 ?_
                refine last_ (i := 10) (N := none) #[true, true, true, true, true, true, true, true, true, true, true] rfl rfl (one_of HT_.out (by kernel_rfl)) (by decide) (fun K hK => ?_)
                refine skip_ (w1 := ?_) (by rfl) rfl ?_ ?_
                rotate_left
                · go_simp
                  rfl
                refine hK.out _ _ ?_
                clear hK K
                refine done_ (done_of HT_.out (by kernel_rfl)) ?_
                try go_wp2
                go_roundg k2
                case measure => have := HJ2.out; have := HK2.out; omega
                case rel => exact ⟨(y476), (x6_2), (wrap64 (x33_2 + 1)), sr, sr, H', ⟨by have := HJ2.out; have := HK2.out; omega⟩, ⟨by (with_reducible repeat (first | apply Kd.S_alloc | apply Kd.S_drewN | apply Kd.S_drew)); exact Kd.S_mono HQ59.out (fun _ hk => trivial)⟩, ⟨by repeat (first | (with_reducible first | exact HB.out | apply below_alloc | apply pw_below_drewN | apply below_drew1 | refine below_set ?_ GB57.out | refine below_set ?_ GE458.out) | exact HB.out)⟩⟩
            · rw [if_neg c11] at H
              have c11b0 := decide_eq_false c11
              clear c11
              obtain rfl := Option.some.inj H
              go_wp2
              go_ret
              exact ⟨_, by first | rfl | (simp [errW_none, errW_some] <;> rfl) | (simp [*, errW_none, errW_some] <;> rfl), by (with_reducible repeat (first | apply Kd.S_alloc | apply Kd.S_drewN | apply Kd.S_drew)); exact HO_5.out, below_later HB.out⟩

end Go.Proofs.Ytbiobenhhnbbaaa.PFnCut
