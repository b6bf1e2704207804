/- The machine's side of FnExactEncPack, written by wip/tools/hyb.py of this repo: each Go function as a plain Lean function, and the proof that the call comes to just its answer. No condition. -/
import Derived.Test.YtkocikdceojnmaaPFnExactEncPackx0
import Derived.Test.YtkocikdceojnmaaPFnExactEncPackx9
import Derived.Test.YtkocikdceojnmaaPFnExactEncPackx10
import Derived.Test.YtkocikdceojnmaaPFnExactEncPackx12
namespace Go.Proofs.Ytkocikdceojnmaa.PFnExactEncPack
open Go.RowKit Go.Proofs.YtkocikdceojnmaaW.PrintWords Go.Proofs.YtkocikdceojnmaaW.PrintLast Go.Proofs.YtkocikdceojnmaaW.PrintMore Go.Proofs.YtkocikdceojnmaaW.PrintMore2
attribute [local go_sem] max2_int min2_int max_two min_two max_three min_three max_four min_four   -- for this text's walks alone
set_option linter.unusedVariables false
set_option linter.unusedSimpArgs false

/-! ### impl_FrontPack: function 32 -/
def impl_FrontPack.l0 : Nat → List Int → List (S46) → ByteArray → List (S46) → Int → Int → Option (List Int × Bool)
  | 0, _, _, _, _, _, _ => none
  | k + 1, x4, x5, x6, x19, x20, x21 => if x21 < x20 then (if 0 ≤ x21 then (if x21 < (x19.length : Int) then ((impl_Common.f k x6 ((rd_T46 x19 x21).f1)).bind fun t719 => (if x4.length < 17592186044416 then (if 0 ≤ t719 then (if t719 ≤ (((rd_T46 x19 x21).f1).size : Int) then (if x5.length < 5864062014805 then (impl_FrontPack.l0 k (x4 ++ [t719]) (x5 ++ [(⟨0, ((rd_T46 x19 x21).f1).extract (t719 : Int).toNat ((rd_T46 x19 x21).f1).size⟩ : S46)]) ((rd_T46 x19 x21).f1) x19 x20 (wrap64 (x21 + 1))) else (none)) else (none)) else (none)) else (none))) else (none)) else (none)) else ((impl_DeltaPack.f k x4).bind fun bt726 => ((impl_LengthPack.f k x5).bind fun bt730 => (if bt726.2 = true then (if bt730.2 = true then (if bt726.1.length + bt730.1.length < 140737488355328 then (some ((bt726.1 ++ bt730.1), true)) else (none)) else (some (([] : List Int), false))) else (some (([] : List Int), false)))))
def impl_FrontPack.f (k : Nat) (l0 : List (S46)) : Option (List Int × Bool) := (impl_valsOk.f k 6 l0).bind fun t710 => (if t710 = true then (impl_FrontPack.l0 k (([] : List Int)) (([] : List (S46))) (⟨#[]⟩ : ByteArray) l0 (l0.length : Int) 0) else (some (([] : List Int), false)))
set_option maxHeartbeats 8000000 in
set_option maxRecDepth 100000 in
theorem impl_FrontPack.calls (k : Nat) (A0 : Option Addr) (c0 : Nat) (l0 : List (S46)) (r1 : List Int) (r2 : Bool) (w : World) (hr0 : Kd.C k46 w A0 l0.length l0) (hc0 : l0.length ≤ c0) (h : impl_FrontPack.f k l0 = some (r1, r2)) :
    Calls Try.prog 32 #[.slice A0 l0.length c0] w fun e w' => ∃ v0_ : Value, e = .returned (.tuple #[v0_, .bool r2]) ∧ Kd.R (Kd.int .u8) 5 w' w.heap.size (fun _ => True) v0_ r1 ∧ Below w.heap.size w w' := by
  have hu46 := Try.underlying46
  have HR0 := Aside0.mk hr0
  have HC0 := Aside0.mk hc0
  clear hr0 hc0
  have HB := Aside0.mk (Below.refl w.heap.size w)
  have H : ((impl_valsOk.f k 6 l0).bind fun t710 => (if t710 = true then (impl_FrontPack.l0 k (([] : List Int)) (([] : List (S46))) (⟨#[]⟩ : ByteArray) l0 (l0.length : Int) 0) else (some (([] : List Int), false)))) = some (r1, r2) := h
  clear h
  replace H := bnd H
  obtain ⟨t710, A2, H⟩ := H
  by_cases c3 : t710 = true
  · subst c3
    replace H := ifp rfl H
    obtain ⟨y711, hy711⟩ : ∃ y_ : List Int, y_ = (([] : List Int)) := ⟨_, rfl⟩
    replace H : (impl_FrontPack.l0 k y711 (([] : List (S46))) (⟨#[]⟩ : ByteArray) l0 (l0.length : Int) 0) = some (r1, r2) := by first | (rw [hy711]; with_reducible exact H) | (rw [hy711]; exact H) | exact H
    have Ny711 := Aside0.mk hy711
    clear hy711
    obtain ⟨y714, hy714⟩ : ∃ y_ : List (S46), y_ = (([] : List (S46))) := ⟨_, rfl⟩
    replace H : (impl_FrontPack.l0 k y711 y714 (⟨#[]⟩ : ByteArray) l0 (l0.length : Int) 0) = some (r1, r2) := by first | (rw [hy714]; with_reducible exact H) | (rw [hy714]; exact H) | exact H
    have Ny714 := Aside0.mk hy714
    clear hy714
    have H' := Aside0.mk H
    clear H
    go_enter Try.func32, Try.ntmps32
    go_wp2_with (first | ((with_reducible refine gate_callee (f := 27) rfl ?_); refine gl_ (some 15) Try.func27 #[.int .i64 6, .slice A0 l0.length c0] rfl ?_; (with_reducible refine (impl_valsOk.calls k 6 _ _ l0 true _ ?side1 ?side2 A2.out).mono ?_); (case side1 => exact C_later HR0.out); (case side2 => exact HC0.out); rintro e w4 ⟨rfl, hb⟩; refine ⟨_, rfl, ?_⟩; replace HB := bst HB hb; (try clear hb); (try clear hk)) | ((with_reducible refine gate_dst (N := 17) rfl ?_); refine Kd.R_lit (Kd.int .i64) _ 3 ?hg (N := 17) ?hd (xs := ([] : List Int)) (inner := []) (ok := fun _ => True) (okp := fun _ => True) ?hr ?hp (fun _ hk => hk) trivial (Below.refl _ _) (Nat.le_refl _) (by simp) ?_; (case hd => rfl); (case hg => rfl); (case hr => first | (go_simp; done) | (go_simp; rfl)); (case hp => exact (Reps.none _ _)); intro v712 w5 ho6 hb hg_ hnew_; clear hg_ hnew_; (first | rw [← Ny711.out] at ho6 | (simp only [Int.reduceToNat] at ho6; rw [← Ny711.out] at ho6)); have HO713 := Aside0.mk (Kd.R_lower ho6 (below_size (below_later HB.out))); replace HB := bst HB hb; clear hb ho6) | ((with_reducible refine gate_dst (N := 18) rfl ?_); refine Kd.R_lit k46 _ 46 ?hg (N := 18) ?hd (xs := ([] : List (S46))) (inner := []) (ok := fun _ => True) (okp := fun _ => True) ?hr ?hp (fun _ hk => hk) trivial (Below.refl _ _) (Nat.le_refl _) (by simp) ?_; (case hd => rfl); (case hg => rfl); (case hr => first | (go_simp; done) | (go_simp; rfl)); (case hp => exact (Reps.none _ _)); intro v715 w7 ho8 hb hg_ hnew_; clear hg_ hnew_; (first | rw [← Ny714.out] at ho8 | (simp only [Int.reduceToNat] at ho8; rw [← Ny714.out] at ho8)); have HO716 := Aside0.mk (Kd.R_lower ho8 (below_size (below_later HB.out))); replace HO713 := Aside0.mk (Kd.R_below (R_later HO713.out) hb); replace HB := bst HB hb; clear hb ho8))
    go_loopg [4, 5, 6, 21] k (fun kq v4 v5 v6 v21 w' => ∃ (x4_1 : List Int) (x5_1 : List (S46)) (x6_1 : ByteArray) (x21_1 : Int), v6 = .string x6_1 ∧ v21 = .int .i64 x21_1 ∧ Aside0 (impl_FrontPack.l0 kq x4_1 x5_1 x6_1 l0 (l0.length : Int) x21_1 = some (r1, r2)) ∧ Aside0 (kq ≤ k) ∧ Aside0 (Kd.R (Kd.int .i64) 3 w' w.heap.size (fun _ => True) v4 x4_1) ∧ Aside0 (Kd.R k46 46 w' w.heap.size (fun _ => True) v5 x5_1) ∧ Aside0 (Below w.heap.size w w'))
    case atStart => exact ⟨(y711), (y714), ((⟨#[]⟩ : ByteArray)), (0), sr, sr, H', ⟨Nat.le_refl _⟩, ⟨R_later HO713.out⟩, ⟨R_later HO716.out⟩, ⟨below_later HB.out⟩⟩
    case round =>
      clear H'
      try clear c3
      obtain ⟨x4_1, x5_1, x6_1, x21_1, rfl, rfl, HA, HK1, HO_4, HO_5, HB⟩ := hrel
      cases gk with
      | zero => exact absurd HA.out (by simp [impl_FrontPack.l0])
      | succ k1 =>
        have H := HA.out
        clear HA
        simp only [impl_FrontPack.l0] at H
        by_cases c9 : x21_1 < (l0.length : Int)
        · rw [if_pos c9] at H
          have c9b0 := decide_eq_true c9
          clear c9
          replace H := ifd H
          obtain ⟨c10b0, H⟩ := H
          replace H := ifd H
          obtain ⟨c11b0, H⟩ := H
          replace H := bnd H
          obtain ⟨t719, A12, H⟩ := H
          replace H := ifs H
          obtain ⟨c13, H⟩ := H
          have LMc13 := Aside0.mk c13
          clear c13
          obtain ⟨y720, hy720⟩ : ∃ y_ : List Int, y_ = (x4_1 ++ [t719]) := ⟨_, rfl⟩
          replace H : (if 0 ≤ t719 then (if t719 ≤ (((rd_T46 l0 x21_1).f1).size : Int) then (if x5_1.length < 5864062014805 then (impl_FrontPack.l0 k1 y720 (x5_1 ++ [(⟨0, ((rd_T46 l0 x21_1).f1).extract (t719 : Int).toNat ((rd_T46 l0 x21_1).f1).size⟩ : S46)]) ((rd_T46 l0 x21_1).f1) l0 (l0.length : Int) (wrap64 (x21_1 + 1))) else (none)) else (none)) else (none)) = some (r1, r2) := by first | (rw [hy720]; with_reducible exact H) | (rw [hy720]; exact H) | exact H
          have Ny720 := Aside0.mk hy720
          clear hy720
          replace H := ifs H
          obtain ⟨c14, H⟩ := H
          have c14b0 := eq_true c14
          have c14b1 := decide_eq_true c14
          clear c14
          replace H := ifs H
          obtain ⟨c15, H⟩ := H
          have c15b0 := eq_true c15
          have c15b1 := decide_eq_true c15
          clear c15
          replace H := ifs H
          obtain ⟨c16, H⟩ := H
          have LMc16 := Aside0.mk c16
          clear c16
          obtain ⟨y723, hy723⟩ : ∃ y_ : List (S46), y_ = (x5_1 ++ [(⟨0, ((rd_T46 l0 x21_1).f1).extract (t719 : Int).toNat ((rd_T46 l0 x21_1).f1).size⟩ : S46)]) := ⟨_, rfl⟩
          replace H : (impl_FrontPack.l0 k1 y720 y723 ((rd_T46 l0 x21_1).f1) l0 (l0.length : Int) (wrap64 (x21_1 + 1))) = some (r1, r2) := by first | (rw [hy723]; with_reducible exact H) | (rw [hy723]; exact H) | exact H
          have Ny723 := Aside0.mk hy723
          clear hy723
          have H' := Aside0.mk H
          clear H
          have p717 : 0 ≤ (x21_1 : Int) := dcd
          have q717 : x21_1 < (l0.length : Int) := dcd
          obtain ⟨ad717, e717, hx717_0, hx717_1⟩ := at_T46 HR0.out x21_1 p717 q717
          cases e717
          replace hx717_0 := crd HB hx717_0
          replace hx717_1 := crd HB hx717_1
          replace p717 := eq_true p717
          replace q717 := eq_true q717
          go_wp2_with (first | ((with_reducible refine gate_dst (N := 8) rfl ?_); refine bx_ 8 #[.int .i64 0, .string (⟨#[]⟩ : ByteArray)] 46 ?_; intro gb718 hg w17 hbox hb; have BK718 := Aside0.mk (hbox); have GW718 := gwe HB hg; have GE718 := GW718; replace HO_4 := Aside0.mk (Kd.R_below (R_later HO_4.out) hb); replace HO_5 := Aside0.mk (Kd.R_below (Kd.R_elderB (R_later HO_5.out) gb718 (Nat.le_of_eq hg.symm)) hb); replace HB := bst HB hb; clear hb hbox hg; obtain ⟨hcz18_0, hcz18_1, hfz18_0, hfz18_1⟩ := cl2 BK718) | ((with_reducible refine gate_callee (f := 66) rfl ?_); refine gl_ (some 28) Try.func66 #[.string x6_1, .string ((rd_T46 l0 x21_1).f1)] rfl ?_; (with_reducible refine (impl_Common.calls k1 x6_1 ((rd_T46 l0 x21_1).f1) t719 _ A12.out).mono ?_); rintro e w' ⟨rfl, ⟨nd, rfl⟩⟩; refine ⟨_, rfl, ?_⟩) | ((with_reducible refine gate_builtin (b := .append) (xs := #[.tmp 29, .tmp 31]) rfl ?_); at_builtin; refine Kd.R_append (Kd.int .i64) (w0 := w) w.heap.size rfl (.tmp 29) (.tmp 31) 41 3 (.int .i64 0) 8 rfl Try.underlying41 info3 rfl (by decide) (by omega) u4 x4_1 t719 [.int .i64 t719] (fun _ => True) (fun _ => False) rfl (by first | (go_simp; done) | (go_simp; rfl)) ?aP (fun _ hk => hk.elim) ?aF ?aO ?aB ?aS ?aL ?_; (case aP => exact rfl); (case aB => exact (below_later HB.out)); (case aF => exact (fun _ _ => trivial)); (case aO => exact (by (with_reducible repeat (first | apply Kd.R_alloc | apply Kd.R_drewN | apply Kd.R_drew)); exact Kd.R_mono (Kd.R_far (p := ⟨gb718, 1, none⟩) (Kd.R_far (p := ⟨gb718, 0, none⟩) (Kd.R_types HO_4.out BK718.out (by decide)) (fun _ hk => hk.2) (.int .i64 ((rd_T46 l0 x21_1).f0))) (fun _ hk => hk.2) (.string ((rd_T46 l0 x21_1).f1))) (fun _ hk => trivial))); (case aS => exact (below_size (below_later HB.out))); (case aL => have := LMc13.out; omega); intro v721 w19 ho hb hg hat; rw [← Ny720.out] at ho; have n0_ := Aside0.mk (Kd.R_over' (by (with_reducible repeat (first | apply Kd.R_alloc | apply Kd.R_drewN | apply Kd.R_drew)); exact (Kd.R_mono (Kd.R_far (p := ⟨gb718, 1, none⟩) (Kd.R_far (p := ⟨gb718, 0, none⟩) (Kd.R_mono HO_5.out (fun k_ hk => (⟨hk, hk.2⟩ : _ ∧ k_ ≠ gb718))) (fun _ hk => hk.2) (.int .i64 ((rd_T46 l0 x21_1).f0))) (fun _ hk => hk.2) (.string ((rd_T46 l0 x21_1).f1))) (fun _ h_ => h_.1))) (Kd.R_typed (by (with_reducible repeat (first | apply Kd.R_alloc | apply Kd.R_drewN | apply Kd.R_drew)); exact (Kd.R_mono (Kd.R_far (p := ⟨gb718, 1, none⟩) (Kd.R_far (p := ⟨gb718, 0, none⟩) (Kd.R_types HO_4.out BK718.out (by decide)) (fun _ hk => hk.2) (.int .i64 ((rd_T46 l0 x21_1).f0))) (fun _ hk => hk.2) (.string ((rd_T46 l0 x21_1).f1))) (fun _ h_ => h_.1)))) (by decide) hg); have n1_ := Aside0.mk (blk_grown (g := gb718) (o := .cells #[.int .i64 ((rd_T46 l0 x21_1).f0), .string ((rd_T46 l0 x21_1).f1)] 46 (0, 0)) (blk_later BK718.out) hg (Kd.R_ne HO_4.out BK718.out (by decide))); have n2_ := Aside0.mk (hb); have n3_ := Aside0.mk (ho); clear HO_5; clear BK718; clear HB; clear HO_4; have HO_5 := n0_; have BK718 := n1_; have HB := n2_; have HO722 := n3_; clear n0_ n1_ n2_ n3_; clear ho hb hg hat; obtain ⟨hcz20_0, hcz20_1, hfz20_0, hfz20_1⟩ := cl2 BK718) | ((with_reducible refine gate_builtin (b := .append) (xs := #[.tmp 33, .tmp 39]) rfl ?_); at_builtin; refine Kd.R_append k46 (w0 := w) w.heap.size rfl (.tmp 33) (.tmp 39) 27 46 (.agg #[(.int .i64 0), (.string ⟨#[]⟩)]) 24 rfl Try.underlying27 info46 rfl (by decide) (by omega) u5 x5_1 (⟨0, ((rd_T46 l0 x21_1).f1).extract (t719 : Int).toNat ((rd_T46 l0 x21_1).f1).size⟩ : S46) [.int .i64 0, .string (((rd_T46 l0 x21_1).f1).extract (t719 : Int).toNat ((rd_T46 l0 x21_1).f1).size)] (fun k_ => k_ ≠ gb718) (fun _ => False) rfl rfl ?aP (fun _ hk => hk.elim) ?aF ?aO ?aB ?aS ?aL ?_; (case aP => exact k46_mkM _ _ _ (⟨0, ((rd_T46 l0 x21_1).f1).extract (t719 : Int).toNat ((rd_T46 l0 x21_1).f1).size⟩ : S46)); (case aB => exact (below_later HB.out)); (case aF => exact (fun k_ hk => Kd.freshB (blk_later BK718.out) k_ hk)); (case aO => exact (by (with_reducible repeat (first | apply Kd.R_alloc | apply Kd.R_drewN | apply Kd.R_drew)); exact Kd.R_mono HO_5.out (fun _ hk => hk.2))); (case aS => exact (below_size (below_later HB.out))); (case aL => have := LMc16.out; omega); intro v724 w21 ho hb hg hat; rw [← Ny723.out] at ho; have n0_ := Aside0.mk (blk_grown (blk_later BK718.out) hg (Kd.R_away HO_5.out (fun _ hk => hk.2))); have n1_ := Aside0.mk (Kd.R_over' (R_later HO722.out) (Kd.R_typed (R_later HO_5.out)) (by decide) hg); have n2_ := Aside0.mk (hb); have n3_ := Aside0.mk (ho); clear BK718; clear HO722; clear HB; clear HO_5; have BK718 := n0_; have HO722 := n1_; have HB := n2_; have HO725 := n3_; clear n0_ n1_ n2_ n3_; clear ho hb hg hat; obtain ⟨hcz22_0, hcz22_1, hfz22_0, hfz22_1⟩ := cl2 BK718))
          go_roundg k1
          case measure => have := HK1.out; omega
          case rel => exact ⟨(y720), (y723), ((rd_T46 l0 x21_1).f1), (wrap64 (x21_1 + 1)), sr, sr, H', ⟨by have := HK1.out; omega⟩, ⟨R_later HO722.out⟩, ⟨R_later (Kd.R_mono HO725.out (fun _ hk => trivial))⟩, ⟨below_later HB.out⟩⟩
        · rw [if_neg c9] at H
          have c9b0 := decide_eq_false c9
          clear c9
          replace H := Option.bind_eq_some_iff.mp H
          obtain ⟨⟨t726, t727⟩, A230, H⟩ := H
          replace H : ((impl_LengthPack.f k1 x5_1).bind fun bt730 => (if t727 = true then (if bt730.2 = true then (if t726.length + bt730.1.length < 140737488355328 then (some ((t726 ++ bt730.1), true)) else (none)) else (some (([] : List Int), false))) else (some (([] : List Int), false)))) = some (r1, r2) := H
          have A23 := Aside0.mk A230
          clear A230
          replace H := Option.bind_eq_some_iff.mp H
          obtain ⟨⟨t730, t731⟩, A240, H⟩ := H
          replace H : (if t727 = true then (if t731 = true then (if t726.length + t730.length < 140737488355328 then (some ((t726 ++ t730), true)) else (none)) else (some (([] : List Int), false))) else (some (([] : List Int), false))) = some (r1, r2) := H
          have A24 := Aside0.mk A240
          clear A240
          by_cases c25 : t727 = true
          · subst c25
            replace H := ifp rfl H
            by_cases c26 : t731 = true
            · subst c26
              replace H := ifp rfl H
              replace H := ifs H
              obtain ⟨c27, H⟩ := H
              have LMc27 := Aside0.mk c27
              clear c27
              obtain ⟨y734, hy734⟩ : ∃ y_ : List Int, y_ = (t726 ++ t730) := ⟨_, rfl⟩
              replace H : (some (y734, true)) = some (r1, r2) := by first | (rw [hy734]; with_reducible exact H) | (rw [hy734]; exact H) | exact H
              have Ny734 := Aside0.mk hy734
              clear hy734
              simp only [Option.some.injEq, Prod.mk.injEq] at H
              obtain ⟨rfl, rfl⟩ := H
              obtain ⟨Ao28, co28, eo28⟩ := Kd.R_slice HO_4.out
              subst eo28
              go_wp2_with (first | ((with_reducible refine gate_callee (f := 29) rfl ?_); refine gl_ (some 46) Try.func29 #[.slice Ao28 x4_1.length co28] rfl ?_; (with_reducible refine (impl_DeltaPack.calls k1 _ _ x4_1 t726 true _ ?side1 ?side2 A23.out).mono ?_); (case side1 => repeat (first | exact (Kd.R_reads' HO_4.out).2.2 | (with_reducible refine Kd.C_alloc ?_ _) | (with_reducible refine Kd.C_drewN ?_ _) | (with_reducible refine Kd.C_drew ?_))); (case side2 => exact (Kd.R_reads' HO_4.out).2.1); rintro e w29 ⟨v728, rfl, ho0, hb⟩; refine ⟨_, rfl, ?_⟩; have HO729 := Aside0.mk (Kd.R_lower ho0 (below_size (below_later HB.out))); replace HO_4 := Aside0.mk (Kd.R_below (R_later HO_4.out) hb); replace HO_5 := Aside0.mk (Kd.R_below (R_later HO_5.out) hb); replace HB := bst HB hb; (try clear hb); (try clear hk); (try clear ho0); obtain ⟨Ao30, co30, eo30⟩ := Kd.R_slice HO_5.out; subst eo30) | ((with_reducible refine gate_callee (f := 31) rfl ?_); refine gl_ (some 51) Try.func31 #[.slice Ao30 x5_1.length co30] rfl ?_; (with_reducible refine (impl_LengthPack.calls k1 _ _ x5_1 t730 true _ ?side1 ?side2 A24.out).mono ?_); (case side1 => repeat (first | exact (Kd.R_reads' HO_5.out).2.2 | (with_reducible refine Kd.C_alloc ?_ _) | (with_reducible refine Kd.C_drewN ?_ _) | (with_reducible refine Kd.C_drew ?_))); (case side2 => exact (Kd.R_reads' HO_5.out).2.1); rintro e w31 ⟨v732, rfl, ho0, hb⟩; refine ⟨_, rfl, ?_⟩; have HO733 := Aside0.mk (Kd.R_lower (Kd.R_new' ho0 (Kd.R_lt (R_later HO729.out))) (below_size (below_later HB.out))); replace HO_4 := Aside0.mk (Kd.R_below (R_later HO_4.out) hb); replace HO_5 := Aside0.mk (Kd.R_below (R_later HO_5.out) hb); replace HO729 := Aside0.mk (Kd.R_elder' (R_later HO729.out) (Kd.R_base ho0) hb); replace HB := bst HB hb; (try clear hb); (try clear hk); (try clear ho0); obtain ⟨Ao33, co33, eo33⟩ := Kd.R_slice HO733.out; subst eo33) | ((with_reducible refine gate_builtin (b := .append) (xs := #[.tmp 60, .tmp 61]) rfl ?_); at_builtin; refine Kd.R_append_rows (Kd.int .u8) (w0 := w) w.heap.size rfl (.tmp 60) (.tmp 61) 24 5 (.int .u8 0) 1 rfl Try.underlying24 info5 rfl (by decide) (by omega) v728 t726 t730 _ _ _ (fun k_ => some k_ ≠ (.slice Ao33 t730.length co33 : Value).ownBlock) (fun _ => False) rfl rfl ?aO ?aR (fun _ _ h => h) (fun _ h => h.elim) ?aF ?aB ?aS ?aL ?_; (case aR => repeat (first | exact (Kd.R_reads' HO733.out).2.2 | (with_reducible refine Kd.C_alloc ?_ _) | (with_reducible refine Kd.C_drewN ?_ _) | (with_reducible refine Kd.C_drew ?_))); (case aB => exact (below_later HB.out)); (case aF => exact (fun k_ hk => Kd.fresh' (Kd.R_lt (R_later HO733.out)) k_ hk)); (case aO => exact (by (with_reducible repeat (first | apply Kd.R_alloc | apply Kd.R_drewN | apply Kd.R_drew)); exact Kd.R_mono HO729.out (fun _ hk => hk.2))); (case aS => exact (below_size (below_later HB.out))); (case aL => have := LMc27.out; omega); intro v735 w32 ho hb hg hat; rw [← Ny734.out] at ho; have n0_ := Aside0.mk (Kd.R_over' (R_later HO_4.out) (Kd.R_typed (R_later HO729.out)) (by decide) hg); have n1_ := Aside0.mk (Kd.R_over' (R_later HO_5.out) (Kd.R_typed (R_later HO729.out)) (by decide) hg); have n2_ := Aside0.mk (Kd.R_after (ok := (fun _ => True)) (R_later HO733.out) hg hat); have n3_ := Aside0.mk (hb); have n4_ := Aside0.mk (ho); clear HO_4; clear HO_5; clear HO733; clear HB; clear HO729; have HO_4 := n0_; have HO_5 := n1_; have HO733 := n2_; have HB := n3_; have HO736 := n4_; clear n0_ n1_ n2_ n3_ n4_; clear ho hb hg hat))
              go_ret2
              exact ⟨_, by first | rfl | (simp [errW_none, errW_some] <;> rfl) | (simp [*, errW_none, errW_some] <;> rfl), by (with_reducible repeat (first | apply Kd.R_alloc | apply Kd.R_drewN | apply Kd.R_drew)); exact Kd.R_mono HO736.out (fun _ hk => trivial), below_later HB.out⟩
            · replace c26 := Bool.eq_false_iff.mpr c26
              subst c26
              replace H := ifn Bool.false_ne_true H
              simp only [Option.some.injEq, Prod.mk.injEq] at H
              obtain ⟨rfl, rfl⟩ := H
              obtain ⟨Ao34, co34, eo34⟩ := Kd.R_slice HO_4.out
              subst eo34
              go_wp2_with (first | ((with_reducible refine gate_callee (f := 29) rfl ?_); refine gl_ (some 46) Try.func29 #[.slice Ao34 x4_1.length co34] rfl ?_; (with_reducible refine (impl_DeltaPack.calls k1 _ _ x4_1 t726 true _ ?side1 ?side2 A23.out).mono ?_); (case side1 => repeat (first | exact (Kd.R_reads' HO_4.out).2.2 | (with_reducible refine Kd.C_alloc ?_ _) | (with_reducible refine Kd.C_drewN ?_ _) | (with_reducible refine Kd.C_drew ?_))); (case side2 => exact (Kd.R_reads' HO_4.out).2.1); rintro e w35 ⟨v728, rfl, ho0, hb⟩; refine ⟨_, rfl, ?_⟩; have HO729 := Aside0.mk (Kd.R_lower ho0 (below_size (below_later HB.out))); replace HO_4 := Aside0.mk (Kd.R_below (R_later HO_4.out) hb); replace HO_5 := Aside0.mk (Kd.R_below (R_later HO_5.out) hb); replace HB := bst HB hb; (try clear hb); (try clear ho0); obtain ⟨Ao36, co36, eo36⟩ := Kd.R_slice HO_5.out; subst eo36) | ((with_reducible refine gate_callee (f := 31) rfl ?_); refine gl_ (some 51) Try.func31 #[.slice Ao36 x5_1.length co36] rfl ?_; (with_reducible refine (impl_LengthPack.calls k1 _ _ x5_1 t730 false _ ?side1 ?side2 A24.out).mono ?_); (case side1 => repeat (first | exact (Kd.R_reads' HO_5.out).2.2 | (with_reducible refine Kd.C_alloc ?_ _) | (with_reducible refine Kd.C_drewN ?_ _) | (with_reducible refine Kd.C_drew ?_))); (case side2 => exact (Kd.R_reads' HO_5.out).2.1); rintro e w37 ⟨v732, rfl, ho0, hb⟩; refine ⟨_, rfl, ?_⟩; have HO733 := Aside0.mk (Kd.R_lower (Kd.R_new' ho0 (Kd.R_lt (R_later HO729.out))) (below_size (below_later HB.out))); replace HO_4 := Aside0.mk (Kd.R_below (R_later HO_4.out) hb); replace HO_5 := Aside0.mk (Kd.R_below (R_later HO_5.out) hb); replace HO729 := Aside0.mk (Kd.R_elder' (R_later HO729.out) (Kd.R_base ho0) hb); replace HB := bst HB hb; (try clear hb); (try clear ho0)))
              go_ret2
              exact ⟨_, by first | rfl | (simp [errW_none, errW_some] <;> rfl) | (simp [*, errW_none, errW_some] <;> rfl), by first | exact Kd.R_nil _ _ _ _ _ | exact Kd.N_nil _ _ _ _ _ | exact Kd.V_nil _ _ _ _ _ | exact Kd.Q_nil _ _ _ _ _ | exact Kd.S_nil _ _ _ _ _, below_later HB.out⟩
          · replace c25 := Bool.eq_false_iff.mpr c25
            subst c25
            replace H := ifn Bool.false_ne_true H
            simp only [Option.some.injEq, Prod.mk.injEq] at H
            obtain ⟨rfl, rfl⟩ := H
            obtain ⟨Ao38, co38, eo38⟩ := Kd.R_slice HO_4.out
            subst eo38
            go_wp2_with (first | ((with_reducible refine gate_callee (f := 29) rfl ?_); refine gl_ (some 46) Try.func29 #[.slice Ao38 x4_1.length co38] rfl ?_; (with_reducible refine (impl_DeltaPack.calls k1 _ _ x4_1 t726 false _ ?side1 ?side2 A23.out).mono ?_); (case side1 => repeat (first | exact (Kd.R_reads' HO_4.out).2.2 | (with_reducible refine Kd.C_alloc ?_ _) | (with_reducible refine Kd.C_drewN ?_ _) | (with_reducible refine Kd.C_drew ?_))); (case side2 => exact (Kd.R_reads' HO_4.out).2.1); rintro e w39 ⟨v728, rfl, ho0, hb⟩; refine ⟨_, rfl, ?_⟩; have HO729 := Aside0.mk (Kd.R_lower ho0 (below_size (below_later HB.out))); replace HO_4 := Aside0.mk (Kd.R_below (R_later HO_4.out) hb); replace HO_5 := Aside0.mk (Kd.R_below (R_later HO_5.out) hb); replace HB := bst HB hb; (try clear hb); (try clear ho0); obtain ⟨Ao40, co40, eo40⟩ := Kd.R_slice HO_5.out; subst eo40) | ((with_reducible refine gate_callee (f := 31) rfl ?_); refine gl_ (some 51) Try.func31 #[.slice Ao40 x5_1.length co40] rfl ?_; (with_reducible refine (impl_LengthPack.calls k1 _ _ x5_1 t730 t731 _ ?side1 ?side2 A24.out).mono ?_); (case side1 => repeat (first | exact (Kd.R_reads' HO_5.out).2.2 | (with_reducible refine Kd.C_alloc ?_ _) | (with_reducible refine Kd.C_drewN ?_ _) | (with_reducible refine Kd.C_drew ?_))); (case side2 => exact (Kd.R_reads' HO_5.out).2.1); rintro e w41 ⟨v732, rfl, ho0, hb⟩; refine ⟨_, rfl, ?_⟩; have HO733 := Aside0.mk (Kd.R_lower (Kd.R_new' ho0 (Kd.R_lt (R_later HO729.out))) (below_size (below_later HB.out))); replace HO_4 := Aside0.mk (Kd.R_below (R_later HO_4.out) hb); replace HO_5 := Aside0.mk (Kd.R_below (R_later HO_5.out) hb); replace HO729 := Aside0.mk (Kd.R_elder' (R_later HO729.out) (Kd.R_base ho0) hb); replace HB := bst HB hb; (try clear hb); (try clear ho0)))
            go_ret2
            exact ⟨_, by first | rfl | (simp [errW_none, errW_some] <;> rfl) | (simp [*, errW_none, errW_some] <;> rfl), by first | exact Kd.R_nil _ _ _ _ _ | exact Kd.N_nil _ _ _ _ _ | exact Kd.V_nil _ _ _ _ _ | exact Kd.Q_nil _ _ _ _ _ | exact Kd.S_nil _ _ _ _ _, below_later HB.out⟩
  · replace c3 := Bool.eq_false_iff.mpr c3
    subst c3
    replace H := ifn Bool.false_ne_true H
    simp only [Option.some.injEq, Prod.mk.injEq] at H
    obtain ⟨rfl, rfl⟩ := H
    go_enter Try.func32, Try.ntmps32
    go_wp2_with (first | ((with_reducible refine gate_callee (f := 27) rfl ?_); refine gl_ (some 15) Try.func27 #[.int .i64 6, .slice A0 l0.length c0] rfl ?_; (with_reducible refine (impl_valsOk.calls k 6 _ _ l0 false _ ?side1 ?side2 A2.out).mono ?_); (case side1 => exact C_later HR0.out); (case side2 => exact HC0.out); rintro e w42 ⟨rfl, hb⟩; refine ⟨_, rfl, ?_⟩; replace HB := bst HB hb; (try clear hb)))
    go_ret2
    exact ⟨_, by first | rfl | (simp [errW_none, errW_some] <;> rfl) | (simp [*, errW_none, errW_some] <;> rfl), by first | exact Kd.R_nil _ _ _ _ _ | exact Kd.N_nil _ _ _ _ _ | exact Kd.V_nil _ _ _ _ _ | exact Kd.Q_nil _ _ _ _ _ | exact Kd.S_nil _ _ _ _ _, below_later HB.out⟩

/-! ### impl_SplitWide: function 67 -/
def impl_SplitWide.f (a0 : Int) : Option (Int) := (impl_wideOf.f a0).bind fun t737 => (some t737)
set_option maxHeartbeats 8000000 in
set_option maxRecDepth 100000 in
theorem impl_SplitWide.calls (a0 : Int) (r : Int) (w : World) (h : impl_SplitWide.f a0 = some r) :
    Calls Try.prog 67 #[.int .i64 a0] w fun e w' => e = .returned (.int .i64 r) ∧ Drawn0 w w' := by
  have H : ((impl_wideOf.f a0).bind fun t737 => (some t737)) = some r := h
  clear h
  replace H := bnd H
  obtain ⟨t737, A2, H⟩ := H
  obtain rfl := Option.some.inj H
  go_enter Try.func67, Try.ntmps67
  go_wp2_with (first | ((with_reducible refine gate_callee (f := 59) rfl ?_); refine gl_ (some 4) Try.func59 #[.int .i64 a0] rfl ?_; (with_reducible refine (impl_wideOf.calls a0 t737 _ A2.out).mono ?_); rintro e w' ⟨rfl, ⟨nd, rfl⟩⟩; refine ⟨_, rfl, ?_⟩))
  go_ret
  exact ⟨by first | rfl | (simp; done) | (simp [*]; done), by repeat (first | exact Drawn0.refl _ | apply Drawn0.step)⟩

/-! ### impl_SplitPack: function 33 -/
mutual
def impl_SplitPack.j0 : Nat → List (S46) → Int → Bool → Option (List Int × Bool)
  | 0, _, _, _ => none
  | k + 1, x1, x6, x20 => if x20 = true then (some (([] : List Int), false)) else (impl_SplitPack.l0 k x1 (([] : List Int)) x6 0)
def impl_SplitPack.l0 : Nat → List (S46) → List Int → Int → Int → Option (List Int × Bool)
  | 0, _, _, _, _ => none
  | k + 1, x1, x7, x22, x23 => if x23 < x22 then (impl_SplitPack.l1 k x1 x7 x23 x22 x23 x1 (x1.length : Int) 0) else (some (x7, true))
def impl_SplitPack.l1 : Nat → List (S46) → List Int → Int → Int → Int → List (S46) → Int → Int → Option (List Int × Bool)
  | 0, _, _, _, _, _, _, _, _ => none
  | k + 1, x1, x7, x8, x22, x23, x26, x27, x28 => if x28 < x27 then (if 0 ≤ x28 then (if x28 < (x26.length : Int) then (if 0 ≤ (wrap64 (8 * x8)) then (if x7.length < 140737488355328 then (impl_SplitPack.l1 k x1 (x7 ++ [(shr .i64 ((rd_T46 x26 x28).f0) (wrap64 (8 * x8))) % 256]) x8 x22 x23 x26 x27 (wrap64 (x28 + 1))) else (none)) else (none)) else (none)) else (none)) else (impl_SplitPack.l0 k x1 x7 x22 (wrap64 (x23 + 1)))
end
def impl_SplitPack.f (k : Nat) (a0 : Int) (l1 : List (S46)) : Option (List Int × Bool) := (impl_SplitWide.f a0).bind fun t738 => (if t738 = 0 then (impl_SplitPack.j0 k l1 t738 true) else ((impl_valsOk.f k a0 l1).bind fun t739 => (impl_SplitPack.j0 k l1 t738 (!t739))))
set_option maxHeartbeats 8000000 in
set_option maxRecDepth 100000 in
theorem impl_SplitPack.calls (k : Nat) (a0 : Int) (A1 : Option Addr) (c1 : Nat) (l1 : List (S46)) (r1 : List Int) (r2 : Bool) (w : World) (hr1 : Kd.C k46 w A1 l1.length l1) (hc1 : l1.length ≤ c1) (h : impl_SplitPack.f k a0 l1 = some (r1, r2)) :
    Calls Try.prog 33 #[.int .i64 a0, .slice A1 l1.length c1] w fun e w' => ∃ v0_ : Value, e = .returned (.tuple #[v0_, .bool r2]) ∧ Kd.R (Kd.int .u8) 5 w' w.heap.size (fun _ => True) v0_ r1 ∧ Below w.heap.size w w' := by
  have hu46 := Try.underlying46
  have HR1 := Aside0.mk hr1
  have HC1 := Aside0.mk hc1
  clear hr1 hc1
  have HB := Aside0.mk (Below.refl w.heap.size w)
  have H : ((impl_SplitWide.f a0).bind fun t738 => (if t738 = 0 then (impl_SplitPack.j0 k l1 t738 true) else ((impl_valsOk.f k a0 l1).bind fun t739 => (impl_SplitPack.j0 k l1 t738 (!t739))))) = some (r1, r2) := h
  clear h
  replace H := bnd H
  obtain ⟨t738, A3, H⟩ := H
  have HC4 := Aside0.mk H
  clear H
  go_enter Try.func33, Try.ntmps33
  go_upto_region 2 with (first | ((with_reducible refine gate_callee (f := 67) rfl ?_); refine gl_ (some 12) Try.func67 #[.int .i64 a0] rfl ?_; (with_reducible refine (impl_SplitWide.calls a0 t738 _ A3.out).mono ?_); rintro e w' ⟨rfl, ⟨nd, rfl⟩⟩; refine ⟨_, rfl, ?_⟩))
  (try simp only [Act.put, List.setIfInBounds_toArray, List.set_cons_zero, List.set_cons_succ])
  go_cut [20] (fun v20 wc => ∃ (kq : Nat) (x20_3 : Bool), v20 = .bool x20_3 ∧ Aside0 (impl_SplitPack.j0 kq l1 t738 x20_3 = some (r1, r2)) ∧ Aside0 (kq ≤ k) ∧ Aside0 (Below w.heap.size w wc))
  case first =>
    have H := HC4.out
    clear HC4
    by_cases c5 : t738 = 0
    · rw [if_pos c5] at H
      have c5b0 : (t738 == 0) = true := beq_iff_eq.mpr c5
      have c5b1 : (t738 != 0) = false := bne_eq_false_iff_eq.mpr c5
      clear c5
      (first | rw [c5b0] | rw [c5b1] | (simp only [i64_w, i32_w]; rw [c5b0]) | skip)
      have H' := Aside0.mk H
      clear H
      go_wp2
      go_meet
      case rel => exact ⟨_, (true), sr, H', ⟨by first | omega | exact Nat.le_refl _⟩, ⟨below_later HB.out⟩⟩
    · rw [if_neg c5] at H
      have c5b0 : (t738 == 0) = false := beq_eq_false_iff_ne.mpr c5
      have c5b1 : (t738 != 0) = true := bne_iff_ne.mpr c5
      (first | rw [c5b0] | rw [c5b1] | (simp only [i64_w, i32_w]; rw [c5b0]) | skip)
      replace H := bnd H
      obtain ⟨t739, A6, H⟩ := H
      have H' := Aside0.mk H
      clear H
      go_wp2_with (first | (go_at_call 27; (with_reducible refine (impl_valsOk.calls k a0 _ _ l1 t739 _ ?side1 ?side2 A6.out).mono ?_); (case side1 => repeat (first | exact (Kd.C_below HR1.out HB.out) | (with_reducible refine Kd.C_alloc ?_ _) | (with_reducible refine Kd.C_drewN ?_ _) | (with_reducible refine Kd.C_drew ?_))); (case side2 => exact HC1.out); rintro e w7 ⟨rfl, hb⟩; replace HB := bst HB hb; (try clear hb)))
      go_meet
      case rel => exact ⟨_, (!t739), sr, H', ⟨by first | omega | exact Nat.le_refl _⟩, ⟨below_later HB.out⟩⟩
  case rest =>
    clear HC4
    try clear c1
    obtain ⟨kq, x20_3, rfl, HA, HJ3, HB⟩ := hcut
    cases kq with
    | zero => exact absurd HA.out (by simp [impl_SplitPack.j0])
    | succ kj3 =>
      have H := HA.out
      clear HA
      simp only [impl_SplitPack.j0] at H
      by_cases c8 : x20_3 = true
      · subst c8
        replace H := ifp rfl H
        simp only [Option.some.injEq, Prod.mk.injEq] at H
        obtain ⟨rfl, rfl⟩ := H
        go_wp2
        go_ret2
        exact ⟨_, by first | rfl | (simp [errW_none, errW_some] <;> rfl) | (simp [*, errW_none, errW_some] <;> rfl), by first | exact Kd.R_nil _ _ _ _ _ | exact Kd.N_nil _ _ _ _ _ | exact Kd.V_nil _ _ _ _ _ | exact Kd.Q_nil _ _ _ _ _ | exact Kd.S_nil _ _ _ _ _, below_later HB.out⟩
      · replace c8 := Bool.eq_false_iff.mpr c8
        subst c8
        replace H := ifn Bool.false_ne_true H
        obtain ⟨y740, hy740⟩ : ∃ y_ : List Int, y_ = (([] : List Int)) := ⟨_, rfl⟩
        replace H : (impl_SplitPack.l0 kj3 l1 y740 t738 0) = some (r1, r2) := by first | (rw [hy740]; with_reducible exact H) | (rw [hy740]; exact H) | exact H
        have Ny740 := Aside0.mk hy740
        clear hy740
        have H' := Aside0.mk H
        clear H
        go_wp2_with (first | ((with_reducible refine gate_dst (N := 21) rfl ?_); refine Kd.R_lit (Kd.int .u8) _ 5 ?hg (N := 21) ?hd (xs := ([] : List Int)) (inner := []) (ok := fun _ => True) (okp := fun _ => True) ?hr ?hp (fun _ hk => hk) trivial (Below.refl _ _) (Nat.le_refl _) (by simp) ?_; (case hd => rfl); (case hg => rfl); (case hr => first | (go_simp; done) | (go_simp; rfl)); (case hp => exact (Reps.none _ _)); intro v741 w9 ho10 hb hg_ hnew_; clear hg_ hnew_; (first | rw [← Ny740.out] at ho10 | (simp only [Int.reduceToNat] at ho10; rw [← Ny740.out] at ho10)); have HO742 := Aside0.mk (Kd.R_lower ho10 (below_size (below_later HB.out))); replace HB := bst HB hb; clear hb ho10))
        go_loopg [7, 23] kj3 (fun kq v7 v23 w' => ∃ (x7_2 : List Int) (x23_2 : Int), v23 = .int .i64 x23_2 ∧ Aside0 (impl_SplitPack.l0 kq l1 x7_2 t738 x23_2 = some (r1, r2)) ∧ Aside0 (kq ≤ kj3) ∧ Aside0 (Kd.R (Kd.int .u8) 5 w' w.heap.size (fun _ => True) v7 x7_2) ∧ Aside0 (Below w.heap.size w w'))
        case atStart => exact ⟨(y740), (0), sr, H', ⟨Nat.le_refl _⟩, ⟨R_later HO742.out⟩, ⟨below_later HB.out⟩⟩
        case round =>
          clear H'
          try clear c1
          try clear c8
          obtain ⟨x7_2, x23_2, rfl, HA, HK2, HO_7, HB⟩ := hrel
          cases gk with
          | zero => exact absurd HA.out (by simp [impl_SplitPack.l0])
          | succ k2 =>
            have H := HA.out
            clear HA
            simp only [impl_SplitPack.l0] at H
            by_cases c11 : x23_2 < t738
            · rw [if_pos c11] at H
              have c11b0 := decide_eq_true c11
              clear c11
              have H' := Aside0.mk H
              clear H
              go_wp2
              go_loopg [7, 28] k2 (fun kq v7 v28 w' => ∃ (x7_3 : List Int) (x28_3 : Int), v28 = .int .i64 x28_3 ∧ Aside0 (impl_SplitPack.l1 kq l1 x7_3 x23_2 t738 x23_2 l1 (l1.length : Int) x28_3 = some (r1, r2)) ∧ Aside0 (kq ≤ k2) ∧ Aside0 (Kd.R (Kd.int .u8) 5 w' w.heap.size (fun _ => True) v7 x7_3) ∧ Aside0 (Below w.heap.size w w'))
              case atStart => exact ⟨(x7_2), (0), sr, H', ⟨Nat.le_refl _⟩, ⟨R_later HO_7.out⟩, ⟨below_later HB.out⟩⟩
              case round =>
                clear H'
                try clear c1
                try clear c8
                try clear c11
                try clear c11b0
                obtain ⟨x7_3, x28_3, rfl, HA, HK3, HO_7, HB⟩ := hrel
                cases gk with
                | zero => exact absurd HA.out (by simp [impl_SplitPack.l1])
                | succ k3 =>
                  have H := HA.out
                  clear HA
                  simp only [impl_SplitPack.l1] at H
                  by_cases c12 : x28_3 < (l1.length : Int)
                  · rw [if_pos c12] at H
                    have c12b0 := decide_eq_true c12
                    clear c12
                    replace H := ifd H
                    obtain ⟨c13b0, H⟩ := H
                    replace H := ifd H
                    obtain ⟨c14b0, H⟩ := H
                    obtain ⟨ji15, hji15⟩ : ∃ j_ : Int, (wrap64 (8 * x23_2)) = j_ := ⟨_, rfl⟩
                    replace H : (if 0 ≤ (ji15) then (if x7_3.length < 140737488355328 then (impl_SplitPack.l1 k3 l1 (x7_3 ++ [(shr .i64 ((rd_T46 l1 x28_3).f0) (ji15)) % 256]) x23_2 t738 x23_2 l1 (l1.length : Int) (wrap64 (x28_3 + 1))) else (none)) else (none)) = some (r1, r2) := by first | (rw [hji15] at H; exact H) | (simp only [hji15] at H ⊢; exact H)
                    have hji15w : (IntKind.i64.wrap (8 * x23_2)) = ji15 := (i64_w _).trans hji15
                    replace H := ifs H
                    obtain ⟨c16, H⟩ := H
                    have c16b0 := eq_true c16
                    have c16b1 := decide_eq_true c16
                    clear c16
                    obtain ⟨ji17, hji17⟩ : ∃ j_ : Int, (shr .i64 ((rd_T46 l1 x28_3).f0) (ji15)) = j_ := ⟨_, rfl⟩
                    replace H : (if x7_3.length < 140737488355328 then (impl_SplitPack.l1 k3 l1 (x7_3 ++ [(ji17) % 256]) x23_2 t738 x23_2 l1 (l1.length : Int) (wrap64 (x28_3 + 1))) else (none)) = some (r1, r2) := by first | (rw [hji17] at H; exact H) | (simp only [hji17] at H ⊢; exact H)
                    have hji17_ : (((rd_T46 l1 x28_3).f0) / 2 ^ min (ji15).toNat 64) = ji17 := hji17
                    have hji17z : (ji15) ≤ 64 → (((rd_T46 l1 x28_3).f0) / 2 ^ (ji15).toNat) = ji17 := shr_small hji17
                    replace H := ifs H
                    obtain ⟨c18, H⟩ := H
                    have LMc18 := Aside0.mk c18
                    clear c18
                    obtain ⟨y745, hy745⟩ : ∃ y_ : List Int, y_ = (x7_3 ++ [(ji17) % 256]) := ⟨_, rfl⟩
                    replace H : (impl_SplitPack.l1 k3 l1 y745 x23_2 t738 x23_2 l1 (l1.length : Int) (wrap64 (x28_3 + 1))) = some (r1, r2) := by first | (rw [hy745]; with_reducible exact H) | (rw [hy745]; exact H) | exact H
                    have Ny745 := Aside0.mk hy745
                    clear hy745
                    have H' := Aside0.mk H
                    clear H
                    have p743 : 0 ≤ (x28_3 : Int) := dcd
                    have q743 : x28_3 < (l1.length : Int) := dcd
                    obtain ⟨ad743, e743, hx743_0, hx743_1⟩ := at_T46 HR1.out x28_3 p743 q743
                    cases e743
                    replace hx743_0 := crd HB hx743_0
                    replace hx743_1 := crd HB hx743_1
                    replace p743 := eq_true p743
                    replace q743 := eq_true q743
                    go_wp2_with (first | ((with_reducible refine gate_dst (N := 10) rfl ?_); refine bx_ 10 #[.int .i64 0, .string (⟨#[]⟩ : ByteArray)] 46 ?_; intro gb744 hg w19 hbox hb; have BK744 := Aside0.mk (hbox); have GW744 := gwe HB hg; have GE744 := GW744; replace HO_7 := Aside0.mk (Kd.R_below (R_later HO_7.out) hb); replace HB := bst HB hb; clear hb hbox hg; obtain ⟨hcz20_0, hcz20_1, hfz20_0, hfz20_1⟩ := cl2 BK744) | ((with_reducible refine gate_builtin (b := .append) (xs := #[.tmp 32, .tmp 39]) rfl ?_); at_builtin; refine Kd.R_append (Kd.int .u8) (w0 := w) w.heap.size rfl (.tmp 32) (.tmp 39) 24 5 (.int .u8 0) 1 rfl Try.underlying24 info5 rfl (by decide) (by omega) u7 x7_3 ((ji17) % 256) [.int .u8 ((ji17) % 256)] (fun _ => True) (fun _ => False) rfl (by first | (go_simp; done) | (go_simp; rfl)) ?aP (fun _ hk => hk.elim) ?aF ?aO ?aB ?aS ?aL ?_; (case aP => exact rfl); (case aB => exact (below_later HB.out)); (case aF => exact (fun _ _ => trivial)); (case aO => exact (by (with_reducible repeat (first | apply Kd.R_alloc | apply Kd.R_drewN | apply Kd.R_drew)); exact Kd.R_mono (Kd.R_far (p := ⟨gb744, 1, none⟩) (Kd.R_far (p := ⟨gb744, 0, none⟩) (Kd.R_types HO_7.out BK744.out (by decide)) (fun _ hk => hk.2) (.int .i64 ((rd_T46 l1 x28_3).f0))) (fun _ hk => hk.2) (.string ((rd_T46 l1 x28_3).f1))) (fun _ hk => trivial))); (case aS => exact (below_size (below_later HB.out))); (case aL => have := LMc18.out; omega); intro v746 w21 ho hb hg hat; rw [← Ny745.out] at ho; have n0_ := Aside0.mk (blk_grown (g := gb744) (o := .cells #[.int .i64 ((rd_T46 l1 x28_3).f0), .string ((rd_T46 l1 x28_3).f1)] 46 (0, 0)) (blk_later BK744.out) hg (Kd.R_ne HO_7.out BK744.out (by decide))); have n1_ := Aside0.mk (hb); have n2_ := Aside0.mk (ho); clear BK744; clear HB; clear HO_7; have BK744 := n0_; have HB := n1_; have HO747 := n2_; clear n0_ n1_ n2_; clear ho hb hg hat))
                    go_roundg k3
                    case measure => have := HJ3.out; have := HK2.out; have := HK3.out; omega
                    case rel => exact ⟨(y745), (wrap64 (x28_3 + 1)), sr, H', ⟨by have := HJ3.out; have := HK2.out; have := HK3.out; omega⟩, ⟨R_later HO747.out⟩, ⟨below_later HB.out⟩⟩
                  · rw [if_neg c12] at H
                    have c12b0 := decide_eq_false c12
                    clear c12
                    have H' := Aside0.mk H
                    clear H
                    go_wp2
                    go_roundg k3
                    case measure => have := HJ3.out; have := HK2.out; have := HK3.out; omega
                    case rel => exact ⟨(x7_3), (wrap64 (x23_2 + 1)), sr, H', ⟨by have := HJ3.out; have := HK2.out; have := HK3.out; omega⟩, ⟨R_later HO_7.out⟩, ⟨below_later HB.out⟩⟩
            · rw [if_neg c11] at H
              have c11b0 := decide_eq_false c11
              clear c11
              simp only [Option.some.injEq, Prod.mk.injEq] at H
              obtain ⟨rfl, rfl⟩ := H
              go_wp2
              go_ret2
              exact ⟨_, by first | rfl | (simp [errW_none, errW_some] <;> rfl) | (simp [*, errW_none, errW_some] <;> rfl), by (with_reducible repeat (first | apply Kd.R_alloc | apply Kd.R_drewN | apply Kd.R_drew)); exact HO_7.out, below_later HB.out⟩

/-! ### impl_BitsPack: function 69 -/
mutual
def impl_BitsPack.j0 : Nat → List Int → Int → Bool → Option (List Int × Bool)
  | 0, _, _, _ => none
  | k + 1, x0, x1, x15 => if x15 = true then (some (([] : List Int), false)) else (impl_BitsPack.l0 k x0 x1 x0 (x0.length : Int) 0)
def impl_BitsPack.l0 : Nat → List Int → Int → List Int → Int → Int → Option (List Int × Bool)
  | 0, _, _, _, _, _ => none
  | k + 1, x0, x1, x16, x17, x18 => if x18 < x17 then (if 0 ≤ x18 then (if x18 < (x16.length : Int) then (if (rd x16 x18) < 0 then (some (([] : List Int), false)) else ((impl_widthOf.f k (rd x16 x18)).bind fun t750 => (if t750 > x1 then (some (([] : List Int), false)) else (impl_BitsPack.l0 k x0 x1 x16 x17 (wrap64 (x18 + 1)))))) else (none)) else (none)) else ((impl_packed.f k x0 x1).bind fun t751 => (some (t751, true)))
end
def impl_BitsPack.f (k : Nat) (l0 : List Int) (a1 : Int) : Option (List Int × Bool) := if (l0.length : Int) > 2000 then (impl_BitsPack.j0 k l0 a1 true) else ((impl_within.f a1 0 62).bind fun t748 => (impl_BitsPack.j0 k l0 a1 (!t748)))
set_option maxHeartbeats 8000000 in
set_option maxRecDepth 100000 in
theorem impl_BitsPack.calls (k : Nat) (A0 : Option Addr) (c0 : Nat) (l0 : List Int) (a1 : Int) (r1 : List Int) (r2 : Bool) (w : World) (hr0 : Kd.C (Kd.int .i64) w A0 l0.length l0) (hc0 : l0.length ≤ c0) (h : impl_BitsPack.f k l0 a1 = some (r1, r2)) :
    Calls Try.prog 69 #[.slice A0 l0.length c0, .int .i64 a1] w fun e w' => ∃ v0_ : Value, e = .returned (.tuple #[v0_, .bool r2]) ∧ Kd.R (Kd.int .u8) 5 w' w.heap.size (fun _ => True) v0_ r1 ∧ Below w.heap.size w w' := by
  have HR0 := Aside0.mk hr0
  have HC0 := Aside0.mk hc0
  clear hr0 hc0
  have HB := Aside0.mk (Below.refl w.heap.size w)
  have H : (if (l0.length : Int) > 2000 then (impl_BitsPack.j0 k l0 a1 true) else ((impl_within.f a1 0 62).bind fun t748 => (impl_BitsPack.j0 k l0 a1 (!t748)))) = some (r1, r2) := h
  clear h
  have HC3 := Aside0.mk H
  clear H
  go_enter Try.func69, Try.ntmps69
  go_upto_region 1 with (fail)
  go_cut [15] (fun v15 wc => ∃ (kq : Nat) (x15_2 : Bool), v15 = .bool x15_2 ∧ Aside0 (impl_BitsPack.j0 kq l0 a1 x15_2 = some (r1, r2)) ∧ Aside0 (kq ≤ k) ∧ Aside0 (Below w.heap.size w wc))
  case first =>
    have H := HC3.out
    clear HC3
    by_cases c4 : (l0.length : Int) > 2000
    · rw [if_pos c4] at H
      have c4b0 : decide (2000 < (l0.length : Int)) = true := decide_eq_true c4
      have c4b1 : decide (2000 < l0.length) = true := decide_eq_true (by omega)
      clear c4
      (first | rw [c4b0] | rw [c4b1] | (simp only [i64_w, i32_w]; rw [c4b0]) | skip)
      have H' := Aside0.mk H
      clear H
      go_wp2
      go_meet
      case rel => exact ⟨_, (true), sr, H', ⟨by first | omega | exact Nat.le_refl _⟩, ⟨below_later HB.out⟩⟩
    · rw [if_neg c4] at H
      have c4b0 : decide (2000 < (l0.length : Int)) = false := decide_eq_false c4
      have c4b1 : decide (2000 < l0.length) = false := decide_eq_false (by omega)
      clear c4
      (first | rw [c4b0] | rw [c4b1] | (simp only [i64_w, i32_w]; rw [c4b0]) | skip)
      replace H := bnd H
      obtain ⟨t748, A5, H⟩ := H
      have H' := Aside0.mk H
      clear H
      go_wp2_with (first | (go_at_call 73; (with_reducible refine (impl_within.calls a1 0 62 t748 _ A5.out).mono ?_); rintro e w' ⟨rfl, ⟨nd, rfl⟩⟩))
      go_meet
      case rel => exact ⟨_, (!t748), sr, H', ⟨by first | omega | exact Nat.le_refl _⟩, ⟨below_later HB.out⟩⟩
  case rest =>
    clear HC3
    obtain ⟨kq, x15_2, rfl, HA, HJ2, HB⟩ := hcut
    cases kq with
    | zero => exact absurd HA.out (by simp [impl_BitsPack.j0])
    | succ kj2 =>
      have H := HA.out
      clear HA
      simp only [impl_BitsPack.j0] at H
      by_cases c6 : x15_2 = true
      · subst c6
        replace H := ifp rfl H
        simp only [Option.some.injEq, Prod.mk.injEq] at H
        obtain ⟨rfl, rfl⟩ := H
        go_wp2
        go_ret2
        exact ⟨_, by first | rfl | (simp [errW_none, errW_some] <;> rfl) | (simp [*, errW_none, errW_some] <;> rfl), by first | exact Kd.R_nil _ _ _ _ _ | exact Kd.N_nil _ _ _ _ _ | exact Kd.V_nil _ _ _ _ _ | exact Kd.Q_nil _ _ _ _ _ | exact Kd.S_nil _ _ _ _ _, below_later HB.out⟩
      · replace c6 := Bool.eq_false_iff.mpr c6
        subst c6
        replace H := ifn Bool.false_ne_true H
        have H' := Aside0.mk H
        clear H
        go_wp2
        go_loopg [18] kj2 (fun kq v18 w' => ∃ (x18_2 : Int), v18 = .int .i64 x18_2 ∧ Aside0 (impl_BitsPack.l0 kq l0 a1 l0 (l0.length : Int) x18_2 = some (r1, r2)) ∧ Aside0 (kq ≤ kj2) ∧ Aside0 (Below w.heap.size w w'))
        case atStart => exact ⟨(0), sr, H', ⟨Nat.le_refl _⟩, ⟨below_later HB.out⟩⟩
        case round =>
          clear H'
          try clear c6
          obtain ⟨x18_2, rfl, HA, HK2, HB⟩ := hrel
          cases gk with
          | zero => exact absurd HA.out (by simp [impl_BitsPack.l0])
          | succ k2 =>
            have H := HA.out
            clear HA
            simp only [impl_BitsPack.l0] at H
            by_cases c7 : x18_2 < (l0.length : Int)
            · rw [if_pos c7] at H
              have c7b0 := decide_eq_true c7
              clear c7
              replace H := ifd H
              obtain ⟨c8b0, H⟩ := H
              replace H := ifd H
              obtain ⟨c9b0, H⟩ := H
              by_cases c10 : (rd l0 x18_2) < 0
              · rw [if_pos c10] at H
                have c10b0 := decide_eq_true c10
                clear c10
                simp only [Option.some.injEq, Prod.mk.injEq] at H
                obtain ⟨rfl, rfl⟩ := H
                have p749 : 0 ≤ (x18_2 : Int) := dcd
                have q749 : x18_2 < (l0.length : Int) := dcd
                obtain ⟨ad749, e749, hx749_0⟩ := Kd.at_int HR0.out x18_2 p749 q749
                cases e749
                replace hx749_0 := crd HB hx749_0
                replace p749 := eq_true p749
                replace q749 := eq_true q749
                go_wp2
                go_ret2
                exact ⟨_, by first | rfl | (simp [errW_none, errW_some] <;> rfl) | (simp [*, errW_none, errW_some] <;> rfl), by first | exact Kd.R_nil _ _ _ _ _ | exact Kd.N_nil _ _ _ _ _ | exact Kd.V_nil _ _ _ _ _ | exact Kd.Q_nil _ _ _ _ _ | exact Kd.S_nil _ _ _ _ _, below_later HB.out⟩
              · rw [if_neg c10] at H
                have c10b0 := decide_eq_false c10
                clear c10
                replace H := bnd H
                obtain ⟨t750, A11, H⟩ := H
                by_cases c12 : t750 > a1
                · rw [if_pos c12] at H
                  have c12b0 : decide (a1 < t750) = true := decide_eq_true c12
                  clear c12
                  simp only [Option.some.injEq, Prod.mk.injEq] at H
                  obtain ⟨rfl, rfl⟩ := H
                  have p749 : 0 ≤ (x18_2 : Int) := dcd
                  have q749 : x18_2 < (l0.length : Int) := dcd
                  obtain ⟨ad749, e749, hx749_0⟩ := Kd.at_int HR0.out x18_2 p749 q749
                  cases e749
                  replace hx749_0 := crd HB hx749_0
                  replace p749 := eq_true p749
                  replace q749 := eq_true q749
                  go_wp2_with (first | (go_at_call 82; (with_reducible refine (impl_widthOf.calls k2 (rd l0 x18_2) t750 _ A11.out).mono ?_); rintro e w' ⟨rfl, ⟨nd, rfl⟩⟩))
                  go_ret2
                  exact ⟨_, by first | rfl | (simp [errW_none, errW_some] <;> rfl) | (simp [*, errW_none, errW_some] <;> rfl), by first | exact Kd.R_nil _ _ _ _ _ | exact Kd.N_nil _ _ _ _ _ | exact Kd.V_nil _ _ _ _ _ | exact Kd.Q_nil _ _ _ _ _ | exact Kd.S_nil _ _ _ _ _, below_later HB.out⟩
                · rw [if_neg c12] at H
                  have c12b0 : decide (a1 < t750) = false := decide_eq_false c12
                  clear c12
                  have H' := Aside0.mk H
                  clear H
                  have p749 : 0 ≤ (x18_2 : Int) := dcd
                  have q749 : x18_2 < (l0.length : Int) := dcd
                  obtain ⟨ad749, e749, hx749_0⟩ := Kd.at_int HR0.out x18_2 p749 q749
                  cases e749
                  replace hx749_0 := crd HB hx749_0
                  replace p749 := eq_true p749
                  replace q749 := eq_true q749
                  go_wp2_with (first | (go_at_call 82; (with_reducible refine (impl_widthOf.calls k2 (rd l0 x18_2) t750 _ A11.out).mono ?_); rintro e w' ⟨rfl, ⟨nd, rfl⟩⟩))
                  go_roundg k2
                  case measure => have := HJ2.out; have := HK2.out; omega
                  case rel => exact ⟨(wrap64 (x18_2 + 1)), sr, H', ⟨by have := HJ2.out; have := HK2.out; omega⟩, ⟨below_later HB.out⟩⟩
            · rw [if_neg c7] at H
              have c7b0 := decide_eq_false c7
              clear c7
              replace H := bnd H
              obtain ⟨t751, A13, H⟩ := H
              simp only [Option.some.injEq, Prod.mk.injEq] at H
              obtain ⟨rfl, rfl⟩ := H
              go_wp2_with (first | ((with_reducible refine gate_callee (f := 61) rfl ?_); refine gl_ (some 33) Try.func61 #[.slice A0 l0.length c0, .int .i64 a1] rfl ?_; (with_reducible refine (impl_packed.calls k2 _ _ l0 a1 t751 _ ?side1 ?side2 A13.out).mono ?_); (case side1 => repeat (first | exact (Kd.C_below HR0.out HB.out) | (with_reducible refine Kd.C_alloc ?_ _) | (with_reducible refine Kd.C_drewN ?_ _) | (with_reducible refine Kd.C_drew ?_))); (case side2 => exact HC0.out); rintro e w14 ⟨v752, rfl, ho0, hb⟩; refine ⟨_, rfl, ?_⟩; have HO753 := Aside0.mk (Kd.R_lower ho0 (below_size (below_later HB.out))); replace HB := bst HB hb; (try clear hb); (try clear ho0)))
              go_ret2
              exact ⟨_, by first | rfl | (simp [errW_none, errW_some] <;> rfl) | (simp [*, errW_none, errW_some] <;> rfl), by (with_reducible repeat (first | apply Kd.R_alloc | apply Kd.R_drewN | apply Kd.R_drew)); exact HO753.out, below_later HB.out⟩

/-! ### impl_alikeFrom: function 70 -/
def impl_alikeFrom.l0 : Nat → List Int → Int → Int → Option (Int)
  | 0, _, _, _ => none
  | k + 1, x0, x1, x5 => if (wrap64 (x1 + x5)) < (x0.length : Int) then (if 0 ≤ (wrap64 (x1 + x5)) then (if 0 ≤ x1 then (if x1 < (x0.length : Int) then (if (rd x0 (wrap64 (x1 + x5))) = (rd x0 x1) then (impl_alikeFrom.l0 k x0 x1 (wrap64 (x5 + 1))) else (some x5)) else (none)) else (none)) else (none)) else (some x5)
def impl_alikeFrom.f (k : Nat) (l0 : List Int) (a1 : Int) : Option (Int) := impl_alikeFrom.l0 k l0 a1 0
set_option maxHeartbeats 8000000 in
set_option maxRecDepth 100000 in
theorem impl_alikeFrom.calls (k : Nat) (A0 : Option Addr) (c0 : Nat) (l0 : List Int) (a1 : Int) (r : Int) (w : World) (hr0 : Kd.C (Kd.int .i64) w A0 l0.length l0) (hc0 : l0.length ≤ c0) (h : impl_alikeFrom.f k l0 a1 = some r) :
    Calls Try.prog 70 #[.slice A0 l0.length c0, .int .i64 a1] w fun e w' => e = .returned (.int .i64 r) ∧ Drawn0 w w' := by
  have HR0 := Aside0.mk hr0
  have HC0 := Aside0.mk hc0
  clear hr0 hc0
  have H : (impl_alikeFrom.l0 k l0 a1 0) = some r := h
  clear h
  have H' := Aside0.mk H
  clear H
  go_enter Try.func70, Try.ntmps70
  go_wp2
  repeat (go_quiet (fail); try go_wp2)
  go_loopg [5] k (fun kq v5 w' => ∃ (x5_1 : Int), v5 = .int .i64 x5_1 ∧ Aside0 (impl_alikeFrom.l0 kq l0 a1 x5_1 = some r) ∧ Aside0 (kq ≤ k) ∧ Drawn0 w w')
  case atStart => exact ⟨(0), sr, H', ⟨Nat.le_refl _⟩, by repeat (first | exact Drawn0.refl _ | apply Drawn0.step)⟩
  case round =>
    clear H'
    obtain ⟨x5_1, rfl, HA, HK1, ⟨m1, rfl⟩⟩ := hrel
    cases gk with
    | zero => exact absurd HA.out (by simp [impl_alikeFrom.l0])
    | succ k1 =>
      have H := HA.out
      clear HA
      simp only [impl_alikeFrom.l0] at H
      by_cases c3 : (wrap64 (a1 + x5_1)) < (l0.length : Int)
      · rw [if_pos c3] at H
        have c3b0 := decide_eq_true c3
        clear c3
        obtain ⟨ji4, hji4⟩ : ∃ j_ : Int, (wrap64 (a1 + x5_1)) = j_ := ⟨_, rfl⟩
        replace H : (if 0 ≤ (ji4) then (if 0 ≤ a1 then (if a1 < (l0.length : Int) then (if (rd l0 (ji4)) = (rd l0 a1) then (impl_alikeFrom.l0 k1 l0 a1 (wrap64 (x5_1 + 1))) else (some x5_1)) else (none)) else (none)) else (none)) = some r := by first | (rw [hji4] at H; exact H) | (simp only [hji4] at H ⊢; exact H)
        (try rw [hji4] at c3b0)
        have hji4w : (IntKind.i64.wrap (a1 + x5_1)) = ji4 := (i64_w _).trans hji4
        replace H := ifd H
        obtain ⟨c5b0, H⟩ := H
        replace H := ifd H
        obtain ⟨c6b0, H⟩ := H
        replace H := ifd H
        obtain ⟨c7b0, H⟩ := H
        by_cases c8 : (rd l0 (ji4)) = (rd l0 a1)
        · rw [if_pos c8] at H
          have c8b0 : ((rd l0 (ji4)) == (rd l0 a1)) = true := beq_iff_eq.mpr c8
          have c8b1 : ((rd l0 (ji4)) != (rd l0 a1)) = false := bne_eq_false_iff_eq.mpr c8
          clear c8
          have H' := Aside0.mk H
          clear H
          have p754 : 0 ≤ ((ji4) : Int) := dcd
          have q754 : (ji4) < (l0.length : Int) := dcd
          obtain ⟨ad754, e754, hx754_0⟩ := Kd.at_int HR0.out (ji4) p754 q754
          cases e754
          replace p754 := eq_true p754
          replace q754 := eq_true q754
          have p755 : 0 ≤ (a1 : Int) := dcd
          have q755 : a1 < (l0.length : Int) := dcd
          obtain ⟨ad755, e755, hx755_0⟩ := Kd.at_int HR0.out a1 p755 q755
          obtain rfl : ad754 = ad755 := (by injection e755)
          replace p755 := eq_true p755
          replace q755 := eq_true q755
          go_wp2
          repeat (go_quiet (fail); try go_wp2)
          go_roundg k1
          case measure => have := HK1.out; omega
          case rel => exact ⟨(wrap64 (x5_1 + 1)), sr, H', ⟨by have := HK1.out; omega⟩, by repeat (first | exact Drawn0.refl _ | apply Drawn0.step)⟩
        · rw [if_neg c8] at H
          have c8b0 : ((rd l0 (ji4)) == (rd l0 a1)) = false := beq_eq_false_iff_ne.mpr c8
          have c8b1 : ((rd l0 (ji4)) != (rd l0 a1)) = true := bne_iff_ne.mpr c8
          obtain rfl := Option.some.inj H
          have p754 : 0 ≤ ((ji4) : Int) := dcd
          have q754 : (ji4) < (l0.length : Int) := dcd
          obtain ⟨ad754, e754, hx754_0⟩ := Kd.at_int HR0.out (ji4) p754 q754
          cases e754
          replace p754 := eq_true p754
          replace q754 := eq_true q754
          have p755 : 0 ≤ (a1 : Int) := dcd
          have q755 : a1 < (l0.length : Int) := dcd
          obtain ⟨ad755, e755, hx755_0⟩ := Kd.at_int HR0.out a1 p755 q755
          obtain rfl : ad754 = ad755 := (by injection e755)
          replace p755 := eq_true p755
          replace q755 := eq_true q755
          go_wp2
          repeat (go_quiet (fail); try go_wp2)
          go_ret
          exact ⟨by first | rfl | (simp; done) | (simp only [← hji4] <;> (first | rfl | simp)) | (simp [*]; done), by repeat (first | exact Drawn0.refl _ | apply Drawn0.step)⟩
      · rw [if_neg c3] at H
        have c3b0 := decide_eq_false c3
        clear c3
        obtain rfl := Option.some.inj H
        go_wp2
        repeat (go_quiet (fail); try go_wp2)
        go_ret
        exact ⟨by first | rfl | (simp; done) | (simp [*]; done), by repeat (first | exact Drawn0.refl _ | apply Drawn0.step)⟩

/-! ### impl_BitsSize: function 71 -/
def impl_BitsSize.f (a0 : Int) (a1 : Int) : Option (Int) := (impl_within.f a0 0 2000).bind fun t756 => (if t756 = true then ((impl_within.f a1 0 62).bind fun t757 => (if t757 = true then (some (wrap64 (Int.tdiv (wrap64 ((wrap64 (a0 * a1)) + 7)) 8))) else (some (-1)))) else (some (-1)))
set_option maxHeartbeats 8000000 in
set_option maxRecDepth 100000 in
theorem impl_BitsSize.calls (a0 : Int) (a1 : Int) (r : Int) (w : World) (h : impl_BitsSize.f a0 a1 = some r) :
    Calls Try.prog 71 #[.int .i64 a0, .int .i64 a1] w fun e w' => e = .returned (.int .i64 r) ∧ Drawn0 w w' := by
  have H : ((impl_within.f a0 0 2000).bind fun t756 => (if t756 = true then ((impl_within.f a1 0 62).bind fun t757 => (if t757 = true then (some (wrap64 (Int.tdiv (wrap64 ((wrap64 (a0 * a1)) + 7)) 8))) else (some (-1)))) else (some (-1)))) = some r := h
  clear h
  replace H := bnd H
  obtain ⟨t756, A3, H⟩ := H
  by_cases c4 : t756 = true
  · subst c4
    replace H := ifp rfl H
    replace H := bnd H
    obtain ⟨t757, A5, H⟩ := H
    by_cases c6 : t757 = true
    · subst c6
      replace H := ifp rfl H
      obtain rfl := Option.some.inj H
      go_enter Try.func71, Try.ntmps71
      go_wp2_with (first | ((with_reducible refine gate_callee (f := 73) rfl ?_); refine gl_ (some 6) Try.func73 #[.int .i64 a0, .int .i64 0, .int .i64 2000] rfl ?_; (with_reducible refine (impl_within.calls a0 0 2000 true _ A3.out).mono ?_); rintro e w' ⟨rfl, ⟨nd, rfl⟩⟩; refine ⟨_, rfl, ?_⟩) | (go_at_call 73; (with_reducible refine (impl_within.calls a1 0 62 true _ A5.out).mono ?_); rintro e w' ⟨rfl, ⟨nd, rfl⟩⟩))
      go_ret
      exact ⟨by first | rfl | (simp; done) | (simp [*]; done), by repeat (first | exact Drawn0.refl _ | apply Drawn0.step)⟩
    · replace c6 := Bool.eq_false_iff.mpr c6
      subst c6
      replace H := ifn Bool.false_ne_true H
      obtain rfl := Option.some.inj H
      go_enter Try.func71, Try.ntmps71
      go_wp2_with (first | ((with_reducible refine gate_callee (f := 73) rfl ?_); refine gl_ (some 6) Try.func73 #[.int .i64 a0, .int .i64 0, .int .i64 2000] rfl ?_; (with_reducible refine (impl_within.calls a0 0 2000 true _ A3.out).mono ?_); rintro e w' ⟨rfl, ⟨nd, rfl⟩⟩; refine ⟨_, rfl, ?_⟩) | (go_at_call 73; (with_reducible refine (impl_within.calls a1 0 62 false _ A5.out).mono ?_); rintro e w' ⟨rfl, ⟨nd, rfl⟩⟩))
      go_ret
      exact ⟨by first | rfl | (simp; done) | (simp [*]; done), by repeat (first | exact Drawn0.refl _ | apply Drawn0.step)⟩
  · replace c4 := Bool.eq_false_iff.mpr c4
    subst c4
    replace H := ifn Bool.false_ne_true H
    obtain rfl := Option.some.inj H
    go_enter Try.func71, Try.ntmps71
    go_wp2_with (first | ((with_reducible refine gate_callee (f := 73) rfl ?_); refine gl_ (some 6) Try.func73 #[.int .i64 a0, .int .i64 0, .int .i64 2000] rfl ?_; (with_reducible refine (impl_within.calls a0 0 2000 false _ A3.out).mono ?_); rintro e w' ⟨rfl, ⟨nd, rfl⟩⟩; refine ⟨_, rfl, ?_⟩))
    go_ret
    exact ⟨by first | rfl | (simp; done) | (simp [*]; done), by repeat (first | exact Drawn0.refl _ | apply Drawn0.step)⟩

/-! ### impl_groupsFrom: function 72 -/
def impl_groupsFrom.l0 : Nat → List Int → Int → Int → Option (Int)
  | 0, _, _, _ => none
  | k + 1, x0, x1, x5 => if (wrap64 (x1 + (wrap64 (8 * x5)))) < (x0.length : Int) then ((impl_alikeFrom.f k x0 (wrap64 (x1 + (wrap64 (8 * x5))))).bind fun t758 => (if t758 < 8 then (impl_groupsFrom.l0 k x0 x1 (wrap64 (x5 + 1))) else (some x5))) else (some x5)
def impl_groupsFrom.f (k : Nat) (l0 : List Int) (a1 : Int) : Option (Int) := impl_groupsFrom.l0 k l0 a1 1
set_option maxHeartbeats 8000000 in
set_option maxRecDepth 100000 in
theorem impl_groupsFrom.calls (k : Nat) (A0 : Option Addr) (c0 : Nat) (l0 : List Int) (a1 : Int) (r : Int) (w : World) (hr0 : Kd.C (Kd.int .i64) w A0 l0.length l0) (hc0 : l0.length ≤ c0) (h : impl_groupsFrom.f k l0 a1 = some r) :
    Calls Try.prog 72 #[.slice A0 l0.length c0, .int .i64 a1] w fun e w' => e = .returned (.int .i64 r) ∧ Drawn0 w w' := by
  have HR0 := Aside0.mk hr0
  have HC0 := Aside0.mk hc0
  clear hr0 hc0
  have H : (impl_groupsFrom.l0 k l0 a1 1) = some r := h
  clear h
  have H' := Aside0.mk H
  clear H
  go_enter Try.func72, Try.ntmps72
  go_wp2
  go_loopg [5] k (fun kq v5 w' => ∃ (x5_1 : Int), v5 = .int .i64 x5_1 ∧ Aside0 (impl_groupsFrom.l0 kq l0 a1 x5_1 = some r) ∧ Aside0 (kq ≤ k) ∧ Drawn0 w w')
  case atStart => exact ⟨(1), sr, H', ⟨Nat.le_refl _⟩, by repeat (first | exact Drawn0.refl _ | apply Drawn0.step)⟩
  case round =>
    clear H'
    obtain ⟨x5_1, rfl, HA, HK1, ⟨m1, rfl⟩⟩ := hrel
    cases gk with
    | zero => exact absurd HA.out (by simp [impl_groupsFrom.l0])
    | succ k1 =>
      have H := HA.out
      clear HA
      simp only [impl_groupsFrom.l0] at H
      by_cases c3 : (wrap64 (a1 + (wrap64 (8 * x5_1)))) < (l0.length : Int)
      · rw [if_pos c3] at H
        have c3b0 := decide_eq_true c3
        clear c3
        replace H := bnd H
        obtain ⟨t758, A4, H⟩ := H
        by_cases c5 : t758 < 8
        · rw [if_pos c5] at H
          have c5b0 := decide_eq_true c5
          clear c5
          have H' := Aside0.mk H
          clear H
          go_wp2_with (first | (go_at_call 70; (with_reducible refine (impl_alikeFrom.calls k1 _ _ l0 (wrap64 (a1 + (wrap64 (8 * x5_1)))) t758 _ ?side1 ?side2 A4.out).mono ?_); (case side1 => exact C_later HR0.out); (case side2 => exact HC0.out); rintro e w' ⟨rfl, ⟨nd, rfl⟩⟩))
          go_roundg k1
          case measure => have := HK1.out; omega
          case rel => exact ⟨(wrap64 (x5_1 + 1)), sr, H', ⟨by have := HK1.out; omega⟩, by repeat (first | exact Drawn0.refl _ | apply Drawn0.step)⟩
        · rw [if_neg c5] at H
          have c5b0 := decide_eq_false c5
          clear c5
          obtain rfl := Option.some.inj H
          go_wp2_with (first | (go_at_call 70; (with_reducible refine (impl_alikeFrom.calls k1 _ _ l0 (wrap64 (a1 + (wrap64 (8 * x5_1)))) t758 _ ?side1 ?side2 A4.out).mono ?_); (case side1 => exact C_later HR0.out); (case side2 => exact HC0.out); rintro e w' ⟨rfl, ⟨nd, rfl⟩⟩))
          go_ret
          exact ⟨by first | rfl | (simp; done) | (simp [*]; done), by repeat (first | exact Drawn0.refl _ | apply Drawn0.step)⟩
      · rw [if_neg c3] at H
        have c3b0 := decide_eq_false c3
        clear c3
        obtain rfl := Option.some.inj H
        go_wp2
        go_ret
        exact ⟨by first | rfl | (simp; done) | (simp [*]; done), by repeat (first | exact Drawn0.refl _ | apply Drawn0.step)⟩

end Go.Proofs.Ytkocikdceojnmaa.PFnExactEncPack
