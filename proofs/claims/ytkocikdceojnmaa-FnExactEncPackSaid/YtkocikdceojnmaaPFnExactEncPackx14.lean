/- The machine's side of FnExactEncPack, written by wip/tools/hyb.py of this repo: each Go function as a plain Lean function, and the proof that the call comes to just its answer. No condition. -/
import Derived.Test.YtkocikdceojnmaaPFnExactEncPackx0
import Derived.Test.YtkocikdceojnmaaPFnExactEncPackx9
import Derived.Test.YtkocikdceojnmaaPFnExactEncPackx10
import Derived.Test.YtkocikdceojnmaaPFnExactEncPackx11
import Derived.Test.YtkocikdceojnmaaPFnExactEncPackx12
import Derived.Test.YtkocikdceojnmaaPFnExactEncPackx13
namespace Go.Proofs.Ytkocikdceojnmaa.PFnExactEncPack
open Go.RowKit Go.Proofs.YtkocikdceojnmaaW.PrintWords Go.Proofs.YtkocikdceojnmaaW.PrintLast Go.Proofs.YtkocikdceojnmaaW.PrintMore Go.Proofs.YtkocikdceojnmaaW.PrintMore2
attribute [local go_sem] max2_int min2_int max_two min_two max_three min_three max_four min_four   -- for this text's walks alone
set_option linter.unusedVariables false
set_option linter.unusedSimpArgs false

/-! ### impl_RunPack: function 35 -/
mutual
def impl_RunPack.j0 : Nat → List Int → Int → Bool → Option (List Int × Bool)
  | 0, _, _, _ => none
  | k + 1, x0, x1, x24 => if x24 = true then (some (([] : List Int), false)) else (impl_RunPack.l0 k x0 x1 (([] : List Int)) 0)
def impl_RunPack.l0 : Nat → List Int → Int → List Int → Int → Option (List Int × Bool)
  | 0, _, _, _, _ => none
  | k + 1, x0, x1, x8, x9 => if x9 < (x0.length : Int) then ((impl_alikeFrom.f k x0 x9).bind fun t766 => (if t766 ≥ 8 then ((impl_UvarPut.f k (wrap64 (2 * t766))).bind fun t767 => (if x8.length + t767.length < 140737488355328 then ((some (x8 ++ t767 : List Int)).bind fun y770 => (if 0 ≤ x9 then ((impl_BitsSize.f 1 x1).bind fun t774 => ((impl_WordPut.f k (rd x0 x9) t774).bind fun t775 => (if y770.length + t775.length < 140737488355328 then (impl_RunPack.l0 k x0 x1 (y770 ++ t775) (wrap64 (x9 + t766))) else (none)))) else (none))) else (none))) else ((impl_groupsFrom.f k x0 x9).bind fun t781 => (if 0 ≤ (wrap64 (8 * t781)) then (if (wrap64 (8 * t781) : Int).toNat ≤ 35184372088832 then (if 0 ≤ x9 then (if x9 ≤ (x0.length : Int) then ((impl_UvarPut.f k (wrap64 ((wrap64 (2 * t781)) + 1))).bind fun t788 => (if x8.length + t788.length < 140737488355328 then ((some (x8 ++ t788 : List Int)).bind fun y791 => ((impl_packed.f k (Go.Proofs.YtkocikdceojnmaaW.PrintMore2.copyL (List.replicate (wrap64 (8 * t781) : Int).toNat 0) (x0.drop (x9 : Int).toNat)) x1).bind fun t794 => (if y791.length + t794.length < 140737488355328 then (impl_RunPack.l0 k x0 x1 (y791 ++ t794) (mn (wrap64 (x9 + (wrap64 (8 * t781)))) (x0.length : Int))) else (none)))) else (none))) else (none)) else (none)) else (none)) else (none))))) else (some (x8, true))
end
def impl_RunPack.f (k : Nat) (l0 : List Int) (a1 : Int) : Option (List Int × Bool) := (impl_BitsPack.f k l0 a1).bind fun bt759 => (if bt759.2 = true then (impl_RunPack.j0 k l0 a1 (decide (a1 > 24))) else (impl_RunPack.j0 k l0 a1 true))
def impl_RunPack.T10 : Bool × List (List Nat × List Nat) := (true, [([], []), ([], []), ([], []), ([1, 2], [1, 2]), ([3], [3]), ([], []), ([5], [5]), ([4, 6, 6], [4, 6]), ([0, 7, 7], [0, 7]), ([8, 8, 0, 1, 2, 3, 4, 5, 6, 7, 8], [0, 8])])
def impl_RunPack.B10 : List Nat := [0, 0, 0, 6, 14, 0, 32, 126, 255, 511]
theorem impl_RunPack.tab10 : rtab .any (opsOf Try.f35 10) = impl_RunPack.T10 := by kernel_rfl
theorem impl_RunPack.bits10 : waitsOk impl_RunPack.T10.2 impl_RunPack.B10 = true := by kernel_rfl
set_option maxHeartbeats 8000000 in
set_option maxRecDepth 100000 in
theorem impl_RunPack.calls (k : Nat) (A0 : Option Addr) (c0 : Nat) (l0 : List Int) (a1 : Int) (r1 : List Int) (r2 : Bool) (w : World) (hr0 : Kd.C (Kd.int .i64) w A0 l0.length l0) (hc0 : l0.length ≤ c0) (h : impl_RunPack.f k l0 a1 = some (r1, r2)) :
    Calls Try.prog 35 #[.slice A0 l0.length c0, .int .i64 a1] w fun e w' => ∃ v0_ : Value, e = .returned (.tuple #[v0_, .bool r2]) ∧ Kd.R (Kd.int .u8) 5 w' w.heap.size (fun _ => True) v0_ r1 ∧ Below w.heap.size w w' := by
  have HR0 := Aside0.mk hr0
  have HC0 := Aside0.mk hc0
  clear hr0 hc0
  have HB := Aside0.mk (Below.refl w.heap.size w)
  have H : ((impl_BitsPack.f k l0 a1).bind fun bt759 => (if bt759.2 = true then (impl_RunPack.j0 k l0 a1 (decide (a1 > 24))) else (impl_RunPack.j0 k l0 a1 true))) = some (r1, r2) := h
  clear h
  replace H := Option.bind_eq_some_iff.mp H
  obtain ⟨⟨t759, t760⟩, A30, H⟩ := H
  replace H : (if t760 = true then (impl_RunPack.j0 k l0 a1 (decide (a1 > 24))) else (impl_RunPack.j0 k l0 a1 true)) = some (r1, r2) := H
  have A3 := Aside0.mk A30
  clear A30
  have HC4 := Aside0.mk H
  clear H
  go_enter Try.func35, Try.ntmps35
  go_upto_region 2 with (first | ((with_reducible refine gate_callee (f := 69) rfl ?_); refine gl_ (some 16) Try.func69 #[.slice A0 l0.length c0, .int .i64 a1] rfl ?_; (with_reducible refine (impl_BitsPack.calls k _ _ l0 a1 t759 t760 _ ?side1 ?side2 A3.out).mono ?_); (case side1 => exact C_later HR0.out); (case side2 => exact HC0.out); rintro e w5 ⟨v761, rfl, ho0, hb⟩; refine ⟨_, rfl, ?_⟩; have HO762 := Aside0.mk (Kd.R_lower ho0 (below_size (below_later HB.out))); replace HB := bst HB hb; (try clear hb); (try clear ho0)))
  (try simp only [Act.put, List.setIfInBounds_toArray, List.set_cons_zero, List.set_cons_succ])
  go_cut [24] (fun v24 wc => ∃ (kq : Nat) (x24_3 : Bool), v24 = .bool x24_3 ∧ Aside0 (impl_RunPack.j0 kq l0 a1 x24_3 = some (r1, r2)) ∧ Aside0 (kq ≤ k) ∧ Aside0 (Below w.heap.size w wc))
  case first =>
    have H := HC4.out
    clear HC4
    by_cases c6 : t760 = true
    · subst c6
      replace H := ifp rfl H
      have H' := Aside0.mk H
      clear H
      go_wp2
      go_meet
      case rel => exact ⟨_, (decide (a1 > 24)), sr, H', ⟨by first | omega | exact Nat.le_refl _⟩, ⟨below_later HB.out⟩⟩
    · replace c6 := Bool.eq_false_iff.mpr c6
      subst c6
      replace H := ifn Bool.false_ne_true H
      have H' := Aside0.mk H
      clear H
      go_wp2
      go_meet
      case rel => exact ⟨_, (true), sr, H', ⟨by first | omega | exact Nat.le_refl _⟩, ⟨below_later HB.out⟩⟩
  case rest =>
    clear HC4
    obtain ⟨kq, x24_3, rfl, HA, HJ3, HB⟩ := hcut
    cases kq with
    | zero => exact absurd HA.out (by simp [impl_RunPack.j0])
    | succ kj3 =>
      have H := HA.out
      clear HA
      simp only [impl_RunPack.j0] at H
      by_cases c7 : x24_3 = true
      · subst c7
        replace H := ifp rfl H
        simp only [Option.some.injEq, Prod.mk.injEq] at H
        obtain ⟨rfl, rfl⟩ := H
        go_wp2
        go_ret2
        exact ⟨_, by first | rfl | (simp [errW_none, errW_some] <;> rfl) | (simp [*, errW_none, errW_some] <;> rfl), by first | exact Kd.R_nil _ _ _ _ _ | exact Kd.N_nil _ _ _ _ _ | exact Kd.V_nil _ _ _ _ _ | exact Kd.Q_nil _ _ _ _ _ | exact Kd.S_nil _ _ _ _ _, below_later HB.out⟩
      · replace c7 := Bool.eq_false_iff.mpr c7
        subst c7
        replace H := ifn Bool.false_ne_true H
        obtain ⟨y763, hy763⟩ : ∃ y_ : List Int, y_ = (([] : List Int)) := ⟨_, rfl⟩
        replace H : (impl_RunPack.l0 kj3 l0 a1 y763 0) = some (r1, r2) := by first | (rw [hy763]; with_reducible exact H) | (rw [hy763]; exact H) | exact H
        have Ny763 := Aside0.mk hy763
        clear hy763
        have H' := Aside0.mk H
        clear H
        go_wp2_with (first | ((with_reducible refine gate_dst (N := 25) rfl ?_); refine Kd.R_lit (Kd.int .u8) _ 5 ?hg (N := 25) ?hd (xs := ([] : List Int)) (inner := []) (ok := fun _ => True) (okp := fun _ => True) ?hr ?hp (fun _ hk => hk) trivial (Below.refl _ _) (Nat.le_refl _) (by simp) ?_; (case hd => rfl); (case hg => rfl); (case hr => first | (go_simp; done) | (go_simp; rfl)); (case hp => exact (Reps.none _ _)); intro v764 w8 ho9 hb hg_ hnew_; clear hg_ hnew_; (first | rw [← Ny763.out] at ho9 | (simp only [Int.reduceToNat] at ho9; rw [← Ny763.out] at ho9)); have HO765 := Aside0.mk (Kd.R_lower ho9 (below_size (below_later HB.out))); replace HB := bst HB hb; clear hb ho9))
        go_loopg [8, 9] kj3 (fun kq v8 v9 w' => ∃ (x8_2 : List Int) (x9_2 : Int), v9 = .int .i64 x9_2 ∧ Aside0 (impl_RunPack.l0 kq l0 a1 x8_2 x9_2 = some (r1, r2)) ∧ Aside0 (kq ≤ kj3) ∧ Aside0 (Kd.R (Kd.int .u8) 5 w' w.heap.size (fun _ => True) v8 x8_2) ∧ Aside0 (Below w.heap.size w w'))
        case atStart => exact ⟨(y763), (0), sr, H', ⟨Nat.le_refl _⟩, ⟨R_later HO765.out⟩, ⟨below_later HB.out⟩⟩
        case round =>
          clear H'
          try clear c7
          obtain ⟨x8_2, x9_2, rfl, HA, HK2, HO_8, HB⟩ := hrel
          cases gk with
          | zero => exact absurd HA.out (by simp [impl_RunPack.l0])
          | succ k2 =>
            have H := HA.out
            clear HA
            simp only [impl_RunPack.l0] at H
            by_cases c10 : x9_2 < (l0.length : Int)
            · rw [if_pos c10] at H
              have c10b0 := decide_eq_true c10
              clear c10
              replace H := bnd H
              obtain ⟨t766, A11, H⟩ := H
              by_cases c12 : t766 ≥ 8
              · rw [if_pos c12] at H
                have c12b0 : decide (8 ≤ t766) = true := decide_eq_true c12
                clear c12
                replace H := bnd H
                obtain ⟨t767, A13, H⟩ := H
                replace H := ifs H
                obtain ⟨c14, H⟩ := H
                have LMc14 := Aside0.mk c14
                clear c14
                replace H := bsm H
                obtain ⟨y770, Ny770, H⟩ := H
                replace H := ifd H
                obtain ⟨c15b0, H⟩ := H
                replace H := bnd H
                obtain ⟨t774, A16, H⟩ := H
                replace H := bnd H
                obtain ⟨t775, A17, H⟩ := H
                replace H := ifs H
                obtain ⟨c18, H⟩ := H
                have LMc18 := Aside0.mk c18
                clear c18
                obtain ⟨y778, hy778⟩ : ∃ y_ : List Int, y_ = (y770 ++ t775) := ⟨_, rfl⟩
                replace H : (impl_RunPack.l0 k2 l0 a1 y778 (wrap64 (x9_2 + t766))) = some (r1, r2) := by first | (rw [hy778]; with_reducible exact H) | (rw [hy778]; exact H) | exact H
                have Ny778 := Aside0.mk hy778
                clear hy778
                have H' := Aside0.mk H
                clear H
                try go_wp2_with (first | ((with_reducible refine gate_callee (f := 70) rfl ?_); refine gl_ (some 32) Try.func70 #[.slice A0 l0.length c0, .int .i64 x9_2] rfl ?_; (with_reducible refine (impl_alikeFrom.calls k2 _ _ l0 x9_2 t766 _ ?side1 ?side2 A11.out).mono ?_); (case side1 => repeat (first | exact (Kd.C_below HR0.out HB.out) | (with_reducible refine Kd.C_alloc ?_ _) | (with_reducible refine Kd.C_drewN ?_ _) | (with_reducible refine Kd.C_drew ?_))); (case side2 => exact HC0.out); rintro e w' ⟨rfl, ⟨nd, rfl⟩⟩; refine ⟨_, rfl, ?_⟩) | ((with_reducible refine gate_callee (f := 62) rfl ?_); refine gl_ (some 38) Try.func62 #[.int .i64 (wrap64 (2 * t766))] rfl ?_; (with_reducible refine (impl_UvarPut.calls k2 (wrap64 (2 * t766)) t767 _ A13.out).mono ?_); rintro e w19 ⟨v768, rfl, ho0, hb⟩; refine ⟨_, rfl, ?_⟩; have HO769 := Aside0.mk (Kd.R_lower (Kd.R_new' ho0 (Kd.R_lt (R_later HO_8.out))) (below_size (below_later HB.out))); replace HO_8 := Aside0.mk (Kd.R_elder' (R_later HO_8.out) (Kd.R_base ho0) hb); replace HB := bst HB hb; (try clear hb); (try clear hk); (try clear ho0); obtain ⟨Ao21, co21, eo21⟩ := Kd.R_slice HO769.out; subst eo21) | ((with_reducible refine gate_builtin (b := .append) (xs := #[.tmp 35, .tmp 38]) rfl ?_); at_builtin; refine Kd.R_append_rows (Kd.int .u8) (w0 := w) w.heap.size rfl (.tmp 35) (.tmp 38) 24 5 (.int .u8 0) 1 rfl Try.underlying24 info5 rfl (by decide) (by omega) u8 x8_2 t767 _ _ _ (fun k_ => some k_ ≠ (.slice Ao21 t767.length co21 : Value).ownBlock) (fun _ => False) rfl rfl ?aO ?aR (fun _ _ h => h) (fun _ h => h.elim) ?aF ?aB ?aS ?aL ?_; (case aR => repeat (first | exact (Kd.R_reads' HO769.out).2.2 | (with_reducible refine Kd.C_alloc ?_ _) | (with_reducible refine Kd.C_drewN ?_ _) | (with_reducible refine Kd.C_drew ?_))); (case aB => exact (below_later HB.out)); (case aF => exact (fun k_ hk => Kd.fresh' (Kd.R_lt (R_later HO769.out)) k_ hk)); (case aO => exact (by (with_reducible repeat (first | apply Kd.R_alloc | apply Kd.R_drewN | apply Kd.R_drew)); exact Kd.R_mono HO_8.out (fun _ hk => hk.2))); (case aS => exact (below_size (below_later HB.out))); (case aL => have := LMc14.out; omega); intro v771 w20 ho hb hg hat; rw [← Ny770.out] at ho; have n0_ := Aside0.mk (Kd.R_after (ok := (fun _ => True)) (R_later HO769.out) hg hat); have n1_ := Aside0.mk (hb); have n2_ := Aside0.mk (ho); clear HO769; clear HB; clear HO_8; have HO769 := n0_; have HB := n1_; have HO772 := n2_; clear n0_ n1_ n2_; clear ho hb hg hat))
                have n0_ := Aside0.mk (Kd.R_drew HO769.out)
                have n1_ := Aside0.mk (Kd.R_drew HO772.out)
                have n2_ := Aside0.mk (below_drew1 HB.out)
                clear HO769
                clear HO772
                clear HB
                have HO769 := n0_
                have HO772 := n1_
                have HB := n2_
                clear n0_ n1_ n2_
                have p773 : 0 ≤ (x9_2 : Int) := dcd
                have q773 : x9_2 < (l0.length : Int) := dcd
                obtain ⟨ad773, e773, hx773_0⟩ := Kd.at_int HR0.out x9_2 p773 q773
                have hw773_0 := hx773_0
                cases e773
                replace hx773_0 := crd HB hx773_0
                replace p773 := eq_true p773
                replace q773 := eq_true q773
                refine start_ (n := 10) (S := fun w' => w'.cell? (ad773.add (x9_2).toNat) = some (.int .i64 (rd l0 x9_2))) (ds := []) #[false, false, false, false, false, false, false, false, false, false] (by kernel_rfl) rfl rfl (((HB.out.cell (World.block_lt_of_cell? w _ hw773_0)).trans hw773_0)) (fun hHeld => ?_); refine with_tabW impl_RunPack.tab10 impl_RunPack.bits10 (fun HT_ HW_ => ?_)
                generalize w20.drew = w22 at HO769 HO772 HB hx773_0 hHeld ⊢
                refine pure_ (i := 0) (N := some 40) (v := ?_) (a' := ?_) #[true, false, false, false, false, false, false, false, false, false] rfl rfl (any_of HT_.out (by kernel_rfl)) (fun _ _ _ h => h) (Or.inl ⟨by rfl, ?_⟩) ?_ ?_
                rotate_left
                · intro w'
                  go_simp
                  with_reducible rfl
                rotate_left
                · simp only [Act.put, List.setIfInBounds_toArray, List.set_cons_zero, List.set_cons_succ, i64_w, i32_w]
                  rfl
                refine pure_ (i := 1) (N := some 41) (v := ?_) (a' := ?_) #[true, true, false, false, false, false, false, false, false, false] rfl rfl (any_of HT_.out (by kernel_rfl)) (fun _ _ _ h => h) (Or.inl ⟨by rfl, ?_⟩) ?_ ?_
                rotate_left
                · intro w'
                  go_simp
                  with_reducible rfl
                rotate_left
                · simp only [Act.put, List.setIfInBounds_toArray, List.set_cons_zero, List.set_cons_succ, i64_w, i32_w]
                  rfl
                refine pure_ (i := 2) (N := some 42) (v := ?_) (a' := ?_) #[true, true, true, false, false, false, false, false, false, false] rfl rfl (any_of HT_.out (by kernel_rfl)) (fun _ _ _ h => h) (Or.inl ⟨by rfl, ?_⟩) ?_ ?_
                rotate_left
                · intro w'
                  go_simp
                  with_reducible rfl
                rotate_left
                · simp only [Act.put, List.setIfInBounds_toArray, List.set_cons_zero, List.set_cons_succ, i64_w, i32_w]
                  rfl
                refine pure_ (i := 3) (N := some 43) (v := ?_) (a' := ?_) #[true, true, true, true, false, false, false, false, false, false] rfl rfl (any_of HT_.out (by kernel_rfl)) (fun _ _ _ h => h) (Or.inl ⟨by rfl, ?_⟩) ?_ ?_
                rotate_left
                · intro w'
                  go_simp
                  with_reducible rfl
                rotate_left
                · simp only [Act.put, List.setIfInBounds_toArray, List.set_cons_zero, List.set_cons_succ, i64_w, i32_w]
                  rfl
                refine pure_ (i := 5) (N := some 45) (v := ?_) (a' := ?_) #[true, true, true, true, false, true, false, false, false, false] rfl rfl (any_of HT_.out (by kernel_rfl)) (fun _ _ _ h => h) (Or.inl ⟨by rfl, ?_⟩) ?_ ?_
                rotate_left
                · intro w'
                  go_simp
                  with_reducible rfl
                rotate_left
                · simp only [Act.put, List.setIfInBounds_toArray, List.set_cons_zero, List.set_cons_succ, i64_w, i32_w]
                  rfl
                refine take_ (i := 4) (N := some 44) (v := ?_) (a' := ?_) #[true, true, true, true, true, true, false, false, false, false] rfl rfl (take_ofW HT_.out HW_.out (by kernel_rfl)) (fun _ _ _ h => h) (Or.inl ⟨by rfl, ?_⟩) hHeld ?_ ?_
                rotate_left
                · intro w' s0
                  go_simp
                  with_reducible rfl
                rotate_left
                · simp only [Act.put, List.setIfInBounds_toArray, List.set_cons_zero, List.set_cons_succ, i64_w, i32_w]
                  rfl
                refine one_ (i := 6) (N := some 46) #[true, true, true, true, true, true, true, false, false, false] rfl rfl (one_of HT_.out (by kernel_rfl)) (by decide) (fun K hK => ?_)
                refine goes_ Try.func71 (by kernel_rfl) rfl #[.int .i64 1, .int .i64 a1] (by rfl) rfl rfl (by (try simp only [List.map_toArray, List.map_cons, List.map_nil]); first | done | rfl | (simp only [List.length_drop, List.length_take]; rfl)) ?_
                with_reducible refine (impl_BitsSize.calls 1 a1 t774 _ A16.out).mono ?_
                rintro e w' ⟨rfl, ⟨nd, rfl⟩⟩
                refine ⟨_, rfl, ?_⟩
                refine hK.out _ _ (((HB.out.cell (World.block_lt_of_cell? w _ hw773_0)).trans hw773_0)) (fun hHeld => ?_)
                clear hK K
                refine norm_ (a' := ?_) ?_ ?_
                rotate_left
                · show Act.put _ (some 46) _ = _
                  simp only [Act.put, List.setIfInBounds_toArray, List.set_cons_zero, List.set_cons_succ, i64_w, i32_w]
                  rfl
                refine one_ (i := 7) (N := some 47) #[true, true, true, true, true, true, true, true, false, false] rfl rfl (one_of HT_.out (by kernel_rfl)) (by decide) (fun K hK => ?_)
                refine goes_ Try.func36 (by kernel_rfl) rfl #[.int .i64 (rd l0 x9_2), .int .i64 t774] (by rfl) rfl rfl (by (try simp only [List.map_toArray, List.map_cons, List.map_nil]); first | done | rfl | (simp only [List.length_drop, List.length_take]; rfl)) ?_
                with_reducible refine (impl_WordPut.calls k2 (rd l0 x9_2) t774 t775 _ A17.out).mono ?_
                rintro e w23 ⟨v776, rfl, ho0, hb⟩
                refine ⟨_, rfl, ?_⟩
                have n0_ := Aside0.mk (Kd.R_elder' (R_later HO769.out) (Kd.R_base ho0) hb)
                have n1_ := Aside0.mk (Kd.R_elder' (R_later HO772.out) (Kd.R_base ho0) hb)
                have n2_ := Aside0.mk (Kd.R_lower (Kd.R_new' (Kd.R_new' ho0 (Kd.R_lt (R_later HO769.out))) (Kd.R_lt (R_later HO772.out))) (below_size (below_later HB.out)))
                have n3_ := bst HB hb
                clear HO769
                clear HO772
                clear HB
                have HO769 := n0_
                have HO772 := n1_
                have HO777 := n2_
                have HB := n3_
                clear n0_ n1_ n2_ n3_
                (try clear hb)
                (try clear hb2)
                (try clear hk)
                (try clear hi)
                (try clear ho0)
                obtain ⟨Ao25, co25, eo25⟩ := Kd.R_slice HO777.out
                (first | subst eo25 | (injection eo25 with f1_ f2_ f3_; have f4_ := f1_.symm; have f5_ := f3_.symm; clear f1_ f2_ f3_; subst f4_; subst f5_))
                refine hK.out _ _ (((HB.out.cell (World.block_lt_of_cell? w _ hw773_0)).trans hw773_0)) (fun hHeld => ?_)
                clear hK K
                refine norm_ (a' := ?_) ?_ ?_
                rotate_left
                · show Act.put _ (some 47) _ = _
                  simp only [Act.put, List.setIfInBounds_toArray, List.set_cons_zero, List.set_cons_succ, i64_w, i32_w]
                  rfl
                refine one_ (i := 8) (N := some 48) #[true, true, true, true, true, true, true, true, true, false] rfl rfl (one_of HT_.out (by kernel_rfl)) (by decide) (fun K hK => ?_)
                refine Kd.R_append_rows_step (Kd.int .u8) (w0 := w) w.heap.size (by rfl) (.tmp 40) (.tmp 47) 24 5 (.int .u8 0) 1 rfl Try.underlying24 info5 rfl (by decide) (by omega) v771 y770 t775 _ _ _ (fun k_ => some k_ ≠ (.slice Ao21 t767.length co21 : Value).ownBlock ∧ some k_ ≠ (.slice Ao25 t775.length co25 : Value).ownBlock) (fun _ => False) rfl rfl ?aO ?aR (fun _ _ h => h) (fun _ h => h.elim) ?aF ?aB ?aS ?aL ?_
                (case aR => repeat (first | exact (Kd.R_reads' HO777.out).2.2 | (with_reducible refine Kd.C_alloc ?_ _) | (with_reducible refine Kd.C_drewN ?_ _) | (with_reducible refine Kd.C_drew ?_)))
                (case aB => exact (below_later HB.out))
                (case aF => exact (fun k_ hk => ⟨Kd.fresh' (Kd.R_lt (R_later HO769.out)) k_ hk, Kd.fresh' (Kd.R_lt (R_later HO777.out)) k_ hk⟩))
                (case aO => exact (R_later HO772.out))
                (case aS => exact (below_size (below_later HB.out)))
                (case aL => have := LMc18.out; omega)
                intro v779 w24 ho hb hg hat
                rw [← Ny778.out] at ho
                have n0_ := Aside0.mk (Kd.R_after (ok := (fun k_ => some k_ ≠ (.slice Ao25 t775.length co25 : Value).ownBlock)) (by (with_reducible repeat (first | apply Kd.R_alloc | apply Kd.R_drewN | apply Kd.R_drew)); exact Kd.R_mono HO769.out (fun _ hk => ⟨hk.2, hk.1.2⟩)) hg hat)
                have n1_ := Aside0.mk (Kd.R_after (ok := (fun k_ => some k_ ≠ (.slice Ao21 t767.length co21 : Value).ownBlock)) (by (with_reducible repeat (first | apply Kd.R_alloc | apply Kd.R_drewN | apply Kd.R_drew)); exact Kd.R_mono HO777.out (fun _ hk => ⟨hk.1.2, hk.2⟩)) hg hat)
                have n2_ := Aside0.mk (hb)
                have n3_ := Aside0.mk (ho)
                clear HO769
                clear HO777
                clear HB
                clear HO772
                have HO769 := n0_
                have HO777 := n1_
                have HB := n2_
                have HO780 := n3_
                clear n0_ n1_ n2_ n3_
                clear ho hb hg hat
                refine hK.out _ _ (((HB.out.cell (World.block_lt_of_cell? w _ hw773_0)).trans hw773_0)) (fun hHeld => ?_)
                clear hK K
                refine norm_ (a' := ?_) ?_ ?_
                rotate_left
                · show Act.put _ (some 48) _ = _
                  simp only [Act.put, List.setIfInBounds_toArray, List.set_cons_zero, List.set_cons_succ, i64_w, i32_w]
                  rfl
                refine pure_ (i := 9) (N := some 8) (v := ?_) (a' := ?_) #[true, true, true, true, true, true, true, true, true, true] rfl rfl (any_of HT_.out (by kernel_rfl)) (fun _ _ _ h => h) (Or.inl ⟨by rfl, ?_⟩) ?_ ?_
                rotate_left
                · intro w'
                  go_simp
                  with_reducible rfl
                rotate_left
                · simp only [Act.put, List.setIfInBounds_toArray, List.set_cons_zero, List.set_cons_succ, i64_w, i32_w]
                  rfl
                refine done_ (done_of HT_.out (by kernel_rfl)) ?_
                try go_wp2
                go_roundg k2
                case measure => have := HJ3.out; have := HK2.out; omega
                case rel => exact ⟨(y778), (wrap64 (x9_2 + t766)), sr, H', ⟨by have := HJ3.out; have := HK2.out; omega⟩, ⟨R_later (Kd.R_mono HO780.out (fun _ hk => trivial))⟩, ⟨below_later HB.out⟩⟩
              · rw [if_neg c12] at H
                have c12b0 : decide (8 ≤ t766) = false := decide_eq_false c12
                clear c12
                replace H := bnd H
                obtain ⟨t781, A26, H⟩ := H
                obtain ⟨ji27, hji27⟩ : ∃ j_ : Int, (wrap64 (8 * t781)) = j_ := ⟨_, rfl⟩
                replace H : (if 0 ≤ (ji27) then (if (ji27 : Int).toNat ≤ 35184372088832 then (if 0 ≤ x9_2 then (if x9_2 ≤ (l0.length : Int) then ((impl_UvarPut.f k2 (wrap64 ((wrap64 (2 * t781)) + 1))).bind fun t788 => (if x8_2.length + t788.length < 140737488355328 then ((some (x8_2 ++ t788 : List Int)).bind fun y791 => ((impl_packed.f k2 (Go.Proofs.YtkocikdceojnmaaW.PrintMore2.copyL (List.replicate (ji27 : Int).toNat 0) (l0.drop (x9_2 : Int).toNat)) a1).bind fun t794 => (if y791.length + t794.length < 140737488355328 then (impl_RunPack.l0 k2 l0 a1 (y791 ++ t794) (mn (wrap64 (x9_2 + (ji27))) (l0.length : Int))) else (none)))) else (none))) else (none)) else (none)) else (none)) else (none)) = some (r1, r2) := by first | (rw [hji27] at H; exact H) | (simp only [hji27] at H ⊢; exact H)
                (try rw [hji27] at A11)
                (try rw [hji27] at A26)
                have hji27w : (IntKind.i64.wrap (8 * t781)) = ji27 := (i64_w _).trans hji27
                replace H := ifs H
                obtain ⟨c28, H⟩ := H
                have c28b0 := eq_true c28
                have c28b1 := decide_eq_true c28
                clear c28
                replace H := ifs H
                obtain ⟨c29, H⟩ := H
                have c29b0 := eq_true c29
                have c29b1 := decide_eq_true c29
                clear c29
                obtain ⟨y782, hy782⟩ : ∃ y_ : List Int, y_ = (List.replicate (ji27 : Int).toNat 0) := ⟨_, rfl⟩
                replace H : (if 0 ≤ x9_2 then (if x9_2 ≤ (l0.length : Int) then ((impl_UvarPut.f k2 (wrap64 ((wrap64 (2 * t781)) + 1))).bind fun t788 => (if x8_2.length + t788.length < 140737488355328 then ((some (x8_2 ++ t788 : List Int)).bind fun y791 => ((impl_packed.f k2 (Go.Proofs.YtkocikdceojnmaaW.PrintMore2.copyL y782 (l0.drop (x9_2 : Int).toNat)) a1).bind fun t794 => (if y791.length + t794.length < 140737488355328 then (impl_RunPack.l0 k2 l0 a1 (y791 ++ t794) (mn (wrap64 (x9_2 + (ji27))) (l0.length : Int))) else (none)))) else (none))) else (none)) else (none)) = some (r1, r2) := by first | (rw [hy782]; with_reducible exact H) | (rw [hy782]; exact H) | exact H
                have Ny782 := Aside0.mk hy782
                clear hy782
                replace H := ifs H
                obtain ⟨c30, H⟩ := H
                have c30b0 := eq_true c30
                have c30b1 := decide_eq_true c30
                clear c30
                replace H := ifs H
                obtain ⟨c31, H⟩ := H
                have c31b0 := eq_true c31
                have c31b1 := decide_eq_true c31
                clear c31
                obtain ⟨y786, hy786⟩ : ∃ y_ : List Int, y_ = (Go.Proofs.YtkocikdceojnmaaW.PrintMore2.copyL y782 (l0.drop (x9_2 : Int).toNat)) := ⟨_, rfl⟩
                replace H : ((impl_UvarPut.f k2 (wrap64 ((wrap64 (2 * t781)) + 1))).bind fun t788 => (if x8_2.length + t788.length < 140737488355328 then ((some (x8_2 ++ t788 : List Int)).bind fun y791 => ((impl_packed.f k2 y786 a1).bind fun t794 => (if y791.length + t794.length < 140737488355328 then (impl_RunPack.l0 k2 l0 a1 (y791 ++ t794) (mn (wrap64 (x9_2 + (ji27))) (l0.length : Int))) else (none)))) else (none))) = some (r1, r2) := by first | (rw [hy786]; with_reducible exact H) | (rw [hy786]; exact H) | exact H
                have Ny786 := Aside0.mk hy786
                clear hy786
                replace H := bnd H
                obtain ⟨t788, A32, H⟩ := H
                replace H := ifs H
                obtain ⟨c33, H⟩ := H
                have LMc33 := Aside0.mk c33
                clear c33
                replace H := bsm H
                obtain ⟨y791, Ny791, H⟩ := H
                replace H := bnd H
                obtain ⟨t794, A34, H⟩ := H
                replace H := ifs H
                obtain ⟨c35, H⟩ := H
                have LMc35 := Aside0.mk c35
                clear c35
                obtain ⟨y797, hy797⟩ : ∃ y_ : List Int, y_ = (y791 ++ t794) := ⟨_, rfl⟩
                replace H : (impl_RunPack.l0 k2 l0 a1 y797 (mn (wrap64 (x9_2 + (ji27))) (l0.length : Int))) = some (r1, r2) := by first | (rw [hy797]; with_reducible exact H) | (rw [hy797]; exact H) | exact H
                have Ny797 := Aside0.mk hy797
                clear hy797
                obtain ⟨ji36, hji36⟩ : ∃ j_ : Int, (mn (wrap64 (x9_2 + (ji27))) (l0.length : Int)) = j_ := ⟨_, rfl⟩
                replace H : (impl_RunPack.l0 k2 l0 a1 y797 ji36) = some (r1, r2) := by first | (rw [hji36] at H; exact H) | (simp only [hji36] at H ⊢; exact H)
                (try rw [hji36] at A11)
                (try rw [hji36] at A26)
                (try rw [hji36] at A32)
                (try rw [hji36] at A34)
                have hji36_ : (if (l0.length : Int) < (wrap64 (x9_2 + (ji27))) then (l0.length : Int) else (wrap64 (x9_2 + (ji27)))) = ji36 := hji36
                have H' := Aside0.mk H
                clear H
                go_wp2_with (first | ((with_reducible refine gate_callee (f := 70) rfl ?_); refine gl_ (some 32) Try.func70 #[.slice A0 l0.length c0, .int .i64 x9_2] rfl ?_; (with_reducible refine (impl_alikeFrom.calls k2 _ _ l0 x9_2 t766 _ ?side1 ?side2 A11.out).mono ?_); (case side1 => repeat (first | exact (Kd.C_below HR0.out HB.out) | (with_reducible refine Kd.C_alloc ?_ _) | (with_reducible refine Kd.C_drewN ?_ _) | (with_reducible refine Kd.C_drew ?_))); (case side2 => exact HC0.out); rintro e w' ⟨rfl, ⟨nd, rfl⟩⟩; refine ⟨_, rfl, ?_⟩) | ((with_reducible refine gate_callee (f := 72) rfl ?_); refine gl_ (some 54) Try.func72 #[.slice A0 l0.length c0, .int .i64 x9_2] rfl ?_; (with_reducible refine (impl_groupsFrom.calls k2 _ _ l0 x9_2 t781 _ ?side1 ?side2 A26.out).mono ?_); (case side1 => repeat (first | exact (Kd.C_below HR0.out (below_later HB.out)) | (with_reducible refine Kd.C_alloc ?_ _) | (with_reducible refine Kd.C_drewN ?_ _) | (with_reducible refine Kd.C_drew ?_))); (case side2 => exact HC0.out); rintro e w' ⟨rfl, ⟨nd, rfl⟩⟩; refine ⟨_, rfl, ?_⟩) | ((with_reducible refine gate_dst (N := 57) rfl ?_); refine Kd.R_make (Kd.int .i64) _ 3 rfl (N := 57) rfl 41 _ _ rfl ji27 rfl rfl Try.underlying41 (.int .i64 0) 8 info3 rfl (by decide) (by omega) 0 (ok := fun _ => True) (okp := fun _ => True) rfl (fun _ hk => hk) trivial (dcd) (Nat.le_trans (Nat.mul_le_mul_right _ (dcd : ji27.toNat ≤ 35184372088832)) (by omega)) (Below.refl _ _) (Nat.le_refl _) ?_; intro v783 w37 ho38 hb hg_ hnew_; clear hg_ hnew_; (first | rw [← Ny782.out] at ho38 | (simp only [Int.reduceToNat] at ho38; rw [← Ny782.out] at ho38)); have HO784 := Aside0.mk (Kd.R_lower ho38 (below_size (below_later HB.out))); replace HO_8 := Aside0.mk (Kd.R_below (R_later HO_8.out) hb); replace HB := bst HB hb; clear hb ho38; obtain ⟨i039, hi039, _, hsz39, _⟩ := info_parts info3; obtain ⟨A39, hcut39, hA39, hC39⟩ := print_drop_of (P := Try.prog) (Value.int .i64) 0 41 3 .i64 Try.underlying41 hi039 hsz39 A0 c0 l0 x9_2 (dcd) (dcd) HC0.out; have HR785 := Aside0.mk (Kd.C_of_reads (h1 := fun _ => rfl) (hA39 _ (Kd.reads_of_C HR0.out))); have HC785 := Aside0.mk hC39; clear hA39 hC39 hi039 hsz39) | ((with_reducible refine gate_builtin (b := .copy) (xs := #[.tmp 58, .tmp 61]) rfl ?_); skip; refine Go.Proofs.YtkocikdceojnmaaW.PrintMore2.R_copy (k := .i64) (w0 := w) w.heap.size rfl (.tmp 58) (.tmp 61) 41 41 3 rfl Try.underlying41 (by kernel_rfl) v783 y782 (l0.drop (x9_2 : Int).toNat) _ _ _ (fun _ => True) rfl rfl ?aO ?aR ?aB ?aS ?_; (case aR => first | (rw [← show (l0.drop (x9_2 : Int).toNat).length = (l0.length - x9_2.toNat) from List.length_drop]; repeat (first | exact (Kd.C_below HR785.out HB.out) | (with_reducible refine Kd.C_alloc ?_ _) | (with_reducible refine Kd.C_drewN ?_ _) | (with_reducible refine Kd.C_drew ?_))) | (repeat (first | exact (Kd.C_below HR785.out HB.out) | (with_reducible refine Kd.C_alloc ?_ _) | (with_reducible refine Kd.C_drewN ?_ _) | (with_reducible refine Kd.C_drew ?_)))); (case aB => exact (below_later HB.out)); (case aO => exact (R_later HO784.out)); (case aS => exact (below_size (below_later HB.out))); intro w40 ho hb hg; have hat : (v783 : Value).ownBlock = (v783 : Value).ownBlock ∨ ∃ b, (v783 : Value).ownBlock = some b ∧ w37.heap.size ≤ b := Or.inl rfl; rw [← Ny786.out] at ho; have n0_ := Aside0.mk (Kd.R_over' (R_later HO_8.out) (Kd.R_typed (R_later HO784.out)) (by decide) hg); have n1_ := Aside0.mk (hb); have n2_ := Aside0.mk (ho); clear HO_8; clear HB; clear HO784; have HO_8 := n0_; have HB := n1_; have HO787 := n2_; clear n0_ n1_ n2_; clear ho hb hg hat) | ((with_reducible refine gate_callee (f := 62) rfl ?_); refine gl_ (some 67) Try.func62 #[.int .i64 (wrap64 ((wrap64 (2 * t781)) + 1))] rfl ?_; (with_reducible refine (impl_UvarPut.calls k2 (wrap64 ((wrap64 (2 * t781)) + 1)) t788 _ A32.out).mono ?_); rintro e w41 ⟨v789, rfl, ho0, hb⟩; refine ⟨_, rfl, ?_⟩; have HO790 := Aside0.mk (Kd.R_lower (Kd.R_new' ho0 (Kd.R_lt (R_later HO_8.out))) (below_size (below_later HB.out))); replace HO_8 := Aside0.mk (Kd.R_elder' (R_later HO_8.out) (Kd.R_base ho0) hb); replace HO787 := Aside0.mk (Kd.R_below (R_later HO787.out) hb); replace HB := bst HB hb; (try clear hb); (try clear hk); (try clear ho0); obtain ⟨Ao43, co43, eo43⟩ := Kd.R_slice HO790.out; subst eo43) | ((with_reducible refine gate_builtin (b := .append) (xs := #[.tmp 63, .tmp 67]) rfl ?_); at_builtin; refine Kd.R_append_rows (Kd.int .u8) (w0 := w) w.heap.size rfl (.tmp 63) (.tmp 67) 24 5 (.int .u8 0) 1 rfl Try.underlying24 info5 rfl (by decide) (by omega) u8 x8_2 t788 _ _ _ (fun k_ => some k_ ≠ (.slice Ao43 t788.length co43 : Value).ownBlock) (fun _ => False) rfl rfl ?aO ?aR (fun _ _ h => h) (fun _ h => h.elim) ?aF ?aB ?aS ?aL ?_; (case aR => repeat (first | exact (Kd.R_reads' HO790.out).2.2 | (with_reducible refine Kd.C_alloc ?_ _) | (with_reducible refine Kd.C_drewN ?_ _) | (with_reducible refine Kd.C_drew ?_))); (case aB => exact (below_later HB.out)); (case aF => exact (fun k_ hk => Kd.fresh' (Kd.R_lt (R_later HO790.out)) k_ hk)); (case aO => exact (by (with_reducible repeat (first | apply Kd.R_alloc | apply Kd.R_drewN | apply Kd.R_drew)); exact Kd.R_mono HO_8.out (fun _ hk => hk.2))); (case aS => exact (below_size (below_later HB.out))); (case aL => have := LMc33.out; omega); intro v792 w42 ho hb hg hat; rw [← Ny791.out] at ho; have n0_ := Aside0.mk (Kd.R_over' (R_later HO787.out) (Kd.R_typed (R_later HO_8.out)) (by decide) hg); have n1_ := Aside0.mk (Kd.R_after (ok := (fun _ => True)) (R_later HO790.out) hg hat); have n2_ := Aside0.mk (hb); have n3_ := Aside0.mk (ho); clear HO787; clear HO790; clear HB; clear HO_8; have HO787 := n0_; have HO790 := n1_; have HB := n2_; have HO793 := n3_; clear n0_ n1_ n2_ n3_; clear ho hb hg hat; obtain ⟨Ao44, co44, eo44⟩ := Kd.R_slice HO787.out; subst eo44) | ((with_reducible refine gate_callee (f := 61) rfl ?_); refine gl_ (some 72) Try.func61 #[.slice Ao44 y786.length co44, .int .i64 a1] rfl ?_; (with_reducible refine (impl_packed.calls k2 _ _ y786 a1 t794 _ ?side1 ?side2 A34.out).mono ?_); (case side1 => repeat (first | exact (Kd.R_reads' HO787.out).2.2 | (with_reducible refine Kd.C_alloc ?_ _) | (with_reducible refine Kd.C_drewN ?_ _) | (with_reducible refine Kd.C_drew ?_))); (case side2 => exact (Kd.R_reads' HO787.out).2.1); rintro e w45 ⟨v795, rfl, ho0, hb⟩; refine ⟨_, rfl, ?_⟩; have HO796 := Aside0.mk (Kd.R_lower (Kd.R_new' (Kd.R_new' ho0 (Kd.R_lt (R_later HO790.out))) (Kd.R_lt (R_later HO793.out))) (below_size (below_later HB.out))); replace HO787 := Aside0.mk (Kd.R_below (R_later HO787.out) hb); replace HO790 := Aside0.mk (Kd.R_elder' (R_later HO790.out) (Kd.R_base ho0) hb); replace HO793 := Aside0.mk (Kd.R_elder' (R_later HO793.out) (Kd.R_base ho0) hb); replace HB := bst HB hb; (try clear hb); (try clear hk); (try clear ho0); obtain ⟨Ao47, co47, eo47⟩ := Kd.R_slice HO796.out; subst eo47) | ((with_reducible refine gate_builtin (b := .append) (xs := #[.tmp 69, .tmp 72]) rfl ?_); at_builtin; refine Kd.R_append_rows (Kd.int .u8) (w0 := w) w.heap.size rfl (.tmp 69) (.tmp 72) 24 5 (.int .u8 0) 1 rfl Try.underlying24 info5 rfl (by decide) (by omega) v792 y791 t794 _ _ _ (fun k_ => some k_ ≠ (.slice Ao43 t788.length co43 : Value).ownBlock ∧ some k_ ≠ (.slice Ao47 t794.length co47 : Value).ownBlock) (fun _ => False) rfl rfl ?aO ?aR (fun _ _ h => h) (fun _ h => h.elim) ?aF ?aB ?aS ?aL ?_; (case aR => repeat (first | exact (Kd.R_reads' HO796.out).2.2 | (with_reducible refine Kd.C_alloc ?_ _) | (with_reducible refine Kd.C_drewN ?_ _) | (with_reducible refine Kd.C_drew ?_))); (case aB => exact (below_later HB.out)); (case aF => exact (fun k_ hk => ⟨Kd.fresh' (Kd.R_lt (R_later HO790.out)) k_ hk, Kd.fresh' (Kd.R_lt (R_later HO796.out)) k_ hk⟩)); (case aO => exact (R_later HO793.out)); (case aS => exact (below_size (below_later HB.out))); (case aL => have := LMc35.out; omega); intro v798 w46 ho hb hg hat; rw [← Ny797.out] at ho; have n0_ := Aside0.mk (Kd.R_over' (R_later HO787.out) (Kd.R_typed (R_later HO793.out)) (by decide) hg); have n1_ := Aside0.mk (Kd.R_after (ok := (fun k_ => some k_ ≠ (.slice Ao47 t794.length co47 : Value).ownBlock)) (by (with_reducible repeat (first | apply Kd.R_alloc | apply Kd.R_drewN | apply Kd.R_drew)); exact Kd.R_mono HO790.out (fun _ hk => ⟨hk.2, hk.1.2⟩)) hg hat); have n2_ := Aside0.mk (Kd.R_after (ok := (fun k_ => some k_ ≠ (.slice Ao43 t788.length co43 : Value).ownBlock)) (by (with_reducible repeat (first | apply Kd.R_alloc | apply Kd.R_drewN | apply Kd.R_drew)); exact Kd.R_mono HO796.out (fun _ hk => ⟨hk.1.2, hk.2⟩)) hg hat); have n3_ := Aside0.mk (hb); have n4_ := Aside0.mk (ho); clear HO787; clear HO790; clear HO796; clear HB; clear HO793; have HO787 := n0_; have HO790 := n1_; have HO796 := n2_; have HB := n3_; have HO799 := n4_; clear n0_ n1_ n2_ n3_ n4_; clear ho hb hg hat))
                go_roundg k2
                case measure => have := HJ3.out; have := HK2.out; omega
                case rel => exact ⟨(y797), (ji36), (by first | rfl | (simp; done) | (simp only [← hji36] <;> (first | rfl | simp)) | (simp [*]; done)), H', ⟨by have := HJ3.out; have := HK2.out; omega⟩, ⟨R_later (Kd.R_mono HO799.out (fun _ hk => trivial))⟩, ⟨below_later HB.out⟩⟩
            · rw [if_neg c10] at H
              have c10b0 := decide_eq_false c10
              clear c10
              simp only [Option.some.injEq, Prod.mk.injEq] at H
              obtain ⟨rfl, rfl⟩ := H
              go_wp2
              go_ret2
              exact ⟨_, by first | rfl | (simp [errW_none, errW_some] <;> rfl) | (simp [*, errW_none, errW_some] <;> rfl), by (with_reducible repeat (first | apply Kd.R_alloc | apply Kd.R_drewN | apply Kd.R_drew)); exact HO_8.out, below_later HB.out⟩

/-! ### impl_BitsWidth: function 83 -/
def impl_BitsWidth.f (k : Nat) (a0 : Int) : Option (Int) := if a0 < 0 then (some (-1)) else ((impl_widthOf.f k a0).bind fun t800 => (if t800 > 62 then (some (-1)) else ((impl_widthOf.f k a0).bind fun t801 => (some t801))))
set_option maxHeartbeats 8000000 in
set_option maxRecDepth 100000 in
theorem impl_BitsWidth.calls (k : Nat) (a0 : Int) (r : Int) (w : World) (h : impl_BitsWidth.f k a0 = some r) :
    Calls Try.prog 83 #[.int .i64 a0] w fun e w' => e = .returned (.int .i64 r) ∧ Drawn0 w w' := by
  have H : (if a0 < 0 then (some (-1)) else ((impl_widthOf.f k a0).bind fun t800 => (if t800 > 62 then (some (-1)) else ((impl_widthOf.f k a0).bind fun t801 => (some t801))))) = some r := h
  clear h
  by_cases c2 : a0 < 0
  · rw [if_pos c2] at H
    have c2b0 := decide_eq_true c2
    clear c2
    obtain rfl := Option.some.inj H
    go_enter Try.func83, Try.ntmps83
    go_wp2
    go_ret
    exact ⟨by first | rfl | (simp; done) | (simp [*]; done), by repeat (first | exact Drawn0.refl _ | apply Drawn0.step)⟩
  · rw [if_neg c2] at H
    have c2b0 := decide_eq_false c2
    clear c2
    replace H := bnd H
    obtain ⟨t800, A3, H⟩ := H
    by_cases c4 : t800 > 62
    · rw [if_pos c4] at H
      have c4b0 : decide (62 < t800) = true := decide_eq_true c4
      clear c4
      obtain rfl := Option.some.inj H
      go_enter Try.func83, Try.ntmps83
      go_wp2_with (first | (go_at_call 82; (with_reducible refine (impl_widthOf.calls k a0 t800 _ A3.out).mono ?_); rintro e w' ⟨rfl, ⟨nd, rfl⟩⟩))
      go_ret
      exact ⟨by first | rfl | (simp; done) | (simp [*]; done), by repeat (first | exact Drawn0.refl _ | apply Drawn0.step)⟩
    · rw [if_neg c4] at H
      have c4b0 : decide (62 < t800) = false := decide_eq_false c4
      clear c4
      replace H := bnd H
      obtain ⟨t801, A5, H⟩ := H
      obtain rfl := Option.some.inj H
      go_enter Try.func83, Try.ntmps83
      go_wp2_with (first | (go_at_call 82; (with_reducible refine (impl_widthOf.calls k a0 t800 _ A3.out).mono ?_); rintro e w' ⟨rfl, ⟨nd, rfl⟩⟩) | ((with_reducible refine gate_callee (f := 82) rfl ?_); refine gl_ (some 11) Try.func82 #[.int .i64 a0] rfl ?_; (with_reducible refine (impl_widthOf.calls k a0 t801 _ A5.out).mono ?_); rintro e w' ⟨rfl, ⟨nd, rfl⟩⟩; refine ⟨_, rfl, ?_⟩))
      go_ret
      exact ⟨by first | rfl | (simp; done) | (simp [*]; done), by repeat (first | exact Drawn0.refl _ | apply Drawn0.step)⟩

/-! ### impl_PlacesPack: function 68 -/
def impl_PlacesPack.l0 : Nat → List Int → Int → List Int → Int → Int → Option (List Int × Bool)
  | 0, _, _, _, _, _ => none
  | k + 1, x0, x1, x14, x15, x16 => if x16 < x15 then (if 0 ≤ x16 then (if x16 < (x14.length : Int) then ((impl_within.f (rd x14 x16) 0 (wrap64 (x1 - 1))).bind fun t804 => (if t804 = true then (impl_PlacesPack.l0 k x0 x1 x14 x15 (wrap64 (x16 + 1))) else (some (([] : List Int), false)))) else (none)) else (none)) else ((impl_BitsWidth.f k (mx (wrap64 (x1 - 1)) 0)).bind fun t805 => ((impl_RunPack.f k x0 t805).bind fun bt806 => (if bt806.2 = true then ((some (([(t805) % 256] : List Int) : List Int)).bind fun y810 => (if y810.length + bt806.1.length < 140737488355328 then (some ((y810 ++ bt806.1), true)) else (none))) else (some (([] : List Int), false)))))
def impl_PlacesPack.f (k : Nat) (l0 : List Int) (a1 : Int) : Option (List Int × Bool) := (impl_within.f a1 0 2000).bind fun t802 => (if t802 = true then (impl_PlacesPack.l0 k l0 a1 l0 (l0.length : Int) 0) else (some (([] : List Int), false)))
set_option maxHeartbeats 8000000 in
set_option maxRecDepth 100000 in
theorem impl_PlacesPack.calls (k : Nat) (A0 : Option Addr) (c0 : Nat) (l0 : List Int) (a1 : Int) (r1 : List Int) (r2 : Bool) (w : World) (hr0 : Kd.C (Kd.int .i64) w A0 l0.length l0) (hc0 : l0.length ≤ c0) (h : impl_PlacesPack.f k l0 a1 = some (r1, r2)) :
    Calls Try.prog 68 #[.slice A0 l0.length c0, .int .i64 a1] w fun e w' => ∃ v0_ : Value, e = .returned (.tuple #[v0_, .bool r2]) ∧ Kd.R (Kd.int .u8) 5 w' w.heap.size (fun _ => True) v0_ r1 ∧ Below w.heap.size w w' := by
  have HR0 := Aside0.mk hr0
  have HC0 := Aside0.mk hc0
  clear hr0 hc0
  have HB := Aside0.mk (Below.refl w.heap.size w)
  have H : ((impl_within.f a1 0 2000).bind fun t802 => (if t802 = true then (impl_PlacesPack.l0 k l0 a1 l0 (l0.length : Int) 0) else (some (([] : List Int), false)))) = some (r1, r2) := h
  clear h
  replace H := bnd H
  obtain ⟨t802, A3, H⟩ := H
  by_cases c4 : t802 = true
  · subst c4
    replace H := ifp rfl H
    have H' := Aside0.mk H
    clear H
    go_enter Try.func68, Try.ntmps68
    go_wp2_with (first | ((with_reducible refine gate_callee (f := 73) rfl ?_); refine gl_ (some 12) Try.func73 #[.int .i64 a1, .int .i64 0, .int .i64 2000] rfl ?_; (with_reducible refine (impl_within.calls a1 0 2000 true _ A3.out).mono ?_); rintro e w' ⟨rfl, ⟨nd, rfl⟩⟩; refine ⟨_, rfl, ?_⟩))
    go_loopg [16] k (fun kq v16 w' => ∃ (x16_1 : Int), v16 = .int .i64 x16_1 ∧ Aside0 (impl_PlacesPack.l0 kq l0 a1 l0 (l0.length : Int) x16_1 = some (r1, r2)) ∧ Aside0 (kq ≤ k) ∧ Aside0 (Below w.heap.size w w'))
    case atStart => exact ⟨(0), sr, H', ⟨Nat.le_refl _⟩, ⟨below_later HB.out⟩⟩
    case round =>
      clear H'
      try clear c4
      obtain ⟨x16_1, rfl, HA, HK1, HB⟩ := hrel
      cases gk with
      | zero => exact absurd HA.out (by simp [impl_PlacesPack.l0])
      | succ k1 =>
        have H := HA.out
        clear HA
        simp only [impl_PlacesPack.l0] at H
        by_cases c5 : x16_1 < (l0.length : Int)
        · rw [if_pos c5] at H
          have c5b0 := decide_eq_true c5
          clear c5
          replace H := ifd H
          obtain ⟨c6b0, H⟩ := H
          replace H := ifd H
          obtain ⟨c7b0, H⟩ := H
          replace H := bnd H
          obtain ⟨t804, A8, H⟩ := H
          by_cases c9 : t804 = true
          · subst c9
            replace H := ifp rfl H
            have H' := Aside0.mk H
            clear H
            have p803 : 0 ≤ (x16_1 : Int) := dcd
            have q803 : x16_1 < (l0.length : Int) := dcd
            obtain ⟨ad803, e803, hx803_0⟩ := Kd.at_int HR0.out x16_1 p803 q803
            cases e803
            replace hx803_0 := crd HB hx803_0
            replace p803 := eq_true p803
            replace q803 := eq_true q803
            go_wp2_with (first | ((with_reducible refine gate_callee (f := 73) rfl ?_); refine gl_ (some 23) Try.func73 #[.int .i64 (rd l0 x16_1), .int .i64 0, .int .i64 (wrap64 (a1 - 1))] rfl ?_; (with_reducible refine (impl_within.calls (rd l0 x16_1) 0 (wrap64 (a1 - 1)) true _ A8.out).mono ?_); rintro e w' ⟨rfl, ⟨nd, rfl⟩⟩; refine ⟨_, rfl, ?_⟩))
            go_roundg k1
            case measure => have := HK1.out; omega
            case rel => exact ⟨(wrap64 (x16_1 + 1)), sr, H', ⟨by have := HK1.out; omega⟩, ⟨below_later HB.out⟩⟩
          · replace c9 := Bool.eq_false_iff.mpr c9
            subst c9
            replace H := ifn Bool.false_ne_true H
            simp only [Option.some.injEq, Prod.mk.injEq] at H
            obtain ⟨rfl, rfl⟩ := H
            have p803 : 0 ≤ (x16_1 : Int) := dcd
            have q803 : x16_1 < (l0.length : Int) := dcd
            obtain ⟨ad803, e803, hx803_0⟩ := Kd.at_int HR0.out x16_1 p803 q803
            cases e803
            replace hx803_0 := crd HB hx803_0
            replace p803 := eq_true p803
            replace q803 := eq_true q803
            go_wp2_with (first | ((with_reducible refine gate_callee (f := 73) rfl ?_); refine gl_ (some 23) Try.func73 #[.int .i64 (rd l0 x16_1), .int .i64 0, .int .i64 (wrap64 (a1 - 1))] rfl ?_; (with_reducible refine (impl_within.calls (rd l0 x16_1) 0 (wrap64 (a1 - 1)) false _ A8.out).mono ?_); rintro e w' ⟨rfl, ⟨nd, rfl⟩⟩; refine ⟨_, rfl, ?_⟩))
            go_ret2
            exact ⟨_, by first | rfl | (simp [errW_none, errW_some] <;> rfl) | (simp [*, errW_none, errW_some] <;> rfl), by first | exact Kd.R_nil _ _ _ _ _ | exact Kd.N_nil _ _ _ _ _ | exact Kd.V_nil _ _ _ _ _ | exact Kd.Q_nil _ _ _ _ _ | exact Kd.S_nil _ _ _ _ _, below_later HB.out⟩
        · rw [if_neg c5] at H
          have c5b0 := decide_eq_false c5
          clear c5
          obtain ⟨ji10, hji10⟩ : ∃ j_ : Int, (mx (wrap64 (a1 - 1)) 0) = j_ := ⟨_, rfl⟩
          replace H : ((impl_BitsWidth.f k1 (ji10)).bind fun t805 => ((impl_RunPack.f k1 l0 t805).bind fun bt806 => (if bt806.2 = true then ((some (([(t805) % 256] : List Int) : List Int)).bind fun y810 => (if y810.length + bt806.1.length < 140737488355328 then (some ((y810 ++ bt806.1), true)) else (none))) else (some (([] : List Int), false))))) = some (r1, r2) := by first | (rw [hji10] at H; exact H) | (simp only [hji10] at H ⊢; exact H)
          have hji10_ : (if (wrap64 (a1 - 1)) < 0 then 0 else (wrap64 (a1 - 1))) = ji10 := hji10
          replace H := bnd H
          obtain ⟨t805, A11, H⟩ := H
          replace H := Option.bind_eq_some_iff.mp H
          obtain ⟨⟨t806, t807⟩, A120, H⟩ := H
          replace H : (if t807 = true then ((some (([(t805) % 256] : List Int) : List Int)).bind fun y810 => (if y810.length + t806.length < 140737488355328 then (some ((y810 ++ t806), true)) else (none))) else (some (([] : List Int), false))) = some (r1, r2) := H
          have A12 := Aside0.mk A120
          clear A120
          by_cases c13 : t807 = true
          · subst c13
            replace H := ifp rfl H
            replace H := bsm H
            obtain ⟨y810, Ny810, H⟩ := H
            replace H := ifs H
            obtain ⟨c14, H⟩ := H
            have LMc14 := Aside0.mk c14
            clear c14
            obtain ⟨y813, hy813⟩ : ∃ y_ : List Int, y_ = (y810 ++ t806) := ⟨_, rfl⟩
            replace H : (some (y813, true)) = some (r1, r2) := by first | (rw [hy813]; with_reducible exact H) | (rw [hy813]; exact H) | exact H
            have Ny813 := Aside0.mk hy813
            clear hy813
            simp only [Option.some.injEq, Prod.mk.injEq] at H
            obtain ⟨rfl, rfl⟩ := H
            go_wp2_with (first | ((with_reducible refine gate_callee (f := 83) rfl ?_); refine goesL_ (some 29) rfl rfl Try.func83 (by kernel_rfl) rfl #[.int .i64 ji10] rfl (by (try simp only [List.map_toArray, List.map_cons, List.map_nil]); first | done | (simp only [hji10]; rfl) | rfl | (simp only [List.length_drop, List.length_take]; rfl)) ?_; (with_reducible refine (impl_BitsWidth.calls k1 ji10 t805 _ A11.out).mono ?_); rintro e w' ⟨rfl, ⟨nd, rfl⟩⟩; refine ⟨_, rfl, ?_⟩) | ((with_reducible refine gate_callee (f := 35) rfl ?_); refine gl_ (some 33) Try.func35 #[.slice A0 l0.length c0, .int .i64 t805] rfl ?_; (with_reducible refine (impl_RunPack.calls k1 _ _ l0 t805 t806 true _ ?side1 ?side2 A12.out).mono ?_); (case side1 => repeat (first | exact (Kd.C_below HR0.out (below_later HB.out)) | (with_reducible refine Kd.C_alloc ?_ _) | (with_reducible refine Kd.C_drewN ?_ _) | (with_reducible refine Kd.C_drew ?_))); (case side2 => exact HC0.out); rintro e w15 ⟨v808, rfl, ho0, hb⟩; refine ⟨_, rfl, ?_⟩; have HO809 := Aside0.mk (Kd.R_lower ho0 (below_size (below_later HB.out))); replace HB := bst HB hb; (try clear hb); (try clear hk); (try clear ho0)) | ((with_reducible refine gate_dst (N := 40) rfl ?_); refine Kd.R_lit (Kd.int .u8) _ 5 ?hg (N := 40) ?hd (xs := ([(t805) % 256] : List Int)) (inner := [.int .u8 ((t805) % 256)]) (ok := fun _ => True) (okp := fun _ => True) ?hr ?hp (fun _ hk => hk) trivial (Below.refl _ _) (Nat.le_refl _) (by simp) ?_; (case hd => rfl); (case hg => rfl); (case hr => first | (go_simp; done) | (go_simp; rfl)); (case hp => exact (Reps.one (show Kd.M (Kd.int .u8) _ _ _ ((t805) % 256) [.int .u8 ((t805) % 256)] from rfl) (Reps.none _ _))); intro v811 w16 ho17 hb hg_ hnew_; clear hg_ hnew_; (first | rw [← Ny810.out] at ho17 | (simp only [Int.reduceToNat] at ho17; rw [← Ny810.out] at ho17)); have HO812 := Aside0.mk (Kd.R_lower (Kd.R_new' ho17 (Kd.R_lt (R_later HO809.out))) (below_size (below_later HB.out))); replace HO809 := Aside0.mk (Kd.R_elder' (R_later HO809.out) (Kd.R_base ho17) hb); replace HB := bst HB hb; clear hb ho17; obtain ⟨Ao19, co19, eo19⟩ := Kd.R_slice HO809.out; subst eo19) | ((with_reducible refine gate_builtin (b := .append) (xs := #[.tmp 40, .tmp 41]) rfl ?_); at_builtin; refine Kd.R_append_rows (Kd.int .u8) (w0 := w) w.heap.size rfl (.tmp 40) (.tmp 41) 24 5 (.int .u8 0) 1 rfl Try.underlying24 info5 rfl (by decide) (by omega) v811 y810 t806 _ _ _ (fun k_ => some k_ ≠ (.slice Ao19 t806.length co19 : Value).ownBlock) (fun _ => False) rfl rfl ?aO ?aR (fun _ _ h => h) (fun _ h => h.elim) ?aF ?aB ?aS ?aL ?_; (case aR => repeat (first | exact (Kd.R_reads' HO809.out).2.2 | (with_reducible refine Kd.C_alloc ?_ _) | (with_reducible refine Kd.C_drewN ?_ _) | (with_reducible refine Kd.C_drew ?_))); (case aB => exact (below_later HB.out)); (case aF => exact (fun k_ hk => Kd.fresh' (Kd.R_lt (R_later HO809.out)) k_ hk)); (case aO => exact (by (with_reducible repeat (first | apply Kd.R_alloc | apply Kd.R_drewN | apply Kd.R_drew)); exact Kd.R_mono HO812.out (fun _ hk => hk.2))); (case aS => exact (below_size (below_later HB.out))); (case aL => have := LMc14.out; omega); intro v814 w18 ho hb hg hat; rw [← Ny813.out] at ho; have n0_ := Aside0.mk (Kd.R_after (ok := (fun _ => True)) (R_later HO809.out) hg hat); have n1_ := Aside0.mk (hb); have n2_ := Aside0.mk (ho); clear HO809; clear HB; clear HO812; have HO809 := n0_; have HB := n1_; have HO815 := n2_; clear n0_ n1_ n2_; clear ho hb hg hat))
            go_ret2
            exact ⟨_, by first | rfl | (simp [errW_none, errW_some] <;> rfl) | (simp only [← hji10]; first | rfl | (simp [errW_none, errW_some] <;> rfl)) | (simp [*, errW_none, errW_some] <;> rfl), by (with_reducible repeat (first | apply Kd.R_alloc | apply Kd.R_drewN | apply Kd.R_drew)); exact Kd.R_mono HO815.out (fun _ hk => trivial), below_later HB.out⟩
          · replace c13 := Bool.eq_false_iff.mpr c13
            subst c13
            replace H := ifn Bool.false_ne_true H
            simp only [Option.some.injEq, Prod.mk.injEq] at H
            obtain ⟨rfl, rfl⟩ := H
            go_wp2_with (first | ((with_reducible refine gate_callee (f := 83) rfl ?_); refine goesL_ (some 29) rfl rfl Try.func83 (by kernel_rfl) rfl #[.int .i64 ji10] rfl (by (try simp only [List.map_toArray, List.map_cons, List.map_nil]); first | done | (simp only [hji10]; rfl) | rfl | (simp only [List.length_drop, List.length_take]; rfl)) ?_; (with_reducible refine (impl_BitsWidth.calls k1 ji10 t805 _ A11.out).mono ?_); rintro e w' ⟨rfl, ⟨nd, rfl⟩⟩; refine ⟨_, rfl, ?_⟩) | ((with_reducible refine gate_callee (f := 35) rfl ?_); refine gl_ (some 33) Try.func35 #[.slice A0 l0.length c0, .int .i64 t805] rfl ?_; (with_reducible refine (impl_RunPack.calls k1 _ _ l0 t805 t806 false _ ?side1 ?side2 A12.out).mono ?_); (case side1 => repeat (first | exact (Kd.C_below HR0.out (below_later HB.out)) | (with_reducible refine Kd.C_alloc ?_ _) | (with_reducible refine Kd.C_drewN ?_ _) | (with_reducible refine Kd.C_drew ?_))); (case side2 => exact HC0.out); rintro e w20 ⟨v808, rfl, ho0, hb⟩; refine ⟨_, rfl, ?_⟩; have HO809 := Aside0.mk (Kd.R_lower ho0 (below_size (below_later HB.out))); replace HB := bst HB hb; (try clear hb); (try clear ho0)))
            go_ret2
            exact ⟨_, by first | rfl | (simp [errW_none, errW_some] <;> rfl) | (simp only [← hji10]; first | rfl | (simp [errW_none, errW_some] <;> rfl)) | (simp [*, errW_none, errW_some] <;> rfl), by first | exact Kd.R_nil _ _ _ _ _ | exact Kd.N_nil _ _ _ _ _ | exact Kd.V_nil _ _ _ _ _ | exact Kd.Q_nil _ _ _ _ _ | exact Kd.S_nil _ _ _ _ _, below_later HB.out⟩
  · replace c4 := Bool.eq_false_iff.mpr c4
    subst c4
    replace H := ifn Bool.false_ne_true H
    simp only [Option.some.injEq, Prod.mk.injEq] at H
    obtain ⟨rfl, rfl⟩ := H
    go_enter Try.func68, Try.ntmps68
    go_wp2_with (first | ((with_reducible refine gate_callee (f := 73) rfl ?_); refine gl_ (some 12) Try.func73 #[.int .i64 a1, .int .i64 0, .int .i64 2000] rfl ?_; (with_reducible refine (impl_within.calls a1 0 2000 false _ A3.out).mono ?_); rintro e w' ⟨rfl, ⟨nd, rfl⟩⟩; refine ⟨_, rfl, ?_⟩))
    go_ret2
    exact ⟨_, by first | rfl | (simp [errW_none, errW_some] <;> rfl) | (simp [*, errW_none, errW_some] <;> rfl), by first | exact Kd.R_nil _ _ _ _ _ | exact Kd.N_nil _ _ _ _ _ | exact Kd.V_nil _ _ _ _ _ | exact Kd.Q_nil _ _ _ _ _ | exact Kd.S_nil _ _ _ _ _, below_later HB.out⟩

/-! ### A map of the call's own, keyed by a struct of a number and a text, that tells of each key where it first stands in a list -/
theorem vk_row : (46 : TypeId) < Try.prog.types.size := of_decide_eq_true (by kernel_rfl)
theorem vk_wide : (match Try.prog.underlying 46 with | some (.array _ _) | some (.struct _) => true | _ => false) = true := by kernel_rfl
theorem vk_laid : laidOutB Try.prog = true := by kernel_rfl
theorem vk_law : Go.Maps.Keyed Try.prog 46 := Go.Maps.Keyed.of_law (deep_law_laid vk_laid (m := 3) (by omega) vk_row (by kernel_rfl) vk_wide)
theorem vk_type : Try.prog.keyType 46 = true := by kernel_rfl
theorem vk_cells : Try.prog.cellsOf 46 = 2 := by kernel_rfl
theorem vk_deep : ∃ n, Try.prog.types.size + 1 = n + 2 := ⟨Try.prog.types.size - 1, by have h : (46 : Nat) < Try.prog.types.size := vk_row; omega⟩
def vk_ok (x : S46) : Bool := (Lit.int .i64 x.f0).wf && decide (x.f1.size ≤ maxLen)
def vk_eq (x y : S46) : Bool := decide (x.f0 = y.f0) && decide (x.f1 = y.f1)
def vk_mem (x : S46) (xs : List (S46 × Int)) : Bool := xs.any (fun p => vk_eq x p.1)
def vk_at (x : S46) : List (S46 × Int) → Int
  | [] => 0
  | p :: r => if vk_eq x p.1 = true then p.2 else vk_at x r
def vk_in (n : Int) : Bool := (Lit.int .i64 n).wf
def vk_cell (x : S46) : Value := .agg #[.int .i64 x.f0, .string x.f1]
theorem vk_eq_iff {x y : S46} : vk_eq x y = true ↔ x = y := by
  cases x; cases y; simp [vk_eq]
theorem vk_key {x : S46} (h : vk_ok x = true) : ∃ kl, keyOf Try.prog 46 (vk_cell x) = some kl := by
  have hu := Try.underlying46
  simp only [vk_ok, Bool.and_eq_true, decide_eq_true_eq] at h
  obtain ⟨n, hn⟩ := vk_deep
  unfold keyOf vk_cell
  rw [hu]
  simp only []
  rw [vk_type, hn]
  have hi := Try.underlying3
  have hs := Try.underlying9
  have ci : Try.prog.cellsOf 3 = 1 := by kernel_rfl
  have cs : Try.prog.cellsOf 9 = 1 := by kernel_rfl
  simp [Value.formed, hu, vk_cells, Program.keyLits, Value.cells, hi, hs, ci, cs, h.1, h.2]
def mapBlock : Value → Option Nat
  | .map (some b) => some b
  | _ => none
/-- A map of the call's own: it reads as this list of keys and numbers (the first one counts). The first two arguments say nothing. -/
def Kd.Mp {α : Type} (_ : Kd α) (_ : Nat) (W : World) (base : Nat) (ok : Nat → Prop) (v : Value) (xs : List (S46 × Int)) : Prop :=
  (∀ k, mapBlock v = some k → ok k) ∧ ∃ b, v = .map (some b) ∧ base ≤ b ∧ ∃ D : DataW Unit, W.ownsMap Try.prog 46 (plainElem Try.prog 3) b xs.length D ∧ Go.Maps.IsMap D ∧
    ∀ x kl, keyOf Try.prog 46 (vk_cell x) = some kl → Go.Maps.has D kl = vk_mem x xs ∧ D.atKey kl (.lit (.int .i64 0)) = .lit (.int .i64 (vk_at x xs))
section
variable {α : Type} {d : Kd α} {e : Nat} {W W1 w0 : World} {base : Nat} {ok ok' : Nat → Prop} {v : Value} {xs : List (S46 × Int)}
theorem blk_lt0 {W : World} {g : Nat} {o : Obj} (h : W.heap[g]? = some o) : g < W.heap.size := (Array.getElem?_eq_some_iff.1 h).1
theorem Kd.Mp_grown0 (h : Kd.Mp d e W base ok v xs) {row : Option Nat} (hg : W.grownBy W1 row) (hne : mapBlock v ≠ row) : Kd.Mp d e W1 base ok v xs := by
  obtain ⟨h0, b, rfl, hb, D, ho, hD, hx⟩ := h
  exact ⟨h0, b, rfl, hb, D, ho.kept hg hne, hD, hx⟩
theorem Kd.Mp_below (h : Kd.Mp d e W base ok v xs) (hB : Below W.heap.size W W1) : Kd.Mp d e W1 base ok v xs := by
  obtain ⟨h0, b, rfl, hb, D, ho, hD, hx⟩ := h
  exact ⟨h0, b, rfl, hb, D, ho.kept (grown_of_below hB none) (by simp), hD, hx⟩
theorem Kd.Mp_alloc (h : Kd.Mp d e W base ok v xs) (o : Obj) : Kd.Mp d e (W.alloc o) base ok v xs := Kd.Mp_below h (below_alloc (Below.refl _ _) o)
theorem Kd.Mp_drewN (h : Kd.Mp d e W base ok v xs) (m : Nat) : Kd.Mp d e (W.drewN m) base ok v xs := Kd.Mp_below h (pw_below_drewN (Below.refl _ _) m)
theorem Kd.Mp_drew (h : Kd.Mp d e W base ok v xs) : Kd.Mp d e W.drew base ok v xs := Kd.Mp_below h (below_drew (Below.refl _ _))
theorem Kd.Mp_at {w' : World} {m : Nat} (hq : W.drewN m = w') (h : Kd.Mp d e W base ok v xs) : Kd.Mp d e w' base ok v xs := by subst hq; exact Kd.Mp_drewN h m
theorem Kd.Mp_lower (h : Kd.Mp d e W base ok v xs) {base2 : Nat} (hb2 : base2 ≤ base) : Kd.Mp d e W base2 ok v xs := by
  obtain ⟨h0, b, rfl, hb, r⟩ := h
  exact ⟨h0, b, rfl, Nat.le_trans hb2 hb, r⟩
theorem Kd.Mp_mono (h : Kd.Mp d e W base ok v xs) (hok : ∀ k, ok k → ok' k) : Kd.Mp d e W base ok' v xs := ⟨fun k hk => hok k (h.1 k hk), h.2⟩
theorem Kd.Mp_map (h : Kd.Mp d e W base ok v xs) : ∀ k, mapBlock v = some k → ∃ es clock, W.heap[k]? = some (.map es clock) := by
  obtain ⟨_, b, rfl, _, D, ⟨es, clock, hb, _⟩, _⟩ := h
  intro k hk
  have : b = k := by simpa [mapBlock] using hk
  subst this
  exact ⟨es, clock, hb⟩
theorem Kd.Mp_ne {g t : Nat} {cells : Array Value} {fr : Nat × Nat} (h : Kd.Mp d e W base ok v xs) (hb : W.heap[g]? = some (.cells cells t fr)) : some g ≠ mapBlock v := by
  intro he
  obtain ⟨es, clock, h2⟩ := Kd.Mp_map h g he.symm
  rw [hb] at h2
  cases h2
theorem Kd.Mp_blk {g : Nat} {o : Obj} (hb : W.heap[g]? = some o) (hg : W.grownBy W1 (mapBlock v)) (h : Kd.Mp d e W base ok v xs) (ho : ∀ es c, o ≠ .map es c) : W1.heap[g]? = some o :=
  (hg.block g (blk_lt0 hb) (fun he => by
    obtain ⟨es, clock, h2⟩ := Kd.Mp_map h g he.symm
    rw [hb] at h2
    exact ho es clock (Option.some.inj h2))).trans hb
theorem Kd.Mp_types (h : Kd.Mp d e W base ok v xs) {g t : Nat} {cells : Array Value} (hb : W.heap[g]? = some (.cells cells t (0, 0))) (_ : True) : Kd.Mp d e W base (fun k => ok k ∧ k ≠ g) v xs :=
  ⟨fun k hk => ⟨h.1 k hk, fun he => Kd.Mp_ne h hb (by rw [← he]; exact hk.symm)⟩, h.2⟩
theorem Kd.Mp_far (h : Kd.Mp d e W base ok v xs) {p : Addr} (hok : ∀ k, ok k → k ≠ p.block) (u : Value) : Kd.Mp d e (W.setCell p u) base ok v xs := by
  obtain ⟨h0, b, rfl, hb, D, ⟨es, clock, hh, r⟩, hD, hx⟩ := h
  exact ⟨h0, b, rfl, hb, D, ⟨es, clock, (Below.heap_setCell W p u b (hok b (h0 b rfl))).trans hh, r⟩, hD, hx⟩
theorem Kd.Mp_over' {u : Value} {e' : Nat} (h : Kd.Mp d e W base ok v xs) (hty : ∀ k, u.ownBlock = some k → ∃ cells, W.heap[k]? = some (.cells cells e' (0, 0))) (_ : True) (hg : W.grownBy W1 u.ownBlock) : Kd.Mp d e W1 base ok v xs := by
  refine Kd.Mp_grown0 h hg (fun he => ?_)
  have hb : ∃ b, mapBlock v = some b := by
    obtain ⟨_, b, rfl, _⟩ := h
    exact ⟨b, rfl⟩
  obtain ⟨b, hb⟩ := hb
  obtain ⟨cells, hc⟩ := hty b (he.symm.trans hb)
  exact Kd.Mp_ne h hc hb.symm
theorem R_map {β : Type} {d2 : Kd β} {e2 base2 : Nat} {ok2 : Nat → Prop} {u : Value} {ys : List β} (h : Kd.Mp d e W base ok v xs) (ho : d2.R e2 W base2 ok2 u ys) (hg : W.grownBy W1 (mapBlock v)) : d2.R e2 W1 base2 ok2 u ys := by
  refine Kd.R_mono (Kd.R_step (Kd.R_bound ho) (fun k hk hlt => hg.block k hlt (fun he => ?_))) (fun k hk => hk.1)
  obtain ⟨_, _, _, q, _, cells, hc⟩ := hk
  exact Kd.Mp_ne h hc he
end
section
variable {ops : Array Oper} {rest : List Oper} {o : Oper} {a : Act} {Q : Exit → Act → World → Prop} {α : Type}
theorem map_made (d : Kd α) (e : Nat) {w0 W : World} (base : Nat) (hgd : o.guard = none) {N : Tmp} (_hd : o.dst = some N) (ho : o.op = .makeMap 65 none) (HB : Below base w0 W) (hbase : base ≤ W.heap.size)
    (h : ∀ v w1, Kd.Mp d e w1 base (fun _ => True) v [] → Below base w0 w1 → W.grownBy w1 none → wpList Try.prog ops Q rest (a.put o.dst v) w1) : wpList Try.prog ops Q (o :: rest) a W := by
  refine Kd.event_run hgd (w1 := W.alloc (.map #[] 0)) (v := .map (some W.heap.size)) ?_ ?_
  · have hm := @run_makeMap Try.prog 65 W
    simp [execOp, ho, hm, Result.andThen]
  · exact h _ _ ⟨fun _ _ => trivial, _, rfl, hbase, _, World.ownsMap_made W Try.prog 46 _, ⟨_, rfl⟩, fun x kl _ => ⟨by simp [vk_mem, Go.Maps.has], by simp [vk_at, DataW.atKey]⟩⟩ (HB.alloc hbase _) (World.grownBy_alloc W _ none)
theorem map_look {W : World} (d : Kd α) (e : Nat) (base : Nat) (ok : Nat → Prop) (v : Value) (xs : List (S46 × Int)) (hgd : o.guard = none) {N : Tmp} (_hd : o.dst = some N) (m y : Operand) (ho : o.op = .lookup 65 m y true) (x : S46) (hx : vk_ok x = true) (hm : a.eval m = v) (hy : a.eval y = vk_cell x) (HM : Kd.Mp d e W base ok v xs)
    (h : wpList Try.prog ops Q rest (a.put o.dst (.tuple #[.int .i64 (vk_at x xs), .bool (vk_mem x xs)])) W) : wpList Try.prog ops Q (o :: rest) a W := by
  obtain ⟨kl, hk⟩ := vk_key hx
  obtain ⟨_, b, rfl, hb, D, hown, hD, hx2⟩ := HM
  obtain ⟨e1, e2⟩ := hx2 x kl hk
  refine wpList_lookup_own_ok_int W hgd m y 65 ho 46 3 .i64 vk_law Try.underlying65 Try.underlying3 (by kernel_rfl) b xs.length D hm hown _ kl hy hk ?_
  intro c hc _
  rw [e2] at hc
  obtain rfl : vk_at x xs = c := by injection hc with hc; injection hc
  rw [e1]
  exact h
theorem map_put {w0 W : World} (d : Kd α) (e : Nat) (base : Nat) (ok : Nat → Prop) (v : Value) (xs : List (S46 × Int)) (hgd : o.guard = none) (m y z : Operand) (ho : o.op = .mapUpdate 65 m y z) (x : S46) (n : Int) (hx : vk_ok x = true) (hn : vk_in n = true) (hm : a.eval m = v) (hy : a.eval y = vk_cell x) (hz : a.eval z = .int .i64 n) (HM : Kd.Mp d e W base ok v xs)
    (hlen : xs.length < 5864062014805) (HB : Below base w0 W) (hbase : base ≤ W.heap.size)
    (h : ∀ w1, Kd.Mp d e w1 base ok v ((x, n) :: xs) → Below base w0 w1 → W.grownBy w1 (mapBlock v) → wpList Try.prog ops Q rest (a.put o.dst undef) w1) : wpList Try.prog ops Q (o :: rest) a W := by
  obtain ⟨kl, hk⟩ := vk_key hx
  obtain ⟨h0, b, rfl, hb, D, hown, hD, hx2⟩ := HM
  refine wpList_mapUpdate_own W hgd m y z 65 ho 46 3 vk_law Try.underlying65 (plainElem Try.prog 3) b xs.length D hm hown (by simp only [maxLen]; omega) _ _ kl hy hz hk (.lit (.int .i64 n)) [] (plainElem_int Try.underlying3 hn) ?_
  intro w1 hown1 hg1
  refine h w1 ⟨h0, b, rfl, hb, _, hown1, Go.Maps.IsMap.put hD _ _, fun x' kl' hk' => ?_⟩ (HB.grown hg1 hbase (fun k hk => ?_)) hg1
  · obtain ⟨e3, e4⟩ := hx2 x' kl' hk'
    by_cases hq : kl' = kl
    · subst hq
      have hisk := vk_law.key hk
      have hxx : x' = x := by
        have := vk_law.inj hk' hk
        cases x; cases x'; simpa [vk_cell] using this
      subst hxx
      rw [Go.Maps.has_put_same hD hisk, Go.Maps.atKey_put_same hD hisk]
      simp [vk_mem, vk_at, vk_eq_iff.2 rfl]
    · have hne : vk_eq x' x = false := by
        cases hh : vk_eq x' x
        · rfl
        · refine absurd ?_ hq
          obtain rfl := vk_eq_iff.1 hh
          rw [hk] at hk'; exact (Option.some.inj hk').symm
      rw [Go.Maps.has_put_other hq, Go.Maps.atKey_put_other hq, e3, e4]
      simp [vk_mem, vk_at, hne]
  · injection hk with hk
    omega
end
/-! ### impl_dictPack: function 34 -/
mutual
def impl_dictPack.l0 : Nat → List (S46) → List (S46) → List (S46 × Int) → List (S46) → Int → Int → Option (List Int × Bool)
  | 0, _, _, _, _, _, _ => none
  | k + 1, x0, x1, x6, x17, x18, x19 => if x19 < x18 then (if 0 ≤ x19 then (if x19 < (x17.length : Int) then (if vk_ok (⟨(rd_T46 x17 x19).f0, (rd_T46 x17 x19).f1⟩ : S46) = true then (if (vk_mem (⟨(rd_T46 x17 x19).f0, (rd_T46 x17 x19).f1⟩ : S46) x6 = true) then (impl_dictPack.l0 k x0 x1 x6 x17 x18 (wrap64 (x19 + 1))) else (if vk_in x19 = true then (if x6.length < 5864062014805 then (impl_dictPack.l0 k x0 x1 (((⟨(rd_T46 x17 x19).f0, (rd_T46 x17 x19).f1⟩ : S46), x19) :: x6) x17 x18 (wrap64 (x19 + 1))) else (none)) else (none))) else (none)) else (none)) else (none)) else (impl_dictPack.l1 k x1 x6 (([] : List Int)) x0 (x0.length : Int) 0)
def impl_dictPack.l1 : Nat → List (S46) → List (S46 × Int) → List Int → List (S46) → Int → Int → Option (List Int × Bool)
  | 0, _, _, _, _, _, _ => none
  | k + 1, x1, x6, x11, x37, x38, x39 => if x39 < x38 then (if 0 ≤ x39 then (if x39 < (x37.length : Int) then (if vk_ok (⟨(rd_T46 x37 x39).f0, (rd_T46 x37 x39).f1⟩ : S46) = true then (if (vk_mem (⟨(rd_T46 x37 x39).f0, (rd_T46 x37 x39).f1⟩ : S46) x6 = true) then (if x11.length < 17592186044416 then (impl_dictPack.l1 k x1 x6 (x11 ++ [vk_at (⟨(rd_T46 x37 x39).f0, (rd_T46 x37 x39).f1⟩ : S46) x6]) x37 x38 (wrap64 (x39 + 1))) else (none)) else (some (([] : List Int), false))) else (none)) else (none)) else (none)) else ((impl_PlacesPack.f k x11 (x1.length : Int)).bind fun bt831 => (some (bt831.1, bt831.2)))
end
def impl_dictPack.f (k : Nat) (l0 : List (S46)) (l1 : List (S46)) : Option (List Int × Bool) := impl_dictPack.l0 k l0 l1 ([]) l1 (l1.length : Int) 0
set_option maxHeartbeats 8000000 in
set_option maxRecDepth 100000 in
theorem impl_dictPack.calls (k : Nat) (A0 : Option Addr) (c0 : Nat) (l0 : List (S46)) (A1 : Option Addr) (c1 : Nat) (l1 : List (S46)) (r1 : List Int) (r2 : Bool) (w : World) (hr0 : Kd.C k46 w A0 l0.length l0) (hc0 : l0.length ≤ c0) (hr1 : Kd.C k46 w A1 l1.length l1) (hc1 : l1.length ≤ c1) (h : impl_dictPack.f k l0 l1 = some (r1, r2)) :
    Calls Try.prog 34 #[.slice A0 l0.length c0, .slice A1 l1.length c1] w fun e w' => ∃ v0_ : Value, e = .returned (.tuple #[v0_, .bool r2]) ∧ Kd.R (Kd.int .u8) 5 w' w.heap.size (fun _ => True) v0_ r1 ∧ Below w.heap.size w w' := by
  have hu46 := Try.underlying46
  have HR0 := Aside0.mk hr0
  have HC0 := Aside0.mk hc0
  clear hr0 hc0
  have HR1 := Aside0.mk hr1
  have HC1 := Aside0.mk hc1
  clear hr1 hc1
  have HB := Aside0.mk (Below.refl w.heap.size w)
  have H : (impl_dictPack.l0 k l0 l1 ([]) l1 (l1.length : Int) 0) = some (r1, r2) := h
  clear h
  obtain ⟨y816, hy816⟩ : ∃ y_ : List (S46 × Int), y_ = ([]) := ⟨_, rfl⟩
  replace H : (impl_dictPack.l0 k l0 l1 y816 l1 (l1.length : Int) 0) = some (r1, r2) := by first | (rw [hy816]; with_reducible exact H) | (rw [hy816]; exact H) | exact H
  have Ny816 := Aside0.mk hy816
  clear hy816
  have H' := Aside0.mk H
  clear H
  go_enter Try.func34, Try.ntmps34
  go_wp2_with (first | ((with_reducible refine gate_dst (N := 16) rfl ?_); refine map_made k46 9000065 _ rfl (N := 16) rfl rfl (Below.refl _ _) (Nat.le_refl _) ?_; intro v817 w3 ho4 hb hg_; clear hg_; rw [← Ny816.out] at ho4; have HO818 := Aside0.mk (Kd.Mp_lower ho4 (below_size (below_later HB.out))); replace HB := bst HB hb; clear hb ho4))
  go_loopg [19] k (fun kq v19 w' => ∃ (x6_1 : List (S46 × Int)) (x19_1 : Int), v19 = .int .i64 x19_1 ∧ Aside0 (impl_dictPack.l0 kq l0 l1 x6_1 l1 (l1.length : Int) x19_1 = some (r1, r2)) ∧ Aside0 (kq ≤ k) ∧ Aside0 (Kd.Mp k46 9000065 w' w.heap.size (fun _ => True) v817 x6_1) ∧ Aside0 (Below w.heap.size w w'))
  case atStart => exact ⟨(y816), (0), sr, H', ⟨Nat.le_refl _⟩, ⟨by (with_reducible repeat (first | apply Kd.Mp_alloc | apply Kd.Mp_drewN | apply Kd.Mp_drew)); exact HO818.out⟩, ⟨below_later HB.out⟩⟩
  case round =>
    clear H'
    try clear c1
    obtain ⟨x6_1, x19_1, rfl, HA, HK1, HO_6, HB⟩ := hrel
    cases gk with
    | zero => exact absurd HA.out (by simp [impl_dictPack.l0])
    | succ k1 =>
      have H := HA.out
      clear HA
      simp only [impl_dictPack.l0] at H
      by_cases c5 : x19_1 < (l1.length : Int)
      · rw [if_pos c5] at H
        have c5b0 := decide_eq_true c5
        clear c5
        replace H := ifd H
        obtain ⟨c6b0, H⟩ := H
        replace H := ifd H
        obtain ⟨c7b0, H⟩ := H
        replace H := ifs H
        obtain ⟨c8, H⟩ := H
        have LMc8 := Aside0.mk c8
        clear c8
        by_cases c9 : (vk_mem (⟨(rd_T46 l1 x19_1).f0, (rd_T46 l1 x19_1).f1⟩ : S46) x6_1 = true)
        · rw [if_pos c9] at H
          have c9b0 : vk_mem (⟨(rd_T46 l1 x19_1).f0, (rd_T46 l1 x19_1).f1⟩ : S46) x6_1 = true := c9
          clear c9
          have H' := Aside0.mk H
          clear H
          have p819 : 0 ≤ (x19_1 : Int) := dcd
          have q819 : x19_1 < (l1.length : Int) := dcd
          obtain ⟨ad819, e819, hx819_0, hx819_1⟩ := at_T46 HR1.out x19_1 p819 q819
          cases e819
          replace hx819_0 := crd HB hx819_0
          replace hx819_1 := crd HB hx819_1
          replace p819 := eq_true p819
          replace q819 := eq_true q819
          go_wp2_with (first | ((with_reducible refine gate_dst (N := 8) rfl ?_); refine bx_ 8 #[.int .i64 0, .string (⟨#[]⟩ : ByteArray)] 46 ?_; intro gb820 hg w10 hbox hb; have BK820 := Aside0.mk (hbox); have GW820 := gwe HB hg; have GE820 := GW820; replace HO_6 := Aside0.mk (Kd.Mp_below (by (with_reducible repeat (first | apply Kd.Mp_alloc | apply Kd.Mp_drewN | apply Kd.Mp_drew)); exact HO_6.out) hb); replace HB := bst HB hb; clear hb hbox hg; obtain ⟨hcz11_0, hcz11_1, hfz11_0, hfz11_1⟩ := cl2 BK820) | ((with_reducible refine gate_dst (N := 27) rfl ?_); refine map_look k46 9000065 w.heap.size (fun _ => True) v817 x6_1 rfl (N := 27) rfl (.tmp 25) (.tmp 26) rfl (⟨(rd_T46 l1 x19_1).f0, (rd_T46 l1 x19_1).f1⟩ : S46) LMc8.out rfl (by first | (go_simp; done) | (go_simp; rfl)) (by (with_reducible repeat (first | apply Kd.Mp_alloc | apply Kd.Mp_drewN | apply Kd.Mp_drew)); exact (Kd.Mp_mono (Kd.Mp_far (p := ⟨gb820, 1, none⟩) (Kd.Mp_far (p := ⟨gb820, 0, none⟩) (Kd.Mp_types HO_6.out BK820.out (by decide)) (fun _ hk => hk.2) (.int .i64 ((rd_T46 l1 x19_1).f0))) (fun _ hk => hk.2) (.string ((rd_T46 l1 x19_1).f1))) (fun _ h_ => h_.1))) ?_))
          go_roundg k1
          case measure => have := HK1.out; omega
          case rel => exact ⟨(x6_1), (wrap64 (x19_1 + 1)), sr, H', ⟨by have := HK1.out; omega⟩, ⟨by (with_reducible repeat (first | apply Kd.Mp_alloc | apply Kd.Mp_drewN | apply Kd.Mp_drew)); exact Kd.Mp_mono (Kd.Mp_far (p := ⟨gb820, 1, none⟩) (Kd.Mp_far (p := ⟨gb820, 0, none⟩) (Kd.Mp_types HO_6.out BK820.out (by decide)) (fun _ hk => hk.2) (.int .i64 ((rd_T46 l1 x19_1).f0))) (fun _ hk => hk.2) (.string ((rd_T46 l1 x19_1).f1))) (fun _ hk => trivial)⟩, ⟨below_later HB.out⟩⟩
        · rw [if_neg c9] at H
          have c9b0 : vk_mem (⟨(rd_T46 l1 x19_1).f0, (rd_T46 l1 x19_1).f1⟩ : S46) x6_1 = false := by simpa using c9
          clear c9
          replace H := ifs H
          obtain ⟨c12, H⟩ := H
          have LMc12 := Aside0.mk c12
          clear c12
          replace H := ifs H
          obtain ⟨c13, H⟩ := H
          have LMc13 := Aside0.mk c13
          clear c13
          obtain ⟨y821, hy821⟩ : ∃ y_ : List (S46 × Int), y_ = (((⟨(rd_T46 l1 x19_1).f0, (rd_T46 l1 x19_1).f1⟩ : S46), x19_1) :: x6_1) := ⟨_, rfl⟩
          replace H : (impl_dictPack.l0 k1 l0 l1 y821 l1 (l1.length : Int) (wrap64 (x19_1 + 1))) = some (r1, r2) := by first | (rw [hy821]; with_reducible exact H) | (rw [hy821]; exact H) | exact H
          have Ny821 := Aside0.mk hy821
          clear hy821
          have H' := Aside0.mk H
          clear H
          have p819 : 0 ≤ (x19_1 : Int) := dcd
          have q819 : x19_1 < (l1.length : Int) := dcd
          obtain ⟨ad819, e819, hx819_0, hx819_1⟩ := at_T46 HR1.out x19_1 p819 q819
          cases e819
          replace hx819_0 := crd HB hx819_0
          replace hx819_1 := crd HB hx819_1
          replace p819 := eq_true p819
          replace q819 := eq_true q819
          go_wp2_with (first | ((with_reducible refine gate_dst (N := 8) rfl ?_); refine bx_ 8 #[.int .i64 0, .string (⟨#[]⟩ : ByteArray)] 46 ?_; intro gb820 hg w14 hbox hb; have BK820 := Aside0.mk (hbox); have GW820 := gwe HB hg; have GE820 := GW820; replace HO_6 := Aside0.mk (Kd.Mp_below (by (with_reducible repeat (first | apply Kd.Mp_alloc | apply Kd.Mp_drewN | apply Kd.Mp_drew)); exact HO_6.out) hb); replace HB := bst HB hb; clear hb hbox hg; obtain ⟨hcz15_0, hcz15_1, hfz15_0, hfz15_1⟩ := cl2 BK820) | ((with_reducible refine gate_dst (N := 27) rfl ?_); refine map_look k46 9000065 w.heap.size (fun _ => True) v817 x6_1 rfl (N := 27) rfl (.tmp 25) (.tmp 26) rfl (⟨(rd_T46 l1 x19_1).f0, (rd_T46 l1 x19_1).f1⟩ : S46) LMc8.out rfl (by first | (go_simp; done) | (go_simp; rfl)) (by (with_reducible repeat (first | apply Kd.Mp_alloc | apply Kd.Mp_drewN | apply Kd.Mp_drew)); exact (Kd.Mp_mono (Kd.Mp_far (p := ⟨gb820, 1, none⟩) (Kd.Mp_far (p := ⟨gb820, 0, none⟩) (Kd.Mp_types HO_6.out BK820.out (by decide)) (fun _ hk => hk.2) (.int .i64 ((rd_T46 l1 x19_1).f0))) (fun _ hk => hk.2) (.string ((rd_T46 l1 x19_1).f1))) (fun _ h_ => h_.1))) ?_) | (at_mapUpdate; refine map_put (w0 := w) k46 9000065 w.heap.size (fun _ => True) v817 x6_1 rfl (.tmp 32) (.tmp 33) (.tmp 34) rfl (⟨(rd_T46 l1 x19_1).f0, (rd_T46 l1 x19_1).f1⟩ : S46) x19_1 LMc8.out LMc12.out rfl (by first | (go_simp; done) | (go_simp; rfl)) (by first | (go_simp; done) | (go_simp; rfl)) (by (with_reducible repeat (first | apply Kd.Mp_alloc | apply Kd.Mp_drewN | apply Kd.Mp_drew)); exact (Kd.Mp_mono (Kd.Mp_far (p := ⟨gb820, 1, none⟩) (Kd.Mp_far (p := ⟨gb820, 0, none⟩) (Kd.Mp_types HO_6.out BK820.out (by decide)) (fun _ hk => hk.2) (.int .i64 ((rd_T46 l1 x19_1).f0))) (fun _ hk => hk.2) (.string ((rd_T46 l1 x19_1).f1))) (fun _ h_ => h_.1))) LMc13.out (below_later HB.out) (below_size (below_later HB.out)) ?_; intro w16 ho hb hg; rw [← Ny821.out] at ho; have n0_ := Aside0.mk (Kd.Mp_blk (g := gb820) (o := .cells #[.int .i64 ((rd_T46 l1 x19_1).f0), .string ((rd_T46 l1 x19_1).f1)] 46 (0, 0)) (blk_later BK820.out) hg (by (with_reducible repeat (first | apply Kd.Mp_alloc | apply Kd.Mp_drewN | apply Kd.Mp_drew)); exact (Kd.Mp_mono (Kd.Mp_far (p := ⟨gb820, 1, none⟩) (Kd.Mp_far (p := ⟨gb820, 0, none⟩) (Kd.Mp_types HO_6.out BK820.out (by decide)) (fun _ hk => hk.2) (.int .i64 ((rd_T46 l1 x19_1).f0))) (fun _ hk => hk.2) (.string ((rd_T46 l1 x19_1).f1))) (fun _ h_ => h_.1))) (by intro _ _ h_; cases h_)); have n1_ := Aside0.mk (hb); have n2_ := Aside0.mk (ho); clear BK820; clear HB; clear HO_6; have BK820 := n0_; have HB := n1_; have HO822 := n2_; clear n0_ n1_ n2_; clear ho hb hg))
          go_roundg k1
          case measure => have := HK1.out; omega
          case rel => exact ⟨(y821), (wrap64 (x19_1 + 1)), sr, H', ⟨by have := HK1.out; omega⟩, ⟨by (with_reducible repeat (first | apply Kd.Mp_alloc | apply Kd.Mp_drewN | apply Kd.Mp_drew)); exact HO822.out⟩, ⟨below_later HB.out⟩⟩
      · rw [if_neg c5] at H
        have c5b0 := decide_eq_false c5
        clear c5
        obtain ⟨y823, hy823⟩ : ∃ y_ : List Int, y_ = (([] : List Int)) := ⟨_, rfl⟩
        replace H : (impl_dictPack.l1 k1 l1 x6_1 y823 l0 (l0.length : Int) 0) = some (r1, r2) := by first | (rw [hy823]; with_reducible exact H) | (rw [hy823]; exact H) | exact H
        have Ny823 := Aside0.mk hy823
        clear hy823
        have H' := Aside0.mk H
        clear H
        go_wp2_with (first | ((with_reducible refine gate_dst (N := 36) rfl ?_); refine Kd.R_lit (Kd.int .i64) _ 3 ?hg (N := 36) ?hd (xs := ([] : List Int)) (inner := []) (ok := fun _ => True) (okp := fun _ => True) ?hr ?hp (fun _ hk => hk) trivial (Below.refl _ _) (Nat.le_refl _) (by simp) ?_; (case hd => rfl); (case hg => rfl); (case hr => first | (go_simp; done) | (go_simp; rfl)); (case hp => exact (Reps.none _ _)); intro v824 w17 ho18 hb hg_ hnew_; clear hg_ hnew_; (first | rw [← Ny823.out] at ho18 | (simp only [Int.reduceToNat] at ho18; rw [← Ny823.out] at ho18)); have HO825 := Aside0.mk (Kd.R_lower ho18 (below_size (below_later HB.out))); replace HO_6 := Aside0.mk (Kd.Mp_below (by (with_reducible repeat (first | apply Kd.Mp_alloc | apply Kd.Mp_drewN | apply Kd.Mp_drew)); exact HO_6.out) hb); replace HB := bst HB hb; clear hb ho18))
        go_loopg [11, 39] k1 (fun kq v11 v39 w' => ∃ (x11_2 : List Int) (x39_2 : Int), v39 = .int .i64 x39_2 ∧ Aside0 (impl_dictPack.l1 kq l1 x6_1 x11_2 l0 (l0.length : Int) x39_2 = some (r1, r2)) ∧ Aside0 (kq ≤ k1) ∧ Aside0 (Kd.Mp k46 9000065 w' w.heap.size (fun _ => True) v817 x6_1) ∧ Aside0 (Kd.R (Kd.int .i64) 3 w' w.heap.size (fun _ => True) v11 x11_2) ∧ Aside0 (Below w.heap.size w w'))
        case atStart => exact ⟨(y823), (0), sr, H', ⟨Nat.le_refl _⟩, ⟨by (with_reducible repeat (first | apply Kd.Mp_alloc | apply Kd.Mp_drewN | apply Kd.Mp_drew)); exact HO_6.out⟩, ⟨R_later HO825.out⟩, ⟨below_later HB.out⟩⟩
        case round =>
          clear H'
          try clear c1
          try clear c5
          try clear c5b0
          obtain ⟨x11_2, x39_2, rfl, HA, HK2, HO_6, HO_11, HB⟩ := hrel
          cases gk with
          | zero => exact absurd HA.out (by simp [impl_dictPack.l1])
          | succ k2 =>
            have H := HA.out
            clear HA
            simp only [impl_dictPack.l1] at H
            by_cases c19 : x39_2 < (l0.length : Int)
            · rw [if_pos c19] at H
              have c19b0 := decide_eq_true c19
              clear c19
              replace H := ifd H
              obtain ⟨c20b0, H⟩ := H
              replace H := ifd H
              obtain ⟨c21b0, H⟩ := H
              replace H := ifs H
              obtain ⟨c22, H⟩ := H
              have LMc22 := Aside0.mk c22
              clear c22
              by_cases c23 : (vk_mem (⟨(rd_T46 l0 x39_2).f0, (rd_T46 l0 x39_2).f1⟩ : S46) x6_1 = true)
              · rw [if_pos c23] at H
                have c23b0 : vk_mem (⟨(rd_T46 l0 x39_2).f0, (rd_T46 l0 x39_2).f1⟩ : S46) x6_1 = true := c23
                clear c23
                replace H := ifs H
                obtain ⟨c24, H⟩ := H
                have LMc24 := Aside0.mk c24
                clear c24
                obtain ⟨y828, hy828⟩ : ∃ y_ : List Int, y_ = (x11_2 ++ [vk_at (⟨(rd_T46 l0 x39_2).f0, (rd_T46 l0 x39_2).f1⟩ : S46) x6_1]) := ⟨_, rfl⟩
                replace H : (impl_dictPack.l1 k2 l1 x6_1 y828 l0 (l0.length : Int) (wrap64 (x39_2 + 1))) = some (r1, r2) := by first | (rw [hy828]; with_reducible exact H) | (rw [hy828]; exact H) | exact H
                have Ny828 := Aside0.mk hy828
                clear hy828
                have H' := Aside0.mk H
                clear H
                have p826 : 0 ≤ (x39_2 : Int) := dcd
                have q826 : x39_2 < (l0.length : Int) := dcd
                obtain ⟨ad826, e826, hx826_0, hx826_1⟩ := at_T46 HR0.out x39_2 p826 q826
                cases e826
                replace hx826_0 := crd HB hx826_0
                replace hx826_1 := crd HB hx826_1
                replace p826 := eq_true p826
                replace q826 := eq_true q826
                go_wp2_with (first | ((with_reducible refine gate_dst (N := 13) rfl ?_); refine bx_ 13 #[.int .i64 0, .string (⟨#[]⟩ : ByteArray)] 46 ?_; intro gb827 hg w25 hbox hb; have BK827 := Aside0.mk (hbox); have GW827 := gwe HB hg; have GE827 := GW827; replace HO_6 := Aside0.mk (Kd.Mp_below (by (with_reducible repeat (first | apply Kd.Mp_alloc | apply Kd.Mp_drewN | apply Kd.Mp_drew)); exact HO_6.out) hb); replace HO_11 := Aside0.mk (Kd.R_below (R_later HO_11.out) hb); replace HB := bst HB hb; clear hb hbox hg; obtain ⟨hcz26_0, hcz26_1, hfz26_0, hfz26_1⟩ := cl2 BK827) | ((with_reducible refine gate_dst (N := 46) rfl ?_); refine map_look k46 9000065 w.heap.size (fun _ => True) v817 x6_1 rfl (N := 46) rfl (.tmp 44) (.tmp 45) rfl (⟨(rd_T46 l0 x39_2).f0, (rd_T46 l0 x39_2).f1⟩ : S46) LMc22.out rfl (by first | (go_simp; done) | (go_simp; rfl)) (by (with_reducible repeat (first | apply Kd.Mp_alloc | apply Kd.Mp_drewN | apply Kd.Mp_drew)); exact (Kd.Mp_mono (Kd.Mp_far (p := ⟨gb827, 1, none⟩) (Kd.Mp_far (p := ⟨gb827, 0, none⟩) (Kd.Mp_types HO_6.out BK827.out (by decide)) (fun _ hk => hk.2) (.int .i64 ((rd_T46 l0 x39_2).f0))) (fun _ hk => hk.2) (.string ((rd_T46 l0 x39_2).f1))) (fun _ h_ => h_.1))) ?_) | ((with_reducible refine gate_builtin (b := .append) (xs := #[.tmp 51, .tmp 53]) rfl ?_); at_builtin; refine Kd.R_append (Kd.int .i64) (w0 := w) w.heap.size rfl (.tmp 51) (.tmp 53) 41 3 (.int .i64 0) 8 rfl Try.underlying41 info3 rfl (by decide) (by omega) u11 x11_2 (vk_at (⟨(rd_T46 l0 x39_2).f0, (rd_T46 l0 x39_2).f1⟩ : S46) x6_1) [.int .i64 (vk_at (⟨(rd_T46 l0 x39_2).f0, (rd_T46 l0 x39_2).f1⟩ : S46) x6_1)] (fun _ => True) (fun _ => False) rfl (by first | (go_simp; done) | (go_simp; rfl)) ?aP (fun _ hk => hk.elim) ?aF ?aO ?aB ?aS ?aL ?_; (case aP => exact rfl); (case aB => exact (below_later HB.out)); (case aF => exact (fun _ _ => trivial)); (case aO => exact (by (with_reducible repeat (first | apply Kd.R_alloc | apply Kd.R_drewN | apply Kd.R_drew)); exact Kd.R_mono (Kd.R_far (p := ⟨gb827, 1, none⟩) (Kd.R_far (p := ⟨gb827, 0, none⟩) (Kd.R_types HO_11.out BK827.out (by decide)) (fun _ hk => hk.2) (.int .i64 ((rd_T46 l0 x39_2).f0))) (fun _ hk => hk.2) (.string ((rd_T46 l0 x39_2).f1))) (fun _ hk => trivial))); (case aS => exact (below_size (below_later HB.out))); (case aL => have := LMc24.out; omega); intro v829 w27 ho hb hg hat; rw [← Ny828.out] at ho; have n0_ := Aside0.mk (Kd.Mp_over' (by (with_reducible repeat (first | apply Kd.Mp_alloc | apply Kd.Mp_drewN | apply Kd.Mp_drew)); exact (Kd.Mp_mono (Kd.Mp_far (p := ⟨gb827, 1, none⟩) (Kd.Mp_far (p := ⟨gb827, 0, none⟩) (Kd.Mp_types HO_6.out BK827.out (by decide)) (fun _ hk => hk.2) (.int .i64 ((rd_T46 l0 x39_2).f0))) (fun _ hk => hk.2) (.string ((rd_T46 l0 x39_2).f1))) (fun _ h_ => h_.1))) (Kd.R_typed (by (with_reducible repeat (first | apply Kd.R_alloc | apply Kd.R_drewN | apply Kd.R_drew)); exact (Kd.R_mono (Kd.R_far (p := ⟨gb827, 1, none⟩) (Kd.R_far (p := ⟨gb827, 0, none⟩) (Kd.R_types HO_11.out BK827.out (by decide)) (fun _ hk => hk.2) (.int .i64 ((rd_T46 l0 x39_2).f0))) (fun _ hk => hk.2) (.string ((rd_T46 l0 x39_2).f1))) (fun _ h_ => h_.1)))) (by decide) hg); have n1_ := Aside0.mk (blk_grown (g := gb827) (o := .cells #[.int .i64 ((rd_T46 l0 x39_2).f0), .string ((rd_T46 l0 x39_2).f1)] 46 (0, 0)) (blk_later BK827.out) hg (Kd.R_ne HO_11.out BK827.out (by decide))); have n2_ := Aside0.mk (hb); have n3_ := Aside0.mk (ho); clear HO_6; clear BK827; clear HB; clear HO_11; have HO_6 := n0_; have BK827 := n1_; have HB := n2_; have HO830 := n3_; clear n0_ n1_ n2_ n3_; clear ho hb hg hat))
                go_roundg k2
                case measure => have := HK1.out; have := HK2.out; omega
                case rel => exact ⟨(y828), (wrap64 (x39_2 + 1)), sr, H', ⟨by have := HK1.out; have := HK2.out; omega⟩, ⟨by (with_reducible repeat (first | apply Kd.Mp_alloc | apply Kd.Mp_drewN | apply Kd.Mp_drew)); exact HO_6.out⟩, ⟨R_later HO830.out⟩, ⟨below_later HB.out⟩⟩
              · rw [if_neg c23] at H
                have c23b0 : vk_mem (⟨(rd_T46 l0 x39_2).f0, (rd_T46 l0 x39_2).f1⟩ : S46) x6_1 = false := by simpa using c23
                clear c23
                simp only [Option.some.injEq, Prod.mk.injEq] at H
                obtain ⟨rfl, rfl⟩ := H
                have p826 : 0 ≤ (x39_2 : Int) := dcd
                have q826 : x39_2 < (l0.length : Int) := dcd
                obtain ⟨ad826, e826, hx826_0, hx826_1⟩ := at_T46 HR0.out x39_2 p826 q826
                cases e826
                replace hx826_0 := crd HB hx826_0
                replace hx826_1 := crd HB hx826_1
                replace p826 := eq_true p826
                replace q826 := eq_true q826
                go_wp2_with (first | ((with_reducible refine gate_dst (N := 13) rfl ?_); refine bx_ 13 #[.int .i64 0, .string (⟨#[]⟩ : ByteArray)] 46 ?_; intro gb827 hg w28 hbox hb; have BK827 := Aside0.mk (hbox); have GW827 := gwe HB hg; have GE827 := GW827; replace HO_6 := Aside0.mk (Kd.Mp_below (by (with_reducible repeat (first | apply Kd.Mp_alloc | apply Kd.Mp_drewN | apply Kd.Mp_drew)); exact HO_6.out) hb); replace HO_11 := Aside0.mk (Kd.R_below (R_later HO_11.out) hb); replace HB := bst HB hb; clear hb hbox hg; obtain ⟨hcz29_0, hcz29_1, hfz29_0, hfz29_1⟩ := cl2 BK827) | ((with_reducible refine gate_dst (N := 46) rfl ?_); refine map_look k46 9000065 w.heap.size (fun _ => True) v817 x6_1 rfl (N := 46) rfl (.tmp 44) (.tmp 45) rfl (⟨(rd_T46 l0 x39_2).f0, (rd_T46 l0 x39_2).f1⟩ : S46) LMc22.out rfl (by first | (go_simp; done) | (go_simp; rfl)) (by (with_reducible repeat (first | apply Kd.Mp_alloc | apply Kd.Mp_drewN | apply Kd.Mp_drew)); exact (Kd.Mp_mono (Kd.Mp_far (p := ⟨gb827, 1, none⟩) (Kd.Mp_far (p := ⟨gb827, 0, none⟩) (Kd.Mp_types HO_6.out BK827.out (by decide)) (fun _ hk => hk.2) (.int .i64 ((rd_T46 l0 x39_2).f0))) (fun _ hk => hk.2) (.string ((rd_T46 l0 x39_2).f1))) (fun _ h_ => h_.1))) ?_))
                go_ret2
                exact ⟨_, by first | rfl | (simp [errW_none, errW_some] <;> rfl) | (simp [*, errW_none, errW_some] <;> rfl), by first | exact Kd.R_nil _ _ _ _ _ | exact Kd.N_nil _ _ _ _ _ | exact Kd.V_nil _ _ _ _ _ | exact Kd.Q_nil _ _ _ _ _ | exact Kd.S_nil _ _ _ _ _, below_later HB.out⟩
            · rw [if_neg c19] at H
              have c19b0 := decide_eq_false c19
              clear c19
              replace H := Option.bind_eq_some_iff.mp H
              obtain ⟨⟨t831, t832⟩, A300, H⟩ := H
              replace H : (some (t831, t832)) = some (r1, r2) := H
              have A30 := Aside0.mk A300
              clear A300
              simp only [Option.some.injEq, Prod.mk.injEq] at H
              obtain ⟨rfl, rfl⟩ := H
              obtain ⟨Ao31, co31, eo31⟩ := Kd.R_slice HO_11.out
              subst eo31
              go_wp2_with (first | ((with_reducible refine gate_callee (f := 68) rfl ?_); refine gl_ (some 59) Try.func68 #[.slice Ao31 x11_2.length co31, .int .i64 (l1.length : Int)] rfl ?_; (with_reducible refine (impl_PlacesPack.calls k2 _ _ x11_2 (l1.length : Int) t831 t832 _ ?side1 ?side2 A30.out).mono ?_); (case side1 => repeat (first | exact (Kd.R_reads' HO_11.out).2.2 | (with_reducible refine Kd.C_alloc ?_ _) | (with_reducible refine Kd.C_drewN ?_ _) | (with_reducible refine Kd.C_drew ?_))); (case side2 => exact (Kd.R_reads' HO_11.out).2.1); rintro e w32 ⟨v833, rfl, ho0, hb⟩; refine ⟨_, rfl, ?_⟩; have HO834 := Aside0.mk (Kd.R_lower ho0 (below_size (below_later HB.out))); replace HO_6 := Aside0.mk (Kd.Mp_below (by (with_reducible repeat (first | apply Kd.Mp_alloc | apply Kd.Mp_drewN | apply Kd.Mp_drew)); exact HO_6.out) hb); replace HO_11 := Aside0.mk (Kd.R_below (R_later HO_11.out) hb); replace HB := bst HB hb; (try clear hb); (try clear ho0)))
              go_ret2
              exact ⟨_, by first | rfl | (simp [errW_none, errW_some] <;> rfl) | (simp [*, errW_none, errW_some] <;> rfl), by (with_reducible repeat (first | apply Kd.R_alloc | apply Kd.R_drewN | apply Kd.R_drew)); exact HO834.out, below_later HB.out⟩

end Go.Proofs.Ytkocikdceojnmaa.PFnExactEncPack
