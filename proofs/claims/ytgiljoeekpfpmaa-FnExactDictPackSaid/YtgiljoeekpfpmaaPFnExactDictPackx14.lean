/- The machine's side of FnExactDictPack, written by wip/tools/hyb.py of this repo: each Go function as a plain Lean function, and the proof that the call comes to just its answer. No condition. -/
import Derived.Test.YtgiljoeekpfpmaaPFnExactDictPackx0
import Derived.Test.YtgiljoeekpfpmaaPFnExactDictPackx1
import Derived.Test.YtgiljoeekpfpmaaPFnExactDictPackx6
import Derived.Test.YtgiljoeekpfpmaaPFnExactDictPackx13
namespace Go.Proofs.Ytgiljoeekpfpmaa.PFnExactDictPack
open Go.RowKit Go.Proofs.YtgiljoeekpfpmaaW.PrintWords Go.Proofs.YtgiljoeekpfpmaaW.PrintLast Go.Proofs.YtgiljoeekpfpmaaW.PrintMore Go.Proofs.YtgiljoeekpfpmaaW.PrintMore2
attribute [local go_sem] max2_int min2_int max_two min_two max_three min_three max_four min_four   -- for this text's walks alone
set_option linter.unusedVariables false
set_option linter.unusedSimpArgs false

/-! ### laws_FnExactDictPack: function 4 -/
mutual
def laws_FnExactDictPack.j0 : Nat → Int → List (S66) → Bool → List Int → Bool → List (S27) → List Int → Bool → Bool → Option (Bool)
  | 0, _, _, _, _, _, _, _, _, _ => none
  | k + 1, x0, x1, x2, x8, x9, x10, x11, x12, x48 => if x48 = true then (some false) else ((laws_toValS.f k x1).bind fun t691 => ((laws_eqValS.f k x10 t691).bind fun t694 => (if t694 = true then ((laws_markValS.f k x10 1).bind fun bt695 => (if bt695.1 < 0 then (laws_FnExactDictPack.j1 k x0 x1 x2 x8 x9 x11 true) else ((laws_eqByteS.f k x11 x8).bind fun t697 => (if t697 = true then (laws_FnExactDictPack.j1 k x0 x1 x2 x8 x9 x11 (x12 != x9)) else (laws_FnExactDictPack.j1 k x0 x1 x2 x8 x9 x11 true))))) else (some false))))
def laws_FnExactDictPack.j1 : Nat → Int → List (S66) → Bool → List Int → Bool → List Int → Bool → Option (Bool)
  | 0, _, _, _, _, _, _, _ => none
  | k + 1, x0, x1, x2, x8, x9, x11, x69 => if x69 = true then (some false) else ((laws_markByteS.f k x11 1).bind fun bt698 => ((laws_heldByteS.f k bt698.2 1).bind fun t700 => (if t700 < 0 then (some false) else (if t700 = bt698.1 then ((laws_toValS.f k x1).bind fun t701 => ((impl_DictPack.f k x0 t701 x2).bind fun bt704 => ((laws_eqByteS.f k bt704.1 x8).bind fun t708 => (if t708 = true then (laws_FnExactDictPack.j2 k bt698.2 bt698.1 (bt704.2 != x9)) else (laws_FnExactDictPack.j2 k bt698.2 bt698.1 true))))) else (some false)))))
def laws_FnExactDictPack.j2 : Nat → List Int → Int → Bool → Option (Bool)
  | 0, _, _, _ => none
  | k + 1, x11, x14, x97 => if x97 = true then (some false) else ((laws_heldByteS.f k x11 1).bind fun t709 => (if t709 < 0 then (some false) else (if t709 = x14 then (some true) else (some false))))
end
def laws_FnExactDictPack.f (k : Nat) (a0 : Int) (l1 : List (S66)) (a2 : Bool) : Option (Bool) := (laws_szValS.f k l1 1048576).bind fun t675 => (if t675 < 0 then (some true) else ((laws_toValS.f k l1).bind fun t676 => ((spec_DictPack.f k a0 t676 a2).bind fun bt679 => ((laws_toValS.f k l1).bind fun t683 => ((impl_DictPack.f k a0 t683 a2).bind fun bt686 => ((laws_eqByteS.f k bt686.1 bt679.1).bind fun t690 => (if t690 = true then (laws_FnExactDictPack.j0 k a0 l1 a2 bt679.1 bt679.2 t683 bt686.1 bt686.2 (bt686.2 != bt679.2)) else (laws_FnExactDictPack.j0 k a0 l1 a2 bt679.1 bt679.2 t683 bt686.1 bt686.2 true))))))))
set_option maxHeartbeats 8000000 in
set_option maxRecDepth 100000 in
theorem laws_FnExactDictPack.calls (k : Nat) (a0 : Int) (A1 : Option Addr) (c1 : Nat) (l1 : List (S66)) (a2 : Bool) (r : Bool) (w : World) (hr1 : Kd.C k66 w A1 l1.length l1) (hc1 : l1.length ≤ c1) (h : laws_FnExactDictPack.f k a0 l1 a2 = some true) :
    Calls Try.prog 4 #[.int .i64 a0, .slice A1 l1.length c1, .bool a2] w fun e w' => e = .returned (.bool true) ∧ Below w.heap.size w w' := by
  have HR1 := Aside0.mk hr1
  have HC1 := Aside0.mk hc1
  clear hr1 hc1
  have HB := Aside0.mk (Below.refl w.heap.size w)
  have H : ((laws_szValS.f k l1 1048576).bind fun t675 => (if t675 < 0 then (some true) else ((laws_toValS.f k l1).bind fun t676 => ((spec_DictPack.f k a0 t676 a2).bind fun bt679 => ((laws_toValS.f k l1).bind fun t683 => ((impl_DictPack.f k a0 t683 a2).bind fun bt686 => ((laws_eqByteS.f k bt686.1 bt679.1).bind fun t690 => (if t690 = true then (laws_FnExactDictPack.j0 k a0 l1 a2 bt679.1 bt679.2 t683 bt686.1 bt686.2 (bt686.2 != bt679.2)) else (laws_FnExactDictPack.j0 k a0 l1 a2 bt679.1 bt679.2 t683 bt686.1 bt686.2 true))))))))) = some true := h
  clear h
  replace H := bnd H
  obtain ⟨t675, A4, H⟩ := H
  by_cases c5 : t675 < 0
  · rw [if_pos c5] at H
    have c5b0 := decide_eq_true c5
    clear c5
    clear H
    go_enter Try.func4, Try.ntmps4
    go_wp2_with (first | ((with_reducible refine gate_callee (f := 12) rfl ?_); refine gl_ (some 20) Try.func12 #[.slice A1 l1.length c1, .int .i64 1048576] rfl ?_; (with_reducible refine (laws_szValS.calls k _ _ l1 1048576 t675 _ ?side1 ?side2 A4.out).mono ?_); (case side1 => exact C_later HR1.out); (case side2 => exact HC1.out); rintro e w6 ⟨rfl, hb⟩; refine ⟨_, rfl, ?_⟩; replace HB := bst HB hb; (try clear hb)))
    go_ret
    exact fin_ (below_later HB.out)
  · rw [if_neg c5] at H
    have c5b0 := decide_eq_false c5
    clear c5
    replace H := bnd H
    obtain ⟨t676, A7, H⟩ := H
    replace H := Option.bind_eq_some_iff.mp H
    obtain ⟨⟨t679, t680⟩, A80, H⟩ := H
    replace H : ((laws_toValS.f k l1).bind fun t683 => ((impl_DictPack.f k a0 t683 a2).bind fun bt686 => ((laws_eqByteS.f k bt686.1 t679).bind fun t690 => (if t690 = true then (laws_FnExactDictPack.j0 k a0 l1 a2 t679 t680 t683 bt686.1 bt686.2 (bt686.2 != t680)) else (laws_FnExactDictPack.j0 k a0 l1 a2 t679 t680 t683 bt686.1 bt686.2 true))))) = some true := H
    have A8 := Aside0.mk A80
    clear A80
    replace H := bnd H
    obtain ⟨t683, A9, H⟩ := H
    replace H := Option.bind_eq_some_iff.mp H
    obtain ⟨⟨t686, t687⟩, A100, H⟩ := H
    replace H : ((laws_eqByteS.f k t686 t679).bind fun t690 => (if t690 = true then (laws_FnExactDictPack.j0 k a0 l1 a2 t679 t680 t683 t686 t687 (t687 != t680)) else (laws_FnExactDictPack.j0 k a0 l1 a2 t679 t680 t683 t686 t687 true))) = some true := H
    have A10 := Aside0.mk A100
    clear A100
    have HC11 := Aside0.mk H
    clear H
    go_enter Try.func4, Try.ntmps4
    go_upto_region 8 with (first | ((with_reducible refine gate_callee (f := 12) rfl ?_); refine gl_ (some 20) Try.func12 #[.slice A1 l1.length c1, .int .i64 1048576] rfl ?_; (with_reducible refine (laws_szValS.calls k _ _ l1 1048576 t675 _ ?side1 ?side2 A4.out).mono ?_); (case side1 => exact C_later HR1.out); (case side2 => exact HC1.out); rintro e w12 ⟨rfl, hb⟩; refine ⟨_, rfl, ?_⟩; replace HB := bst HB hb; (try clear hb)) | ((with_reducible refine gate_callee (f := 14) rfl ?_); refine gl_ (some 26) Try.func14 #[.slice A1 l1.length c1] rfl ?_; (with_reducible refine (laws_toValS.calls k _ _ l1 t676 _ ?side1 ?side2 A7.out).mono ?_); (case side1 => repeat (first | exact (Kd.C_below HR1.out HB.out) | (with_reducible refine Kd.C_alloc ?_ _) | (with_reducible refine Kd.C_drewN ?_ _) | (with_reducible refine Kd.C_drew ?_))); (case side2 => exact HC1.out); rintro e w13 ⟨v677, rfl, ho0, hb⟩; refine ⟨_, rfl, ?_⟩; have HO678 := Aside0.mk (Kd.R_lower ho0 (below_size (below_later HB.out))); replace HB := bst HB hb; (try clear hb); (try clear ho0); obtain ⟨Ao14, co14, eo14⟩ := Kd.R_slice HO678.out; subst eo14) | ((with_reducible refine gate_callee (f := 13) rfl ?_); refine gl_ (some 28) Try.func13 #[.int .i64 a0, .slice Ao14 t676.length co14, .bool a2] rfl ?_; (with_reducible refine (spec_DictPack.calls k a0 _ _ t676 a2 t679 t680 _ ?side1 ?side2 A8.out).mono ?_); (case side1 => repeat (first | exact (Kd.R_reads' HO678.out).2.2 | (with_reducible refine Kd.C_alloc ?_ _) | (with_reducible refine Kd.C_drewN ?_ _) | (with_reducible refine Kd.C_drew ?_))); (case side2 => exact (Kd.R_reads' HO678.out).2.1); rintro e w15 ⟨v681, rfl, ho0, hb⟩; refine ⟨_, rfl, ?_⟩; have HO682 := Aside0.mk (Kd.R_lower ho0 (below_size (below_later HB.out))); replace HO678 := Aside0.mk (Kd.R_below (R_later HO678.out) hb); replace HB := bst HB hb; (try clear hb); (try clear ho0)) | ((with_reducible refine gate_callee (f := 14) rfl ?_); refine gl_ (some 32) Try.func14 #[.slice A1 l1.length c1] rfl ?_; (with_reducible refine (laws_toValS.calls k _ _ l1 t683 _ ?side1 ?side2 A9.out).mono ?_); (case side1 => repeat (first | exact (Kd.C_below HR1.out HB.out) | (with_reducible refine Kd.C_alloc ?_ _) | (with_reducible refine Kd.C_drewN ?_ _) | (with_reducible refine Kd.C_drew ?_))); (case side2 => exact HC1.out); rintro e w16 ⟨v684, rfl, ho0, hb⟩; refine ⟨_, rfl, ?_⟩; have HO685 := Aside0.mk (Kd.R_lower (Kd.R_new' ho0 (Kd.R_lt (R_later HO678.out))) (below_size (below_later HB.out))); replace HO678 := Aside0.mk (Kd.R_elder' (R_later HO678.out) (Kd.R_base ho0) hb); replace HO682 := Aside0.mk (Kd.R_below (R_later HO682.out) hb); replace HB := bst HB hb; (try clear hb); (try clear ho0); obtain ⟨Ao17, co17, eo17⟩ := Kd.R_slice HO685.out; subst eo17) | ((with_reducible refine gate_callee (f := 15) rfl ?_); refine gl_ (some 37) Try.func15 #[.int .i64 a0, .slice Ao17 t683.length co17, .bool a2] rfl ?_; (with_reducible refine (impl_DictPack.calls k a0 _ _ t683 a2 t686 t687 _ ?side1 ?side2 A10.out).mono ?_); (case side1 => repeat (first | exact (Kd.R_reads' HO685.out).2.2 | (with_reducible refine Kd.C_alloc ?_ _) | (with_reducible refine Kd.C_drewN ?_ _) | (with_reducible refine Kd.C_drew ?_))); (case side2 => exact (Kd.R_reads' HO685.out).2.1); rintro e w18 ⟨v688, rfl, ho0, hb⟩; refine ⟨_, rfl, ?_⟩; have HO689 := Aside0.mk (Kd.R_lower (Kd.R_new' ho0 (Kd.R_lt (R_later HO682.out))) (below_size (below_later HB.out))); replace HO678 := Aside0.mk (Kd.R_below (R_later HO678.out) hb); replace HO682 := Aside0.mk (Kd.R_elder' (R_later HO682.out) (Kd.R_base ho0) hb); replace HO685 := Aside0.mk (Kd.R_below (R_later HO685.out) hb); replace HB := bst HB hb; (try clear hb); (try clear ho0)))
    (try simp only [Act.put, List.setIfInBounds_toArray, List.set_cons_zero, List.set_cons_succ])
    go_cut [48] (fun v48 wc => ∃ (kq : Nat) (x48_10 : Bool), v48 = .bool x48_10 ∧ Aside0 (laws_FnExactDictPack.j0 kq a0 l1 a2 t679 t680 t683 t686 t687 x48_10 = some true) ∧ Aside0 (kq ≤ k) ∧ Aside0 (Kd.R (Kd.int .u8) 5 wc w.heap.size (fun k_ => some k_ ≠ (v688 : Value).ownBlock) v681 t679) ∧ Aside0 (Kd.R k27 27 wc w.heap.size (fun _ => True) (.slice Ao17 t683.length co17) t683) ∧ Aside0 (Kd.R (Kd.int .u8) 5 wc w.heap.size (fun k_ => some k_ ≠ (v681 : Value).ownBlock) v688 t686) ∧ Aside0 (Below w.heap.size w wc))
    case first =>
      have H := HC11.out
      clear HC11
      replace H := bnd H
      obtain ⟨t690, A19, H⟩ := H
      by_cases c20 : t690 = true
      · subst c20
        replace H := ifp rfl H
        have H' := Aside0.mk H
        clear H
        obtain ⟨Ao21, co21, eo21⟩ := Kd.R_slice HO689.out
        subst eo21
        obtain ⟨Ao22, co22, eo22⟩ := Kd.R_slice HO682.out
        subst eo22
        go_wp2_with (first | ((with_reducible refine gate_callee (f := 16) rfl ?_); refine gl_ (some 42) Try.func16 #[.slice Ao21 t686.length co21, .slice Ao22 t679.length co22] rfl ?_; (with_reducible refine (laws_eqByteS.calls k _ _ t686 _ _ t679 true _ ?side1 ?side2 ?side3 ?side4 A19.out).mono ?_); (case side1 => repeat (first | exact (Kd.R_reads' HO689.out).2.2 | (with_reducible refine Kd.C_alloc ?_ _) | (with_reducible refine Kd.C_drewN ?_ _) | (with_reducible refine Kd.C_drew ?_))); (case side2 => exact (Kd.R_reads' HO689.out).2.1); (case side3 => repeat (first | exact (Kd.R_reads' HO682.out).2.2 | (with_reducible refine Kd.C_alloc ?_ _) | (with_reducible refine Kd.C_drewN ?_ _) | (with_reducible refine Kd.C_drew ?_))); (case side4 => exact (Kd.R_reads' HO682.out).2.1); rintro e w' ⟨rfl, ⟨nd, rfl⟩⟩; refine ⟨_, rfl, ?_⟩))
        go_meet
        case rel => exact ⟨_, ((t687 != t680)), sr, H', ⟨by first | omega | exact Nat.le_refl _⟩, ⟨R_later (Kd.R_mono HO682.out (fun _ hk => hk.2))⟩, ⟨R_later (Kd.R_mono HO685.out (fun _ hk => trivial))⟩, ⟨R_later (Kd.R_mono HO689.out (fun _ hk => hk.2))⟩, ⟨below_later HB.out⟩⟩
      · replace c20 := Bool.eq_false_iff.mpr c20
        subst c20
        have H1 : (laws_FnExactDictPack.j0 k a0 l1 a2 t679 t680 t683 t686 t687 true) = some true := by rw [if_neg (show ¬ (false = true) by decide)] at H; exact H
        exact absurd H1 (by cases k <;> simp [laws_FnExactDictPack.j0])
    case rest =>
      clear HC11
      try clear c1
      try clear c5
      try clear c5b0
      obtain ⟨kq, x48_10, rfl, HA, HJ10, HO_8, HO_10, HO_11, HB⟩ := hcut
      cases kq with
      | zero => exact absurd HA.out (by simp [laws_FnExactDictPack.j0])
      | succ kj10 =>
        have H := HA.out
        clear HA
        simp only [laws_FnExactDictPack.j0] at H
        by_cases c25 : x48_10 = true
        · subst c25
          have H1 : (some false) = some true := by rw [if_pos rfl] at H; exact H
          cases H1
        · replace c25 := Bool.eq_false_iff.mpr c25
          subst c25
          replace H := ifn Bool.false_ne_true H
          replace H := bnd H
          obtain ⟨t691, A26, H⟩ := H
          replace H := bnd H
          obtain ⟨t694, A27, H⟩ := H
          by_cases c28 : t694 = true
          · subst c28
            replace H := ifp rfl H
            replace H := Option.bind_eq_some_iff.mp H
            obtain ⟨⟨t695, t696⟩, A290, H⟩ := H
            replace H : (if t695 < 0 then (laws_FnExactDictPack.j1 kj10 a0 l1 a2 t679 t680 t686 true) else ((laws_eqByteS.f kj10 t686 t679).bind fun t697 => (if t697 = true then (laws_FnExactDictPack.j1 kj10 a0 l1 a2 t679 t680 t686 (t687 != t680)) else (laws_FnExactDictPack.j1 kj10 a0 l1 a2 t679 t680 t686 true)))) = some true := H
            have A29 := Aside0.mk A290
            clear A290
            have HC30 := Aside0.mk H
            clear H
            go_upto_region 14 with (first | ((with_reducible refine gate_callee (f := 14) rfl ?_); refine gl_ (some 51) Try.func14 #[.slice A1 l1.length c1] rfl ?_; (with_reducible refine (laws_toValS.calls kj10 _ _ l1 t691 _ ?side1 ?side2 A26.out).mono ?_); (case side1 => repeat (first | exact (Kd.C_below HR1.out HB.out) | (with_reducible refine Kd.C_alloc ?_ _) | (with_reducible refine Kd.C_drewN ?_ _) | (with_reducible refine Kd.C_drew ?_))); (case side2 => exact HC1.out); rintro e w31 ⟨v692, rfl, ho0, hb⟩; refine ⟨_, rfl, ?_⟩; have HO693 := Aside0.mk (Kd.R_lower (Kd.R_new' ho0 (Kd.R_lt (R_later HO_10.out))) (below_size (below_later HB.out))); replace HO_8 := Aside0.mk (Kd.R_below (R_later HO_8.out) hb); replace HO_10 := Aside0.mk (Kd.R_elder' (R_later HO_10.out) (Kd.R_base ho0) hb); replace HO_11 := Aside0.mk (Kd.R_below (R_later HO_11.out) hb); replace HB := bst HB hb; (try clear hb); (try clear ho0); obtain ⟨Ao32, co32, eo32⟩ := Kd.R_slice HO693.out; subst eo32) | ((with_reducible refine gate_callee (f := 17) rfl ?_); refine gl_ (some 52) Try.func17 #[.slice Ao17 t683.length co17, .slice Ao32 t691.length co32] rfl ?_; (with_reducible refine (laws_eqValS.calls kj10 _ _ t683 _ _ t691 true _ ?side1 ?side2 ?side3 ?side4 A27.out).mono ?_); (case side1 => repeat (first | exact (Kd.R_reads' HO_10.out).2.2 | (with_reducible refine Kd.C_alloc ?_ _) | (with_reducible refine Kd.C_drewN ?_ _) | (with_reducible refine Kd.C_drew ?_))); (case side2 => exact (Kd.R_reads' HO_10.out).2.1); (case side3 => repeat (first | exact (Kd.R_reads' HO693.out).2.2 | (with_reducible refine Kd.C_alloc ?_ _) | (with_reducible refine Kd.C_drewN ?_ _) | (with_reducible refine Kd.C_drew ?_))); (case side4 => exact (Kd.R_reads' HO693.out).2.1); rintro e w33 ⟨rfl, hb⟩; refine ⟨_, rfl, ?_⟩; replace HO_8 := Aside0.mk (Kd.R_below (R_later HO_8.out) hb); replace HO_10 := Aside0.mk (Kd.R_below (R_later HO_10.out) hb); replace HO_11 := Aside0.mk (Kd.R_below (R_later HO_11.out) hb); replace HO693 := Aside0.mk (Kd.R_below (R_later HO693.out) hb); replace HB := bst HB hb; (try clear hb)) | ((with_reducible refine gate_callee (f := 18) rfl ?_); refine gl_ (some 56) Try.func18 #[.slice Ao17 t683.length co17, .int .i64 1] rfl ?_; (with_reducible refine (laws_markValS.calls kj10 (fun k_ => some k_ = (.slice Ao17 t683.length co17 : Value).ownBlock) (.slice Ao17 t683.length co17) t683 1 t695 t696 w _ ?side1 ?side2 A29.out).mono ?_); (case side1 => repeat (first | (with_reducible first | exact HB.out | apply below_alloc | apply pw_below_drewN | apply below_drew1) | exact HB.out)); (case side2 => exact Kd.R_tight rfl HO_10.out); rintro e w34 ⟨rfl, hy0, hb, hkp⟩; refine ⟨_, rfl, ?_⟩; replace HO_8 := Aside0.mk (Kd.R_mono (ok' := fun k_ => some k_ ≠ (v688 : Value).ownBlock) (Kd.R_keptB ((Kd.R_apart' HO_8.out (Kd.R_typed HO_10.out) (by decide))) hkp (fun k_ hk_ hs_ => (hk_.2) hs_)) (fun k_ hk_ => hk_.1.1)); replace HO_11 := Aside0.mk (Kd.R_mono (ok' := fun k_ => some k_ ≠ (v681 : Value).ownBlock) (Kd.R_keptB ((Kd.R_apart' HO_11.out (Kd.R_typed HO_10.out) (by decide))) hkp (fun k_ hk_ hs_ => (hk_.2) hs_)) (fun k_ hk_ => hk_.1.1)); replace HO_10 := Aside0.mk (Kd.R_reok rfl hy0 (fun k_ e_ => HO_10.out.1 k_ e_)); replace HO693 := Aside0.mk (Kd.R_mono (ok' := fun k_ => some k_ ≠ (.slice Ao17 t683.length co17 : Value).ownBlock) (Kd.R_keptB (HO693.out) hkp (fun k_ hk_ hs_ => (hk_.2) hs_)) (fun k_ hk_ => hk_.1.2)); replace HB := Aside0.mk (hb); (try clear hb); (try clear hkp); (try clear hy0)))
            (try simp only [Act.put, List.setIfInBounds_toArray, List.set_cons_zero, List.set_cons_succ])
            go_cut [69] (fun v69 wc => ∃ (kq : Nat) (x69_29 : Bool), v69 = .bool x69_29 ∧ Aside0 (laws_FnExactDictPack.j1 kq a0 l1 a2 t679 t680 t686 x69_29 = some true) ∧ Aside0 (kq ≤ kj10) ∧ Aside0 (Kd.R (Kd.int .u8) 5 wc w.heap.size (fun k_ => some k_ ≠ (v688 : Value).ownBlock) v681 t679) ∧ Aside0 (Kd.R (Kd.int .u8) 5 wc w.heap.size (fun k_ => some k_ ≠ (v681 : Value).ownBlock) v688 t686) ∧ Aside0 (Below w.heap.size w wc))
            case first =>
              have H := HC30.out
              clear HC30
              by_cases c35 : t695 < 0
              · rw [if_pos c35] at H
                have c35b0 := decide_eq_true c35
                clear c35
                (first | rw [c35b0] | (simp only [i64_w, i32_w]; rw [c35b0]) | skip)
                have H' := Aside0.mk H
                clear H
                go_wp2
                go_meet
                case rel => exact ⟨_, (true), sr, H', ⟨by have := HJ10.out; first | omega | exact Nat.le_refl _⟩, ⟨R_later HO_8.out⟩, ⟨R_later HO_11.out⟩, ⟨below_later HB.out⟩⟩
              · rw [if_neg c35] at H
                have c35b0 := decide_eq_false c35
                clear c35
                (first | rw [c35b0] | (simp only [i64_w, i32_w]; rw [c35b0]) | skip)
                replace H := bnd H
                obtain ⟨t697, A36, H⟩ := H
                by_cases c37 : t697 = true
                · subst c37
                  replace H := ifp rfl H
                  have H' := Aside0.mk H
                  clear H
                  obtain ⟨Ao38, co38, eo38⟩ := Kd.R_slice HO_11.out
                  subst eo38
                  obtain ⟨Ao39, co39, eo39⟩ := Kd.R_slice HO_8.out
                  subst eo39
                  go_wp2_with (first | (go_at_call 16; (with_reducible refine (laws_eqByteS.calls kj10 _ _ t686 _ _ t679 true _ ?side1 ?side2 ?side3 ?side4 A36.out).mono ?_); (case side1 => repeat (first | exact (Kd.R_reads' HO_11.out).2.2 | (with_reducible refine Kd.C_alloc ?_ _) | (with_reducible refine Kd.C_drewN ?_ _) | (with_reducible refine Kd.C_drew ?_))); (case side2 => exact (Kd.R_reads' HO_11.out).2.1); (case side3 => repeat (first | exact (Kd.R_reads' HO_8.out).2.2 | (with_reducible refine Kd.C_alloc ?_ _) | (with_reducible refine Kd.C_drewN ?_ _) | (with_reducible refine Kd.C_drew ?_))); (case side4 => exact (Kd.R_reads' HO_8.out).2.1); rintro e w' ⟨rfl, ⟨nd, rfl⟩⟩))
                  go_meet
                  case rel => exact ⟨_, ((t687 != t680)), sr, H', ⟨by have := HJ10.out; first | omega | exact Nat.le_refl _⟩, ⟨R_later HO_8.out⟩, ⟨R_later HO_11.out⟩, ⟨below_later HB.out⟩⟩
                · replace c37 := Bool.eq_false_iff.mpr c37
                  subst c37
                  have H1 : (laws_FnExactDictPack.j1 kj10 a0 l1 a2 t679 t680 t686 true) = some true := by rw [if_neg (show ¬ (false = true) by decide)] at H; exact H
                  exact absurd H1 (by cases kj10 <;> simp [laws_FnExactDictPack.j1])
            case rest =>
              clear HC30
              try clear c1
              try clear c5
              try clear c5b0
              try clear c25
              try clear c28
              obtain ⟨kq, x69_29, rfl, HA, HJ29, HO_8, HO_11, HB⟩ := hcut
              cases kq with
              | zero => exact absurd HA.out (by simp [laws_FnExactDictPack.j1])
              | succ kj29 =>
                have H := HA.out
                clear HA
                simp only [laws_FnExactDictPack.j1] at H
                by_cases c42 : x69_29 = true
                · subst c42
                  have H1 : (some false) = some true := by rw [if_pos rfl] at H; exact H
                  cases H1
                · replace c42 := Bool.eq_false_iff.mpr c42
                  subst c42
                  replace H := ifn Bool.false_ne_true H
                  replace H := Option.bind_eq_some_iff.mp H
                  obtain ⟨⟨t698, t699⟩, A430, H⟩ := H
                  replace H : ((laws_heldByteS.f kj29 t699 1).bind fun t700 => (if t700 < 0 then (some false) else (if t700 = t698 then ((laws_toValS.f kj29 l1).bind fun t701 => ((impl_DictPack.f kj29 a0 t701 a2).bind fun bt704 => ((laws_eqByteS.f kj29 bt704.1 t679).bind fun t708 => (if t708 = true then (laws_FnExactDictPack.j2 kj29 t699 t698 (bt704.2 != t680)) else (laws_FnExactDictPack.j2 kj29 t699 t698 true))))) else (some false)))) = some true := H
                  have A43 := Aside0.mk A430
                  clear A430
                  replace H := bnd H
                  obtain ⟨t700, A44, H⟩ := H
                  by_cases c45 : t700 < 0
                  · rw [if_pos c45] at H
                    cases H
                  · rw [if_neg c45] at H
                    have c45b0 := decide_eq_false c45
                    clear c45
                    by_cases c48 : t700 = t698
                    · rw [if_pos c48] at H
                      have c48b0 : (t700 == t698) = true := beq_iff_eq.mpr c48
                      have c48b1 : (t700 != t698) = false := bne_eq_false_iff_eq.mpr c48
                      clear c48
                      replace H := bnd H
                      obtain ⟨t701, A49, H⟩ := H
                      replace H := Option.bind_eq_some_iff.mp H
                      obtain ⟨⟨t704, t705⟩, A500, H⟩ := H
                      replace H : ((laws_eqByteS.f kj29 t704 t679).bind fun t708 => (if t708 = true then (laws_FnExactDictPack.j2 kj29 t699 t698 (t705 != t680)) else (laws_FnExactDictPack.j2 kj29 t699 t698 true))) = some true := H
                      have A50 := Aside0.mk A500
                      clear A500
                      have HC51 := Aside0.mk H
                      clear H
                      obtain ⟨Ao52, co52, eo52⟩ := Kd.R_slice HO_11.out
                      subst eo52
                      go_upto_region 25 with (first | ((with_reducible refine gate_callee (f := 19) rfl ?_); refine gl_ (some 72) Try.func19 #[.slice Ao52 t686.length co52, .int .i64 1] rfl ?_; (with_reducible refine (laws_markByteS.calls kj29 (fun k_ => some k_ = (.slice Ao52 t686.length co52 : Value).ownBlock) (.slice Ao52 t686.length co52) t686 1 t698 t699 w _ ?side1 ?side2 A43.out).mono ?_); (case side1 => repeat (first | (with_reducible first | exact HB.out | apply below_alloc | apply pw_below_drewN | apply below_drew1) | exact HB.out)); (case side2 => exact Kd.R_tight rfl HO_11.out); rintro e w53 ⟨rfl, hy0, hb, hkp⟩; refine ⟨_, rfl, ?_⟩; replace HO_8 := Aside0.mk (Kd.R_mono (ok' := fun k_ => some k_ ≠ (.slice Ao52 t686.length co52 : Value).ownBlock) (Kd.R_keptB (HO_8.out) hkp (fun k_ hk_ hs_ => (hk_) hs_)) (fun k_ hk_ => hk_.1)); replace HO_11 := Aside0.mk (Kd.R_reok rfl hy0 (fun k_ e_ => HO_11.out.1 k_ e_)); replace HB := Aside0.mk (hb); (try clear hb); (try clear hkp); (try clear hy0)) | ((with_reducible refine gate_callee (f := 20) rfl ?_); refine goesL_ (some 75) rfl rfl Try.func20 (by kernel_rfl) rfl #[.slice Ao52 t699.length co52, .int .i64 1] rfl (by (try simp only [List.map_toArray, List.map_cons, List.map_nil]); first | done | (rw [show t699.length = t686.length from (Kd.R_reads' HO_11.out).1.symm] <;> rfl) | rfl | (simp only [List.length_drop, List.length_take]; rfl)) ?_; (with_reducible refine (laws_heldByteS.calls kj29 _ _ t699 1 t700 _ ?side1 ?side2 A44.out).mono ?_); (case side1 => repeat (first | exact (Kd.R_reads' HO_11.out).2.2 | (with_reducible refine Kd.C_alloc ?_ _) | (with_reducible refine Kd.C_drewN ?_ _) | (with_reducible refine Kd.C_drew ?_))); (case side2 => rw [show t699.length = t686.length from (Kd.R_reads' HO_11.out).1.symm]; exact (Kd.R_reads' HO_11.out).2.1); rintro e w' ⟨rfl, ⟨nd, rfl⟩⟩; refine ⟨_, rfl, ?_⟩) | ((with_reducible refine gate_callee (f := 14) rfl ?_); refine gl_ (some 84) Try.func14 #[.slice A1 l1.length c1] rfl ?_; (with_reducible refine (laws_toValS.calls kj29 _ _ l1 t701 _ ?side1 ?side2 A49.out).mono ?_); (case side1 => repeat (first | exact (Kd.C_below HR1.out (below_later HB.out)) | (with_reducible refine Kd.C_alloc ?_ _) | (with_reducible refine Kd.C_drewN ?_ _) | (with_reducible refine Kd.C_drew ?_))); (case side2 => exact HC1.out); rintro e w54 ⟨v702, rfl, ho0, hb⟩; refine ⟨_, rfl, ?_⟩; have HO703 := Aside0.mk (Kd.R_lower ho0 (below_size (below_later HB.out))); replace HO_8 := Aside0.mk (Kd.R_below (R_later HO_8.out) hb); replace HO_11 := Aside0.mk (Kd.R_below (R_later HO_11.out) hb); replace HB := bst HB hb; (try clear hb); (try clear ho0); obtain ⟨Ao55, co55, eo55⟩ := Kd.R_slice HO703.out; subst eo55) | ((with_reducible refine gate_callee (f := 15) rfl ?_); refine gl_ (some 86) Try.func15 #[.int .i64 a0, .slice Ao55 t701.length co55, .bool a2] rfl ?_; (with_reducible refine (impl_DictPack.calls kj29 a0 _ _ t701 a2 t704 t705 _ ?side1 ?side2 A50.out).mono ?_); (case side1 => repeat (first | exact (Kd.R_reads' HO703.out).2.2 | (with_reducible refine Kd.C_alloc ?_ _) | (with_reducible refine Kd.C_drewN ?_ _) | (with_reducible refine Kd.C_drew ?_))); (case side2 => exact (Kd.R_reads' HO703.out).2.1); rintro e w56 ⟨v706, rfl, ho0, hb⟩; refine ⟨_, rfl, ?_⟩; have HO707 := Aside0.mk (Kd.R_lower (Kd.R_new' (Kd.R_new' ho0 (Kd.R_lt (R_later HO_8.out))) (Kd.R_lt (R_later HO_11.out))) (below_size (below_later HB.out))); replace HO_8 := Aside0.mk (Kd.R_elder' (R_later HO_8.out) (Kd.R_base ho0) hb); replace HO_11 := Aside0.mk (Kd.R_elder' (R_later HO_11.out) (Kd.R_base ho0) hb); replace HO703 := Aside0.mk (Kd.R_below (R_later HO703.out) hb); replace HB := bst HB hb; (try clear hb); (try clear ho0)))
                      (try simp only [Act.put, List.setIfInBounds_toArray, List.set_cons_zero, List.set_cons_succ])
                      go_cut [97] (fun v97 wc => ∃ (kq : Nat) (x97_50 : Bool), v97 = .bool x97_50 ∧ Aside0 (laws_FnExactDictPack.j2 kq t699 t698 x97_50 = some true) ∧ Aside0 (kq ≤ kj29) ∧ Aside0 (Kd.R (Kd.int .u8) 5 wc w.heap.size (fun _ => True) (.slice Ao52 t686.length co52) t699) ∧ Aside0 (Below w.heap.size w wc))
                      case first =>
                        have H := HC51.out
                        clear HC51
                        replace H := bnd H
                        obtain ⟨t708, A57, H⟩ := H
                        by_cases c58 : t708 = true
                        · subst c58
                          replace H := ifp rfl H
                          have H' := Aside0.mk H
                          clear H
                          obtain ⟨Ao59, co59, eo59⟩ := Kd.R_slice HO707.out
                          subst eo59
                          obtain ⟨Ao60, co60, eo60⟩ := Kd.R_slice HO_8.out
                          subst eo60
                          go_wp2_with (first | ((with_reducible refine gate_callee (f := 16) rfl ?_); refine gl_ (some 91) Try.func16 #[.slice Ao59 t704.length co59, .slice Ao60 t679.length co60] rfl ?_; (with_reducible refine (laws_eqByteS.calls kj29 _ _ t704 _ _ t679 true _ ?side1 ?side2 ?side3 ?side4 A57.out).mono ?_); (case side1 => repeat (first | exact (Kd.R_reads' HO707.out).2.2 | (with_reducible refine Kd.C_alloc ?_ _) | (with_reducible refine Kd.C_drewN ?_ _) | (with_reducible refine Kd.C_drew ?_))); (case side2 => exact (Kd.R_reads' HO707.out).2.1); (case side3 => repeat (first | exact (Kd.R_reads' HO_8.out).2.2 | (with_reducible refine Kd.C_alloc ?_ _) | (with_reducible refine Kd.C_drewN ?_ _) | (with_reducible refine Kd.C_drew ?_))); (case side4 => exact (Kd.R_reads' HO_8.out).2.1); rintro e w' ⟨rfl, ⟨nd, rfl⟩⟩; refine ⟨_, rfl, ?_⟩))
                          go_meet
                          case rel => exact ⟨_, ((t705 != t680)), sr, H', ⟨by have := HJ10.out; have := HJ29.out; first | omega | exact Nat.le_refl _⟩, ⟨R_later (Kd.R_mono HO_11.out (fun _ hk => trivial))⟩, ⟨below_later HB.out⟩⟩
                        · replace c58 := Bool.eq_false_iff.mpr c58
                          subst c58
                          have H1 : (laws_FnExactDictPack.j2 kj29 t699 t698 true) = some true := by rw [if_neg (show ¬ (false = true) by decide)] at H; exact H
                          exact absurd H1 (by cases kj29 <;> simp [laws_FnExactDictPack.j2])
                      case rest =>
                        clear HC51
                        try clear c1
                        try clear c5
                        try clear c5b0
                        try clear c25
                        try clear c28
                        try clear c42
                        try clear c45
                        try clear c45b0
                        try clear c48
                        try clear c48b0
                        try clear c48b1
                        obtain ⟨kq, x97_50, rfl, HA, HJ50, HO_11, HB⟩ := hcut
                        have hl11_50 := (Kd.R_reads' HO_11.out).1
                        rw [hl11_50] at HO_11
                        (try simp only [hl11_50])
                        cases kq with
                        | zero => exact absurd HA.out (by simp [laws_FnExactDictPack.j2])
                        | succ kj50 =>
                          have H := HA.out
                          clear HA
                          simp only [laws_FnExactDictPack.j2] at H
                          by_cases c63 : x97_50 = true
                          · subst c63
                            have H1 : (some false) = some true := by rw [if_pos rfl] at H; exact H
                            cases H1
                          · replace c63 := Bool.eq_false_iff.mpr c63
                            subst c63
                            replace H := ifn Bool.false_ne_true H
                            replace H := bnd H
                            obtain ⟨t709, A64, H⟩ := H
                            by_cases c65 : t709 < 0
                            · rw [if_pos c65] at H
                              cases H
                            · rw [if_neg c65] at H
                              have c65b0 := decide_eq_false c65
                              clear c65
                              by_cases c66 : t709 = t698
                              · rw [if_pos c66] at H
                                have c66b0 : (t709 == t698) = true := beq_iff_eq.mpr c66
                                have c66b1 : (t709 != t698) = false := bne_eq_false_iff_eq.mpr c66
                                clear c66
                                clear H
                                go_wp2_with (first | ((with_reducible refine gate_callee (f := 20) rfl ?_); refine gl_ (some 100) Try.func20 #[.slice Ao52 t699.length co52, .int .i64 1] rfl ?_; (with_reducible refine (laws_heldByteS.calls kj50 _ _ t699 1 t709 _ ?side1 ?side2 A64.out).mono ?_); (case side1 => repeat (first | exact (Kd.R_reads' HO_11.out).2.2 | (with_reducible refine Kd.C_alloc ?_ _) | (with_reducible refine Kd.C_drewN ?_ _) | (with_reducible refine Kd.C_drew ?_))); (case side2 => exact (Kd.R_reads' HO_11.out).2.1); rintro e w' ⟨rfl, ⟨nd, rfl⟩⟩; refine ⟨_, rfl, ?_⟩))
                                go_ret
                                exact fin_ (below_later HB.out)
                              · rw [if_neg c66] at H
                                cases H
                    · rw [if_neg c48] at H
                      cases H
          · replace c28 := Bool.eq_false_iff.mpr c28
            subst c28
            have H1 : (some false) = some true := by rw [if_neg (show ¬ (false = true) by decide)] at H; exact H
            cases H1
end Go.Proofs.Ytgiljoeekpfpmaa.PFnExactDictPack
