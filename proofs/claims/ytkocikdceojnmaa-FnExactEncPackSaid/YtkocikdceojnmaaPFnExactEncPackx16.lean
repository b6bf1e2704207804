/- The machine's side of FnExactEncPack, written by wip/tools/hyb.py of this repo: each Go function as a plain Lean function, and the proof that the call comes to just its answer. No condition. -/
import Derived.Test.YtkocikdceojnmaaPFnExactEncPackx0
import Derived.Test.YtkocikdceojnmaaPFnExactEncPackx2
import Derived.Test.YtkocikdceojnmaaPFnExactEncPackx9
import Derived.Test.YtkocikdceojnmaaPFnExactEncPackx15
namespace Go.Proofs.Ytkocikdceojnmaa.PFnExactEncPack
open Go.RowKit Go.Proofs.YtkocikdceojnmaaW.PrintWords Go.Proofs.YtkocikdceojnmaaW.PrintLast Go.Proofs.YtkocikdceojnmaaW.PrintMore Go.Proofs.YtkocikdceojnmaaW.PrintMore2
attribute [local go_sem] max2_int min2_int max_two min_two max_three min_three max_four min_four   -- for this text's walks alone
set_option linter.unusedVariables false
set_option linter.unusedSimpArgs false

/-! ### laws_FnExactEncPack: function 3 -/
mutual
def laws_FnExactEncPack.j0 : Nat → Int → Int → List (S36) → List (S36) → List Int → Bool → List (S46) → List (S46) → List Int → Bool → Bool → Option (Bool)
  | 0, _, _, _, _, _, _, _, _, _, _, _ => none
  | k + 1, x0, x1, x2, x3, x10, x11, x12, x13, x14, x15, x61 => if x61 = true then (some false) else ((laws_toValS.f k x2).bind fun t915 => ((laws_eqValS.f k x12 t915).bind fun t918 => (if t918 = true then ((laws_toValS.f k x3).bind fun t919 => ((laws_eqValS.f k x13 t919).bind fun t922 => (if t922 = true then ((laws_markValS.f k x12 1).bind fun bt923 => ((laws_markValS.f k x13 bt923.1).bind fun bt925 => (if bt925.1 < 0 then (laws_FnExactEncPack.j1 k x0 x1 x2 x3 x10 x11 x14 true) else ((laws_eqByteS.f k x14 x10).bind fun t927 => (if t927 = true then (laws_FnExactEncPack.j1 k x0 x1 x2 x3 x10 x11 x14 (x15 != x11)) else (laws_FnExactEncPack.j1 k x0 x1 x2 x3 x10 x11 x14 true)))))) else (some false)))) else (some false))))
def laws_FnExactEncPack.j1 : Nat → Int → Int → List (S36) → List (S36) → List Int → Bool → List Int → Bool → Option (Bool)
  | 0, _, _, _, _, _, _, _, _ => none
  | k + 1, x0, x1, x2, x3, x10, x11, x14, x90 => if x90 = true then (some false) else ((laws_markByteS.f k x14 1).bind fun bt928 => ((laws_heldByteS.f k bt928.2 1).bind fun t930 => (if t930 < 0 then (some false) else (if t930 = bt928.1 then ((laws_toValS.f k x2).bind fun t931 => ((laws_toValS.f k x3).bind fun t934 => ((impl_EncPack.f k x0 x1 t931 t934).bind fun bt937 => ((laws_eqByteS.f k bt937.1 x10).bind fun t941 => (if t941 = true then (laws_FnExactEncPack.j2 k bt928.2 bt928.1 (bt937.2 != x11)) else (laws_FnExactEncPack.j2 k bt928.2 bt928.1 true)))))) else (some false)))))
def laws_FnExactEncPack.j2 : Nat → List Int → Int → Bool → Option (Bool)
  | 0, _, _, _ => none
  | k + 1, x14, x17, x120 => if x120 = true then (some false) else ((laws_heldByteS.f k x14 1).bind fun t942 => (if t942 < 0 then (some false) else (if t942 = x17 then (some true) else (some false))))
end
def laws_FnExactEncPack.f (k : Nat) (a0 : Int) (a1 : Int) (l2 : List (S36)) (l3 : List (S36)) : Option (Bool) := (laws_szValS.f k l2 1048576).bind fun t892 => (if t892 < 0 then (some true) else ((laws_szValS.f k l3 t892).bind fun t893 => (if t893 < 0 then (some true) else ((laws_toValS.f k l2).bind fun t894 => ((laws_toValS.f k l3).bind fun t897 => ((spec_EncPack.f k a0 a1 t894 t897).bind fun bt900 => ((laws_toValS.f k l2).bind fun t904 => ((laws_toValS.f k l3).bind fun t907 => ((impl_EncPack.f k a0 a1 t904 t907).bind fun bt910 => ((laws_eqByteS.f k bt910.1 bt900.1).bind fun t914 => (if t914 = true then (laws_FnExactEncPack.j0 k a0 a1 l2 l3 bt900.1 bt900.2 t904 t907 bt910.1 bt910.2 (bt910.2 != bt900.2)) else (laws_FnExactEncPack.j0 k a0 a1 l2 l3 bt900.1 bt900.2 t904 t907 bt910.1 bt910.2 true))))))))))))
set_option maxHeartbeats 8000000 in
set_option maxRecDepth 100000 in
theorem laws_FnExactEncPack.calls (k : Nat) (a0 : Int) (a1 : Int) (A2 : Option Addr) (c2 : Nat) (l2 : List (S36)) (A3 : Option Addr) (c3 : Nat) (l3 : List (S36)) (r : Bool) (w : World) (hr2 : Kd.C k36 w A2 l2.length l2) (hc2 : l2.length ≤ c2) (hr3 : Kd.C k36 w A3 l3.length l3) (hc3 : l3.length ≤ c3) (h : laws_FnExactEncPack.f k a0 a1 l2 l3 = some true) :
    Calls Try.prog 3 #[.int .i64 a0, .int .i64 a1, .slice A2 l2.length c2, .slice A3 l3.length c3] w fun e w' => e = .returned (.bool true) ∧ Below w.heap.size w w' := by
  have HR2 := Aside0.mk hr2
  have HC2 := Aside0.mk hc2
  clear hr2 hc2
  have HR3 := Aside0.mk hr3
  have HC3 := Aside0.mk hc3
  clear hr3 hc3
  have HB := Aside0.mk (Below.refl w.heap.size w)
  have H : ((laws_szValS.f k l2 1048576).bind fun t892 => (if t892 < 0 then (some true) else ((laws_szValS.f k l3 t892).bind fun t893 => (if t893 < 0 then (some true) else ((laws_toValS.f k l2).bind fun t894 => ((laws_toValS.f k l3).bind fun t897 => ((spec_EncPack.f k a0 a1 t894 t897).bind fun bt900 => ((laws_toValS.f k l2).bind fun t904 => ((laws_toValS.f k l3).bind fun t907 => ((impl_EncPack.f k a0 a1 t904 t907).bind fun bt910 => ((laws_eqByteS.f k bt910.1 bt900.1).bind fun t914 => (if t914 = true then (laws_FnExactEncPack.j0 k a0 a1 l2 l3 bt900.1 bt900.2 t904 t907 bt910.1 bt910.2 (bt910.2 != bt900.2)) else (laws_FnExactEncPack.j0 k a0 a1 l2 l3 bt900.1 bt900.2 t904 t907 bt910.1 bt910.2 true))))))))))))) = some true := h
  clear h
  replace H := bnd H
  obtain ⟨t892, A5, H⟩ := H
  by_cases c6 : t892 < 0
  · rw [if_pos c6] at H
    have c6b0 := decide_eq_true c6
    clear c6
    clear H
    go_enter Try.func3, Try.ntmps3
    go_wp2_with (first | ((with_reducible refine gate_callee (f := 4) rfl ?_); refine gl_ (some 23) Try.func4 #[.slice A2 l2.length c2, .int .i64 1048576] rfl ?_; (with_reducible refine (laws_szValS.calls k _ _ l2 1048576 t892 _ ?side1 ?side2 A5.out).mono ?_); (case side1 => exact C_later HR2.out); (case side2 => exact HC2.out); rintro e w7 ⟨rfl, hb⟩; refine ⟨_, rfl, ?_⟩; replace HB := bst HB hb; (try clear hb)))
    go_ret
    exact fin_ (below_later HB.out)
  · rw [if_neg c6] at H
    have c6b0 := decide_eq_false c6
    clear c6
    replace H := bnd H
    obtain ⟨t893, A8, H⟩ := H
    by_cases c9 : t893 < 0
    · rw [if_pos c9] at H
      have c9b0 := decide_eq_true c9
      clear c9
      clear H
      go_enter Try.func3, Try.ntmps3
      go_wp2_with (first | ((with_reducible refine gate_callee (f := 4) rfl ?_); refine gl_ (some 23) Try.func4 #[.slice A2 l2.length c2, .int .i64 1048576] rfl ?_; (with_reducible refine (laws_szValS.calls k _ _ l2 1048576 t892 _ ?side1 ?side2 A5.out).mono ?_); (case side1 => exact C_later HR2.out); (case side2 => exact HC2.out); rintro e w10 ⟨rfl, hb⟩; refine ⟨_, rfl, ?_⟩; replace HB := bst HB hb; (try clear hb)) | ((with_reducible refine gate_callee (f := 4) rfl ?_); refine gl_ (some 28) Try.func4 #[.slice A3 l3.length c3, .int .i64 t892] rfl ?_; (with_reducible refine (laws_szValS.calls k _ _ l3 t892 t893 _ ?side1 ?side2 A8.out).mono ?_); (case side1 => repeat (first | exact (Kd.C_below HR3.out HB.out) | (with_reducible refine Kd.C_alloc ?_ _) | (with_reducible refine Kd.C_drewN ?_ _) | (with_reducible refine Kd.C_drew ?_))); (case side2 => exact HC3.out); rintro e w11 ⟨rfl, hb⟩; refine ⟨_, rfl, ?_⟩; replace HB := bst HB hb; (try clear hb)))
      go_ret
      exact fin_ (below_later HB.out)
    · rw [if_neg c9] at H
      have c9b0 := decide_eq_false c9
      clear c9
      replace H := bnd H
      obtain ⟨t894, A12, H⟩ := H
      replace H := bnd H
      obtain ⟨t897, A13, H⟩ := H
      replace H := Option.bind_eq_some_iff.mp H
      obtain ⟨⟨t900, t901⟩, A140, H⟩ := H
      replace H : ((laws_toValS.f k l2).bind fun t904 => ((laws_toValS.f k l3).bind fun t907 => ((impl_EncPack.f k a0 a1 t904 t907).bind fun bt910 => ((laws_eqByteS.f k bt910.1 t900).bind fun t914 => (if t914 = true then (laws_FnExactEncPack.j0 k a0 a1 l2 l3 t900 t901 t904 t907 bt910.1 bt910.2 (bt910.2 != t901)) else (laws_FnExactEncPack.j0 k a0 a1 l2 l3 t900 t901 t904 t907 bt910.1 bt910.2 true)))))) = some true := H
      have A14 := Aside0.mk A140
      clear A140
      replace H := bnd H
      obtain ⟨t904, A15, H⟩ := H
      replace H := bnd H
      obtain ⟨t907, A16, H⟩ := H
      replace H := Option.bind_eq_some_iff.mp H
      obtain ⟨⟨t910, t911⟩, A170, H⟩ := H
      replace H : ((laws_eqByteS.f k t910 t900).bind fun t914 => (if t914 = true then (laws_FnExactEncPack.j0 k a0 a1 l2 l3 t900 t901 t904 t907 t910 t911 (t911 != t901)) else (laws_FnExactEncPack.j0 k a0 a1 l2 l3 t900 t901 t904 t907 t910 t911 true))) = some true := H
      have A17 := Aside0.mk A170
      clear A170
      have HC18 := Aside0.mk H
      clear H
      go_enter Try.func3, Try.ntmps3
      go_upto_region 12 with (first | ((with_reducible refine gate_callee (f := 4) rfl ?_); refine gl_ (some 23) Try.func4 #[.slice A2 l2.length c2, .int .i64 1048576] rfl ?_; (with_reducible refine (laws_szValS.calls k _ _ l2 1048576 t892 _ ?side1 ?side2 A5.out).mono ?_); (case side1 => exact C_later HR2.out); (case side2 => exact HC2.out); rintro e w19 ⟨rfl, hb⟩; refine ⟨_, rfl, ?_⟩; replace HB := bst HB hb; (try clear hb)) | ((with_reducible refine gate_callee (f := 4) rfl ?_); refine gl_ (some 28) Try.func4 #[.slice A3 l3.length c3, .int .i64 t892] rfl ?_; (with_reducible refine (laws_szValS.calls k _ _ l3 t892 t893 _ ?side1 ?side2 A8.out).mono ?_); (case side1 => repeat (first | exact (Kd.C_below HR3.out HB.out) | (with_reducible refine Kd.C_alloc ?_ _) | (with_reducible refine Kd.C_drewN ?_ _) | (with_reducible refine Kd.C_drew ?_))); (case side2 => exact HC3.out); rintro e w20 ⟨rfl, hb⟩; refine ⟨_, rfl, ?_⟩; replace HB := bst HB hb; (try clear hb)) | ((with_reducible refine gate_callee (f := 6) rfl ?_); refine gl_ (some 35) Try.func6 #[.slice A2 l2.length c2] rfl ?_; (with_reducible refine (laws_toValS.calls k _ _ l2 t894 _ ?side1 ?side2 A12.out).mono ?_); (case side1 => repeat (first | exact (Kd.C_below HR2.out HB.out) | (with_reducible refine Kd.C_alloc ?_ _) | (with_reducible refine Kd.C_drewN ?_ _) | (with_reducible refine Kd.C_drew ?_))); (case side2 => exact HC2.out); rintro e w21 ⟨v895, rfl, ho0, hb⟩; refine ⟨_, rfl, ?_⟩; have HO896 := Aside0.mk (Kd.R_lower ho0 (below_size (below_later HB.out))); replace HB := bst HB hb; (try clear hb); (try clear ho0)) | ((with_reducible refine gate_callee (f := 6) rfl ?_); refine gl_ (some 37) Try.func6 #[.slice A3 l3.length c3] rfl ?_; (with_reducible refine (laws_toValS.calls k _ _ l3 t897 _ ?side1 ?side2 A13.out).mono ?_); (case side1 => repeat (first | exact (Kd.C_below HR3.out HB.out) | (with_reducible refine Kd.C_alloc ?_ _) | (with_reducible refine Kd.C_drewN ?_ _) | (with_reducible refine Kd.C_drew ?_))); (case side2 => exact HC3.out); rintro e w22 ⟨v898, rfl, ho0, hb⟩; refine ⟨_, rfl, ?_⟩; have HO899 := Aside0.mk (Kd.R_lower (Kd.R_new' ho0 (Kd.R_lt (R_later HO896.out))) (below_size (below_later HB.out))); replace HO896 := Aside0.mk (Kd.R_elder' (R_later HO896.out) (Kd.R_base ho0) hb); replace HB := bst HB hb; (try clear hb); (try clear ho0); obtain ⟨Ao23, co23, eo23⟩ := Kd.R_slice HO896.out; subst eo23; obtain ⟨Ao24, co24, eo24⟩ := Kd.R_slice HO899.out; subst eo24) | ((with_reducible refine gate_callee (f := 5) rfl ?_); refine gl_ (some 38) Try.func5 #[.int .i64 a0, .int .i64 a1, .slice Ao23 t894.length co23, .slice Ao24 t897.length co24] rfl ?_; (with_reducible refine (spec_EncPack.calls k a0 a1 _ _ t894 _ _ t897 t900 t901 _ ?side1 ?side2 ?side3 ?side4 A14.out).mono ?_); (case side1 => repeat (first | exact (Kd.R_reads' HO896.out).2.2 | (with_reducible refine Kd.C_alloc ?_ _) | (with_reducible refine Kd.C_drewN ?_ _) | (with_reducible refine Kd.C_drew ?_))); (case side2 => exact (Kd.R_reads' HO896.out).2.1); (case side3 => repeat (first | exact (Kd.R_reads' HO899.out).2.2 | (with_reducible refine Kd.C_alloc ?_ _) | (with_reducible refine Kd.C_drewN ?_ _) | (with_reducible refine Kd.C_drew ?_))); (case side4 => exact (Kd.R_reads' HO899.out).2.1); rintro e w25 ⟨v902, rfl, ho0, hb⟩; refine ⟨_, rfl, ?_⟩; have HO903 := Aside0.mk (Kd.R_lower ho0 (below_size (below_later HB.out))); replace HO896 := Aside0.mk (Kd.R_below (R_later HO896.out) hb); replace HO899 := Aside0.mk (Kd.R_below (R_later HO899.out) hb); replace HB := bst HB hb; (try clear hb); (try clear ho0)) | ((with_reducible refine gate_callee (f := 6) rfl ?_); refine gl_ (some 42) Try.func6 #[.slice A2 l2.length c2] rfl ?_; (with_reducible refine (laws_toValS.calls k _ _ l2 t904 _ ?side1 ?side2 A15.out).mono ?_); (case side1 => repeat (first | exact (Kd.C_below HR2.out HB.out) | (with_reducible refine Kd.C_alloc ?_ _) | (with_reducible refine Kd.C_drewN ?_ _) | (with_reducible refine Kd.C_drew ?_))); (case side2 => exact HC2.out); rintro e w26 ⟨v905, rfl, ho0, hb⟩; refine ⟨_, rfl, ?_⟩; have HO906 := Aside0.mk (Kd.R_lower (Kd.R_new' (Kd.R_new' ho0 (Kd.R_lt (R_later HO896.out))) (Kd.R_lt (R_later HO899.out))) (below_size (below_later HB.out))); replace HO896 := Aside0.mk (Kd.R_elder' (R_later HO896.out) (Kd.R_base ho0) hb); replace HO899 := Aside0.mk (Kd.R_elder' (R_later HO899.out) (Kd.R_base ho0) hb); replace HO903 := Aside0.mk (Kd.R_below (R_later HO903.out) hb); replace HB := bst HB hb; (try clear hb); (try clear ho0)) | ((with_reducible refine gate_callee (f := 6) rfl ?_); refine gl_ (some 44) Try.func6 #[.slice A3 l3.length c3] rfl ?_; (with_reducible refine (laws_toValS.calls k _ _ l3 t907 _ ?side1 ?side2 A16.out).mono ?_); (case side1 => repeat (first | exact (Kd.C_below HR3.out HB.out) | (with_reducible refine Kd.C_alloc ?_ _) | (with_reducible refine Kd.C_drewN ?_ _) | (with_reducible refine Kd.C_drew ?_))); (case side2 => exact HC3.out); rintro e w27 ⟨v908, rfl, ho0, hb⟩; refine ⟨_, rfl, ?_⟩; have HO909 := Aside0.mk (Kd.R_lower (Kd.R_new' (Kd.R_new' (Kd.R_new' ho0 (Kd.R_lt (R_later HO896.out))) (Kd.R_lt (R_later HO899.out))) (Kd.R_lt (R_later HO906.out))) (below_size (below_later HB.out))); replace HO896 := Aside0.mk (Kd.R_elder' (R_later HO896.out) (Kd.R_base ho0) hb); replace HO899 := Aside0.mk (Kd.R_elder' (R_later HO899.out) (Kd.R_base ho0) hb); replace HO903 := Aside0.mk (Kd.R_below (R_later HO903.out) hb); replace HO906 := Aside0.mk (Kd.R_elder' (R_later HO906.out) (Kd.R_base ho0) hb); replace HB := bst HB hb; (try clear hb); (try clear ho0); obtain ⟨Ao28, co28, eo28⟩ := Kd.R_slice HO906.out; subst eo28; obtain ⟨Ao29, co29, eo29⟩ := Kd.R_slice HO909.out; subst eo29) | ((with_reducible refine gate_callee (f := 7) rfl ?_); refine gl_ (some 50) Try.func7 #[.int .i64 a0, .int .i64 a1, .slice Ao28 t904.length co28, .slice Ao29 t907.length co29] rfl ?_; (with_reducible refine (impl_EncPack.calls k a0 a1 _ _ t904 _ _ t907 t910 t911 _ ?side1 ?side2 ?side3 ?side4 A17.out).mono ?_); (case side1 => repeat (first | exact (Kd.R_reads' HO906.out).2.2 | (with_reducible refine Kd.C_alloc ?_ _) | (with_reducible refine Kd.C_drewN ?_ _) | (with_reducible refine Kd.C_drew ?_))); (case side2 => exact (Kd.R_reads' HO906.out).2.1); (case side3 => repeat (first | exact (Kd.R_reads' HO909.out).2.2 | (with_reducible refine Kd.C_alloc ?_ _) | (with_reducible refine Kd.C_drewN ?_ _) | (with_reducible refine Kd.C_drew ?_))); (case side4 => exact (Kd.R_reads' HO909.out).2.1); rintro e w30 ⟨v912, rfl, ho0, hb⟩; refine ⟨_, rfl, ?_⟩; have HO913 := Aside0.mk (Kd.R_lower (Kd.R_new' ho0 (Kd.R_lt (R_later HO903.out))) (below_size (below_later HB.out))); replace HO896 := Aside0.mk (Kd.R_below (R_later HO896.out) hb); replace HO899 := Aside0.mk (Kd.R_below (R_later HO899.out) hb); replace HO903 := Aside0.mk (Kd.R_elder' (R_later HO903.out) (Kd.R_base ho0) hb); replace HO906 := Aside0.mk (Kd.R_below (R_later HO906.out) hb); replace HO909 := Aside0.mk (Kd.R_below (R_later HO909.out) hb); replace HB := bst HB hb; (try clear hb); (try clear ho0)))
      (try simp only [Act.put, List.setIfInBounds_toArray, List.set_cons_zero, List.set_cons_succ])
      go_cut [61] (fun v61 wc => ∃ (kq : Nat) (x61_17 : Bool), v61 = .bool x61_17 ∧ Aside0 (laws_FnExactEncPack.j0 kq a0 a1 l2 l3 t900 t901 t904 t907 t910 t911 x61_17 = some true) ∧ Aside0 (kq ≤ k) ∧ Aside0 (Kd.R (Kd.int .u8) 5 wc w.heap.size (fun k_ => some k_ ≠ (v912 : Value).ownBlock) v902 t900) ∧ Aside0 (Kd.R k46 46 wc w.heap.size (fun k_ => some k_ ≠ ((.slice Ao29 t907.length co29) : Value).ownBlock) (.slice Ao28 t904.length co28) t904) ∧ Aside0 (Kd.R k46 46 wc w.heap.size (fun k_ => some k_ ≠ ((.slice Ao28 t904.length co28) : Value).ownBlock) (.slice Ao29 t907.length co29) t907) ∧ Aside0 (Kd.R (Kd.int .u8) 5 wc w.heap.size (fun k_ => some k_ ≠ (v902 : Value).ownBlock) v912 t910) ∧ Aside0 (Below w.heap.size w wc))
      case first =>
        have H := HC18.out
        clear HC18
        replace H := bnd H
        obtain ⟨t914, A31, H⟩ := H
        by_cases c32 : t914 = true
        · subst c32
          replace H := ifp rfl H
          have H' := Aside0.mk H
          clear H
          obtain ⟨Ao33, co33, eo33⟩ := Kd.R_slice HO913.out
          subst eo33
          obtain ⟨Ao34, co34, eo34⟩ := Kd.R_slice HO903.out
          subst eo34
          go_wp2_with (first | ((with_reducible refine gate_callee (f := 8) rfl ?_); refine gl_ (some 55) Try.func8 #[.slice Ao33 t910.length co33, .slice Ao34 t900.length co34] rfl ?_; (with_reducible refine (laws_eqByteS.calls k _ _ t910 _ _ t900 true _ ?side1 ?side2 ?side3 ?side4 A31.out).mono ?_); (case side1 => repeat (first | exact (Kd.R_reads' HO913.out).2.2 | (with_reducible refine Kd.C_alloc ?_ _) | (with_reducible refine Kd.C_drewN ?_ _) | (with_reducible refine Kd.C_drew ?_))); (case side2 => exact (Kd.R_reads' HO913.out).2.1); (case side3 => repeat (first | exact (Kd.R_reads' HO903.out).2.2 | (with_reducible refine Kd.C_alloc ?_ _) | (with_reducible refine Kd.C_drewN ?_ _) | (with_reducible refine Kd.C_drew ?_))); (case side4 => exact (Kd.R_reads' HO903.out).2.1); rintro e w' ⟨rfl, ⟨nd, rfl⟩⟩; refine ⟨_, rfl, ?_⟩))
          go_meet
          case rel => exact ⟨_, ((t911 != t901)), sr, H', ⟨by first | omega | exact Nat.le_refl _⟩, ⟨R_later (Kd.R_mono HO903.out (fun _ hk => hk.2))⟩, ⟨R_later (Kd.R_mono HO906.out (fun _ hk => hk.2))⟩, ⟨R_later (Kd.R_mono HO909.out (fun _ hk => hk.2))⟩, ⟨R_later (Kd.R_mono HO913.out (fun _ hk => hk.2))⟩, ⟨below_later HB.out⟩⟩
        · replace c32 := Bool.eq_false_iff.mpr c32
          subst c32
          have H1 : (laws_FnExactEncPack.j0 k a0 a1 l2 l3 t900 t901 t904 t907 t910 t911 true) = some true := by rw [if_neg (show ¬ (false = true) by decide)] at H; exact H
          exact absurd H1 (by cases k <;> simp [laws_FnExactEncPack.j0])
      case rest =>
        clear HC18
        try clear c2
        try clear c3
        try clear c6
        try clear c6b0
        try clear c9
        try clear c9b0
        obtain ⟨kq, x61_17, rfl, HA, HJ17, HO_10, HO_12, HO_13, HO_14, HB⟩ := hcut
        cases kq with
        | zero => exact absurd HA.out (by simp [laws_FnExactEncPack.j0])
        | succ kj17 =>
          have H := HA.out
          clear HA
          simp only [laws_FnExactEncPack.j0] at H
          by_cases c37 : x61_17 = true
          · subst c37
            have H1 : (some false) = some true := by rw [if_pos rfl] at H; exact H
            cases H1
          · replace c37 := Bool.eq_false_iff.mpr c37
            subst c37
            replace H := ifn Bool.false_ne_true H
            replace H := bnd H
            obtain ⟨t915, A38, H⟩ := H
            replace H := bnd H
            obtain ⟨t918, A39, H⟩ := H
            by_cases c40 : t918 = true
            · subst c40
              replace H := ifp rfl H
              replace H := bnd H
              obtain ⟨t919, A41, H⟩ := H
              replace H := bnd H
              obtain ⟨t922, A42, H⟩ := H
              by_cases c43 : t922 = true
              · subst c43
                replace H := ifp rfl H
                replace H := Option.bind_eq_some_iff.mp H
                obtain ⟨⟨t923, t924⟩, A440, H⟩ := H
                replace H : ((laws_markValS.f kj17 t907 t923).bind fun bt925 => (if bt925.1 < 0 then (laws_FnExactEncPack.j1 kj17 a0 a1 l2 l3 t900 t901 t910 true) else ((laws_eqByteS.f kj17 t910 t900).bind fun t927 => (if t927 = true then (laws_FnExactEncPack.j1 kj17 a0 a1 l2 l3 t900 t901 t910 (t911 != t901)) else (laws_FnExactEncPack.j1 kj17 a0 a1 l2 l3 t900 t901 t910 true))))) = some true := H
                have A44 := Aside0.mk A440
                clear A440
                replace H := Option.bind_eq_some_iff.mp H
                obtain ⟨⟨t925, t926⟩, A450, H⟩ := H
                replace H : (if t925 < 0 then (laws_FnExactEncPack.j1 kj17 a0 a1 l2 l3 t900 t901 t910 true) else ((laws_eqByteS.f kj17 t910 t900).bind fun t927 => (if t927 = true then (laws_FnExactEncPack.j1 kj17 a0 a1 l2 l3 t900 t901 t910 (t911 != t901)) else (laws_FnExactEncPack.j1 kj17 a0 a1 l2 l3 t900 t901 t910 true)))) = some true := H
                have A45 := Aside0.mk A450
                clear A450
                have HC46 := Aside0.mk H
                clear H
                go_upto_region 21 with (first | ((with_reducible refine gate_callee (f := 6) rfl ?_); refine gl_ (some 64) Try.func6 #[.slice A2 l2.length c2] rfl ?_; (with_reducible refine (laws_toValS.calls kj17 _ _ l2 t915 _ ?side1 ?side2 A38.out).mono ?_); (case side1 => repeat (first | exact (Kd.C_below HR2.out HB.out) | (with_reducible refine Kd.C_alloc ?_ _) | (with_reducible refine Kd.C_drewN ?_ _) | (with_reducible refine Kd.C_drew ?_))); (case side2 => exact HC2.out); rintro e w47 ⟨v916, rfl, ho0, hb⟩; refine ⟨_, rfl, ?_⟩; have HO917 := Aside0.mk (Kd.R_lower (Kd.R_new' (Kd.R_new' ho0 (Kd.R_lt (R_later HO_12.out))) (Kd.R_lt (R_later HO_13.out))) (below_size (below_later HB.out))); replace HO_10 := Aside0.mk (Kd.R_below (R_later HO_10.out) hb); replace HO_12 := Aside0.mk (Kd.R_elder' (R_later HO_12.out) (Kd.R_base ho0) hb); replace HO_13 := Aside0.mk (Kd.R_elder' (R_later HO_13.out) (Kd.R_base ho0) hb); replace HO_14 := Aside0.mk (Kd.R_below (R_later HO_14.out) hb); replace HB := bst HB hb; (try clear hb); (try clear ho0); obtain ⟨Ao48, co48, eo48⟩ := Kd.R_slice HO917.out; subst eo48) | ((with_reducible refine gate_callee (f := 9) rfl ?_); refine gl_ (some 65) Try.func9 #[.slice Ao28 t904.length co28, .slice Ao48 t915.length co48] rfl ?_; (with_reducible refine (laws_eqValS.calls kj17 _ _ t904 _ _ t915 true _ ?side1 ?side2 ?side3 ?side4 A39.out).mono ?_); (case side1 => repeat (first | exact (Kd.R_reads' HO_12.out).2.2 | (with_reducible refine Kd.C_alloc ?_ _) | (with_reducible refine Kd.C_drewN ?_ _) | (with_reducible refine Kd.C_drew ?_))); (case side2 => exact (Kd.R_reads' HO_12.out).2.1); (case side3 => repeat (first | exact (Kd.R_reads' HO917.out).2.2 | (with_reducible refine Kd.C_alloc ?_ _) | (with_reducible refine Kd.C_drewN ?_ _) | (with_reducible refine Kd.C_drew ?_))); (case side4 => exact (Kd.R_reads' HO917.out).2.1); rintro e w49 ⟨rfl, hb⟩; refine ⟨_, rfl, ?_⟩; replace HO_10 := Aside0.mk (Kd.R_below (R_later HO_10.out) hb); replace HO_12 := Aside0.mk (Kd.R_below (R_later HO_12.out) hb); replace HO_13 := Aside0.mk (Kd.R_below (R_later HO_13.out) hb); replace HO_14 := Aside0.mk (Kd.R_below (R_later HO_14.out) hb); replace HO917 := Aside0.mk (Kd.R_below (R_later HO917.out) hb); replace HB := bst HB hb; (try clear hb)) | ((with_reducible refine gate_callee (f := 6) rfl ?_); refine gl_ (some 69) Try.func6 #[.slice A3 l3.length c3] rfl ?_; (with_reducible refine (laws_toValS.calls kj17 _ _ l3 t919 _ ?side1 ?side2 A41.out).mono ?_); (case side1 => repeat (first | exact (Kd.C_below HR3.out HB.out) | (with_reducible refine Kd.C_alloc ?_ _) | (with_reducible refine Kd.C_drewN ?_ _) | (with_reducible refine Kd.C_drew ?_))); (case side2 => exact HC3.out); rintro e w50 ⟨v920, rfl, ho0, hb⟩; refine ⟨_, rfl, ?_⟩; have HO921 := Aside0.mk (Kd.R_lower (Kd.R_new' (Kd.R_new' (Kd.R_new' ho0 (Kd.R_lt (R_later HO_12.out))) (Kd.R_lt (R_later HO_13.out))) (Kd.R_lt (R_later HO917.out))) (below_size (below_later HB.out))); replace HO_10 := Aside0.mk (Kd.R_below (R_later HO_10.out) hb); replace HO_12 := Aside0.mk (Kd.R_elder' (R_later HO_12.out) (Kd.R_base ho0) hb); replace HO_13 := Aside0.mk (Kd.R_elder' (R_later HO_13.out) (Kd.R_base ho0) hb); replace HO_14 := Aside0.mk (Kd.R_below (R_later HO_14.out) hb); replace HO917 := Aside0.mk (Kd.R_elder' (R_later HO917.out) (Kd.R_base ho0) hb); replace HB := bst HB hb; (try clear hb); (try clear ho0); obtain ⟨Ao51, co51, eo51⟩ := Kd.R_slice HO921.out; subst eo51) | ((with_reducible refine gate_callee (f := 9) rfl ?_); refine gl_ (some 70) Try.func9 #[.slice Ao29 t907.length co29, .slice Ao51 t919.length co51] rfl ?_; (with_reducible refine (laws_eqValS.calls kj17 _ _ t907 _ _ t919 true _ ?side1 ?side2 ?side3 ?side4 A42.out).mono ?_); (case side1 => repeat (first | exact (Kd.R_reads' HO_13.out).2.2 | (with_reducible refine Kd.C_alloc ?_ _) | (with_reducible refine Kd.C_drewN ?_ _) | (with_reducible refine Kd.C_drew ?_))); (case side2 => exact (Kd.R_reads' HO_13.out).2.1); (case side3 => repeat (first | exact (Kd.R_reads' HO921.out).2.2 | (with_reducible refine Kd.C_alloc ?_ _) | (with_reducible refine Kd.C_drewN ?_ _) | (with_reducible refine Kd.C_drew ?_))); (case side4 => exact (Kd.R_reads' HO921.out).2.1); rintro e w52 ⟨rfl, hb⟩; refine ⟨_, rfl, ?_⟩; replace HO_10 := Aside0.mk (Kd.R_below (R_later HO_10.out) hb); replace HO_12 := Aside0.mk (Kd.R_below (R_later HO_12.out) hb); replace HO_13 := Aside0.mk (Kd.R_below (R_later HO_13.out) hb); replace HO_14 := Aside0.mk (Kd.R_below (R_later HO_14.out) hb); replace HO917 := Aside0.mk (Kd.R_below (R_later HO917.out) hb); replace HO921 := Aside0.mk (Kd.R_below (R_later HO921.out) hb); replace HB := bst HB hb; (try clear hb)) | ((with_reducible refine gate_callee (f := 10) rfl ?_); refine gl_ (some 74) Try.func10 #[.slice Ao28 t904.length co28, .int .i64 1] rfl ?_; (with_reducible refine (laws_markValS.calls kj17 (fun k_ => some k_ = (.slice Ao28 t904.length co28 : Value).ownBlock) (.slice Ao28 t904.length co28) t904 1 t923 t924 w _ ?side1 ?side2 A44.out).mono ?_); (case side1 => repeat (first | (with_reducible first | exact HB.out | apply below_alloc | apply pw_below_drewN | apply below_drew1) | exact HB.out)); (case side2 => exact Kd.R_tight rfl HO_12.out); rintro e w53 ⟨rfl, hy0, hb, hkp⟩; refine ⟨_, rfl, ?_⟩; replace HO_10 := Aside0.mk (Kd.R_mono (ok' := fun k_ => some k_ ≠ (v912 : Value).ownBlock) (Kd.R_keptB ((Kd.R_apart' HO_10.out (Kd.R_typed HO_12.out) (by decide))) hkp (fun k_ hk_ hs_ => (hk_.2) hs_)) (fun k_ hk_ => hk_.1.1)); replace HO_13 := Aside0.mk (Kd.R_mono (ok' := fun k_ => some k_ ≠ (.slice Ao28 t904.length co28 : Value).ownBlock ∧ some k_ ≠ (.slice Ao48 t915.length co48 : Value).ownBlock ∧ some k_ ≠ (.slice Ao51 t919.length co51 : Value).ownBlock) (Kd.R_keptB (HO_13.out) hkp (fun k_ hk_ hs_ => (hk_.1.1) hs_)) (fun k_ hk_ => ⟨hk_.1.1.1, hk_.1.1.2, hk_.1.2⟩)); replace HO_14 := Aside0.mk (Kd.R_mono (ok' := fun k_ => some k_ ≠ (v902 : Value).ownBlock) (Kd.R_keptB ((Kd.R_apart' HO_14.out (Kd.R_typed HO_12.out) (by decide))) hkp (fun k_ hk_ hs_ => (hk_.2) hs_)) (fun k_ hk_ => hk_.1.1)); replace HO_12 := Aside0.mk (Kd.R_reok rfl hy0 (fun k_ e_ => HO_12.out.1 k_ e_)); replace HO917 := Aside0.mk (Kd.R_mono (ok' := fun k_ => some k_ ≠ (.slice Ao28 t904.length co28 : Value).ownBlock ∧ some k_ ≠ (.slice Ao29 t907.length co29 : Value).ownBlock ∧ some k_ ≠ (.slice Ao51 t919.length co51 : Value).ownBlock) (Kd.R_keptB (HO917.out) hkp (fun k_ hk_ hs_ => (hk_.1.1.2) hs_)) (fun k_ hk_ => ⟨hk_.1.1.1.2, hk_.1.1.2, hk_.1.2⟩)); replace HO921 := Aside0.mk (Kd.R_mono (ok' := fun k_ => some k_ ≠ (.slice Ao28 t904.length co28 : Value).ownBlock ∧ some k_ ≠ (.slice Ao29 t907.length co29 : Value).ownBlock ∧ some k_ ≠ (.slice Ao48 t915.length co48 : Value).ownBlock) (Kd.R_keptB (HO921.out) hkp (fun k_ hk_ hs_ => (hk_.1.1.2) hs_)) (fun k_ hk_ => ⟨hk_.1.1.1.2, hk_.1.1.2, hk_.1.2⟩)); replace HB := Aside0.mk (hb); (try clear hb); (try clear hkp); (try clear hy0)) | ((with_reducible refine gate_callee (f := 10) rfl ?_); refine gl_ (some 77) Try.func10 #[.slice Ao29 t907.length co29, .int .i64 t923] rfl ?_; (with_reducible refine (laws_markValS.calls kj17 (fun k_ => some k_ = (.slice Ao29 t907.length co29 : Value).ownBlock) (.slice Ao29 t907.length co29) t907 t923 t925 t926 w _ ?side1 ?side2 A45.out).mono ?_); (case side1 => repeat (first | (with_reducible first | exact HB.out | apply below_alloc | apply pw_below_drewN | apply below_drew1) | exact HB.out)); (case side2 => exact Kd.R_tight rfl HO_13.out); rintro e w54 ⟨rfl, hy0, hb, hkp⟩; refine ⟨_, rfl, ?_⟩; replace HO_10 := Aside0.mk (Kd.R_mono (ok' := fun k_ => some k_ ≠ (v912 : Value).ownBlock) (Kd.R_keptB ((Kd.R_apart' HO_10.out (Kd.R_typed HO_13.out) (by decide))) hkp (fun k_ hk_ hs_ => (hk_.2) hs_)) (fun k_ hk_ => hk_.1.1)); replace HO_12 := Aside0.mk (Kd.R_mono (ok' := fun k_ => some k_ ≠ (.slice Ao29 t907.length co29 : Value).ownBlock ∧ some k_ ≠ (.slice Ao48 t915.length co48 : Value).ownBlock ∧ some k_ ≠ (.slice Ao51 t919.length co51 : Value).ownBlock) (Kd.R_keptB (HO_12.out) hkp (fun k_ hk_ hs_ => (hk_.1.1) hs_)) (fun k_ hk_ => ⟨hk_.1.1.1, hk_.1.1.2, hk_.1.2⟩)); replace HO_14 := Aside0.mk (Kd.R_mono (ok' := fun k_ => some k_ ≠ (v902 : Value).ownBlock) (Kd.R_keptB ((Kd.R_apart' HO_14.out (Kd.R_typed HO_13.out) (by decide))) hkp (fun k_ hk_ hs_ => (hk_.2) hs_)) (fun k_ hk_ => hk_.1.1)); replace HO_13 := Aside0.mk (Kd.R_reok rfl hy0 (fun k_ e_ => HO_13.out.1 k_ e_)); replace HO917 := Aside0.mk (Kd.R_mono (ok' := fun k_ => some k_ ≠ (.slice Ao28 t904.length co28 : Value).ownBlock ∧ some k_ ≠ (.slice Ao29 t907.length co29 : Value).ownBlock ∧ some k_ ≠ (.slice Ao51 t919.length co51 : Value).ownBlock) (Kd.R_keptB (HO917.out) hkp (fun k_ hk_ hs_ => (hk_.2.1) hs_)) (fun k_ hk_ => ⟨hk_.1.1, hk_.1.2.1, hk_.1.2.2⟩)); replace HO921 := Aside0.mk (Kd.R_mono (ok' := fun k_ => some k_ ≠ (.slice Ao28 t904.length co28 : Value).ownBlock ∧ some k_ ≠ (.slice Ao29 t907.length co29 : Value).ownBlock ∧ some k_ ≠ (.slice Ao48 t915.length co48 : Value).ownBlock) (Kd.R_keptB (HO921.out) hkp (fun k_ hk_ hs_ => (hk_.2.1) hs_)) (fun k_ hk_ => ⟨hk_.1.1, hk_.1.2.1, hk_.1.2.2⟩)); replace HB := Aside0.mk (hb); (try clear hb); (try clear hkp); (try clear hy0)))
                (try simp only [Act.put, List.setIfInBounds_toArray, List.set_cons_zero, List.set_cons_succ])
                go_cut [90] (fun v90 wc => ∃ (kq : Nat) (x90_45 : Bool), v90 = .bool x90_45 ∧ Aside0 (laws_FnExactEncPack.j1 kq a0 a1 l2 l3 t900 t901 t910 x90_45 = some true) ∧ Aside0 (kq ≤ kj17) ∧ Aside0 (Kd.R (Kd.int .u8) 5 wc w.heap.size (fun k_ => some k_ ≠ (v912 : Value).ownBlock) v902 t900) ∧ Aside0 (Kd.R (Kd.int .u8) 5 wc w.heap.size (fun k_ => some k_ ≠ (v902 : Value).ownBlock) v912 t910) ∧ Aside0 (Below w.heap.size w wc))
                case first =>
                  have H := HC46.out
                  clear HC46
                  by_cases c55 : t925 < 0
                  · rw [if_pos c55] at H
                    have c55b0 := decide_eq_true c55
                    clear c55
                    (first | rw [c55b0] | (simp only [i64_w, i32_w]; rw [c55b0]) | skip)
                    have H' := Aside0.mk H
                    clear H
                    go_wp2
                    go_meet
                    case rel => exact ⟨_, (true), sr, H', ⟨by have := HJ17.out; first | omega | exact Nat.le_refl _⟩, ⟨R_later HO_10.out⟩, ⟨R_later HO_14.out⟩, ⟨below_later HB.out⟩⟩
                  · rw [if_neg c55] at H
                    have c55b0 := decide_eq_false c55
                    clear c55
                    (first | rw [c55b0] | (simp only [i64_w, i32_w]; rw [c55b0]) | skip)
                    replace H := bnd H
                    obtain ⟨t927, A56, H⟩ := H
                    by_cases c57 : t927 = true
                    · subst c57
                      replace H := ifp rfl H
                      have H' := Aside0.mk H
                      clear H
                      obtain ⟨Ao58, co58, eo58⟩ := Kd.R_slice HO_14.out
                      subst eo58
                      obtain ⟨Ao59, co59, eo59⟩ := Kd.R_slice HO_10.out
                      subst eo59
                      go_wp2_with (first | (go_at_call 8; (with_reducible refine (laws_eqByteS.calls kj17 _ _ t910 _ _ t900 true _ ?side1 ?side2 ?side3 ?side4 A56.out).mono ?_); (case side1 => repeat (first | exact (Kd.R_reads' HO_14.out).2.2 | (with_reducible refine Kd.C_alloc ?_ _) | (with_reducible refine Kd.C_drewN ?_ _) | (with_reducible refine Kd.C_drew ?_))); (case side2 => exact (Kd.R_reads' HO_14.out).2.1); (case side3 => repeat (first | exact (Kd.R_reads' HO_10.out).2.2 | (with_reducible refine Kd.C_alloc ?_ _) | (with_reducible refine Kd.C_drewN ?_ _) | (with_reducible refine Kd.C_drew ?_))); (case side4 => exact (Kd.R_reads' HO_10.out).2.1); rintro e w' ⟨rfl, ⟨nd, rfl⟩⟩))
                      go_meet
                      case rel => exact ⟨_, ((t911 != t901)), sr, H', ⟨by have := HJ17.out; first | omega | exact Nat.le_refl _⟩, ⟨R_later HO_10.out⟩, ⟨R_later HO_14.out⟩, ⟨below_later HB.out⟩⟩
                    · replace c57 := Bool.eq_false_iff.mpr c57
                      subst c57
                      have H1 : (laws_FnExactEncPack.j1 kj17 a0 a1 l2 l3 t900 t901 t910 true) = some true := by rw [if_neg (show ¬ (false = true) by decide)] at H; exact H
                      exact absurd H1 (by cases kj17 <;> simp [laws_FnExactEncPack.j1])
                case rest =>
                  clear HC46
                  try clear c2
                  try clear c3
                  try clear c6
                  try clear c6b0
                  try clear c9
                  try clear c9b0
                  try clear c37
                  try clear c40
                  try clear c43
                  obtain ⟨kq, x90_45, rfl, HA, HJ45, HO_10, HO_14, HB⟩ := hcut
                  cases kq with
                  | zero => exact absurd HA.out (by simp [laws_FnExactEncPack.j1])
                  | succ kj45 =>
                    have H := HA.out
                    clear HA
                    simp only [laws_FnExactEncPack.j1] at H
                    by_cases c62 : x90_45 = true
                    · subst c62
                      have H1 : (some false) = some true := by rw [if_pos rfl] at H; exact H
                      cases H1
                    · replace c62 := Bool.eq_false_iff.mpr c62
                      subst c62
                      replace H := ifn Bool.false_ne_true H
                      replace H := Option.bind_eq_some_iff.mp H
                      obtain ⟨⟨t928, t929⟩, A630, H⟩ := H
                      replace H : ((laws_heldByteS.f kj45 t929 1).bind fun t930 => (if t930 < 0 then (some false) else (if t930 = t928 then ((laws_toValS.f kj45 l2).bind fun t931 => ((laws_toValS.f kj45 l3).bind fun t934 => ((impl_EncPack.f kj45 a0 a1 t931 t934).bind fun bt937 => ((laws_eqByteS.f kj45 bt937.1 t900).bind fun t941 => (if t941 = true then (laws_FnExactEncPack.j2 kj45 t929 t928 (bt937.2 != t901)) else (laws_FnExactEncPack.j2 kj45 t929 t928 true)))))) else (some false)))) = some true := H
                      have A63 := Aside0.mk A630
                      clear A630
                      replace H := bnd H
                      obtain ⟨t930, A64, H⟩ := H
                      by_cases c65 : t930 < 0
                      · rw [if_pos c65] at H
                        cases H
                      · rw [if_neg c65] at H
                        have c65b0 := decide_eq_false c65
                        clear c65
                        by_cases c68 : t930 = t928
                        · rw [if_pos c68] at H
                          have c68b0 : (t930 == t928) = true := beq_iff_eq.mpr c68
                          have c68b1 : (t930 != t928) = false := bne_eq_false_iff_eq.mpr c68
                          clear c68
                          replace H := bnd H
                          obtain ⟨t931, A69, H⟩ := H
                          replace H := bnd H
                          obtain ⟨t934, A70, H⟩ := H
                          replace H := Option.bind_eq_some_iff.mp H
                          obtain ⟨⟨t937, t938⟩, A710, H⟩ := H
                          replace H : ((laws_eqByteS.f kj45 t937 t900).bind fun t941 => (if t941 = true then (laws_FnExactEncPack.j2 kj45 t929 t928 (t938 != t901)) else (laws_FnExactEncPack.j2 kj45 t929 t928 true))) = some true := H
                          have A71 := Aside0.mk A710
                          clear A710
                          have HC72 := Aside0.mk H
                          clear H
                          obtain ⟨Ao73, co73, eo73⟩ := Kd.R_slice HO_14.out
                          subst eo73
                          go_upto_region 32 with (first | ((with_reducible refine gate_callee (f := 11) rfl ?_); refine gl_ (some 93) Try.func11 #[.slice Ao73 t910.length co73, .int .i64 1] rfl ?_; (with_reducible refine (laws_markByteS.calls kj45 (fun k_ => some k_ = (.slice Ao73 t910.length co73 : Value).ownBlock) (.slice Ao73 t910.length co73) t910 1 t928 t929 w _ ?side1 ?side2 A63.out).mono ?_); (case side1 => repeat (first | (with_reducible first | exact HB.out | apply below_alloc | apply pw_below_drewN | apply below_drew1) | exact HB.out)); (case side2 => exact Kd.R_tight rfl HO_14.out); rintro e w74 ⟨rfl, hy0, hb, hkp⟩; refine ⟨_, rfl, ?_⟩; replace HO_10 := Aside0.mk (Kd.R_mono (ok' := fun k_ => some k_ ≠ (.slice Ao73 t910.length co73 : Value).ownBlock) (Kd.R_keptB (HO_10.out) hkp (fun k_ hk_ hs_ => (hk_) hs_)) (fun k_ hk_ => hk_.1)); replace HO_14 := Aside0.mk (Kd.R_reok rfl hy0 (fun k_ e_ => HO_14.out.1 k_ e_)); replace HB := Aside0.mk (hb); (try clear hb); (try clear hkp); (try clear hy0)) | ((with_reducible refine gate_callee (f := 12) rfl ?_); refine goesL_ (some 96) rfl rfl Try.func12 (by kernel_rfl) rfl #[.slice Ao73 t929.length co73, .int .i64 1] rfl (by (try simp only [List.map_toArray, List.map_cons, List.map_nil]); first | done | (rw [show t929.length = t910.length from (Kd.R_reads' HO_14.out).1.symm] <;> rfl) | rfl | (simp only [List.length_drop, List.length_take]; rfl)) ?_; (with_reducible refine (laws_heldByteS.calls kj45 _ _ t929 1 t930 _ ?side1 ?side2 A64.out).mono ?_); (case side1 => repeat (first | exact (Kd.R_reads' HO_14.out).2.2 | (with_reducible refine Kd.C_alloc ?_ _) | (with_reducible refine Kd.C_drewN ?_ _) | (with_reducible refine Kd.C_drew ?_))); (case side2 => rw [show t929.length = t910.length from (Kd.R_reads' HO_14.out).1.symm]; exact (Kd.R_reads' HO_14.out).2.1); rintro e w' ⟨rfl, ⟨nd, rfl⟩⟩; refine ⟨_, rfl, ?_⟩) | ((with_reducible refine gate_callee (f := 6) rfl ?_); refine gl_ (some 106) Try.func6 #[.slice A2 l2.length c2] rfl ?_; (with_reducible refine (laws_toValS.calls kj45 _ _ l2 t931 _ ?side1 ?side2 A69.out).mono ?_); (case side1 => repeat (first | exact (Kd.C_below HR2.out (below_later HB.out)) | (with_reducible refine Kd.C_alloc ?_ _) | (with_reducible refine Kd.C_drewN ?_ _) | (with_reducible refine Kd.C_drew ?_))); (case side2 => exact HC2.out); rintro e w75 ⟨v932, rfl, ho0, hb⟩; refine ⟨_, rfl, ?_⟩; have HO933 := Aside0.mk (Kd.R_lower ho0 (below_size (below_later HB.out))); replace HO_10 := Aside0.mk (Kd.R_below (R_later HO_10.out) hb); replace HO_14 := Aside0.mk (Kd.R_below (R_later HO_14.out) hb); replace HB := bst HB hb; (try clear hb); (try clear ho0)) | ((with_reducible refine gate_callee (f := 6) rfl ?_); refine gl_ (some 108) Try.func6 #[.slice A3 l3.length c3] rfl ?_; (with_reducible refine (laws_toValS.calls kj45 _ _ l3 t934 _ ?side1 ?side2 A70.out).mono ?_); (case side1 => repeat (first | exact (Kd.C_below HR3.out HB.out) | (with_reducible refine Kd.C_alloc ?_ _) | (with_reducible refine Kd.C_drewN ?_ _) | (with_reducible refine Kd.C_drew ?_))); (case side2 => exact HC3.out); rintro e w76 ⟨v935, rfl, ho0, hb⟩; refine ⟨_, rfl, ?_⟩; have HO936 := Aside0.mk (Kd.R_lower (Kd.R_new' ho0 (Kd.R_lt (R_later HO933.out))) (below_size (below_later HB.out))); replace HO_10 := Aside0.mk (Kd.R_below (R_later HO_10.out) hb); replace HO_14 := Aside0.mk (Kd.R_below (R_later HO_14.out) hb); replace HO933 := Aside0.mk (Kd.R_elder' (R_later HO933.out) (Kd.R_base ho0) hb); replace HB := bst HB hb; (try clear hb); (try clear ho0); obtain ⟨Ao77, co77, eo77⟩ := Kd.R_slice HO933.out; subst eo77; obtain ⟨Ao78, co78, eo78⟩ := Kd.R_slice HO936.out; subst eo78) | ((with_reducible refine gate_callee (f := 7) rfl ?_); refine gl_ (some 109) Try.func7 #[.int .i64 a0, .int .i64 a1, .slice Ao77 t931.length co77, .slice Ao78 t934.length co78] rfl ?_; (with_reducible refine (impl_EncPack.calls kj45 a0 a1 _ _ t931 _ _ t934 t937 t938 _ ?side1 ?side2 ?side3 ?side4 A71.out).mono ?_); (case side1 => repeat (first | exact (Kd.R_reads' HO933.out).2.2 | (with_reducible refine Kd.C_alloc ?_ _) | (with_reducible refine Kd.C_drewN ?_ _) | (with_reducible refine Kd.C_drew ?_))); (case side2 => exact (Kd.R_reads' HO933.out).2.1); (case side3 => repeat (first | exact (Kd.R_reads' HO936.out).2.2 | (with_reducible refine Kd.C_alloc ?_ _) | (with_reducible refine Kd.C_drewN ?_ _) | (with_reducible refine Kd.C_drew ?_))); (case side4 => exact (Kd.R_reads' HO936.out).2.1); rintro e w79 ⟨v939, rfl, ho0, hb⟩; refine ⟨_, rfl, ?_⟩; have HO940 := Aside0.mk (Kd.R_lower (Kd.R_new' (Kd.R_new' ho0 (Kd.R_lt (R_later HO_10.out))) (Kd.R_lt (R_later HO_14.out))) (below_size (below_later HB.out))); replace HO_10 := Aside0.mk (Kd.R_elder' (R_later HO_10.out) (Kd.R_base ho0) hb); replace HO_14 := Aside0.mk (Kd.R_elder' (R_later HO_14.out) (Kd.R_base ho0) hb); replace HO933 := Aside0.mk (Kd.R_below (R_later HO933.out) hb); replace HO936 := Aside0.mk (Kd.R_below (R_later HO936.out) hb); replace HB := bst HB hb; (try clear hb); (try clear ho0)))
                          (try simp only [Act.put, List.setIfInBounds_toArray, List.set_cons_zero, List.set_cons_succ])
                          go_cut [120] (fun v120 wc => ∃ (kq : Nat) (x120_71 : Bool), v120 = .bool x120_71 ∧ Aside0 (laws_FnExactEncPack.j2 kq t929 t928 x120_71 = some true) ∧ Aside0 (kq ≤ kj45) ∧ Aside0 (Kd.R (Kd.int .u8) 5 wc w.heap.size (fun _ => True) (.slice Ao73 t910.length co73) t929) ∧ Aside0 (Below w.heap.size w wc))
                          case first =>
                            have H := HC72.out
                            clear HC72
                            replace H := bnd H
                            obtain ⟨t941, A80, H⟩ := H
                            by_cases c81 : t941 = true
                            · subst c81
                              replace H := ifp rfl H
                              have H' := Aside0.mk H
                              clear H
                              obtain ⟨Ao82, co82, eo82⟩ := Kd.R_slice HO940.out
                              subst eo82
                              obtain ⟨Ao83, co83, eo83⟩ := Kd.R_slice HO_10.out
                              subst eo83
                              go_wp2_with (first | ((with_reducible refine gate_callee (f := 8) rfl ?_); refine gl_ (some 114) Try.func8 #[.slice Ao82 t937.length co82, .slice Ao83 t900.length co83] rfl ?_; (with_reducible refine (laws_eqByteS.calls kj45 _ _ t937 _ _ t900 true _ ?side1 ?side2 ?side3 ?side4 A80.out).mono ?_); (case side1 => repeat (first | exact (Kd.R_reads' HO940.out).2.2 | (with_reducible refine Kd.C_alloc ?_ _) | (with_reducible refine Kd.C_drewN ?_ _) | (with_reducible refine Kd.C_drew ?_))); (case side2 => exact (Kd.R_reads' HO940.out).2.1); (case side3 => repeat (first | exact (Kd.R_reads' HO_10.out).2.2 | (with_reducible refine Kd.C_alloc ?_ _) | (with_reducible refine Kd.C_drewN ?_ _) | (with_reducible refine Kd.C_drew ?_))); (case side4 => exact (Kd.R_reads' HO_10.out).2.1); rintro e w' ⟨rfl, ⟨nd, rfl⟩⟩; refine ⟨_, rfl, ?_⟩))
                              go_meet
                              case rel => exact ⟨_, ((t938 != t901)), sr, H', ⟨by have := HJ17.out; have := HJ45.out; first | omega | exact Nat.le_refl _⟩, ⟨R_later (Kd.R_mono HO_14.out (fun _ hk => trivial))⟩, ⟨below_later HB.out⟩⟩
                            · replace c81 := Bool.eq_false_iff.mpr c81
                              subst c81
                              have H1 : (laws_FnExactEncPack.j2 kj45 t929 t928 true) = some true := by rw [if_neg (show ¬ (false = true) by decide)] at H; exact H
                              exact absurd H1 (by cases kj45 <;> simp [laws_FnExactEncPack.j2])
                          case rest =>
                            clear HC72
                            try clear c2
                            try clear c3
                            try clear c6
                            try clear c6b0
                            try clear c9
                            try clear c9b0
                            try clear c37
                            try clear c40
                            try clear c43
                            try clear c62
                            try clear c65
                            try clear c65b0
                            try clear c68
                            try clear c68b0
                            try clear c68b1
                            obtain ⟨kq, x120_71, rfl, HA, HJ71, HO_14, HB⟩ := hcut
                            have hl14_71 := (Kd.R_reads' HO_14.out).1
                            rw [hl14_71] at HO_14
                            (try simp only [hl14_71])
                            cases kq with
                            | zero => exact absurd HA.out (by simp [laws_FnExactEncPack.j2])
                            | succ kj71 =>
                              have H := HA.out
                              clear HA
                              simp only [laws_FnExactEncPack.j2] at H
                              by_cases c86 : x120_71 = true
                              · subst c86
                                have H1 : (some false) = some true := by rw [if_pos rfl] at H; exact H
                                cases H1
                              · replace c86 := Bool.eq_false_iff.mpr c86
                                subst c86
                                replace H := ifn Bool.false_ne_true H
                                replace H := bnd H
                                obtain ⟨t942, A87, H⟩ := H
                                by_cases c88 : t942 < 0
                                · rw [if_pos c88] at H
                                  cases H
                                · rw [if_neg c88] at H
                                  have c88b0 := decide_eq_false c88
                                  clear c88
                                  by_cases c89 : t942 = t928
                                  · rw [if_pos c89] at H
                                    have c89b0 : (t942 == t928) = true := beq_iff_eq.mpr c89
                                    have c89b1 : (t942 != t928) = false := bne_eq_false_iff_eq.mpr c89
                                    clear c89
                                    clear H
                                    go_wp2_with (first | ((with_reducible refine gate_callee (f := 12) rfl ?_); refine gl_ (some 123) Try.func12 #[.slice Ao73 t929.length co73, .int .i64 1] rfl ?_; (with_reducible refine (laws_heldByteS.calls kj71 _ _ t929 1 t942 _ ?side1 ?side2 A87.out).mono ?_); (case side1 => repeat (first | exact (Kd.R_reads' HO_14.out).2.2 | (with_reducible refine Kd.C_alloc ?_ _) | (with_reducible refine Kd.C_drewN ?_ _) | (with_reducible refine Kd.C_drew ?_))); (case side2 => exact (Kd.R_reads' HO_14.out).2.1); rintro e w' ⟨rfl, ⟨nd, rfl⟩⟩; refine ⟨_, rfl, ?_⟩))
                                    go_ret
                                    exact fin_ (below_later HB.out)
                                  · rw [if_neg c89] at H
                                    cases H
                        · rw [if_neg c68] at H
                          cases H
              · replace c43 := Bool.eq_false_iff.mpr c43
                subst c43
                have H1 : (some false) = some true := by rw [if_neg (show ¬ (false = true) by decide)] at H; exact H
                cases H1
            · replace c40 := Bool.eq_false_iff.mpr c40
              subst c40
              have H1 : (some false) = some true := by rw [if_neg (show ¬ (false = true) by decide)] at H; exact H
              cases H1
end Go.Proofs.Ytkocikdceojnmaa.PFnExactEncPack
