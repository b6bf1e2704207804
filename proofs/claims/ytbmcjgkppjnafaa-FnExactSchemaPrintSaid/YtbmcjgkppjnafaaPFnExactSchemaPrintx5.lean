/- The machine's side of FnExactSchemaPrint, written by wip/tools/hyb.py of this repo: each Go function as a plain Lean function, and the proof that the call comes to just its answer. No condition. -/
import Derived.Test.YtbmcjgkppjnafaaPFnExactSchemaPrintx0
import Derived.Test.YtbmcjgkppjnafaaPFnExactSchemaPrintx1
import Derived.Test.YtbmcjgkppjnafaaPFnExactSchemaPrintx3
import Derived.Test.YtbmcjgkppjnafaaPFnExactSchemaPrintx4
namespace Go.Proofs.Ytbmcjgkppjnafaa.PFnExactSchemaPrint
open Go.RowKit Go.Proofs.YtbmcjgkppjnafaaW.PrintWords Go.Proofs.YtbmcjgkppjnafaaW.PrintLast Go.Proofs.YtbmcjgkppjnafaaW.PrintMore Go.Proofs.YtbmcjgkppjnafaaW.PrintMore2
attribute [local go_sem] max2_int min2_int max_two min_two max_three min_three max_four min_four   -- for this text's walks alone
set_option linter.unusedVariables false
set_option linter.unusedSimpArgs false

/-! ### laws_eqColS: function 8 -/
def laws_eqColS.l0 : Nat → List (S34) → List (S34) → Int → Option (Bool)
  | 0, _, _, _ => none
  | k + 1, x0, x1, x5 => if x5 < (x0.length : Int) then (if 0 ≤ x5 then (if x5 < (x1.length : Int) then ((laws_eqCol.f ((rd_T34 x0 x5).f0) ((rd_T34 x0 x5).f1) ((rd_T34 x0 x5).f2) ((rd_T34 x0 x5).f3) ((rd_T34 x1 x5).f0) ((rd_T34 x1 x5).f1) ((rd_T34 x1 x5).f2) ((rd_T34 x1 x5).f3)).bind fun t201 => (if t201 = true then (laws_eqColS.l0 k x0 x1 (wrap64 (x5 + 1))) else (some false))) else (none)) else (none)) else (some true)
def laws_eqColS.f (k : Nat) (l0 : List (S34)) (l1 : List (S34)) : Option (Bool) := if (l0.length : Int) = (l1.length : Int) then (laws_eqColS.l0 k l0 l1 0) else (some false)
def laws_eqColS.T6 : Bool × List (List Nat × List Nat) := (true, [([], []), ([], []), ([0, 1], [0, 1]), ([2], [2]), ([], []), ([], []), ([4, 5], [4, 5]), ([6], [6]), ([3, 7], [3, 7]), ([8], [8])])
def laws_eqColS.B6 : List Nat := [0, 0, 3, 7, 0, 0, 48, 112, 255, 511]
theorem laws_eqColS.tab6 : rtab .any (opsOf Try.f8 6) = laws_eqColS.T6 := by kernel_rfl
theorem laws_eqColS.bits6 : waitsOk laws_eqColS.T6.2 laws_eqColS.B6 = true := by kernel_rfl
set_option maxHeartbeats 8000000 in
set_option maxRecDepth 100000 in
theorem laws_eqColS.calls (k : Nat) (A0 : Option Addr) (c0 : Nat) (l0 : List (S34)) (A1 : Option Addr) (c1 : Nat) (l1 : List (S34)) (r : Bool) (w : World) (hr0 : Kd.C k34 w A0 l0.length l0) (hc0 : l0.length ≤ c0) (hr1 : Kd.C k34 w A1 l1.length l1) (hc1 : l1.length ≤ c1) (h : laws_eqColS.f k l0 l1 = some true) :
    Calls Try.prog 8 #[.slice A0 l0.length c0, .slice A1 l1.length c1] w fun e w' => e = .returned (.bool true) ∧ Below w.heap.size w w' := by
  have hu34 := Try.underlying34
  have HR0 := Aside0.mk hr0
  have HC0 := Aside0.mk hc0
  clear hr0 hc0
  have HR1 := Aside0.mk hr1
  have HC1 := Aside0.mk hc1
  clear hr1 hc1
  have HB := Aside0.mk (Below.refl w.heap.size w)
  have H : (if (l0.length : Int) = (l1.length : Int) then (laws_eqColS.l0 k l0 l1 0) else (some false)) = some true := h
  clear h
  by_cases c3 : (l0.length : Int) = (l1.length : Int)
  · rw [if_pos c3] at H
    have c3b0 : ((l0.length : Int) == (l1.length : Int)) = true := beq_iff_eq.mpr c3
    have c3b1 : ((l0.length : Int) != (l1.length : Int)) = false := bne_eq_false_iff_eq.mpr c3
    have c3b2 : (l0.length == l1.length) = true := by first | simpa using c3 | (simp at c3 ⊢; omega)
    clear c3
    have H' := Aside0.mk H
    clear H
    go_enter Try.func8, Try.ntmps8
    go_wp2
    go_loopg [5] k (fun kq v5 w' => ∃ (x5_1 : Int), v5 = .int .i64 x5_1 ∧ Aside0 (laws_eqColS.l0 kq l0 l1 x5_1 = some true) ∧ Aside0 (kq ≤ k) ∧ Aside0 (Below w.heap.size w w'))
    case atStart => exact ⟨(0), sr, H', ⟨Nat.le_refl _⟩, ⟨below_later HB.out⟩⟩
    case round =>
      clear H'
      try clear c1
      try clear c3
      try clear c3b0
      try clear c3b1
      try clear c3b2
      obtain ⟨x5_1, rfl, HA, HK1, HB⟩ := hrel
      cases gk with
      | zero => exact absurd HA.out (by simp [laws_eqColS.l0])
      | succ k1 =>
        have H := HA.out
        clear HA
        simp only [laws_eqColS.l0] at H
        by_cases c4 : x5_1 < (l0.length : Int)
        · rw [if_pos c4] at H
          have c4b0 := decide_eq_true c4
          clear c4
          replace H := ifd H
          obtain ⟨c5b0, H⟩ := H
          replace H := ifd H
          obtain ⟨c6b0, H⟩ := H
          replace H := bnd H
          obtain ⟨t201, A7, H⟩ := H
          by_cases c8 : t201 = true
          · subst c8
            replace H := ifp rfl H
            have H' := Aside0.mk H
            clear H
            try go_wp2
            have n0_ := Aside0.mk (below_drew1 HB.out)
            clear HB
            have HB := n0_
            clear n0_
            have p199 : 0 ≤ (x5_1 : Int) := dcd
            have q199 : x5_1 < (l0.length : Int) := dcd
            obtain ⟨ad199, e199, hx199_0, hx199_1, hx199_2, hx199_3⟩ := at_T34 HR0.out x5_1 p199 q199
            have hw199_3 := hx199_3
            have hw199_2 := hx199_2
            have hw199_1 := hx199_1
            have hw199_0 := hx199_0
            cases e199
            replace hx199_0 := crd HB hx199_0
            replace hx199_1 := crd HB hx199_1
            replace hx199_2 := crd HB hx199_2
            replace hx199_3 := crd HB hx199_3
            replace p199 := eq_true p199
            replace q199 := eq_true q199
            have p200 : 0 ≤ (x5_1 : Int) := dcd
            have q200 : x5_1 < (l1.length : Int) := dcd
            obtain ⟨ad200, e200, hx200_0, hx200_1, hx200_2, hx200_3⟩ := at_T34 HR1.out x5_1 p200 q200
            have hw200_3 := hx200_3
            have hw200_2 := hx200_2
            have hw200_1 := hx200_1
            have hw200_0 := hx200_0
            cases e200
            replace hx200_0 := crd HB hx200_0
            replace hx200_1 := crd HB hx200_1
            replace hx200_2 := crd HB hx200_2
            replace hx200_3 := crd HB hx200_3
            replace p200 := eq_true p200
            replace q200 := eq_true q200
            refine start_ (n := 10) (S := fun w' => w'.cell? (ad199.add ((x5_1).toNat * 4)) = some (.string ((rd_T34 l0 x5_1).f0)) ∧ w'.cell? ⟨(ad199.add ((x5_1).toNat * 4)).block, (ad199.add ((x5_1).toNat * 4)).off + 1, none⟩ = some (.int .i64 ((rd_T34 l0 x5_1).f1)) ∧ w'.cell? ⟨(ad199.add ((x5_1).toNat * 4)).block, (ad199.add ((x5_1).toNat * 4)).off + 2, none⟩ = some (.int .i64 ((rd_T34 l0 x5_1).f2)) ∧ w'.cell? ⟨(ad199.add ((x5_1).toNat * 4)).block, (ad199.add ((x5_1).toNat * 4)).off + 3, none⟩ = some (.int .i64 ((rd_T34 l0 x5_1).f3)) ∧ w'.cell? (ad200.add ((x5_1).toNat * 4)) = some (.string ((rd_T34 l1 x5_1).f0)) ∧ w'.cell? ⟨(ad200.add ((x5_1).toNat * 4)).block, (ad200.add ((x5_1).toNat * 4)).off + 1, none⟩ = some (.int .i64 ((rd_T34 l1 x5_1).f1)) ∧ w'.cell? ⟨(ad200.add ((x5_1).toNat * 4)).block, (ad200.add ((x5_1).toNat * 4)).off + 2, none⟩ = some (.int .i64 ((rd_T34 l1 x5_1).f2)) ∧ w'.cell? ⟨(ad200.add ((x5_1).toNat * 4)).block, (ad200.add ((x5_1).toNat * 4)).off + 3, none⟩ = some (.int .i64 ((rd_T34 l1 x5_1).f3))) (ds := []) #[false, false, false, false, false, false, false, false, false, false] (by kernel_rfl) rfl rfl ⟨(crd HB hw199_0), (crd HB hw199_1), (crd HB hw199_2), (crd HB hw199_3), (crd HB hw200_0), (crd HB hw200_1), (crd HB hw200_2), (crd HB hw200_3)⟩ (fun hHeld => ?_); refine with_tabW laws_eqColS.tab6 laws_eqColS.bits6 (fun HT_ HW_ => ?_)
            generalize wr.drew = w9 at HB hx199_0 hx199_1 hx199_2 hx199_3 hx200_0 hx200_1 hx200_2 hx200_3 hHeld ⊢
            refine pure_ (i := 0) (N := some 17) (v := ?_) (a' := ?_) #[true, false, false, false, false, false, false, false, false, false] rfl rfl (any_of HT_.out (by kernel_rfl)) (fun _ _ _ h => h) (Or.inl ⟨by rfl, ?_⟩) ?_ ?_
            rotate_left
            · intro w'
              go_simp
              with_reducible rfl
            rotate_left
            · simp only [Act.put, List.setIfInBounds_toArray, List.set_cons_zero, List.set_cons_succ, i64_w, i32_w]
              rfl
            refine pure_ (i := 1) (N := some 18) (v := ?_) (a' := ?_) #[true, true, false, false, false, false, false, false, false, false] rfl rfl (any_of HT_.out (by kernel_rfl)) (fun _ _ _ h => h) (Or.inl ⟨by rfl, ?_⟩) ?_ ?_
            rotate_left
            · intro w'
              go_simp
              with_reducible rfl
            rotate_left
            · simp only [Act.put, List.setIfInBounds_toArray, List.set_cons_zero, List.set_cons_succ, i64_w, i32_w]
              rfl
            refine pure_ (i := 2) (N := some 19) (v := ?_) (a' := ?_) #[true, true, true, false, false, false, false, false, false, false] rfl rfl (any_of HT_.out (by kernel_rfl)) (fun _ _ _ h => h) (Or.inl ⟨by rfl, ?_⟩) ?_ ?_
            rotate_left
            · intro w'
              go_simp
              with_reducible rfl
            rotate_left
            · simp only [Act.put, List.setIfInBounds_toArray, List.set_cons_zero, List.set_cons_succ, i64_w, i32_w]
              rfl
            refine pure_ (i := 4) (N := some 21) (v := ?_) (a' := ?_) #[true, true, true, false, true, false, false, false, false, false] rfl rfl (any_of HT_.out (by kernel_rfl)) (fun _ _ _ h => h) (Or.inl ⟨by rfl, ?_⟩) ?_ ?_
            rotate_left
            · intro w'
              go_simp
              with_reducible rfl
            rotate_left
            · simp only [Act.put, List.setIfInBounds_toArray, List.set_cons_zero, List.set_cons_succ, i64_w, i32_w]
              rfl
            refine pure_ (i := 5) (N := some 22) (v := ?_) (a' := ?_) #[true, true, true, false, true, true, false, false, false, false] rfl rfl (any_of HT_.out (by kernel_rfl)) (fun _ _ _ h => h) (Or.inl ⟨by rfl, ?_⟩) ?_ ?_
            rotate_left
            · intro w'
              go_simp
              with_reducible rfl
            rotate_left
            · simp only [Act.put, List.setIfInBounds_toArray, List.set_cons_zero, List.set_cons_succ, i64_w, i32_w]
              rfl
            refine pure_ (i := 6) (N := some 23) (v := ?_) (a' := ?_) #[true, true, true, false, true, true, true, false, false, false] rfl rfl (any_of HT_.out (by kernel_rfl)) (fun _ _ _ h => h) (Or.inl ⟨by rfl, ?_⟩) ?_ ?_
            rotate_left
            · intro w'
              go_simp
              with_reducible rfl
            rotate_left
            · simp only [Act.put, List.setIfInBounds_toArray, List.set_cons_zero, List.set_cons_succ, i64_w, i32_w]
              rfl
            refine take_ (i := 3) (N := some 20) (v := ?_) (a' := ?_) #[true, true, true, true, true, true, true, false, false, false] rfl rfl (take_ofW HT_.out HW_.out (by kernel_rfl)) (fun _ _ _ h => h) (Or.inl ⟨by rfl, ?_⟩) hHeld ?_ ?_
            rotate_left
            · rintro w' ⟨s0, s1, s2, s3, s4, s5, s6, s7⟩
              go_simp
              with_reducible rfl
            rotate_left
            · simp only [Act.put, List.setIfInBounds_toArray, List.set_cons_zero, List.set_cons_succ, i64_w, i32_w]
              rfl
            refine take_ (i := 7) (N := some 24) (v := ?_) (a' := ?_) #[true, true, true, true, true, true, true, true, false, false] rfl rfl (take_ofW HT_.out HW_.out (by kernel_rfl)) (fun _ _ _ h => h) (Or.inl ⟨by rfl, ?_⟩) hHeld ?_ ?_
            rotate_left
            · rintro w' ⟨s0, s1, s2, s3, s4, s5, s6, s7⟩
              go_simp
              with_reducible rfl
            rotate_left
            · simp only [Act.put, List.setIfInBounds_toArray, List.set_cons_zero, List.set_cons_succ, i64_w, i32_w]
              rfl
            refine one_ (i := 8) (N := some 25) #[true, true, true, true, true, true, true, true, true, false] rfl rfl (one_of HT_.out (by kernel_rfl)) (by decide) (fun K hK => ?_)
            refine goes_ Try.func15 (by kernel_rfl) rfl #[.agg #[.string ((rd_T34 l0 x5_1).f0), .int .i64 ((rd_T34 l0 x5_1).f1), .int .i64 ((rd_T34 l0 x5_1).f2), .int .i64 ((rd_T34 l0 x5_1).f3)], .agg #[.string ((rd_T34 l1 x5_1).f0), .int .i64 ((rd_T34 l1 x5_1).f1), .int .i64 ((rd_T34 l1 x5_1).f2), .int .i64 ((rd_T34 l1 x5_1).f3)]] (by rfl) rfl rfl (by (try simp only [List.map_toArray, List.map_cons, List.map_nil]); first | done | rfl | (simp only [List.length_drop, List.length_take]; rfl)) ?_
            with_reducible refine (laws_eqCol.calls ((rd_T34 l0 x5_1).f0) ((rd_T34 l0 x5_1).f1) ((rd_T34 l0 x5_1).f2) ((rd_T34 l0 x5_1).f3) ((rd_T34 l1 x5_1).f0) ((rd_T34 l1 x5_1).f1) ((rd_T34 l1 x5_1).f2) ((rd_T34 l1 x5_1).f3) true _ A7.out).mono ?_
            rintro e w10 ⟨rfl, hb⟩
            refine ⟨_, rfl, ?_⟩
            have n0_ := Aside0.mk (below_step (below_later HB.out) hb)
            clear HB
            have HB := n0_
            clear n0_
            (try clear hb)
            (try clear hb2)
            (try clear hk)
            (try clear hi)
            refine hK.out _ _ ⟨(crd HB hw199_0), (crd HB hw199_1), (crd HB hw199_2), (crd HB hw199_3), (crd HB hw200_0), (crd HB hw200_1), (crd HB hw200_2), (crd HB hw200_3)⟩ (fun hHeld => ?_)
            clear hK K
            refine norm_ (a' := ?_) ?_ ?_
            rotate_left
            · show Act.put _ (some 25) _ = _
              simp only [Act.put, List.setIfInBounds_toArray, List.set_cons_zero, List.set_cons_succ, i64_w, i32_w]
              rfl
            refine pure_ (i := 9) (N := some 26) (v := ?_) (a' := ?_) #[true, true, true, true, true, true, true, true, true, true] rfl rfl (any_of HT_.out (by kernel_rfl)) (fun _ _ _ h => h) (Or.inl ⟨by rfl, ?_⟩) ?_ ?_
            rotate_left
            · intro w'
              go_simp
              with_reducible rfl
            rotate_left
            · simp only [Act.put, List.setIfInBounds_toArray, List.set_cons_zero, List.set_cons_succ, i64_w, i32_w]
              rfl
            refine done_ (done_of HT_.out (by kernel_rfl)) ?_
            try go_wp2
            go_roundg k1
            case measure => have := HK1.out; omega
            case rel => exact ⟨(wrap64 (x5_1 + 1)), sr, H', ⟨by have := HK1.out; omega⟩, ⟨below_later HB.out⟩⟩
          · replace c8 := Bool.eq_false_iff.mpr c8
            subst c8
            have H1 : (some false) = some true := by rw [if_neg (show ¬ (false = true) by decide)] at H; exact H
            cases H1
        · rw [if_neg c4] at H
          have c4b0 := decide_eq_false c4
          clear c4
          clear H
          go_wp2
          go_ret
          exact fin_ (below_later HB.out)
  · rw [if_neg c3] at H
    cases H
/-! ### laws_FnExactSchemaPrint: function 3 -/
def laws_FnExactSchemaPrint.f (k : Nat) (l0 : List (S31)) : Option (Bool) := (laws_szColS.f k l0 1048576).bind fun t202 => (if t202 < 0 then (some true) else ((laws_toColS.f k l0).bind fun t203 => ((spec_SchemaPrint.f k t203).bind fun t206 => ((laws_toColS.f k l0).bind fun t207 => ((impl_SchemaPrint.f k t207).bind fun t210 => (if t210.toList = t206.toList then ((laws_toColS.f k l0).bind fun t211 => ((laws_eqColS.f k t207 t211).bind fun t214 => (if t214 = true then (some true) else (some false)))) else (some false)))))))
set_option maxHeartbeats 8000000 in
set_option maxRecDepth 100000 in
theorem laws_FnExactSchemaPrint.calls (k : Nat) (A0 : Option Addr) (c0 : Nat) (l0 : List (S31)) (r : Bool) (w : World) (hr0 : Kd.C k31 w A0 l0.length l0) (hc0 : l0.length ≤ c0) (h : laws_FnExactSchemaPrint.f k l0 = some true) :
    Calls Try.prog 3 #[.slice A0 l0.length c0] w fun e w' => e = .returned (.bool true) ∧ Below w.heap.size w w' := by
  have HR0 := Aside0.mk hr0
  have HC0 := Aside0.mk hc0
  clear hr0 hc0
  have HB := Aside0.mk (Below.refl w.heap.size w)
  have H : ((laws_szColS.f k l0 1048576).bind fun t202 => (if t202 < 0 then (some true) else ((laws_toColS.f k l0).bind fun t203 => ((spec_SchemaPrint.f k t203).bind fun t206 => ((laws_toColS.f k l0).bind fun t207 => ((impl_SchemaPrint.f k t207).bind fun t210 => (if t210.toList = t206.toList then ((laws_toColS.f k l0).bind fun t211 => ((laws_eqColS.f k t207 t211).bind fun t214 => (if t214 = true then (some true) else (some false)))) else (some false)))))))) = some true := h
  clear h
  replace H := bnd H
  obtain ⟨t202, A2, H⟩ := H
  by_cases c3 : t202 < 0
  · rw [if_pos c3] at H
    have c3b0 := decide_eq_true c3
    clear c3
    clear H
    go_enter Try.func3, Try.ntmps3
    go_wp2_with (first | ((with_reducible refine gate_callee (f := 4) rfl ?_); refine gl_ (some 9) Try.func4 #[.slice A0 l0.length c0, .int .i64 1048576] rfl ?_; (with_reducible refine (laws_szColS.calls k _ _ l0 1048576 t202 _ ?side1 ?side2 A2.out).mono ?_); (case side1 => exact C_later HR0.out); (case side2 => exact HC0.out); rintro e w4 ⟨rfl, hb⟩; refine ⟨_, rfl, ?_⟩; replace HB := bst HB hb; (try clear hb)))
    go_ret
    exact fin_ (below_later HB.out)
  · rw [if_neg c3] at H
    have c3b0 := decide_eq_false c3
    clear c3
    replace H := bnd H
    obtain ⟨t203, A5, H⟩ := H
    replace H := bnd H
    obtain ⟨t206, A6, H⟩ := H
    replace H := bnd H
    obtain ⟨t207, A7, H⟩ := H
    replace H := bnd H
    obtain ⟨t210, A8, H⟩ := H
    by_cases c9 : t210.toList = t206.toList
    · rw [if_pos c9] at H
      have c9b0 : (t210.toList == t206.toList) = true := beq_iff_eq.mpr c9
      have c9b1 : (t210.toList != t206.toList) = false := bne_eq_false_iff_eq.mpr c9
      clear c9
      replace H := bnd H
      obtain ⟨t211, A10, H⟩ := H
      replace H := bnd H
      obtain ⟨t214, A11, H⟩ := H
      by_cases c12 : t214 = true
      · subst c12
        replace H := ifp rfl H
        clear H
        go_enter Try.func3, Try.ntmps3
        go_wp2_with (first | ((with_reducible refine gate_callee (f := 4) rfl ?_); refine gl_ (some 9) Try.func4 #[.slice A0 l0.length c0, .int .i64 1048576] rfl ?_; (with_reducible refine (laws_szColS.calls k _ _ l0 1048576 t202 _ ?side1 ?side2 A2.out).mono ?_); (case side1 => exact C_later HR0.out); (case side2 => exact HC0.out); rintro e w13 ⟨rfl, hb⟩; refine ⟨_, rfl, ?_⟩; replace HB := bst HB hb; (try clear hb)) | ((with_reducible refine gate_callee (f := 6) rfl ?_); refine gl_ (some 13) Try.func6 #[.slice A0 l0.length c0] rfl ?_; (with_reducible refine (laws_toColS.calls k _ _ l0 t203 _ ?side1 ?side2 A5.out).mono ?_); (case side1 => repeat (first | exact (Kd.C_below HR0.out HB.out) | (with_reducible refine Kd.C_alloc ?_ _) | (with_reducible refine Kd.C_drewN ?_ _) | (with_reducible refine Kd.C_drew ?_))); (case side2 => exact HC0.out); rintro e w14 ⟨v204, rfl, ho0, hb⟩; refine ⟨_, rfl, ?_⟩; have n0_ := Aside0.mk (Kd.R_lower ho0 (below_size (below_later HB.out))); have n1_ := Aside0.mk (below_step (below_later HB.out) hb); clear HB; have HO205 := n0_; have HB := n1_; clear n0_ n1_; (try clear hb); (try clear ho0); obtain ⟨Ao15, co15, eo15⟩ := Kd.R_slice HO205.out; subst eo15) | ((with_reducible refine gate_callee (f := 5) rfl ?_); refine gl_ (some 14) Try.func5 #[.slice Ao15 t203.length co15] rfl ?_; (with_reducible refine (spec_SchemaPrint.calls k _ _ t203 t206 _ ?side1 ?side2 A6.out).mono ?_); (case side1 => repeat (first | exact (Kd.R_reads' HO205.out).2.2 | (with_reducible refine Kd.C_alloc ?_ _) | (with_reducible refine Kd.C_drewN ?_ _) | (with_reducible refine Kd.C_drew ?_))); (case side2 => exact (Kd.R_reads' HO205.out).2.1); rintro e w16 ⟨rfl, hb⟩; refine ⟨_, rfl, ?_⟩; have n0_ := Aside0.mk (Kd.R_below (R_later HO205.out) hb); have n1_ := Aside0.mk (below_step (below_later HB.out) hb); clear HO205; clear HB; have HO205 := n0_; have HB := n1_; clear n0_ n1_; (try clear hb)) | ((with_reducible refine gate_callee (f := 6) rfl ?_); refine gl_ (some 16) Try.func6 #[.slice A0 l0.length c0] rfl ?_; (with_reducible refine (laws_toColS.calls k _ _ l0 t207 _ ?side1 ?side2 A7.out).mono ?_); (case side1 => repeat (first | exact (Kd.C_below HR0.out HB.out) | (with_reducible refine Kd.C_alloc ?_ _) | (with_reducible refine Kd.C_drewN ?_ _) | (with_reducible refine Kd.C_drew ?_))); (case side2 => exact HC0.out); rintro e w17 ⟨v208, rfl, ho0, hb⟩; refine ⟨_, rfl, ?_⟩; have n0_ := Aside0.mk (Kd.R_elder' (R_later HO205.out) (Kd.R_base ho0) hb); have n1_ := Aside0.mk (Kd.R_lower (Kd.R_new' ho0 (Kd.R_lt (R_later HO205.out))) (below_size (below_later HB.out))); have n2_ := Aside0.mk (below_step (below_later HB.out) hb); clear HO205; clear HB; have HO205 := n0_; have HO209 := n1_; have HB := n2_; clear n0_ n1_ n2_; (try clear hb); (try clear ho0); obtain ⟨Ao18, co18, eo18⟩ := Kd.R_slice HO209.out; subst eo18) | ((with_reducible refine gate_callee (f := 7) rfl ?_); refine gl_ (some 18) Try.func7 #[.slice Ao18 t207.length co18] rfl ?_; (with_reducible refine (impl_SchemaPrint.calls k _ _ t207 t210 _ ?side1 ?side2 A8.out).mono ?_); (case side1 => repeat (first | exact (Kd.R_reads' HO209.out).2.2 | (with_reducible refine Kd.C_alloc ?_ _) | (with_reducible refine Kd.C_drewN ?_ _) | (with_reducible refine Kd.C_drew ?_))); (case side2 => exact (Kd.R_reads' HO209.out).2.1); rintro e w19 ⟨rfl, hb⟩; refine ⟨_, rfl, ?_⟩; have n0_ := Aside0.mk (Kd.R_below (R_later HO205.out) hb); have n1_ := Aside0.mk (Kd.R_below (R_later HO209.out) hb); have n2_ := Aside0.mk (below_step (below_later HB.out) hb); clear HO205; clear HO209; clear HB; have HO205 := n0_; have HO209 := n1_; have HB := n2_; clear n0_ n1_ n2_; (try clear hb)) | ((with_reducible refine gate_callee (f := 6) rfl ?_); refine gl_ (some 24) Try.func6 #[.slice A0 l0.length c0] rfl ?_; (with_reducible refine (laws_toColS.calls k _ _ l0 t211 _ ?side1 ?side2 A10.out).mono ?_); (case side1 => repeat (first | exact (Kd.C_below HR0.out HB.out) | (with_reducible refine Kd.C_alloc ?_ _) | (with_reducible refine Kd.C_drewN ?_ _) | (with_reducible refine Kd.C_drew ?_))); (case side2 => exact HC0.out); rintro e w20 ⟨v212, rfl, ho0, hb⟩; refine ⟨_, rfl, ?_⟩; have n0_ := Aside0.mk (Kd.R_elder' (R_later HO205.out) (Kd.R_base ho0) hb); have n1_ := Aside0.mk (Kd.R_elder' (R_later HO209.out) (Kd.R_base ho0) hb); have n2_ := Aside0.mk (Kd.R_lower (Kd.R_new' (Kd.R_new' ho0 (Kd.R_lt (R_later HO205.out))) (Kd.R_lt (R_later HO209.out))) (below_size (below_later HB.out))); have n3_ := Aside0.mk (below_step (below_later HB.out) hb); clear HO205; clear HO209; clear HB; have HO205 := n0_; have HO209 := n1_; have HO213 := n2_; have HB := n3_; clear n0_ n1_ n2_ n3_; (try clear hb); (try clear ho0); obtain ⟨Ao21, co21, eo21⟩ := Kd.R_slice HO213.out; subst eo21) | ((with_reducible refine gate_callee (f := 8) rfl ?_); refine gl_ (some 25) Try.func8 #[.slice Ao18 t207.length co18, .slice Ao21 t211.length co21] rfl ?_; (with_reducible refine (laws_eqColS.calls k _ _ t207 _ _ t211 true _ ?side1 ?side2 ?side3 ?side4 A11.out).mono ?_); (case side1 => repeat (first | exact (Kd.R_reads' HO209.out).2.2 | (with_reducible refine Kd.C_alloc ?_ _) | (with_reducible refine Kd.C_drewN ?_ _) | (with_reducible refine Kd.C_drew ?_))); (case side2 => exact (Kd.R_reads' HO209.out).2.1); (case side3 => repeat (first | exact (Kd.R_reads' HO213.out).2.2 | (with_reducible refine Kd.C_alloc ?_ _) | (with_reducible refine Kd.C_drewN ?_ _) | (with_reducible refine Kd.C_drew ?_))); (case side4 => exact (Kd.R_reads' HO213.out).2.1); rintro e w22 ⟨rfl, hb⟩; refine ⟨_, rfl, ?_⟩; have n0_ := Aside0.mk (Kd.R_below (R_later HO205.out) hb); have n1_ := Aside0.mk (Kd.R_below (R_later HO209.out) hb); have n2_ := Aside0.mk (Kd.R_below (R_later HO213.out) hb); have n3_ := Aside0.mk (below_step (below_later HB.out) hb); clear HO205; clear HO209; clear HO213; clear HB; have HO205 := n0_; have HO209 := n1_; have HO213 := n2_; have HB := n3_; clear n0_ n1_ n2_ n3_; (try clear hb)))
        go_ret
        exact fin_ (below_later HB.out)
      · replace c12 := Bool.eq_false_iff.mpr c12
        subst c12
        have H1 : (some false) = some true := by rw [if_neg (show ¬ (false = true) by decide)] at H; exact H
        cases H1
    · rw [if_neg c9] at H
      cases H
end Go.Proofs.Ytbmcjgkppjnafaa.PFnExactSchemaPrint
