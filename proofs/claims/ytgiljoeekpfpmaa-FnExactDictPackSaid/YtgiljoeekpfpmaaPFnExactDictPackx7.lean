/- The machine's side of FnExactDictPack, written by wip/tools/hyb.py of this repo: each Go function as a plain Lean function, and the proof that the call comes to just its answer. No condition. -/
import Derived.Test.YtgiljoeekpfpmaaPFnExactDictPackx0
import Derived.Test.YtgiljoeekpfpmaaPFnExactDictPackx6
namespace Go.Proofs.Ytgiljoeekpfpmaa.PFnExactDictPack
open Go.RowKit Go.Proofs.YtgiljoeekpfpmaaW.PrintWords Go.Proofs.YtgiljoeekpfpmaaW.PrintLast Go.Proofs.YtgiljoeekpfpmaaW.PrintMore Go.Proofs.YtgiljoeekpfpmaaW.PrintMore2
attribute [local go_sem] max2_int min2_int max_two min_two max_three min_three max_four min_four   -- for this text's walks alone
set_option linter.unusedVariables false
set_option linter.unusedSimpArgs false

/-! ### impl_packed: function 62 -/
mutual
def impl_packed.l0 : Nat → Int → List Int → List Int → Int → Int → Option (List Int)
  | 0, _, _, _, _, _ => none
  | k + 1, x1, x5, x17, x18, x19 => if x19 < x18 then (if 0 ≤ x19 then (if x19 < (x17.length : Int) then (impl_packed.l1 k x1 x5 x19 (rd x17 x19) x17 x18 x19 x1 0) else (none)) else (none)) else (some x5)
def impl_packed.l1 : Nat → Int → List Int → Int → Int → List Int → Int → Int → Int → Int → Option (List Int)
  | 0, _, _, _, _, _, _, _, _, _ => none
  | k + 1, x1, x5, x6, x7, x17, x18, x19, x24, x25 => if x25 < x24 then (if 0 ≤ (wrap64 (Int.tdiv (wrap64 ((wrap64 (x6 * x1)) + x25)) 8)) then (if (wrap64 (Int.tdiv (wrap64 ((wrap64 (x6 * x1)) + x25)) 8)) < (x5.length : Int) then (if 0 ≤ x25 then (if 0 ≤ (Int.tmod (wrap64 ((wrap64 (x6 * x1)) + x25)) 8) then (impl_packed.l1 k x1 (x5.set ((wrap64 (Int.tdiv (wrap64 ((wrap64 (x6 * x1)) + x25)) 8)) : Int).toNat (Go.bits .or .u8 (rd x5 (wrap64 (Int.tdiv (wrap64 ((wrap64 (x6 * x1)) + x25)) 8))) (shl .u8 ((Go.bits .and .i64 (shr .i64 x7 x25) 1) % 256) (Int.tmod (wrap64 ((wrap64 (x6 * x1)) + x25)) 8)))) x6 x7 x17 x18 x19 x24 (wrap64 (x25 + 1))) else (none)) else (none)) else (none)) else (none)) else (impl_packed.l0 k x1 x5 x17 x18 (wrap64 (x19 + 1)))
end
def impl_packed.f (k : Nat) (l0 : List Int) (a1 : Int) : Option (List Int) := if 0 ≤ (wrap64 (Int.tdiv (wrap64 ((wrap64 ((l0.length : Int) * a1)) + 7)) 8)) then (if (wrap64 (Int.tdiv (wrap64 ((wrap64 ((l0.length : Int) * a1)) + 7)) 8) : Int).toNat ≤ 281474976710656 then (impl_packed.l0 k a1 (List.replicate (wrap64 (Int.tdiv (wrap64 ((wrap64 ((l0.length : Int) * a1)) + 7)) 8) : Int).toNat 0) l0 (l0.length : Int) 0) else (none)) else (none)
def impl_packed.T9 : Bool × List (List Nat × List Nat) := (true, [([], []), ([], []), ([1], [1]), ([0, 2], [0, 2]), ([3], [3]), ([], []), ([], []), ([5, 6], [5, 6]), ([7], [7]), ([8], [8]), ([], []), ([10], [10]), ([9, 11], [9, 11]), ([4, 12], [4, 12]), ([0, 2, 0, 1, 2, 3, 4, 5, 6, 7, 8, 9, 10, 11, 12, 13], [0, 2]), ([14, 13, 0, 1, 2, 3, 4, 5, 6, 7, 8, 9, 10, 11, 12, 13], [13, 14])])
def impl_packed.B9 : List Nat := [0, 0, 2, 7, 15, 0, 0, 96, 224, 480, 0, 1024, 4064, 8191, 16383, 32767]
theorem impl_packed.tab9 : rtab .any (opsOf Try.f62 9) = impl_packed.T9 := by kernel_rfl
theorem impl_packed.bits9 : waitsOk impl_packed.T9.2 impl_packed.B9 = true := by kernel_rfl
set_option maxHeartbeats 8000000 in
set_option maxRecDepth 100000 in
theorem impl_packed.calls (k : Nat) (A0 : Option Addr) (c0 : Nat) (l0 : List Int) (a1 : Int) (r : List Int) (w : World) (hr0 : Kd.C (Kd.int .i64) w A0 l0.length l0) (hc0 : l0.length ≤ c0) (h : impl_packed.f k l0 a1 = some r) :
    Calls Try.prog 62 #[.slice A0 l0.length c0, .int .i64 a1] w fun e w' => ∃ v0_ : Value, e = .returned (v0_) ∧ Kd.R (Kd.int .u8) 5 w' w.heap.size (fun _ => True) v0_ r ∧ Below w.heap.size w w' := by
  have HR0 := Aside0.mk hr0
  have HC0 := Aside0.mk hc0
  clear hr0 hc0
  have HB := Aside0.mk (Below.refl w.heap.size w)
  have H : (if 0 ≤ (wrap64 (Int.tdiv (wrap64 ((wrap64 ((l0.length : Int) * a1)) + 7)) 8)) then (if (wrap64 (Int.tdiv (wrap64 ((wrap64 ((l0.length : Int) * a1)) + 7)) 8) : Int).toNat ≤ 281474976710656 then (impl_packed.l0 k a1 (List.replicate (wrap64 (Int.tdiv (wrap64 ((wrap64 ((l0.length : Int) * a1)) + 7)) 8) : Int).toNat 0) l0 (l0.length : Int) 0) else (none)) else (none)) = some r := h
  clear h
  obtain ⟨ji3, hji3⟩ : ∃ j_ : Int, (wrap64 (Int.tdiv (wrap64 ((wrap64 ((l0.length : Int) * a1)) + 7)) 8)) = j_ := ⟨_, rfl⟩
  replace H : (if 0 ≤ (ji3) then (if (ji3 : Int).toNat ≤ 281474976710656 then (impl_packed.l0 k a1 (List.replicate (ji3 : Int).toNat 0) l0 (l0.length : Int) 0) else (none)) else (none)) = some r := by first | (rw [hji3] at H; exact H) | (simp only [hji3] at H ⊢; exact H)
  have hji3w : (IntKind.i64.wrap (Int.tdiv (wrap64 ((wrap64 ((l0.length : Int) * a1)) + 7)) 8)) = ji3 := (i64_w _).trans hji3
  replace H := ifs H
  obtain ⟨c4, H⟩ := H
  have c4b0 := eq_true c4
  have c4b1 := decide_eq_true c4
  clear c4
  replace H := ifs H
  obtain ⟨c5, H⟩ := H
  have c5b0 := eq_true c5
  have c5b1 := decide_eq_true c5
  clear c5
  obtain ⟨y377, hy377⟩ : ∃ y_ : List Int, y_ = (List.replicate (ji3 : Int).toNat 0) := ⟨_, rfl⟩
  replace H : (impl_packed.l0 k a1 y377 l0 (l0.length : Int) 0) = some r := by first | (rw [hy377]; with_reducible exact H) | (rw [hy377]; exact H) | exact H
  have Ny377 := Aside0.mk hy377
  clear hy377
  have H' := Aside0.mk H
  clear H
  go_enter Try.func62, Try.ntmps62
  go_wp2_with (first | ((with_reducible refine gate_dst (N := 16) rfl ?_); refine Kd.R_make (Kd.int .u8) _ 5 rfl (N := 16) rfl 41 _ _ rfl ji3 rfl rfl Try.underlying41 (.int .u8 0) 1 info5 rfl (by decide) (by omega) 0 (ok := fun _ => True) (okp := fun _ => True) rfl (fun _ hk => hk) trivial (dcd) (Nat.le_trans (Nat.mul_le_mul_right _ (dcd : ji3.toNat ≤ 281474976710656)) (by omega)) (Below.refl _ _) (Nat.le_refl _) ?_; intro v378 w6 ho7 hb hg_ hnew_; clear hg_ hnew_; (first | rw [← Ny377.out] at ho7 | (simp only [Int.reduceToNat] at ho7; rw [← Ny377.out] at ho7)); have HO379 := Aside0.mk (Kd.R_lower ho7 (below_size (below_later HB.out))); replace HB := bst HB hb; clear hb ho7))
  go_loopg [19] k (fun kq v19 w' => ∃ (x5_1 : List Int) (x19_1 : Int), v19 = .int .i64 x19_1 ∧ Aside0 (impl_packed.l0 kq a1 x5_1 l0 (l0.length : Int) x19_1 = some r) ∧ Aside0 (kq ≤ k) ∧ Aside0 (Kd.R (Kd.int .u8) 5 w' w.heap.size (fun _ => True) v378 x5_1) ∧ Aside0 (Below w.heap.size w w'))
  case atStart => exact ⟨(y377), (0), sr, H', ⟨Nat.le_refl _⟩, ⟨R_later HO379.out⟩, ⟨below_later HB.out⟩⟩
  case round =>
    clear H'
    try clear c4
    try clear c4b0
    try clear c4b1
    try clear c5
    try clear c5b0
    try clear c5b1
    obtain ⟨x5_1, x19_1, rfl, HA, HK1, HO_5, HB⟩ := hrel
    cases gk with
    | zero => exact absurd HA.out (by simp [impl_packed.l0])
    | succ k1 =>
      have H := HA.out
      clear HA
      simp only [impl_packed.l0] at H
      by_cases c8 : x19_1 < (l0.length : Int)
      · rw [if_pos c8] at H
        have c8b0 := decide_eq_true c8
        clear c8
        replace H := ifd H
        obtain ⟨c9b0, H⟩ := H
        replace H := ifd H
        obtain ⟨c10b0, H⟩ := H
        have H' := Aside0.mk H
        clear H
        have p380 : 0 ≤ (x19_1 : Int) := dcd
        have q380 : x19_1 < (l0.length : Int) := dcd
        obtain ⟨ad380, e380, hx380_0⟩ := Kd.at_int HR0.out x19_1 p380 q380
        cases e380
        replace hx380_0 := crd HB hx380_0
        replace p380 := eq_true p380
        replace q380 := eq_true q380
        go_wp2
        go_loopg [25] k1 (fun kq v25 w' => ∃ (x5_2 : List Int) (x25_2 : Int), v25 = .int .i64 x25_2 ∧ Aside0 (impl_packed.l1 kq a1 x5_2 x19_1 (rd l0 x19_1) l0 (l0.length : Int) x19_1 a1 x25_2 = some r) ∧ Aside0 (kq ≤ k1) ∧ Aside0 (Kd.R (Kd.int .u8) 5 w' w.heap.size (fun _ => True) v378 x5_2) ∧ Aside0 (Below w.heap.size w w'))
        case atStart => exact ⟨(x5_1), (0), sr, H', ⟨Nat.le_refl _⟩, ⟨R_later HO_5.out⟩, ⟨below_later HB.out⟩⟩
        case round =>
          clear H'
          try clear c4
          try clear c4b0
          try clear c4b1
          try clear c5
          try clear c5b0
          try clear c5b1
          try clear c8
          try clear c8b0
          try clear c9b0
          try clear c10b0
          try clear hx380_0
          try clear p380
          try clear q380
          obtain ⟨x5_2, x25_2, rfl, HA, HK2, HO_5, HB⟩ := hrel
          cases gk with
          | zero => exact absurd HA.out (by simp [impl_packed.l1])
          | succ k2 =>
            have H := HA.out
            clear HA
            simp only [impl_packed.l1] at H
            by_cases c11 : x25_2 < a1
            · rw [if_pos c11] at H
              have c11b0 := decide_eq_true c11
              clear c11
              obtain ⟨ji12, hji12⟩ : ∃ j_ : Int, (wrap64 (Int.tdiv (wrap64 ((wrap64 (x19_1 * a1)) + x25_2)) 8)) = j_ := ⟨_, rfl⟩
              replace H : (if 0 ≤ (ji12) then (if (ji12) < (x5_2.length : Int) then (if 0 ≤ x25_2 then (if 0 ≤ (Int.tmod (wrap64 ((wrap64 (x19_1 * a1)) + x25_2)) 8) then (impl_packed.l1 k2 a1 (x5_2.set ((ji12) : Int).toNat (Go.bits .or .u8 (rd x5_2 (ji12)) (shl .u8 ((Go.bits .and .i64 (shr .i64 (rd l0 x19_1) x25_2) 1) % 256) (Int.tmod (wrap64 ((wrap64 (x19_1 * a1)) + x25_2)) 8)))) x19_1 (rd l0 x19_1) l0 (l0.length : Int) x19_1 a1 (wrap64 (x25_2 + 1))) else (none)) else (none)) else (none)) else (none)) = some r := by first | (rw [hji12] at H; exact H) | (simp only [hji12] at H ⊢; exact H)
              have hji12w : (IntKind.i64.wrap (Int.tdiv (wrap64 ((wrap64 (x19_1 * a1)) + x25_2)) 8)) = ji12 := (i64_w _).trans hji12
              replace H := ifd H
              obtain ⟨c13b0, H⟩ := H
              replace H := ifd H
              obtain ⟨c14b0, H⟩ := H
              replace H := ifs H
              obtain ⟨c15, H⟩ := H
              have c15b0 := eq_true c15
              have c15b1 := decide_eq_true c15
              clear c15
              obtain ⟨ji16, hji16⟩ : ∃ j_ : Int, (shr .i64 (rd l0 x19_1) x25_2) = j_ := ⟨_, rfl⟩
              replace H : (if 0 ≤ (Int.tmod (wrap64 ((wrap64 (x19_1 * a1)) + x25_2)) 8) then (impl_packed.l1 k2 a1 (x5_2.set ((ji12) : Int).toNat (Go.bits .or .u8 (rd x5_2 (ji12)) (shl .u8 ((Go.bits .and .i64 (ji16) 1) % 256) (Int.tmod (wrap64 ((wrap64 (x19_1 * a1)) + x25_2)) 8)))) x19_1 (rd l0 x19_1) l0 (l0.length : Int) x19_1 a1 (wrap64 (x25_2 + 1))) else (none)) = some r := by first | (rw [hji16] at H; exact H) | (simp only [hji16] at H ⊢; exact H)
              have hji16_ : ((rd l0 x19_1) / 2 ^ min x25_2.toNat 64) = ji16 := hji16
              have hji16z : x25_2 ≤ 64 → ((rd l0 x19_1) / 2 ^ x25_2.toNat) = ji16 := shr_small hji16
              obtain ⟨ji17, hji17⟩ : ∃ j_ : Int, (Int.tmod (wrap64 ((wrap64 (x19_1 * a1)) + x25_2)) 8) = j_ := ⟨_, rfl⟩
              replace H : (if 0 ≤ (ji17) then (impl_packed.l1 k2 a1 (x5_2.set ((ji12) : Int).toNat (Go.bits .or .u8 (rd x5_2 (ji12)) (shl .u8 ((Go.bits .and .i64 (ji16) 1) % 256) (ji17)))) x19_1 (rd l0 x19_1) l0 (l0.length : Int) x19_1 a1 (wrap64 (x25_2 + 1))) else (none)) = some r := by first | (rw [hji17] at H; exact H) | (simp only [hji17] at H ⊢; exact H)
              replace H := ifs H
              obtain ⟨c18, H⟩ := H
              have c18b0 := eq_true c18
              have c18b1 := decide_eq_true c18
              clear c18
              obtain ⟨ji19, hji19⟩ : ∃ j_ : Int, (shl .u8 ((Go.bits .and .i64 (ji16) 1) % 256) (ji17)) = j_ := ⟨_, rfl⟩
              replace H : (impl_packed.l1 k2 a1 (x5_2.set ((ji12) : Int).toNat (Go.bits .or .u8 (rd x5_2 (ji12)) (ji19))) x19_1 (rd l0 x19_1) l0 (l0.length : Int) x19_1 a1 (wrap64 (x25_2 + 1))) = some r := by first | (rw [hji19] at H; exact H) | (simp only [hji19] at H ⊢; exact H)
              have hji19_ : (IntKind.u8.wrap (((Go.bits .and .i64 (ji16) 1) % 256) * 2 ^ min (ji17).toNat 8)) = ji19 := hji19
              have hji19w : ((((Go.bits .and .i64 (ji16) 1) % 256) * 2 ^ min (ji17).toNat 8) % 256) = ji19 := hji19
              have hji19z : (ji17) ≤ 8 → (IntKind.u8.wrap (((Go.bits .and .i64 (ji16) 1) % 256) * 2 ^ (ji17).toNat)) = ji19 := shl_small hji19
              obtain ⟨y382, hy382⟩ : ∃ y_ : List Int, y_ = (x5_2.set ((ji12) : Int).toNat (Go.bits .or .u8 (rd x5_2 (ji12)) (ji19))) := ⟨_, rfl⟩
              replace H : (impl_packed.l1 k2 a1 y382 x19_1 (rd l0 x19_1) l0 (l0.length : Int) x19_1 a1 (wrap64 (x25_2 + 1))) = some r := by first | (rw [hy382]; with_reducible exact H) | (rw [hy382]; exact H) | exact H
              have Ny382 := Aside0.mk hy382
              clear hy382
              have H' := Aside0.mk H
              clear H
              try go_wp2
              have n0_ := Aside0.mk (Kd.R_drew HO_5.out)
              have n1_ := Aside0.mk (below_drew1 HB.out)
              clear HO_5
              clear HB
              have HO_5 := n0_
              have HB := n1_
              clear n0_ n1_
              obtain ⟨Ao22, co22, eo22⟩ := Kd.R_slice HO_5.out
              (first | subst eo22 | (injection eo22 with f1_ f2_ f3_; have f4_ := f1_.symm; have f5_ := f3_.symm; clear f1_ f2_ f3_; subst f4_; subst f5_))
              have p381 : 0 ≤ ((ji12) : Int) := dcd
              have q381 : (ji12) < (x5_2.length : Int) := dcd
              obtain ⟨ad381, e381, hx381_0⟩ := Kd.at_int (Kd.R_reads' HO_5.out).2.2 (ji12) p381 q381
              cases e381
              replace p381 := eq_true p381
              replace q381 := eq_true q381
              have p20 : 0 ≤ ((ji12) : Int) := dcd
              have q20 : ((ji12) : Int) < ((x5_2.length : Int) : Int) := dcd
              obtain ⟨go20, co20, eo20, gb20, gl20, cl20, HG20⟩ := Kd.R_form HO_5.out (by omega)
              (first | cases eo20 | (injection eo20 with ea_ en_ ec_; (first | subst ea_ | (injection ea_ with ea_; subst ea_)); subst ec_; clear en_))
              have GB20 := Aside0.mk gb20
              have GG20 := Aside0.mk HG20
              clear gb20 gl20 HG20
              (first | simp only [add_plain] at hx381_0 | skip)
              obtain ⟨hx20_0, hf20_0⟩ := Kd.R_celln 0 HO_5.out ((ji12) : Int) p20 q20
              replace p20 := eq_true p20
              replace q20 := eq_true q20
              have HP23 := Kd.R_putn HO_5.out ((ji12) : Int) (Go.bits .or .u8 (rd x5_2 (ji12)) (ji19))
              rw [← Ny382.out] at HP23
              have HQ23 := Aside0.mk HP23
              clear HP23
              refine start_ (n := 16) (S := fun w' => w'.cell? ⟨go20, ((ji12)).toNat, none⟩ = some (.int .u8 (rd x5_2 (ji12)))) (ds := [15]) #[false, false, false, false, false, false, false, false, false, false, false, false, false, false, false, false] (by kernel_rfl) rfl rfl (hx381_0) (fun hHeld => ?_); refine with_tabW impl_packed.tab9 impl_packed.bits9 (fun HT_ HW_ => ?_)
              generalize wr.drew = w21 at HO_5 HB GG20 HQ23 hf20_0 hx20_0 hx381_0 hHeld ⊢
              refine pure_ (i := 0) (N := some 33) (v := ?_) (a' := ?_) #[true, false, false, false, false, false, false, false, false, false, false, false, false, false, false, false] rfl rfl (any_of HT_.out (by kernel_rfl)) (fun _ _ _ h => h) (Or.inl ⟨by rfl, ?_⟩) ?_ ?_
              rotate_left
              · intro w'
                go_simp
                with_reducible rfl
              rotate_left
              · simp only [Act.put, List.setIfInBounds_toArray, List.set_cons_zero, List.set_cons_succ, i64_w, i32_w]
                rfl
              refine pure_ (i := 1) (N := some 34) (v := ?_) (a' := ?_) #[true, true, false, false, false, false, false, false, false, false, false, false, false, false, false, false] rfl rfl (any_of HT_.out (by kernel_rfl)) (fun _ _ _ h => h) (Or.inl ⟨by rfl, ?_⟩) ?_ ?_
              rotate_left
              · intro w'
                go_simp
                with_reducible rfl
              rotate_left
              · simp only [Act.put, List.setIfInBounds_toArray, List.set_cons_zero, List.set_cons_succ, i64_w, i32_w]
                rfl
              refine pure_ (i := 2) (N := some 35) (v := ?_) (a' := ?_) #[true, true, true, false, false, false, false, false, false, false, false, false, false, false, false, false] rfl rfl (any_of HT_.out (by kernel_rfl)) (fun _ _ _ h => h) (Or.inl ⟨by rfl, ?_⟩) ?_ ?_
              rotate_left
              · intro w'
                go_simp
                with_reducible rfl
              rotate_left
              · simp only [Act.put, List.setIfInBounds_toArray, List.set_cons_zero, List.set_cons_succ, i64_w, i32_w]
                rfl
              refine pure_ (i := 3) (N := some 36) (v := ?_) (a' := ?_) #[true, true, true, true, false, false, false, false, false, false, false, false, false, false, false, false] rfl rfl (any_of HT_.out (by kernel_rfl)) (fun _ _ _ h => h) (Or.inl ⟨by rfl, ?_⟩) ?_ ?_
              rotate_left
              · intro w'
                go_simp
                with_reducible rfl
              rotate_left
              · simp only [Act.put, List.setIfInBounds_toArray, List.set_cons_zero, List.set_cons_succ, i64_w, i32_w]
                rfl
              refine pure_ (i := 5) (N := some 38) (v := ?_) (a' := ?_) #[true, true, true, true, false, true, false, false, false, false, false, false, false, false, false, false] rfl rfl (any_of HT_.out (by kernel_rfl)) (fun _ _ _ h => h) (Or.inl ⟨by rfl, ?_⟩) ?_ ?_
              rotate_left
              · intro w'
                go_simp
                with_reducible rfl
              rotate_left
              · simp only [Act.put, List.setIfInBounds_toArray, List.set_cons_zero, List.set_cons_succ, i64_w, i32_w]
                rfl
              refine pure_ (i := 6) (N := some 39) (v := ?_) (a' := ?_) #[true, true, true, true, false, true, true, false, false, false, false, false, false, false, false, false] rfl rfl (any_of HT_.out (by kernel_rfl)) (fun _ _ _ h => h) (Or.inl ⟨by rfl, ?_⟩) ?_ ?_
              rotate_left
              · intro w'
                go_simp
                with_reducible rfl
              rotate_left
              · simp only [Act.put, List.setIfInBounds_toArray, List.set_cons_zero, List.set_cons_succ, i64_w, i32_w]
                rfl
              refine pure_ (i := 7) (N := some 40) (v := ?_) (a' := ?_) #[true, true, true, true, false, true, true, true, false, false, false, false, false, false, false, false] rfl rfl (any_of HT_.out (by kernel_rfl)) (fun _ _ _ h => h) (Or.inl ⟨by rfl, ?_⟩) ?_ ?_
              rotate_left
              · intro w'
                go_simp
                with_reducible rfl
              rotate_left
              · simp only [Act.put, List.setIfInBounds_toArray, List.set_cons_zero, List.set_cons_succ, i64_w, i32_w]
                rfl
              refine pure_ (i := 8) (N := some 41) (v := ?_) (a' := ?_) #[true, true, true, true, false, true, true, true, true, false, false, false, false, false, false, false] rfl rfl (any_of HT_.out (by kernel_rfl)) (fun _ _ _ h => h) (Or.inl ⟨by rfl, ?_⟩) ?_ ?_
              rotate_left
              · intro w'
                go_simp
                with_reducible rfl
              rotate_left
              · simp only [Act.put, List.setIfInBounds_toArray, List.set_cons_zero, List.set_cons_succ, i64_w, i32_w]
                rfl
              refine pure_ (i := 9) (N := some 42) (v := ?_) (a' := ?_) #[true, true, true, true, false, true, true, true, true, true, false, false, false, false, false, false] rfl rfl (any_of HT_.out (by kernel_rfl)) (fun _ _ _ h => h) (Or.inl ⟨by rfl, ?_⟩) ?_ ?_
              rotate_left
              · intro w'
                go_simp
                with_reducible rfl
              rotate_left
              · simp only [Act.put, List.setIfInBounds_toArray, List.set_cons_zero, List.set_cons_succ, i64_w, i32_w]
                rfl
              refine pure_ (i := 10) (N := some 43) (v := ?_) (a' := ?_) #[true, true, true, true, false, true, true, true, true, true, true, false, false, false, false, false] rfl rfl (any_of HT_.out (by kernel_rfl)) (fun _ _ _ h => h) (Or.inl ⟨by rfl, ?_⟩) ?_ ?_
              rotate_left
              · intro w'
                go_simp
                with_reducible rfl
              rotate_left
              · simp only [Act.put, List.setIfInBounds_toArray, List.set_cons_zero, List.set_cons_succ, i64_w, i32_w]
                rfl
              refine pure_ (i := 11) (N := some 44) (v := ?_) (a' := ?_) #[true, true, true, true, false, true, true, true, true, true, true, true, false, false, false, false] rfl rfl (any_of HT_.out (by kernel_rfl)) (fun _ _ _ h => h) (Or.inl ⟨by rfl, ?_⟩) ?_ ?_
              rotate_left
              · intro w'
                go_simp
                with_reducible rfl
              rotate_left
              · simp only [Act.put, List.setIfInBounds_toArray, List.set_cons_zero, List.set_cons_succ, i64_w, i32_w]
                rfl
              refine pure_ (i := 12) (N := some 45) (v := ?_) (a' := ?_) #[true, true, true, true, false, true, true, true, true, true, true, true, true, false, false, false] rfl rfl (any_of HT_.out (by kernel_rfl)) (fun _ _ _ h => h) (Or.inl ⟨by rfl, ?_⟩) ?_ ?_
              rotate_left
              · intro w'
                go_simp
                with_reducible rfl
              rotate_left
              · simp only [Act.put, List.setIfInBounds_toArray, List.set_cons_zero, List.set_cons_succ, i64_w, i32_w]
                rfl
              refine take_ (i := 4) (N := some 37) (v := ?_) (a' := ?_) #[true, true, true, true, true, true, true, true, true, true, true, true, true, false, false, false] rfl rfl (take_ofW HT_.out HW_.out (by kernel_rfl)) (fun _ _ _ h => h) (Or.inl ⟨by rfl, ?_⟩) hHeld ?_ ?_
              rotate_left
              · intro w' s0
                go_simp
                with_reducible rfl
              rotate_left
              · simp only [Act.put, List.setIfInBounds_toArray, List.set_cons_zero, List.set_cons_succ, i64_w, i32_w]
                rfl
              refine pure_ (i := 13) (N := some 46) (v := ?_) (a' := ?_) #[true, true, true, true, true, true, true, true, true, true, true, true, true, true, false, false] rfl rfl (any_of HT_.out (by kernel_rfl)) (fun _ _ _ h => h) (Or.inl ⟨by rfl, ?_⟩) ?_ ?_
              rotate_left
              · intro w'
                go_simp
                with_reducible rfl
              rotate_left
              · simp only [Act.put, List.setIfInBounds_toArray, List.set_cons_zero, List.set_cons_succ, i64_w, i32_w]
                rfl
              refine pure_ (i := 14) (N := some 47) (v := ?_) (a' := ?_) #[true, true, true, true, true, true, true, true, true, true, true, true, true, true, true, false] rfl rfl (any_of HT_.out (by kernel_rfl)) (fun _ _ _ h => h) (Or.inl ⟨by rfl, ?_⟩) ?_ ?_
              rotate_left
              · intro w'
                go_simp
                with_reducible rfl
              rotate_left
              · simp only [Act.put, List.setIfInBounds_toArray, List.set_cons_zero, List.set_cons_succ, i64_w, i32_w]
                rfl
              refine last_ (i := 15) (N := none) #[true, true, true, true, true, true, true, true, true, true, true, true, true, true, true, true] rfl rfl (one_of HT_.out (by kernel_rfl)) (by decide) (fun K hK => ?_)
              refine skip_ (w1 := ?_) (by rfl) rfl ?_ ?_
              rotate_left
              · go_simp
                rfl
              refine hK.out _ _ ?_
              clear hK K
              refine done_ (done_of HT_.out (by kernel_rfl)) ?_
              try go_wp2
              go_roundg k2
              case measure => have := HK1.out; have := HK2.out; omega
              case rel => (try rw [hji19w]); exact ⟨(y382), (wrap64 (x25_2 + 1)), sr, H', ⟨by have := HK1.out; have := HK2.out; omega⟩, ⟨R_later (HQ23.out)⟩, ⟨by repeat (first | (with_reducible first | exact HB.out | apply below_alloc | apply pw_below_drewN | apply below_drew1 | refine below_set ?_ GB20.out) | exact HB.out)⟩⟩
            · rw [if_neg c11] at H
              have c11b0 := decide_eq_false c11
              clear c11
              have H' := Aside0.mk H
              clear H
              go_wp2
              go_roundg k2
              case measure => have := HK1.out; have := HK2.out; omega
              case rel => (try rw [hji19w]); exact ⟨(x5_2), (wrap64 (x19_1 + 1)), sr, H', ⟨by have := HK1.out; have := HK2.out; omega⟩, ⟨R_later HO_5.out⟩, ⟨below_later HB.out⟩⟩
      · rw [if_neg c8] at H
        have c8b0 := decide_eq_false c8
        clear c8
        obtain rfl := Option.some.inj H
        go_wp2
        go_ret
        exact ⟨_, by first | rfl | (simp [errW_none, errW_some] <;> rfl) | (simp only [← hji3]; first | rfl | (simp [errW_none, errW_some] <;> rfl)) | (simp [*, errW_none, errW_some] <;> rfl), by (with_reducible repeat (first | apply Kd.R_alloc | apply Kd.R_drewN | apply Kd.R_drew)); exact HO_5.out, below_later HB.out⟩
/-! ### impl_numsOf: function 63 -/
def impl_numsOf.l0 : Nat → List Int → List (S27) → Int → Int → Option (List Int)
  | 0, _, _, _, _ => none
  | k + 1, x3, x7, x8, x9 => if x9 < x8 then (if 0 ≤ x9 then (if x9 < (x7.length : Int) then (if x3.length < 17592186044416 then (impl_numsOf.l0 k (x3 ++ [(rd_T27 x7 x9).f0]) x7 x8 (wrap64 (x9 + 1))) else (none)) else (none)) else (none)) else (some x3)
def impl_numsOf.f (k : Nat) (l0 : List (S27)) : Option (List Int) := impl_numsOf.l0 k (([] : List Int)) l0 (l0.length : Int) 0
set_option maxHeartbeats 8000000 in
set_option maxRecDepth 100000 in
theorem impl_numsOf.calls (k : Nat) (A0 : Option Addr) (c0 : Nat) (l0 : List (S27)) (r : List Int) (w : World) (hr0 : Kd.C k27 w A0 l0.length l0) (hc0 : l0.length ≤ c0) (h : impl_numsOf.f k l0 = some r) :
    Calls Try.prog 63 #[.slice A0 l0.length c0] w fun e w' => ∃ v0_ : Value, e = .returned (v0_) ∧ Kd.R (Kd.int .i64) 3 w' w.heap.size (fun _ => True) v0_ r ∧ Below w.heap.size w w' := by
  have hu27 := Try.underlying27
  have HR0 := Aside0.mk hr0
  have HC0 := Aside0.mk hc0
  clear hr0 hc0
  have HB := Aside0.mk (Below.refl w.heap.size w)
  have H : (impl_numsOf.l0 k (([] : List Int)) l0 (l0.length : Int) 0) = some r := h
  clear h
  obtain ⟨y383, hy383⟩ : ∃ y_ : List Int, y_ = (([] : List Int)) := ⟨_, rfl⟩
  replace H : (impl_numsOf.l0 k y383 l0 (l0.length : Int) 0) = some r := by first | (rw [hy383]; with_reducible exact H) | (rw [hy383]; exact H) | exact H
  have Ny383 := Aside0.mk hy383
  clear hy383
  have H' := Aside0.mk H
  clear H
  go_enter Try.func63, Try.ntmps63
  go_wp2_with (first | ((with_reducible refine gate_dst (N := 6) rfl ?_); refine Kd.R_lit (Kd.int .i64) _ 3 ?hg (N := 6) ?hd (xs := ([] : List Int)) (inner := []) (ok := fun _ => True) (okp := fun _ => True) ?hr ?hp (fun _ hk => hk) trivial (Below.refl _ _) (Nat.le_refl _) (by simp) ?_; (case hd => rfl); (case hg => rfl); (case hr => first | (go_simp; done) | (go_simp; rfl)); (case hp => exact (Reps.none _ _)); intro v384 w2 ho3 hb hg_ hnew_; clear hg_ hnew_; (first | rw [← Ny383.out] at ho3 | (simp only [Int.reduceToNat] at ho3; rw [← Ny383.out] at ho3)); have HO385 := Aside0.mk (Kd.R_lower ho3 (below_size (below_later HB.out))); replace HB := bst HB hb; clear hb ho3))
  go_loopg [3, 9] k (fun kq v3 v9 w' => ∃ (x3_1 : List Int) (x9_1 : Int), v9 = .int .i64 x9_1 ∧ Aside0 (impl_numsOf.l0 kq x3_1 l0 (l0.length : Int) x9_1 = some r) ∧ Aside0 (kq ≤ k) ∧ Aside0 (Kd.R (Kd.int .i64) 3 w' w.heap.size (fun _ => True) v3 x3_1) ∧ Aside0 (Below w.heap.size w w'))
  case atStart => exact ⟨(y383), (0), sr, H', ⟨Nat.le_refl _⟩, ⟨R_later HO385.out⟩, ⟨below_later HB.out⟩⟩
  case round =>
    clear H'
    obtain ⟨x3_1, x9_1, rfl, HA, HK1, HO_3, HB⟩ := hrel
    cases gk with
    | zero => exact absurd HA.out (by simp [impl_numsOf.l0])
    | succ k1 =>
      have H := HA.out
      clear HA
      simp only [impl_numsOf.l0] at H
      by_cases c4 : x9_1 < (l0.length : Int)
      · rw [if_pos c4] at H
        have c4b0 := decide_eq_true c4
        clear c4
        replace H := ifd H
        obtain ⟨c5b0, H⟩ := H
        replace H := ifd H
        obtain ⟨c6b0, H⟩ := H
        replace H := ifs H
        obtain ⟨c7, H⟩ := H
        have LMc7 := Aside0.mk c7
        clear c7
        obtain ⟨y388, hy388⟩ : ∃ y_ : List Int, y_ = (x3_1 ++ [(rd_T27 l0 x9_1).f0]) := ⟨_, rfl⟩
        replace H : (impl_numsOf.l0 k1 y388 l0 (l0.length : Int) (wrap64 (x9_1 + 1))) = some r := by first | (rw [hy388]; with_reducible exact H) | (rw [hy388]; exact H) | exact H
        have Ny388 := Aside0.mk hy388
        clear hy388
        have H' := Aside0.mk H
        clear H
        have p386 : 0 ≤ (x9_1 : Int) := dcd
        have q386 : x9_1 < (l0.length : Int) := dcd
        obtain ⟨ad386, e386, hx386_0, hx386_1⟩ := at_T27 HR0.out x9_1 p386 q386
        cases e386
        replace hx386_0 := crd HB hx386_0
        replace hx386_1 := crd HB hx386_1
        replace p386 := eq_true p386
        replace q386 := eq_true q386
        go_wp2_with (first | ((with_reducible refine gate_dst (N := 5) rfl ?_); refine bx_ 5 #[.int .i64 0, .string (⟨#[]⟩ : ByteArray)] 27 ?_; intro gb387 hg w8 hbox hb; have BK387 := Aside0.mk (hbox); have GW387 := gwe HB hg; have GE387 := GW387; replace HO_3 := Aside0.mk (Kd.R_below (R_later HO_3.out) hb); replace HB := bst HB hb; clear hb hbox hg; obtain ⟨hcz9_0, hcz9_1, hfz9_0, hfz9_1⟩ := cl2 BK387) | ((with_reducible refine gate_builtin (b := .append) (xs := #[.tmp 13, .tmp 16]) rfl ?_); at_builtin; refine Kd.R_append (Kd.int .i64) (w0 := w) w.heap.size rfl (.tmp 13) (.tmp 16) 83 3 (.int .i64 0) 8 rfl Try.underlying83 info3 rfl (by decide) (by omega) u3 x3_1 ((rd_T27 l0 x9_1).f0) [.int .i64 ((rd_T27 l0 x9_1).f0)] (fun _ => True) (fun _ => False) rfl (by first | (go_simp; done) | (go_simp; rfl)) ?aP (fun _ hk => hk.elim) ?aF ?aO ?aB ?aS ?aL ?_; (case aP => exact rfl); (case aB => exact (below_later HB.out)); (case aF => exact (fun _ _ => trivial)); (case aO => exact (by (with_reducible repeat (first | apply Kd.R_alloc | apply Kd.R_drewN | apply Kd.R_drew)); exact Kd.R_mono (Kd.R_far (p := ⟨gb387, 1, none⟩) (Kd.R_far (p := ⟨gb387, 0, none⟩) (Kd.R_types HO_3.out BK387.out (by decide)) (fun _ hk => hk.2) (.int .i64 ((rd_T27 l0 x9_1).f0))) (fun _ hk => hk.2) (.string ((rd_T27 l0 x9_1).f1))) (fun _ hk => trivial))); (case aS => exact (below_size (below_later HB.out))); (case aL => have := LMc7.out; omega); intro v389 w10 ho hb hg hat; rw [← Ny388.out] at ho; have n0_ := Aside0.mk (blk_grown (g := gb387) (o := .cells #[.int .i64 ((rd_T27 l0 x9_1).f0), .string ((rd_T27 l0 x9_1).f1)] 27 (0, 0)) (blk_later BK387.out) hg (Kd.R_ne HO_3.out BK387.out (by decide))); have n1_ := Aside0.mk (hb); have n2_ := Aside0.mk (ho); clear BK387; clear HB; clear HO_3; have BK387 := n0_; have HB := n1_; have HO390 := n2_; clear n0_ n1_ n2_; clear ho hb hg hat))
        go_roundg k1
        case measure => have := HK1.out; omega
        case rel => exact ⟨(y388), (wrap64 (x9_1 + 1)), sr, H', ⟨by have := HK1.out; omega⟩, ⟨R_later HO390.out⟩, ⟨below_later HB.out⟩⟩
      · rw [if_neg c4] at H
        have c4b0 := decide_eq_false c4
        clear c4
        obtain rfl := Option.some.inj H
        go_wp2
        go_ret
        exact ⟨_, by first | rfl | (simp [errW_none, errW_some] <;> rfl) | (simp [*, errW_none, errW_some] <;> rfl), by (with_reducible repeat (first | apply Kd.R_alloc | apply Kd.R_drewN | apply Kd.R_drew)); exact HO_3.out, below_later HB.out⟩

/-! ### impl_WordPut: function 64 -/
def impl_WordPut.l0 : Nat → Int → List Int → Int → Int → Option (List Int)
  | 0, _, _, _, _ => none
  | k + 1, x0, x5, x11, x12 => if x12 < x11 then (if 0 ≤ (wrap64 (8 * x12)) then (if x5.length < 140737488355328 then (impl_WordPut.l0 k x0 (x5 ++ [(shr .i64 x0 (wrap64 (8 * x12))) % 256]) x11 (wrap64 (x12 + 1))) else (none)) else (none)) else (some x5)
def impl_WordPut.f (k : Nat) (a0 : Int) (a1 : Int) : Option (List Int) := (impl_within.f a1 1 8).bind fun t391 => (if t391 = true then (impl_WordPut.l0 k a0 (([] : List Int)) a1 0) else (some ([] : List Int)))
set_option maxHeartbeats 8000000 in
set_option maxRecDepth 100000 in
theorem impl_WordPut.calls (k : Nat) (a0 : Int) (a1 : Int) (r : List Int) (w : World) (h : impl_WordPut.f k a0 a1 = some r) :
    Calls Try.prog 64 #[.int .i64 a0, .int .i64 a1] w fun e w' => ∃ v0_ : Value, e = .returned (v0_) ∧ Kd.R (Kd.int .u8) 5 w' w.heap.size (fun _ => True) v0_ r ∧ Below w.heap.size w w' := by
  have HB := Aside0.mk (Below.refl w.heap.size w)
  have H : ((impl_within.f a1 1 8).bind fun t391 => (if t391 = true then (impl_WordPut.l0 k a0 (([] : List Int)) a1 0) else (some ([] : List Int)))) = some r := h
  clear h
  replace H := bnd H
  obtain ⟨t391, A3, H⟩ := H
  by_cases c4 : t391 = true
  · subst c4
    replace H := ifp rfl H
    obtain ⟨y392, hy392⟩ : ∃ y_ : List Int, y_ = (([] : List Int)) := ⟨_, rfl⟩
    replace H : (impl_WordPut.l0 k a0 y392 a1 0) = some r := by first | (rw [hy392]; with_reducible exact H) | (rw [hy392]; exact H) | exact H
    have Ny392 := Aside0.mk hy392
    clear hy392
    have H' := Aside0.mk H
    clear H
    go_enter Try.func64, Try.ntmps64
    go_wp2_with (first | ((with_reducible refine gate_callee (f := 48) rfl ?_); refine gl_ (some 8) Try.func48 #[.int .i64 a1, .int .i64 1, .int .i64 8] rfl ?_; (with_reducible refine (impl_within.calls a1 1 8 true _ A3.out).mono ?_); rintro e w' ⟨rfl, ⟨nd, rfl⟩⟩; refine ⟨_, rfl, ?_⟩) | ((with_reducible refine gate_dst (N := 10) rfl ?_); refine Kd.R_lit (Kd.int .u8) _ 5 ?hg (N := 10) ?hd (xs := ([] : List Int)) (inner := []) (ok := fun _ => True) (okp := fun _ => True) ?hr ?hp (fun _ hk => hk) trivial (Below.refl _ _) (Nat.le_refl _) (by simp) ?_; (case hd => rfl); (case hg => rfl); (case hr => first | (go_simp; done) | (go_simp; rfl)); (case hp => exact (Reps.none _ _)); intro v393 w5 ho6 hb hg_ hnew_; clear hg_ hnew_; (first | rw [← Ny392.out] at ho6 | (simp only [Int.reduceToNat] at ho6; rw [← Ny392.out] at ho6)); have HO394 := Aside0.mk (Kd.R_lower ho6 (below_size (below_later HB.out))); replace HB := bst HB hb; clear hb ho6))
    go_loopg [5, 12] k (fun kq v5 v12 w' => ∃ (x5_1 : List Int) (x12_1 : Int), v12 = .int .i64 x12_1 ∧ Aside0 (impl_WordPut.l0 kq a0 x5_1 a1 x12_1 = some r) ∧ Aside0 (kq ≤ k) ∧ Aside0 (Kd.R (Kd.int .u8) 5 w' w.heap.size (fun _ => True) v5 x5_1) ∧ Aside0 (Below w.heap.size w w'))
    case atStart => exact ⟨(y392), (0), sr, H', ⟨Nat.le_refl _⟩, ⟨R_later HO394.out⟩, ⟨below_later HB.out⟩⟩
    case round =>
      clear H'
      try clear c4
      obtain ⟨x5_1, x12_1, rfl, HA, HK1, HO_5, HB⟩ := hrel
      cases gk with
      | zero => exact absurd HA.out (by simp [impl_WordPut.l0])
      | succ k1 =>
        have H := HA.out
        clear HA
        simp only [impl_WordPut.l0] at H
        by_cases c7 : x12_1 < a1
        · rw [if_pos c7] at H
          have c7b0 := decide_eq_true c7
          clear c7
          obtain ⟨ji8, hji8⟩ : ∃ j_ : Int, (wrap64 (8 * x12_1)) = j_ := ⟨_, rfl⟩
          replace H : (if 0 ≤ (ji8) then (if x5_1.length < 140737488355328 then (impl_WordPut.l0 k1 a0 (x5_1 ++ [(shr .i64 a0 (ji8)) % 256]) a1 (wrap64 (x12_1 + 1))) else (none)) else (none)) = some r := by first | (rw [hji8] at H; exact H) | (simp only [hji8] at H ⊢; exact H)
          have hji8w : (IntKind.i64.wrap (8 * x12_1)) = ji8 := (i64_w _).trans hji8
          replace H := ifs H
          obtain ⟨c9, H⟩ := H
          have c9b0 := eq_true c9
          have c9b1 := decide_eq_true c9
          clear c9
          obtain ⟨ji10, hji10⟩ : ∃ j_ : Int, (shr .i64 a0 (ji8)) = j_ := ⟨_, rfl⟩
          replace H : (if x5_1.length < 140737488355328 then (impl_WordPut.l0 k1 a0 (x5_1 ++ [(ji10) % 256]) a1 (wrap64 (x12_1 + 1))) else (none)) = some r := by first | (rw [hji10] at H; exact H) | (simp only [hji10] at H ⊢; exact H)
          have hji10_ : (a0 / 2 ^ min (ji8).toNat 64) = ji10 := hji10
          have hji10z : (ji8) ≤ 64 → (a0 / 2 ^ (ji8).toNat) = ji10 := shr_small hji10
          replace H := ifs H
          obtain ⟨c11, H⟩ := H
          have LMc11 := Aside0.mk c11
          clear c11
          obtain ⟨y395, hy395⟩ : ∃ y_ : List Int, y_ = (x5_1 ++ [(ji10) % 256]) := ⟨_, rfl⟩
          replace H : (impl_WordPut.l0 k1 a0 y395 a1 (wrap64 (x12_1 + 1))) = some r := by first | (rw [hy395]; with_reducible exact H) | (rw [hy395]; exact H) | exact H
          have Ny395 := Aside0.mk hy395
          clear hy395
          have H' := Aside0.mk H
          clear H
          go_wp2_with (first | ((with_reducible refine gate_builtin (b := .append) (xs := #[.tmp 15, .tmp 21]) rfl ?_); at_builtin; refine Kd.R_append (Kd.int .u8) (w0 := w) w.heap.size rfl (.tmp 15) (.tmp 21) 41 5 (.int .u8 0) 1 rfl Try.underlying41 info5 rfl (by decide) (by omega) u5 x5_1 ((ji10) % 256) [.int .u8 ((ji10) % 256)] (fun _ => True) (fun _ => False) rfl rfl ?aP (fun _ hk => hk.elim) ?aF ?aO ?aB ?aS ?aL ?_; (case aP => exact rfl); (case aB => exact (below_later HB.out)); (case aF => exact (fun _ _ => trivial)); (case aO => exact (R_later HO_5.out)); (case aS => exact (below_size (below_later HB.out))); (case aL => have := LMc11.out; omega); intro v396 w12 ho hb hg hat; rw [← Ny395.out] at ho; have n0_ := Aside0.mk (hb); have n1_ := Aside0.mk (ho); clear HB; clear HO_5; have HB := n0_; have HO397 := n1_; clear n0_ n1_; clear ho hb hg hat))
          go_roundg k1
          case measure => have := HK1.out; omega
          case rel => exact ⟨(y395), (wrap64 (x12_1 + 1)), sr, H', ⟨by have := HK1.out; omega⟩, ⟨R_later HO397.out⟩, ⟨below_later HB.out⟩⟩
        · rw [if_neg c7] at H
          have c7b0 := decide_eq_false c7
          clear c7
          obtain rfl := Option.some.inj H
          go_wp2
          go_ret
          exact ⟨_, by first | rfl | (simp [errW_none, errW_some] <;> rfl) | (simp [*, errW_none, errW_some] <;> rfl), by (with_reducible repeat (first | apply Kd.R_alloc | apply Kd.R_drewN | apply Kd.R_drew)); exact HO_5.out, below_later HB.out⟩
  · replace c4 := Bool.eq_false_iff.mpr c4
    subst c4
    replace H := ifn Bool.false_ne_true H
    obtain rfl := Option.some.inj H
    go_enter Try.func64, Try.ntmps64
    go_wp2_with (first | ((with_reducible refine gate_callee (f := 48) rfl ?_); refine gl_ (some 8) Try.func48 #[.int .i64 a1, .int .i64 1, .int .i64 8] rfl ?_; (with_reducible refine (impl_within.calls a1 1 8 false _ A3.out).mono ?_); rintro e w' ⟨rfl, ⟨nd, rfl⟩⟩; refine ⟨_, rfl, ?_⟩))
    go_ret
    exact ⟨_, by first | rfl | (simp [errW_none, errW_some] <;> rfl) | (simp [*, errW_none, errW_some] <;> rfl), by first | exact Kd.R_nil _ _ _ _ _ | exact Kd.N_nil _ _ _ _ _ | exact Kd.V_nil _ _ _ _ _ | exact Kd.Q_nil _ _ _ _ _ | exact Kd.S_nil _ _ _ _ _, below_later HB.out⟩

/-! ### impl_wideOf: function 65 -/
def impl_wideOf.f (a0 : Int) : Option (Int) := if a0 = 1 then (some 4) else (if a0 = 2 then (some 8) else (if a0 = 5 then (some 8) else (some 0)))
set_option maxHeartbeats 8000000 in
set_option maxRecDepth 100000 in
theorem impl_wideOf.calls (a0 : Int) (r : Int) (w : World) (h : impl_wideOf.f a0 = some r) :
    Calls Try.prog 65 #[.int .i64 a0] w fun e w' => e = .returned (.int .i64 r) ∧ Drawn0 w w' := by
  have H : (if a0 = 1 then (some 4) else (if a0 = 2 then (some 8) else (if a0 = 5 then (some 8) else (some 0)))) = some r := h
  clear h
  by_cases c2 : a0 = 1
  · rw [if_pos c2] at H
    have c2b0 : (a0 == 1) = true := beq_iff_eq.mpr c2
    have c2b1 : (a0 != 1) = false := bne_eq_false_iff_eq.mpr c2
    clear c2
    obtain rfl := Option.some.inj H
    go_enter Try.func65, Try.ntmps65
    go_wp2
    go_ret
    exact ⟨by first | rfl | (simp; done) | (simp [*]; done), by repeat (first | exact Drawn0.refl _ | apply Drawn0.step)⟩
  · rw [if_neg c2] at H
    have c2b0 : (a0 == 1) = false := beq_eq_false_iff_ne.mpr c2
    have c2b1 : (a0 != 1) = true := bne_iff_ne.mpr c2
    by_cases c3 : a0 = 2
    · rw [if_pos c3] at H
      have c3b0 : (a0 == 2) = true := beq_iff_eq.mpr c3
      have c3b1 : (a0 != 2) = false := bne_eq_false_iff_eq.mpr c3
      clear c3
      obtain rfl := Option.some.inj H
      go_enter Try.func65, Try.ntmps65
      go_wp2
      go_ret
      exact ⟨by first | rfl | (simp; done) | (simp [*]; done), by repeat (first | exact Drawn0.refl _ | apply Drawn0.step)⟩
    · rw [if_neg c3] at H
      have c3b0 : (a0 == 2) = false := beq_eq_false_iff_ne.mpr c3
      have c3b1 : (a0 != 2) = true := bne_iff_ne.mpr c3
      by_cases c4 : a0 = 5
      · rw [if_pos c4] at H
        have c4b0 : (a0 == 5) = true := beq_iff_eq.mpr c4
        have c4b1 : (a0 != 5) = false := bne_eq_false_iff_eq.mpr c4
        clear c4
        obtain rfl := Option.some.inj H
        go_enter Try.func65, Try.ntmps65
        go_wp2
        go_ret
        exact ⟨by first | rfl | (simp; done) | (simp [*]; done), by repeat (first | exact Drawn0.refl _ | apply Drawn0.step)⟩
      · rw [if_neg c4] at H
        have c4b0 : (a0 == 5) = false := beq_eq_false_iff_ne.mpr c4
        have c4b1 : (a0 != 5) = true := bne_iff_ne.mpr c4
        obtain rfl := Option.some.inj H
        go_enter Try.func65, Try.ntmps65
        go_wp2
        go_ret
        exact ⟨by first | rfl | (simp; done) | (simp [*]; done), by repeat (first | exact Drawn0.refl _ | apply Drawn0.step)⟩

end Go.Proofs.Ytgiljoeekpfpmaa.PFnExactDictPack
