/- The machine's side of FnCut, written by wip/tools/hyb.py of this repo: each Go function as a plain Lean function, and the proof that the call comes to just its answer. No condition. -/
import Derived.Test.YtbiobenhhnbbaaaPFnCutx0
import Derived.Test.YtbiobenhhnbbaaaPFnCutx2
import Derived.Test.YtbiobenhhnbbaaaPFnCutx3
import Derived.Test.YtbiobenhhnbbaaaPFnCutx4
import Derived.Test.YtbiobenhhnbbaaaPFnCutx5
namespace Go.Proofs.Ytbiobenhhnbbaaa.PFnCut
open Go.RowKit Go.Proofs.YtbiobenhhnbbaaaW.PrintWords Go.Proofs.YtbiobenhhnbbaaaW.PrintLast Go.Proofs.YtbiobenhhnbbaaaW.PrintMore Go.Proofs.YtbiobenhhnbbaaaW.PrintMore2
attribute [local go_sem] max2_int min2_int max_two min_two max_three min_three max_four min_four   -- for this text's walks alone
set_option linter.unusedVariables false
set_option linter.unusedSimpArgs false

/-! ### spec_l13DrawPart: function 34 -/
mutual
def spec_l13DrawPart.j0 : Nat → List (S61) → Int → List (S33) → Int → Bool → List Int → Int → Int → Option ((List (S33)) × Int × Int)
  | 0, _, _, _, _, _, _, _, _ => none
  | k + 1, x1, x2, x3, x9, x22, x1000, x1001, x1002 => if x22 = true then ((spec_l1Below.f x1000 x1001 x1002 2).bind fun bt336 => (if 0 ≤ x2 then (if x2 < (x1.length : Int) then (if ((rd_T61 x1 x2).f2) = 2 then ((spec_l1Below.f x1000 bt336.2.1 bt336.2.2 4).bind fun bt340 => ((spec_l1Once.f x1000 bt340.2.1 bt340.2.2 60).bind fun bt343 => (if bt343.1 = true then (if x3.length < 5864062014805 then (spec_l13DrawPart.j1 k x1 x2 (x3 ++ [(⟨20, (⟨#[]⟩ : ByteArray)⟩ : S33)]) 20 x1000 bt343.2.1 bt343.2.2) else (none)) else (if x3.length < 5864062014805 then (spec_l13DrawPart.j1 k x1 x2 (x3 ++ [(⟨bt340.1, (⟨#[]⟩ : ByteArray)⟩ : S33)]) bt340.1 x1000 bt343.2.1 bt343.2.2) else (none))))) else (if x3.length < 5864062014805 then (spec_l13DrawPart.j1 k x1 x2 (x3 ++ [(⟨bt336.1, (⟨#[]⟩ : ByteArray)⟩ : S33)]) bt336.1 x1000 bt336.2.1 bt336.2.2) else (none))) else (none)) else (none))) else (spec_l13DrawPart.j1 k x1 x2 x3 x9 x1000 x1001 x1002)
def spec_l13DrawPart.j1 : Nat → List (S61) → Int → List (S33) → Int → List Int → Int → Int → Option ((List (S33)) × Int × Int)
  | 0, _, _, _, _, _, _, _ => none
  | k + 1, x1, x2, x3, x9, x1000, x1001, x1002 => spec_l13DrawPart.l0 k x1 x2 x3 x9 0 x1000 x1001 x1002
def spec_l13DrawPart.l0 : Nat → List (S61) → Int → List (S33) → Int → Int → List Int → Int → Int → Option ((List (S33)) × Int × Int)
  | 0, _, _, _, _, _, _, _, _ => none
  | k + 1, x1, x2, x3, x9, x10, x1000, x1001, x1002 => if x10 < x9 then (if 0 ≤ x2 then (if x2 < (x1.length : Int) then (if ((rd_T61 x1 x2).f1) = 7 then (spec_l13DrawPart.l1 k x1 x2 x3 x9 x10 (wrap64 (x2 + 1)) 0 x1000 x1001 x1002) else ((spec_l6DrawRight.f k x1000 x1001 x1002 ((rd_T61 x1 x2).f1)).bind fun bt357 => (if x3.length < 5864062014805 then (spec_l13DrawPart.l0 k x1 x2 (x3 ++ [(⟨bt357.1, bt357.2.1⟩ : S33)]) x9 (wrap64 (x10 + 1)) x1000 bt357.2.2.1 bt357.2.2.2) else (none)))) else (none)) else (none)) else (some (x3, x1001, x1002))
def spec_l13DrawPart.l1 : Nat → List (S61) → Int → List (S33) → Int → Int → Int → Int → List Int → Int → Int → Option ((List (S33)) × Int × Int)
  | 0, _, _, _, _, _, _, _, _, _, _ => none
  | k + 1, x1, x2, x3, x9, x10, x11, x12, x1000, x1001, x1002 => if 0 ≤ x2 then (if x2 < (x1.length : Int) then (if x12 < ((rd_T61 x1 x2).f3) then ((spec_l13DrawPart.f k x1000 x1001 x1002 x1 x11 x3).bind fun bt365 => ((spec_l5After.f k x1 x11).bind fun t370 => (spec_l13DrawPart.l1 k x1 x2 bt365.1 x9 x10 t370 (wrap64 (x12 + 1)) x1000 bt365.2.1 bt365.2.2))) else (spec_l13DrawPart.l0 k x1 x2 x3 x9 (wrap64 (x10 + 1)) x1000 x1001 x1002)) else (none)) else (none)
def spec_l13DrawPart.f : Nat → List Int → Int → Int → List (S61) → Int → List (S33) → Option ((List (S33)) × Int × Int)
  | 0, _, _, _, _, _, _ => none
  | k + 1, s0_0, s0_1, s0_2, l1, a2, l3 => if a2 > 0 then (if 0 ≤ a2 then (if a2 < (l1.length : Int) then (spec_l13DrawPart.j0 k l1 a2 l3 1 (((rd_T61 l1 a2).f2) != 0) s0_0 s0_1 s0_2) else (none)) else (none)) else (spec_l13DrawPart.j0 k l1 a2 l3 1 false s0_0 s0_1 s0_2)
end
set_option maxHeartbeats 8000000 in
set_option maxRecDepth 100000 in
theorem spec_l13DrawPart.calls (k : Nat) : ∀ (g : Nat) (s0_0 : List Int) (s0_1 : Int) (s0_2 : Int) (A1 : Option Addr) (c1 : Nat) (l1 : List (S61)) (a2 : Int) (P3_ : Nat → Prop) (u9000_ : Value) (l3 : List (S33)) (r1 : List (S33)) (r2 : Int) (r3 : Int) (w0 w : World) (hI : IsS48 w0 w g s0_0 s0_1 s0_2) (hB : Below w0.heap.size w0 w) (hr1 : ∀ W_, Kept w W_ (fun k_ => (P3_ k_) ∨ k_ = g) → Kd.C k61 W_ A1 l1.length l1) (hc1 : l1.length ≤ c1) (ho3 : Kd.R k33 33 w w0.heap.size P3_ u9000_ l3) (h : spec_l13DrawPart.f k s0_0 s0_1 s0_2 l1 a2 l3 = some (r1, r2, r3)),
    Calls Try.prog 34 #[.pointer (some ⟨g, 0, none⟩), .slice A1 l1.length c1, .int .i64 a2, u9000_] w fun e w' => ∃ v0_ : Value, e = .returned (v0_) ∧ Kd.R k33 33 w' w0.heap.size (fun k_ => (P3_ k_ ∨ w.heap.size ≤ k_)) v0_ r1 ∧ IsS48 w0 w' g s0_0 r2 r3 ∧ Below w0.heap.size w0 w' ∧ Kept w w' (fun k_ => (P3_ k_) ∨ k_ = g) := by
  induction k using Nat.strongRecOn with
  | _ k ih =>
  intro g s0_0 s0_1 s0_2 A1 c1 l1 a2 P3_ u9000_ l3 r1 r2 r3 w0 w hI hB hr1 hc1 ho3 h
  cases k with
  | zero => exact absurd h (by simp [spec_l13DrawPart.f])
  | succ k =>
  simp only [spec_l13DrawPart.f] at h
  have hu33 := Try.underlying33
  have HR1 := Aside0.mk hr1
  have HC1 := Aside0.mk hc1
  clear hr1 hc1
  have HO3 := Aside0.mk (show Kd.R k33 33 w w0.heap.size (fun k_ => (P3_ k_ ∨ w.heap.size ≤ k_)) u9000_ l3 from Kd.R_mono ho3 (fun k_ hk => (.inl hk)))
  have HI0 := Aside0.mk hI
  have HL := Aside0.mk hB.size
  clear hI
  have HK := Aside0.mk (Kept.refl w (fun k_ => (P3_ k_) ∨ k_ = g))
  have HW0 := Aside0.mk hB.size
  have HB := Aside0.mk hB
  clear hB
  have H : (if a2 > 0 then (if 0 ≤ a2 then (if a2 < (l1.length : Int) then (spec_l13DrawPart.j0 k l1 a2 l3 1 (((rd_T61 l1 a2).f2) != 0) s0_0 s0_1 s0_2) else (none)) else (none)) else (spec_l13DrawPart.j0 k l1 a2 l3 1 false s0_0 s0_1 s0_2)) = some (r1, r2, r3) := h
  clear h
  have HC5 := Aside0.mk H
  clear H
  go_enter Try.func34, Try.ntmps34
  go_upto_region 2 with (fail)
  go_cut [22] (fun v22 wc => ∃ (kq : Nat) (x22_4 : Bool), v22 = .bool x22_4 ∧ Aside0 (spec_l13DrawPart.j0 kq l1 a2 l3 1 x22_4 s0_0 s0_1 s0_2 = some (r1, r2, r3)) ∧ Aside0 (kq ≤ k) ∧ Aside0 (Kd.R k33 33 wc w0.heap.size (fun k_ => (P3_ k_ ∨ w.heap.size ≤ k_)) u9000_ l3) ∧ Aside0 (IsS48 w0 wc g s0_0 s0_1 s0_2) ∧ Aside0 (Kept w wc (fun k_ => (P3_ k_) ∨ k_ = g)) ∧ Aside0 (Below w0.heap.size w0 wc))
  case first =>
    have H := HC5.out
    clear HC5
    by_cases c6 : a2 > 0
    · rw [if_pos c6] at H
      have c6b0 : decide (0 < a2) = true := decide_eq_true c6
      clear c6
      (first | rw [c6b0] | (simp only [i64_w, i32_w]; rw [c6b0]) | skip)
      replace H := ifd H
      obtain ⟨c7b0, H⟩ := H
      replace H := ifd H
      obtain ⟨c8b0, H⟩ := H
      have H' := Aside0.mk H
      clear H
      have p335 : 0 ≤ (a2 : Int) := dcd
      have q335 : a2 < (l1.length : Int) := dcd
      obtain ⟨ad335, e335, hx335_0, hx335_1, hx335_2, hx335_3⟩ := at_T61 (Kd.C_kept_now HR1.out HK.out) a2 p335 q335
      cases e335
      replace p335 := eq_true p335
      replace q335 := eq_true q335
      go_wp2
      go_meet
      case rel => exact ⟨_, ((((rd_T61 l1 a2).f2) != 0)), sr, H', ⟨by first | omega | exact Nat.le_refl _⟩, ⟨R_later HO3.out⟩, ⟨by repeat (first | (with_reducible first | exact HI0.out | apply IsS48.alloc | apply IsS48.drewN | apply IsS48.drew | apply IsS48.set_1 | apply IsS48.set_2) | exact HI0.out)⟩, ⟨by repeat (first | (with_reducible first | exact HK.out | apply Kept.alloc | apply Kept.drewN | apply Kept.drew | refine Kept.setCell ?_ (.inl (.inr rfl)) _) | exact HK.out)⟩, ⟨by repeat (first | (with_reducible first | exact HB.out | apply below_alloc | apply pw_below_drewN | apply below_drew1 | refine below_set ?_ (IsS48.ge HI0.out)) | exact HB.out)⟩⟩
    · rw [if_neg c6] at H
      have c6b0 : decide (0 < a2) = false := decide_eq_false c6
      clear c6
      (first | rw [c6b0] | (simp only [i64_w, i32_w]; rw [c6b0]) | skip)
      have H' := Aside0.mk H
      clear H
      go_wp2
      go_meet
      case rel => exact ⟨_, (false), sr, H', ⟨by first | omega | exact Nat.le_refl _⟩, ⟨R_later HO3.out⟩, ⟨by repeat (first | (with_reducible first | exact HI0.out | apply IsS48.alloc | apply IsS48.drewN | apply IsS48.drew | apply IsS48.set_1 | apply IsS48.set_2) | exact HI0.out)⟩, ⟨by repeat (first | (with_reducible first | exact HK.out | apply Kept.alloc | apply Kept.drewN | apply Kept.drew | refine Kept.setCell ?_ (.inl (.inr rfl)) _) | exact HK.out)⟩, ⟨by repeat (first | (with_reducible first | exact HB.out | apply below_alloc | apply pw_below_drewN | apply below_drew1 | refine below_set ?_ (IsS48.ge HI0.out)) | exact HB.out)⟩⟩
  case rest =>
    clear HC5
    try clear c1
    obtain ⟨kq, x22_4, rfl, HA, HJ4, HO_3, HI0, HK, HB⟩ := hcut
    cases kq with
    | zero => exact absurd HA.out (by simp [spec_l13DrawPart.j0])
    | succ kj4 =>
      have H := HA.out
      clear HA
      simp only [spec_l13DrawPart.j0] at H
      have HC9 := Aside0.mk H
      clear H
      go_upto_if 22 with (fail)
      go_cut [3, 9] (fun v3 v9 wc => ∃ (kq : Nat) (x3_8 : List (S33)) (x9_8 : Int) (x1001_8 : Int) (x1002_8 : Int), v9 = .int .i64 x9_8 ∧ Aside0 (spec_l13DrawPart.j1 kq l1 a2 x3_8 x9_8 s0_0 x1001_8 x1002_8 = some (r1, r2, r3)) ∧ Aside0 (kq ≤ kj4) ∧ Aside0 (Kd.R k33 33 wc w0.heap.size (fun k_ => (P3_ k_ ∨ w.heap.size ≤ k_)) v3 x3_8) ∧ Aside0 (IsS48 w0 wc g s0_0 x1001_8 x1002_8) ∧ Aside0 (Kept w wc (fun k_ => (P3_ k_) ∨ k_ = g)) ∧ Aside0 (Below w0.heap.size w0 wc))
      case first =>
        have H := HC9.out
        clear HC9
        by_cases c10 : x22_4 = true
        · subst c10
          replace H := ifp rfl H
          replace H := Option.bind_eq_some_iff.mp H
          obtain ⟨⟨t336, t337, t338⟩, A110, H⟩ := H
          replace H : (if 0 ≤ a2 then (if a2 < (l1.length : Int) then (if ((rd_T61 l1 a2).f2) = 2 then ((spec_l1Below.f s0_0 t337 t338 4).bind fun bt340 => ((spec_l1Once.f s0_0 bt340.2.1 bt340.2.2 60).bind fun bt343 => (if bt343.1 = true then (if l3.length < 5864062014805 then (spec_l13DrawPart.j1 kj4 l1 a2 (l3 ++ [(⟨20, (⟨#[]⟩ : ByteArray)⟩ : S33)]) 20 s0_0 bt343.2.1 bt343.2.2) else (none)) else (if l3.length < 5864062014805 then (spec_l13DrawPart.j1 kj4 l1 a2 (l3 ++ [(⟨bt340.1, (⟨#[]⟩ : ByteArray)⟩ : S33)]) bt340.1 s0_0 bt343.2.1 bt343.2.2) else (none))))) else (if l3.length < 5864062014805 then (spec_l13DrawPart.j1 kj4 l1 a2 (l3 ++ [(⟨t336, (⟨#[]⟩ : ByteArray)⟩ : S33)]) t336 s0_0 t337 t338) else (none))) else (none)) else (none)) = some (r1, r2, r3) := H
          have A11 := Aside0.mk A110
          clear A110
          replace H := ifd H
          obtain ⟨c12b0, H⟩ := H
          (first | rw [c12b0] | (simp only [i64_w, i32_w]; rw [c12b0]) | skip)
          replace H := ifd H
          obtain ⟨c13b0, H⟩ := H
          by_cases c14 : ((rd_T61 l1 a2).f2) = 2
          · rw [if_pos c14] at H
            have c14b0 : (((rd_T61 l1 a2).f2) == 2) = true := beq_iff_eq.mpr c14
            have c14b1 : (((rd_T61 l1 a2).f2) != 2) = false := bne_eq_false_iff_eq.mpr c14
            clear c14
            replace H := Option.bind_eq_some_iff.mp H
            obtain ⟨⟨t340, t341, t342⟩, A150, H⟩ := H
            replace H : ((spec_l1Once.f s0_0 t341 t342 60).bind fun bt343 => (if bt343.1 = true then (if l3.length < 5864062014805 then (spec_l13DrawPart.j1 kj4 l1 a2 (l3 ++ [(⟨20, (⟨#[]⟩ : ByteArray)⟩ : S33)]) 20 s0_0 bt343.2.1 bt343.2.2) else (none)) else (if l3.length < 5864062014805 then (spec_l13DrawPart.j1 kj4 l1 a2 (l3 ++ [(⟨t340, (⟨#[]⟩ : ByteArray)⟩ : S33)]) t340 s0_0 bt343.2.1 bt343.2.2) else (none)))) = some (r1, r2, r3) := H
            have A15 := Aside0.mk A150
            clear A150
            replace H := Option.bind_eq_some_iff.mp H
            obtain ⟨⟨t343, t344, t345⟩, A160, H⟩ := H
            replace H : (if t343 = true then (if l3.length < 5864062014805 then (spec_l13DrawPart.j1 kj4 l1 a2 (l3 ++ [(⟨20, (⟨#[]⟩ : ByteArray)⟩ : S33)]) 20 s0_0 t344 t345) else (none)) else (if l3.length < 5864062014805 then (spec_l13DrawPart.j1 kj4 l1 a2 (l3 ++ [(⟨t340, (⟨#[]⟩ : ByteArray)⟩ : S33)]) t340 s0_0 t344 t345) else (none))) = some (r1, r2, r3) := H
            have A16 := Aside0.mk A160
            clear A160
            by_cases c17 : t343 = true
            · subst c17
              replace H := ifp rfl H
              replace H := ifs H
              obtain ⟨c18, H⟩ := H
              have LMc18 := Aside0.mk c18
              clear c18
              obtain ⟨y346, hy346⟩ : ∃ y_ : List (S33), y_ = (l3 ++ [(⟨20, (⟨#[]⟩ : ByteArray)⟩ : S33)]) := ⟨_, rfl⟩
              replace H : (spec_l13DrawPart.j1 kj4 l1 a2 y346 20 s0_0 t344 t345) = some (r1, r2, r3) := by first | (rw [hy346]; with_reducible exact H) | (rw [hy346]; exact H) | exact H
              have Ny346 := Aside0.mk hy346
              clear hy346
              have H' := Aside0.mk H
              clear H
              go_wp2_with (first | ((with_reducible refine gate_callee (f := 13) rfl ?_); refine gl_ (some 24) Try.func13 #[.pointer (some ⟨g, 0, none⟩), .int .i64 2] rfl ?_; (with_reducible refine (spec_l1Below.calls g s0_0 s0_1 s0_2 2 t336 t337 t338 w0 _ ?side1 ?side2 A11.out).mono ?_); (case side1 => repeat (first | (with_reducible first | exact HI0.out | apply IsS48.alloc | apply IsS48.drewN | apply IsS48.drew | apply IsS48.set_1 | apply IsS48.set_2) | exact HI0.out)); (case side2 => repeat (first | (with_reducible first | exact HB.out | apply below_alloc | apply pw_below_drewN | apply below_drew1 | refine below_set ?_ (IsS48.ge HI0.out)) | exact HB.out)); rintro e w19 ⟨rfl, hi, hb, hk⟩; refine ⟨_, rfl, ?_⟩; replace HO_3 := Aside0.mk (Kd.R_mono (Kd.R_keep (IsS48.apart (show IsS48 w0 _ g s0_0 s0_1 s0_2 from by repeat (first | (with_reducible first | exact HI0.out | apply IsS48.alloc | apply IsS48.drewN | apply IsS48.drew | apply IsS48.set_1 | apply IsS48.set_2) | exact HI0.out)) (R_later HO_3.out) (by decide)) hk (fun _ h => h.2)) (fun _ h => h.1)); replace HK := Aside0.mk (Kept.of_keep (S := (fun k_ => (P3_ k_) ∨ k_ = g)) (by repeat (first | (with_reducible first | exact HK.out | apply Kept.alloc | apply Kept.drewN | apply Kept.drew | refine Kept.setCell ?_ (.inl (.inr rfl)) _) | exact HK.out)) hk (.inl (.inr rfl))); replace HB := Aside0.mk (hb); replace HI0 := Aside0.mk (hi); (try clear hb); (try clear hk); (try clear hi); have p339 : 0 ≤ (a2 : Int) := dcd; have q339 : a2 < (l1.length : Int) := dcd; obtain ⟨ad339, e339, hx339_0, hx339_1, hx339_2, hx339_3⟩ := at_T61 (Kd.C_kept_now HR1.out HK.out) a2 p339 q339; cases e339; replace p339 := eq_true p339; replace q339 := eq_true q339) | ((with_reducible refine gate_callee (f := 13) rfl ?_); refine gl_ (some 32) Try.func13 #[.pointer (some ⟨g, 0, none⟩), .int .i64 4] rfl ?_; (with_reducible refine (spec_l1Below.calls g s0_0 t337 t338 4 t340 t341 t342 w0 _ ?side1 ?side2 A15.out).mono ?_); (case side1 => repeat (first | (with_reducible first | exact HI0.out | apply IsS48.alloc | apply IsS48.drewN | apply IsS48.drew | apply IsS48.set_1 | apply IsS48.set_2) | exact HI0.out)); (case side2 => repeat (first | (with_reducible first | exact HB.out | apply below_alloc | apply pw_below_drewN | apply below_drew1 | refine below_set ?_ (IsS48.ge HI0.out)) | exact HB.out)); rintro e w20 ⟨rfl, hi, hb, hk⟩; refine ⟨_, rfl, ?_⟩; replace HO_3 := Aside0.mk (Kd.R_mono (Kd.R_keep (IsS48.apart (show IsS48 w0 _ g s0_0 t337 t338 from by repeat (first | (with_reducible first | exact HI0.out | apply IsS48.alloc | apply IsS48.drewN | apply IsS48.drew | apply IsS48.set_1 | apply IsS48.set_2) | exact HI0.out)) (R_later HO_3.out) (by decide)) hk (fun _ h => h.2)) (fun _ h => h.1)); replace HK := Aside0.mk (Kept.of_keep (S := (fun k_ => (P3_ k_) ∨ k_ = g)) (by repeat (first | (with_reducible first | exact HK.out | apply Kept.alloc | apply Kept.drewN | apply Kept.drew | refine Kept.setCell ?_ (.inl (.inr rfl)) _) | exact HK.out)) hk (.inl (.inr rfl))); replace HB := Aside0.mk (hb); replace HI0 := Aside0.mk (hi); (try clear hb); (try clear hk); (try clear hi)) | ((with_reducible refine gate_callee (f := 12) rfl ?_); refine gl_ (some 34) Try.func12 #[.pointer (some ⟨g, 0, none⟩), .int .i64 60] rfl ?_; (with_reducible refine (spec_l1Once.calls g s0_0 t341 t342 60 true t344 t345 w0 _ ?side1 ?side2 A16.out).mono ?_); (case side1 => repeat (first | (with_reducible first | exact HI0.out | apply IsS48.alloc | apply IsS48.drewN | apply IsS48.drew | apply IsS48.set_1 | apply IsS48.set_2) | exact HI0.out)); (case side2 => repeat (first | (with_reducible first | exact HB.out | apply below_alloc | apply pw_below_drewN | apply below_drew1 | refine below_set ?_ (IsS48.ge HI0.out)) | exact HB.out)); rintro e w21 ⟨rfl, hi, hb, hk⟩; refine ⟨_, rfl, ?_⟩; replace HO_3 := Aside0.mk (Kd.R_mono (Kd.R_keep (IsS48.apart (show IsS48 w0 _ g s0_0 t341 t342 from by repeat (first | (with_reducible first | exact HI0.out | apply IsS48.alloc | apply IsS48.drewN | apply IsS48.drew | apply IsS48.set_1 | apply IsS48.set_2) | exact HI0.out)) (R_later HO_3.out) (by decide)) hk (fun _ h => h.2)) (fun _ h => h.1)); replace HK := Aside0.mk (Kept.of_keep (S := (fun k_ => (P3_ k_) ∨ k_ = g)) (by repeat (first | (with_reducible first | exact HK.out | apply Kept.alloc | apply Kept.drewN | apply Kept.drew | refine Kept.setCell ?_ (.inl (.inr rfl)) _) | exact HK.out)) hk (.inl (.inr rfl))); replace HB := Aside0.mk (hb); replace HI0 := Aside0.mk (hi); (try clear hb); (try clear hk); (try clear hi)) | ((with_reducible refine gate_builtin (b := .append) (xs := #[.tmp 35, .tmp 38]) rfl ?_); at_builtin; refine Kd.R_append k33 (w0 := w0) w0.heap.size rfl (.tmp 35) (.tmp 38) 66 33 (.agg #[(.int .i64 0), (.string ⟨#[]⟩)]) 24 rfl Try.underlying66 info33 rfl (by decide) (by omega) u9000_ l3 (⟨20, (⟨#[]⟩ : ByteArray)⟩ : S33) [.int .i64 20, .string (⟨#[]⟩ : ByteArray)] (fun k_ => (P3_ k_ ∨ w.heap.size ≤ k_)) (fun _ => False) rfl rfl ?aP (fun _ hk => hk.elim) ?aF ?aO ?aB ?aS ?aL ?_; (case aP => exact k33_mkM _ _ _ (⟨20, (⟨#[]⟩ : ByteArray)⟩ : S33)); (case aB => exact (by repeat (first | (with_reducible first | exact HB.out | apply below_alloc | apply pw_below_drewN | apply below_drew1 | refine below_set ?_ (IsS48.ge HI0.out)) | exact HB.out))); (case aF => exact (fun k_ hk => (.inr (Nat.le_trans (by first | exact HK.out.1 | exact (show Kept w _ (fun k_ => (P3_ k_) ∨ k_ = g) from by repeat (first | (with_reducible first | exact HK.out | apply Kept.alloc | apply Kept.drewN | apply Kept.drew | refine Kept.setCell ?_ (.inl (.inr rfl)) _) | exact HK.out)).1) hk)))); (case aO => exact (R_later HO_3.out)); (case aS => exact (below_size (by repeat (first | (with_reducible first | exact HB.out | apply below_alloc | apply pw_below_drewN | apply below_drew1 | refine below_set ?_ (IsS48.ge HI0.out)) | exact HB.out)))); (case aL => have := LMc18.out; omega); intro v347 w22 ho hb hg hat; rw [← Ny346.out] at ho; have n0_ := Aside0.mk (IsS48.grown (by repeat (first | (with_reducible first | exact HI0.out | apply IsS48.alloc | apply IsS48.drewN | apply IsS48.drew | apply IsS48.set_1 | apply IsS48.set_2) | exact HI0.out)) hg (IsS48.own_ne HI0.out HO_3.out (by decide))); have n1_ := Aside0.mk (hb); have n2_ := Aside0.mk (Kept.of_grown (S := (fun k_ => (P3_ k_) ∨ k_ = g)) hg (by repeat (first | (with_reducible first | exact HK.out | apply Kept.alloc | apply Kept.drewN | apply Kept.drew | refine Kept.setCell ?_ (.inl (.inr rfl)) _) | exact HK.out)) (fun k_ e_ => Or.imp_left Or.inl ((HO_3.out.1 k_ e_)))); have n3_ := Aside0.mk (ho); clear HI0; clear HB; clear HK; clear HO_3; have HI0 := n0_; have HB := n1_; have HK := n2_; have HO348 := n3_; clear n0_ n1_ n2_ n3_; clear ho hb hg hat))
              go_meet
              case rel => exact ⟨_, (y346), (20), (t344), (t345), sr, H', ⟨by have := HJ4.out; first | omega | exact Nat.le_refl _⟩, ⟨R_later HO348.out⟩, ⟨by repeat (first | (with_reducible first | exact HI0.out | apply IsS48.alloc | apply IsS48.drewN | apply IsS48.drew | apply IsS48.set_1 | apply IsS48.set_2) | exact HI0.out)⟩, ⟨by repeat (first | (with_reducible first | exact HK.out | apply Kept.alloc | apply Kept.drewN | apply Kept.drew | refine Kept.setCell ?_ (.inl (.inr rfl)) _) | exact HK.out)⟩, ⟨by repeat (first | (with_reducible first | exact HB.out | apply below_alloc | apply pw_below_drewN | apply below_drew1 | refine below_set ?_ (IsS48.ge HI0.out)) | exact HB.out)⟩⟩
            · replace c17 := Bool.eq_false_iff.mpr c17
              subst c17
              replace H := ifn Bool.false_ne_true H
              replace H := ifs H
              obtain ⟨c23, H⟩ := H
              have LMc23 := Aside0.mk c23
              clear c23
              obtain ⟨y349, hy349⟩ : ∃ y_ : List (S33), y_ = (l3 ++ [(⟨t340, (⟨#[]⟩ : ByteArray)⟩ : S33)]) := ⟨_, rfl⟩
              replace H : (spec_l13DrawPart.j1 kj4 l1 a2 y349 t340 s0_0 t344 t345) = some (r1, r2, r3) := by first | (rw [hy349]; with_reducible exact H) | (rw [hy349]; exact H) | exact H
              have Ny349 := Aside0.mk hy349
              clear hy349
              have H' := Aside0.mk H
              clear H
              go_wp2_with (first | ((with_reducible refine gate_callee (f := 13) rfl ?_); refine gl_ (some 24) Try.func13 #[.pointer (some ⟨g, 0, none⟩), .int .i64 2] rfl ?_; (with_reducible refine (spec_l1Below.calls g s0_0 s0_1 s0_2 2 t336 t337 t338 w0 _ ?side1 ?side2 A11.out).mono ?_); (case side1 => repeat (first | (with_reducible first | exact HI0.out | apply IsS48.alloc | apply IsS48.drewN | apply IsS48.drew | apply IsS48.set_1 | apply IsS48.set_2) | exact HI0.out)); (case side2 => repeat (first | (with_reducible first | exact HB.out | apply below_alloc | apply pw_below_drewN | apply below_drew1 | refine below_set ?_ (IsS48.ge HI0.out)) | exact HB.out)); rintro e w24 ⟨rfl, hi, hb, hk⟩; refine ⟨_, rfl, ?_⟩; replace HO_3 := Aside0.mk (Kd.R_mono (Kd.R_keep (IsS48.apart (show IsS48 w0 _ g s0_0 s0_1 s0_2 from by repeat (first | (with_reducible first | exact HI0.out | apply IsS48.alloc | apply IsS48.drewN | apply IsS48.drew | apply IsS48.set_1 | apply IsS48.set_2) | exact HI0.out)) (R_later HO_3.out) (by decide)) hk (fun _ h => h.2)) (fun _ h => h.1)); replace HK := Aside0.mk (Kept.of_keep (S := (fun k_ => (P3_ k_) ∨ k_ = g)) (by repeat (first | (with_reducible first | exact HK.out | apply Kept.alloc | apply Kept.drewN | apply Kept.drew | refine Kept.setCell ?_ (.inl (.inr rfl)) _) | exact HK.out)) hk (.inl (.inr rfl))); replace HB := Aside0.mk (hb); replace HI0 := Aside0.mk (hi); (try clear hb); (try clear hk); (try clear hi); have p339 : 0 ≤ (a2 : Int) := dcd; have q339 : a2 < (l1.length : Int) := dcd; obtain ⟨ad339, e339, hx339_0, hx339_1, hx339_2, hx339_3⟩ := at_T61 (Kd.C_kept_now HR1.out HK.out) a2 p339 q339; cases e339; replace p339 := eq_true p339; replace q339 := eq_true q339) | ((with_reducible refine gate_callee (f := 13) rfl ?_); refine gl_ (some 32) Try.func13 #[.pointer (some ⟨g, 0, none⟩), .int .i64 4] rfl ?_; (with_reducible refine (spec_l1Below.calls g s0_0 t337 t338 4 t340 t341 t342 w0 _ ?side1 ?side2 A15.out).mono ?_); (case side1 => repeat (first | (with_reducible first | exact HI0.out | apply IsS48.alloc | apply IsS48.drewN | apply IsS48.drew | apply IsS48.set_1 | apply IsS48.set_2) | exact HI0.out)); (case side2 => repeat (first | (with_reducible first | exact HB.out | apply below_alloc | apply pw_below_drewN | apply below_drew1 | refine below_set ?_ (IsS48.ge HI0.out)) | exact HB.out)); rintro e w25 ⟨rfl, hi, hb, hk⟩; refine ⟨_, rfl, ?_⟩; replace HO_3 := Aside0.mk (Kd.R_mono (Kd.R_keep (IsS48.apart (show IsS48 w0 _ g s0_0 t337 t338 from by repeat (first | (with_reducible first | exact HI0.out | apply IsS48.alloc | apply IsS48.drewN | apply IsS48.drew | apply IsS48.set_1 | apply IsS48.set_2) | exact HI0.out)) (R_later HO_3.out) (by decide)) hk (fun _ h => h.2)) (fun _ h => h.1)); replace HK := Aside0.mk (Kept.of_keep (S := (fun k_ => (P3_ k_) ∨ k_ = g)) (by repeat (first | (with_reducible first | exact HK.out | apply Kept.alloc | apply Kept.drewN | apply Kept.drew | refine Kept.setCell ?_ (.inl (.inr rfl)) _) | exact HK.out)) hk (.inl (.inr rfl))); replace HB := Aside0.mk (hb); replace HI0 := Aside0.mk (hi); (try clear hb); (try clear hk); (try clear hi)) | ((with_reducible refine gate_callee (f := 12) rfl ?_); refine gl_ (some 34) Try.func12 #[.pointer (some ⟨g, 0, none⟩), .int .i64 60] rfl ?_; (with_reducible refine (spec_l1Once.calls g s0_0 t341 t342 60 false t344 t345 w0 _ ?side1 ?side2 A16.out).mono ?_); (case side1 => repeat (first | (with_reducible first | exact HI0.out | apply IsS48.alloc | apply IsS48.drewN | apply IsS48.drew | apply IsS48.set_1 | apply IsS48.set_2) | exact HI0.out)); (case side2 => repeat (first | (with_reducible first | exact HB.out | apply below_alloc | apply pw_below_drewN | apply below_drew1 | refine below_set ?_ (IsS48.ge HI0.out)) | exact HB.out)); rintro e w26 ⟨rfl, hi, hb, hk⟩; refine ⟨_, rfl, ?_⟩; replace HO_3 := Aside0.mk (Kd.R_mono (Kd.R_keep (IsS48.apart (show IsS48 w0 _ g s0_0 t341 t342 from by repeat (first | (with_reducible first | exact HI0.out | apply IsS48.alloc | apply IsS48.drewN | apply IsS48.drew | apply IsS48.set_1 | apply IsS48.set_2) | exact HI0.out)) (R_later HO_3.out) (by decide)) hk (fun _ h => h.2)) (fun _ h => h.1)); replace HK := Aside0.mk (Kept.of_keep (S := (fun k_ => (P3_ k_) ∨ k_ = g)) (by repeat (first | (with_reducible first | exact HK.out | apply Kept.alloc | apply Kept.drewN | apply Kept.drew | refine Kept.setCell ?_ (.inl (.inr rfl)) _) | exact HK.out)) hk (.inl (.inr rfl))); replace HB := Aside0.mk (hb); replace HI0 := Aside0.mk (hi); (try clear hb); (try clear hk); (try clear hi)) | ((with_reducible refine gate_builtin (b := .append) (xs := #[.tmp 35, .tmp 38]) rfl ?_); at_builtin; refine Kd.R_append k33 (w0 := w0) w0.heap.size rfl (.tmp 35) (.tmp 38) 66 33 (.agg #[(.int .i64 0), (.string ⟨#[]⟩)]) 24 rfl Try.underlying66 info33 rfl (by decide) (by omega) u9000_ l3 (⟨t340, (⟨#[]⟩ : ByteArray)⟩ : S33) [.int .i64 t340, .string (⟨#[]⟩ : ByteArray)] (fun k_ => (P3_ k_ ∨ w.heap.size ≤ k_)) (fun _ => False) rfl rfl ?aP (fun _ hk => hk.elim) ?aF ?aO ?aB ?aS ?aL ?_; (case aP => exact k33_mkM _ _ _ (⟨t340, (⟨#[]⟩ : ByteArray)⟩ : S33)); (case aB => exact (by repeat (first | (with_reducible first | exact HB.out | apply below_alloc | apply pw_below_drewN | apply below_drew1 | refine below_set ?_ (IsS48.ge HI0.out)) | exact HB.out))); (case aF => exact (fun k_ hk => (.inr (Nat.le_trans (by first | exact HK.out.1 | exact (show Kept w _ (fun k_ => (P3_ k_) ∨ k_ = g) from by repeat (first | (with_reducible first | exact HK.out | apply Kept.alloc | apply Kept.drewN | apply Kept.drew | refine Kept.setCell ?_ (.inl (.inr rfl)) _) | exact HK.out)).1) hk)))); (case aO => exact (R_later HO_3.out)); (case aS => exact (below_size (by repeat (first | (with_reducible first | exact HB.out | apply below_alloc | apply pw_below_drewN | apply below_drew1 | refine below_set ?_ (IsS48.ge HI0.out)) | exact HB.out)))); (case aL => have := LMc23.out; omega); intro v350 w27 ho hb hg hat; rw [← Ny349.out] at ho; have n0_ := Aside0.mk (IsS48.grown (by repeat (first | (with_reducible first | exact HI0.out | apply IsS48.alloc | apply IsS48.drewN | apply IsS48.drew | apply IsS48.set_1 | apply IsS48.set_2) | exact HI0.out)) hg (IsS48.own_ne HI0.out HO_3.out (by decide))); have n1_ := Aside0.mk (hb); have n2_ := Aside0.mk (Kept.of_grown (S := (fun k_ => (P3_ k_) ∨ k_ = g)) hg (by repeat (first | (with_reducible first | exact HK.out | apply Kept.alloc | apply Kept.drewN | apply Kept.drew | refine Kept.setCell ?_ (.inl (.inr rfl)) _) | exact HK.out)) (fun k_ e_ => Or.imp_left Or.inl ((HO_3.out.1 k_ e_)))); have n3_ := Aside0.mk (ho); clear HI0; clear HB; clear HK; clear HO_3; have HI0 := n0_; have HB := n1_; have HK := n2_; have HO351 := n3_; clear n0_ n1_ n2_ n3_; clear ho hb hg hat))
              go_meet
              case rel => exact ⟨_, (y349), (t340), (t344), (t345), sr, H', ⟨by have := HJ4.out; first | omega | exact Nat.le_refl _⟩, ⟨R_later HO351.out⟩, ⟨by repeat (first | (with_reducible first | exact HI0.out | apply IsS48.alloc | apply IsS48.drewN | apply IsS48.drew | apply IsS48.set_1 | apply IsS48.set_2) | exact HI0.out)⟩, ⟨by repeat (first | (with_reducible first | exact HK.out | apply Kept.alloc | apply Kept.drewN | apply Kept.drew | refine Kept.setCell ?_ (.inl (.inr rfl)) _) | exact HK.out)⟩, ⟨by repeat (first | (with_reducible first | exact HB.out | apply below_alloc | apply pw_below_drewN | apply below_drew1 | refine below_set ?_ (IsS48.ge HI0.out)) | exact HB.out)⟩⟩
          · rw [if_neg c14] at H
            have c14b0 : (((rd_T61 l1 a2).f2) == 2) = false := beq_eq_false_iff_ne.mpr c14
            have c14b1 : (((rd_T61 l1 a2).f2) != 2) = true := bne_iff_ne.mpr c14
            replace H := ifs H
            obtain ⟨c28, H⟩ := H
            have LMc28 := Aside0.mk c28
            clear c28
            obtain ⟨y352, hy352⟩ : ∃ y_ : List (S33), y_ = (l3 ++ [(⟨t336, (⟨#[]⟩ : ByteArray)⟩ : S33)]) := ⟨_, rfl⟩
            replace H : (spec_l13DrawPart.j1 kj4 l1 a2 y352 t336 s0_0 t337 t338) = some (r1, r2, r3) := by first | (rw [hy352]; with_reducible exact H) | (rw [hy352]; exact H) | exact H
            have Ny352 := Aside0.mk hy352
            clear hy352
            have H' := Aside0.mk H
            clear H
            go_wp2_with (first | ((with_reducible refine gate_callee (f := 13) rfl ?_); refine gl_ (some 24) Try.func13 #[.pointer (some ⟨g, 0, none⟩), .int .i64 2] rfl ?_; (with_reducible refine (spec_l1Below.calls g s0_0 s0_1 s0_2 2 t336 t337 t338 w0 _ ?side1 ?side2 A11.out).mono ?_); (case side1 => repeat (first | (with_reducible first | exact HI0.out | apply IsS48.alloc | apply IsS48.drewN | apply IsS48.drew | apply IsS48.set_1 | apply IsS48.set_2) | exact HI0.out)); (case side2 => repeat (first | (with_reducible first | exact HB.out | apply below_alloc | apply pw_below_drewN | apply below_drew1 | refine below_set ?_ (IsS48.ge HI0.out)) | exact HB.out)); rintro e w29 ⟨rfl, hi, hb, hk⟩; refine ⟨_, rfl, ?_⟩; replace HO_3 := Aside0.mk (Kd.R_mono (Kd.R_keep (IsS48.apart (show IsS48 w0 _ g s0_0 s0_1 s0_2 from by repeat (first | (with_reducible first | exact HI0.out | apply IsS48.alloc | apply IsS48.drewN | apply IsS48.drew | apply IsS48.set_1 | apply IsS48.set_2) | exact HI0.out)) (R_later HO_3.out) (by decide)) hk (fun _ h => h.2)) (fun _ h => h.1)); replace HK := Aside0.mk (Kept.of_keep (S := (fun k_ => (P3_ k_) ∨ k_ = g)) (by repeat (first | (with_reducible first | exact HK.out | apply Kept.alloc | apply Kept.drewN | apply Kept.drew | refine Kept.setCell ?_ (.inl (.inr rfl)) _) | exact HK.out)) hk (.inl (.inr rfl))); replace HB := Aside0.mk (hb); replace HI0 := Aside0.mk (hi); (try clear hb); (try clear hk); (try clear hi); have p339 : 0 ≤ (a2 : Int) := dcd; have q339 : a2 < (l1.length : Int) := dcd; obtain ⟨ad339, e339, hx339_0, hx339_1, hx339_2, hx339_3⟩ := at_T61 (Kd.C_kept_now HR1.out HK.out) a2 p339 q339; cases e339; replace p339 := eq_true p339; replace q339 := eq_true q339) | ((with_reducible refine gate_builtin (b := .append) (xs := #[.tmp 35, .tmp 38]) rfl ?_); at_builtin; refine Kd.R_append k33 (w0 := w0) w0.heap.size rfl (.tmp 35) (.tmp 38) 66 33 (.agg #[(.int .i64 0), (.string ⟨#[]⟩)]) 24 rfl Try.underlying66 info33 rfl (by decide) (by omega) u9000_ l3 (⟨t336, (⟨#[]⟩ : ByteArray)⟩ : S33) [.int .i64 t336, .string (⟨#[]⟩ : ByteArray)] (fun k_ => (P3_ k_ ∨ w.heap.size ≤ k_)) (fun _ => False) rfl rfl ?aP (fun _ hk => hk.elim) ?aF ?aO ?aB ?aS ?aL ?_; (case aP => exact k33_mkM _ _ _ (⟨t336, (⟨#[]⟩ : ByteArray)⟩ : S33)); (case aB => exact (by repeat (first | (with_reducible first | exact HB.out | apply below_alloc | apply pw_below_drewN | apply below_drew1 | refine below_set ?_ (IsS48.ge HI0.out)) | exact HB.out))); (case aF => exact (fun k_ hk => (.inr (Nat.le_trans (by first | exact HK.out.1 | exact (show Kept w _ (fun k_ => (P3_ k_) ∨ k_ = g) from by repeat (first | (with_reducible first | exact HK.out | apply Kept.alloc | apply Kept.drewN | apply Kept.drew | refine Kept.setCell ?_ (.inl (.inr rfl)) _) | exact HK.out)).1) hk)))); (case aO => exact (R_later HO_3.out)); (case aS => exact (below_size (by repeat (first | (with_reducible first | exact HB.out | apply below_alloc | apply pw_below_drewN | apply below_drew1 | refine below_set ?_ (IsS48.ge HI0.out)) | exact HB.out)))); (case aL => have := LMc28.out; omega); intro v353 w30 ho hb hg hat; rw [← Ny352.out] at ho; have n0_ := Aside0.mk (IsS48.grown (by repeat (first | (with_reducible first | exact HI0.out | apply IsS48.alloc | apply IsS48.drewN | apply IsS48.drew | apply IsS48.set_1 | apply IsS48.set_2) | exact HI0.out)) hg (IsS48.own_ne HI0.out HO_3.out (by decide))); have n1_ := Aside0.mk (hb); have n2_ := Aside0.mk (Kept.of_grown (S := (fun k_ => (P3_ k_) ∨ k_ = g)) hg (by repeat (first | (with_reducible first | exact HK.out | apply Kept.alloc | apply Kept.drewN | apply Kept.drew | refine Kept.setCell ?_ (.inl (.inr rfl)) _) | exact HK.out)) (fun k_ e_ => Or.imp_left Or.inl ((HO_3.out.1 k_ e_)))); have n3_ := Aside0.mk (ho); clear HI0; clear HB; clear HK; clear HO_3; have HI0 := n0_; have HB := n1_; have HK := n2_; have HO354 := n3_; clear n0_ n1_ n2_ n3_; clear ho hb hg hat))
            go_meet
            case rel => exact ⟨_, (y352), (t336), (t337), (t338), sr, H', ⟨by have := HJ4.out; first | omega | exact Nat.le_refl _⟩, ⟨R_later HO354.out⟩, ⟨by repeat (first | (with_reducible first | exact HI0.out | apply IsS48.alloc | apply IsS48.drewN | apply IsS48.drew | apply IsS48.set_1 | apply IsS48.set_2) | exact HI0.out)⟩, ⟨by repeat (first | (with_reducible first | exact HK.out | apply Kept.alloc | apply Kept.drewN | apply Kept.drew | refine Kept.setCell ?_ (.inl (.inr rfl)) _) | exact HK.out)⟩, ⟨by repeat (first | (with_reducible first | exact HB.out | apply below_alloc | apply pw_below_drewN | apply below_drew1 | refine below_set ?_ (IsS48.ge HI0.out)) | exact HB.out)⟩⟩
        · replace c10 := Bool.eq_false_iff.mpr c10
          subst c10
          replace H := ifn Bool.false_ne_true H
          have H' := Aside0.mk H
          clear H
          go_wp2
          go_meet
          case rel => exact ⟨_, (l3), (1), (s0_1), (s0_2), sr, H', ⟨by have := HJ4.out; first | omega | exact Nat.le_refl _⟩, ⟨R_later HO_3.out⟩, ⟨by repeat (first | (with_reducible first | exact HI0.out | apply IsS48.alloc | apply IsS48.drewN | apply IsS48.drew | apply IsS48.set_1 | apply IsS48.set_2) | exact HI0.out)⟩, ⟨by repeat (first | (with_reducible first | exact HK.out | apply Kept.alloc | apply Kept.drewN | apply Kept.drew | refine Kept.setCell ?_ (.inl (.inr rfl)) _) | exact HK.out)⟩, ⟨by repeat (first | (with_reducible first | exact HB.out | apply below_alloc | apply pw_below_drewN | apply below_drew1 | refine below_set ?_ (IsS48.ge HI0.out)) | exact HB.out)⟩⟩
      case rest =>
        clear HC9
        try clear c1
        obtain ⟨kq, x3_8, x9_8, x1001_8, x1002_8, rfl, HA, HJ8, HO_3, HI0, HK, HB⟩ := hcut
        cases kq with
        | zero => exact absurd HA.out (by simp [spec_l13DrawPart.j1])
        | succ kj8 =>
          have H := HA.out
          clear HA
          simp only [spec_l13DrawPart.j1] at H
          have H' := Aside0.mk H
          clear H
          go_wp2
          go_loopg [3, 10] kj8 (fun kq v3 v10 w' => ∃ (x3_3 : List (S33)) (x10_3 : Int) (x1001_3 : Int) (x1002_3 : Int), v10 = .int .i64 x10_3 ∧ Aside0 (spec_l13DrawPart.l0 kq l1 a2 x3_3 x9_8 x10_3 s0_0 x1001_3 x1002_3 = some (r1, r2, r3)) ∧ Aside0 (kq ≤ kj8) ∧ Aside0 (Kd.R k33 33 w' w0.heap.size (fun k_ => (P3_ k_ ∨ w.heap.size ≤ k_)) v3 x3_3) ∧ Aside0 (IsS48 w0 w' g s0_0 x1001_3 x1002_3) ∧ Aside0 (Kept w w' (fun k_ => (P3_ k_) ∨ k_ = g)) ∧ Aside0 (Below w0.heap.size w0 w'))
          case atStart => exact ⟨(x3_8), (0), (x1001_8), (x1002_8), sr, H', ⟨Nat.le_refl _⟩, ⟨R_later HO_3.out⟩, ⟨by repeat (first | (with_reducible first | exact HI0.out | apply IsS48.alloc | apply IsS48.drewN | apply IsS48.drew | apply IsS48.set_1 | apply IsS48.set_2) | exact HI0.out)⟩, ⟨by repeat (first | (with_reducible first | exact HK.out | apply Kept.alloc | apply Kept.drewN | apply Kept.drew | refine Kept.setCell ?_ (.inl (.inr rfl)) _) | exact HK.out)⟩, ⟨by repeat (first | (with_reducible first | exact HB.out | apply below_alloc | apply pw_below_drewN | apply below_drew1 | refine below_set ?_ (IsS48.ge HI0.out)) | exact HB.out)⟩⟩
          case round =>
            clear H'
            try clear c1
            obtain ⟨x3_3, x10_3, x1001_3, x1002_3, rfl, HA, HK3, HO_3, HI0, HK, HB⟩ := hrel
            cases gk with
            | zero => exact absurd HA.out (by simp [spec_l13DrawPart.l0])
            | succ k3 =>
              have H := HA.out
              clear HA
              simp only [spec_l13DrawPart.l0] at H
              by_cases c31 : x10_3 < x9_8
              · rw [if_pos c31] at H
                have c31b0 := decide_eq_true c31
                clear c31
                replace H := ifd H
                obtain ⟨c32b0, H⟩ := H
                replace H := ifd H
                obtain ⟨c33b0, H⟩ := H
                by_cases c34 : ((rd_T61 l1 a2).f1) = 7
                · rw [if_pos c34] at H
                  have c34b0 : (((rd_T61 l1 a2).f1) == 7) = true := beq_iff_eq.mpr c34
                  have c34b1 : (((rd_T61 l1 a2).f1) != 7) = false := bne_eq_false_iff_eq.mpr c34
                  clear c34
                  have H' := Aside0.mk H
                  clear H
                  have p355 : 0 ≤ (a2 : Int) := dcd
                  have q355 : a2 < (l1.length : Int) := dcd
                  obtain ⟨ad355, e355, hx355_0, hx355_1, hx355_2, hx355_3⟩ := at_T61 (Kd.C_kept_now HR1.out HK.out) a2 p355 q355
                  cases e355
                  replace p355 := eq_true p355
                  replace q355 := eq_true q355
                  go_wp2
                  go_loopg [3, 11, 12] k3 (fun kq v3 v11 v12 w' => ∃ (x3_4 : List (S33)) (x11_4 : Int) (x12_4 : Int) (x1001_4 : Int) (x1002_4 : Int), v11 = .int .i64 x11_4 ∧ v12 = .int .i64 x12_4 ∧ Aside0 (spec_l13DrawPart.l1 kq l1 a2 x3_4 x9_8 x10_3 x11_4 x12_4 s0_0 x1001_4 x1002_4 = some (r1, r2, r3)) ∧ Aside0 (kq ≤ k3) ∧ Aside0 (Kd.R k33 33 w' w0.heap.size (fun k_ => (P3_ k_ ∨ w.heap.size ≤ k_)) v3 x3_4) ∧ Aside0 (IsS48 w0 w' g s0_0 x1001_4 x1002_4) ∧ Aside0 (Kept w w' (fun k_ => (P3_ k_) ∨ k_ = g)) ∧ Aside0 (Below w0.heap.size w0 w'))
                  case atStart => exact ⟨(x3_3), (wrap64 (a2 + 1)), (0), (x1001_3), (x1002_3), sr, sr, H', ⟨Nat.le_refl _⟩, ⟨R_later HO_3.out⟩, ⟨by repeat (first | (with_reducible first | exact HI0.out | apply IsS48.alloc | apply IsS48.drewN | apply IsS48.drew | apply IsS48.set_1 | apply IsS48.set_2) | exact HI0.out)⟩, ⟨by repeat (first | (with_reducible first | exact HK.out | apply Kept.alloc | apply Kept.drewN | apply Kept.drew | refine Kept.setCell ?_ (.inl (.inr rfl)) _) | exact HK.out)⟩, ⟨by repeat (first | (with_reducible first | exact HB.out | apply below_alloc | apply pw_below_drewN | apply below_drew1 | refine below_set ?_ (IsS48.ge HI0.out)) | exact HB.out)⟩⟩
                  case round =>
                    clear H'
                    try clear c1
                    try clear c31
                    try clear c31b0
                    try clear c32b0
                    try clear c33b0
                    try clear c34
                    try clear c34b0
                    try clear c34b1
                    try clear hx355_0
                    try clear hx355_1
                    try clear hx355_2
                    try clear hx355_3
                    try clear p355
                    try clear q355
                    obtain ⟨x3_4, x11_4, x12_4, x1001_4, x1002_4, rfl, rfl, HA, HK4, HO_3, HI0, HK, HB⟩ := hrel
                    cases gk with
                    | zero => exact absurd HA.out (by simp [spec_l13DrawPart.l1])
                    | succ k4 =>
                      have H := HA.out
                      clear HA
                      simp only [spec_l13DrawPart.l1] at H
                      replace H := ifd H
                      obtain ⟨c35b0, H⟩ := H
                      replace H := ifd H
                      obtain ⟨c36b0, H⟩ := H
                      by_cases c37 : x12_4 < ((rd_T61 l1 a2).f3)
                      · rw [if_pos c37] at H
                        have c37b0 := decide_eq_true c37
                        clear c37
                        replace H := Option.bind_eq_some_iff.mp H
                        obtain ⟨⟨t365, t368, t369⟩, A380, H⟩ := H
                        replace H : ((spec_l5After.f k4 l1 x11_4).bind fun t370 => (spec_l13DrawPart.l1 k4 l1 a2 t365 x9_8 x10_3 t370 (wrap64 (x12_4 + 1)) s0_0 t368 t369)) = some (r1, r2, r3) := H
                        have A38 := Aside0.mk A380
                        clear A380
                        replace H := bnd H
                        obtain ⟨t370, A39, H⟩ := H
                        have H' := Aside0.mk H
                        clear H
                        have p364 : 0 ≤ (a2 : Int) := dcd
                        have q364 : a2 < (l1.length : Int) := dcd
                        obtain ⟨ad364, e364, hx364_0, hx364_1, hx364_2, hx364_3⟩ := at_T61 (Kd.C_kept_now HR1.out HK.out) a2 p364 q364
                        obtain rfl : ad355 = ad364 := (by injection e364)
                        replace p364 := eq_true p364
                        replace q364 := eq_true q364
                        obtain ⟨Ao40, co40, eo40⟩ := Kd.R_slice HO_3.out
                        subst eo40
                        go_wp2_with (first | ((with_reducible refine gate_callee (f := 34) rfl ?_); refine gl_ (some 76) Try.func34 #[.pointer (some ⟨g, 0, none⟩), .slice (some ad355) l1.length c1, .int .i64 x11_4, .slice Ao40 x3_4.length co40] rfl ?_; (with_reducible refine (ih k4 (by have := HJ4.out; have := HJ8.out; have := HK3.out; have := HK4.out; omega) g s0_0 x1001_4 x1002_4 _ _ l1 x11_4 (fun k_ => some k_ = (.slice Ao40 x3_4.length co40 : Value).ownBlock) (.slice Ao40 x3_4.length co40) x3_4 t365 t368 t369 w0 _ ?side1 ?side2 ?side3 ?side4 ?side5 A38.out).mono ?_); (case side1 => repeat (first | (with_reducible first | exact HI0.out | apply IsS48.alloc | apply IsS48.drewN | apply IsS48.drew | apply IsS48.set_1 | apply IsS48.set_2) | exact HI0.out)); (case side2 => repeat (first | (with_reducible first | exact HB.out | apply below_alloc | apply pw_below_drewN | apply below_drew1 | refine below_set ?_ (IsS48.ge HI0.out)) | exact HB.out)); (case side3 => exact Kd.C_kept_call HR1.out (by repeat (first | (with_reducible first | exact HK.out | apply Kept.alloc | apply Kept.drewN | apply Kept.drew | refine Kept.setCell ?_ (.inl (.inr rfl)) _) | exact HK.out)) (fun k_ hs_ => Or.elim hs_ (fun hs_ => (fun e_ => Or.imp_left Or.inl ((HO_3.out.1 k_ e_.symm))) hs_) (fun e_ => .inl (.inr e_)))); (case side4 => exact HC1.out); (case side5 => exact Kd.R_tight rfl HO_3.out); rintro e w41 ⟨v366, rfl, ho0, hi, hb, hkp⟩; refine ⟨_, rfl, ?_⟩; have n0_ := Aside0.mk (hi); have n1_ := Aside0.mk (Kd.R_mono (ok' := fun k_ => (P3_ k_ ∨ w.heap.size ≤ k_)) ho0 (fun k_ hk_ => Or.elim hk_ (fun hs_ => (HO_3.out.1 k_ (hs_).symm)) (fun hn_ => (.inr (Nat.le_trans (by first | exact HK.out.1 | exact (show Kept w _ (fun k_ => (P3_ k_) ∨ k_ = g) from by repeat (first | (with_reducible first | exact HK.out | apply Kept.alloc | apply Kept.drewN | apply Kept.drew | refine Kept.setCell ?_ (.inl (.inr rfl)) _) | exact HK.out)).1) hn_))))); have n2_ := Aside0.mk (Kept.then_ (S := (fun k_ => (P3_ k_) ∨ k_ = g)) (by repeat (first | (with_reducible first | exact HK.out | apply Kept.alloc | apply Kept.drewN | apply Kept.drew | refine Kept.setCell ?_ (.inl (.inr rfl)) _) | exact HK.out)) hkp (fun k_ hs_ => Or.elim hs_ (fun hs_ => (fun e_ => Or.imp_left Or.inl ((HO_3.out.1 k_ e_.symm))) hs_) (fun e_ => .inl (.inr e_)))); have n3_ := Aside0.mk (hb); clear HI0; clear HK; clear HB; clear HO_3; have HI0 := n0_; have HO367 := n1_; have HK := n2_; have HB := n3_; clear n0_ n1_ n2_ n3_; (try clear hb); (try clear hkp); (try clear ho0)) | ((with_reducible refine gate_callee (f := 33) rfl ?_); refine gl_ (some 79) Try.func33 #[.slice (some ad355) l1.length c1, .int .i64 x11_4] rfl ?_; (with_reducible refine (spec_l5After.calls k4 _ _ l1 x11_4 t370 _ ?side1 ?side2 A39.out).mono ?_); (case side1 => exact Kd.C_kept_now HR1.out (by repeat (first | (with_reducible first | exact HK.out | apply Kept.alloc | apply Kept.drewN | apply Kept.drew | refine Kept.setCell ?_ (.inl (.inr rfl)) _) | exact HK.out))); (case side2 => exact HC1.out); rintro e w' ⟨rfl, ⟨nd, rfl⟩⟩; refine ⟨_, rfl, ?_⟩))
                        go_roundg k4
                        case measure => have := HJ4.out; have := HJ8.out; have := HK3.out; have := HK4.out; omega
                        case rel => exact ⟨(t365), (t370), (wrap64 (x12_4 + 1)), (t368), (t369), sr, sr, H', ⟨by have := HJ4.out; have := HJ8.out; have := HK3.out; have := HK4.out; omega⟩, ⟨R_later HO367.out⟩, ⟨by repeat (first | (with_reducible first | exact HI0.out | apply IsS48.alloc | apply IsS48.drewN | apply IsS48.drew | apply IsS48.set_1 | apply IsS48.set_2) | exact HI0.out)⟩, ⟨by repeat (first | (with_reducible first | exact HK.out | apply Kept.alloc | apply Kept.drewN | apply Kept.drew | refine Kept.setCell ?_ (.inl (.inr rfl)) _) | exact HK.out)⟩, ⟨by repeat (first | (with_reducible first | exact HB.out | apply below_alloc | apply pw_below_drewN | apply below_drew1 | refine below_set ?_ (IsS48.ge HI0.out)) | exact HB.out)⟩⟩
                      · rw [if_neg c37] at H
                        have c37b0 := decide_eq_false c37
                        clear c37
                        have H' := Aside0.mk H
                        clear H
                        have p364 : 0 ≤ (a2 : Int) := dcd
                        have q364 : a2 < (l1.length : Int) := dcd
                        obtain ⟨ad364, e364, hx364_0, hx364_1, hx364_2, hx364_3⟩ := at_T61 (Kd.C_kept_now HR1.out HK.out) a2 p364 q364
                        obtain rfl : ad355 = ad364 := (by injection e364)
                        replace p364 := eq_true p364
                        replace q364 := eq_true q364
                        go_wp2
                        go_roundg k4
                        case measure => have := HJ4.out; have := HJ8.out; have := HK3.out; have := HK4.out; omega
                        case rel => exact ⟨(x3_4), (wrap64 (x10_3 + 1)), (x1001_4), (x1002_4), sr, H', ⟨by have := HJ4.out; have := HJ8.out; have := HK3.out; have := HK4.out; omega⟩, ⟨R_later HO_3.out⟩, ⟨by repeat (first | (with_reducible first | exact HI0.out | apply IsS48.alloc | apply IsS48.drewN | apply IsS48.drew | apply IsS48.set_1 | apply IsS48.set_2) | exact HI0.out)⟩, ⟨by repeat (first | (with_reducible first | exact HK.out | apply Kept.alloc | apply Kept.drewN | apply Kept.drew | refine Kept.setCell ?_ (.inl (.inr rfl)) _) | exact HK.out)⟩, ⟨by repeat (first | (with_reducible first | exact HB.out | apply below_alloc | apply pw_below_drewN | apply below_drew1 | refine below_set ?_ (IsS48.ge HI0.out)) | exact HB.out)⟩⟩
                · rw [if_neg c34] at H
                  have c34b0 : (((rd_T61 l1 a2).f1) == 7) = false := beq_eq_false_iff_ne.mpr c34
                  have c34b1 : (((rd_T61 l1 a2).f1) != 7) = true := bne_iff_ne.mpr c34
                  replace H := Option.bind_eq_some_iff.mp H
                  obtain ⟨⟨t357, t358, t359, t360⟩, A420, H⟩ := H
                  replace H : (if x3_3.length < 5864062014805 then (spec_l13DrawPart.l0 k3 l1 a2 (x3_3 ++ [(⟨t357, t358⟩ : S33)]) x9_8 (wrap64 (x10_3 + 1)) s0_0 t359 t360) else (none)) = some (r1, r2, r3) := H
                  have A42 := Aside0.mk A420
                  clear A420
                  replace H := ifs H
                  obtain ⟨c43, H⟩ := H
                  have LMc43 := Aside0.mk c43
                  clear c43
                  obtain ⟨y361, hy361⟩ : ∃ y_ : List (S33), y_ = (x3_3 ++ [(⟨t357, t358⟩ : S33)]) := ⟨_, rfl⟩
                  replace H : (spec_l13DrawPart.l0 k3 l1 a2 y361 x9_8 (wrap64 (x10_3 + 1)) s0_0 t359 t360) = some (r1, r2, r3) := by first | (rw [hy361]; with_reducible exact H) | (rw [hy361]; exact H) | exact H
                  have Ny361 := Aside0.mk hy361
                  clear hy361
                  have H' := Aside0.mk H
                  clear H
                  have p355 : 0 ≤ (a2 : Int) := dcd
                  have q355 : a2 < (l1.length : Int) := dcd
                  obtain ⟨ad355, e355, hx355_0, hx355_1, hx355_2, hx355_3⟩ := at_T61 (Kd.C_kept_now HR1.out HK.out) a2 p355 q355
                  cases e355
                  replace p355 := eq_true p355
                  replace q355 := eq_true q355
                  have p356 : 0 ≤ (a2 : Int) := dcd
                  have q356 : a2 < (l1.length : Int) := dcd
                  obtain ⟨ad356, e356, hx356_0, hx356_1, hx356_2, hx356_3⟩ := at_T61 (Kd.C_kept_now HR1.out HK.out) a2 p356 q356
                  obtain rfl : ad355 = ad356 := (by injection e356)
                  replace p356 := eq_true p356
                  replace q356 := eq_true q356
                  go_wp2_with (first | ((with_reducible refine gate_callee (f := 42) rfl ?_); refine gl_ (some 58) Try.func42 #[.pointer (some ⟨g, 0, none⟩), .int .i64 ((rd_T61 l1 a2).f1)] rfl ?_; (with_reducible refine (spec_l6DrawRight.calls k3 g s0_0 x1001_3 x1002_3 ((rd_T61 l1 a2).f1) t357 t358 t359 t360 w0 _ ?side1 ?side2 A42.out).mono ?_); (case side1 => repeat (first | (with_reducible first | exact HI0.out | apply IsS48.alloc | apply IsS48.drewN | apply IsS48.drew | apply IsS48.set_1 | apply IsS48.set_2) | exact HI0.out)); (case side2 => repeat (first | (with_reducible first | exact HB.out | apply below_alloc | apply pw_below_drewN | apply below_drew1 | refine below_set ?_ (IsS48.ge HI0.out)) | exact HB.out)); rintro e w44 ⟨rfl, hi, hb, hk⟩; refine ⟨_, rfl, ?_⟩; replace HO_3 := Aside0.mk (Kd.R_mono (Kd.R_keep (IsS48.apart (show IsS48 w0 _ g s0_0 x1001_3 x1002_3 from by repeat (first | (with_reducible first | exact HI0.out | apply IsS48.alloc | apply IsS48.drewN | apply IsS48.drew | apply IsS48.set_1 | apply IsS48.set_2) | exact HI0.out)) (R_later HO_3.out) (by decide)) hk (fun _ h => h.2)) (fun _ h => h.1)); replace HK := Aside0.mk (Kept.of_keep (S := (fun k_ => (P3_ k_) ∨ k_ = g)) (by repeat (first | (with_reducible first | exact HK.out | apply Kept.alloc | apply Kept.drewN | apply Kept.drew | refine Kept.setCell ?_ (.inl (.inr rfl)) _) | exact HK.out)) hk (.inl (.inr rfl))); replace HB := Aside0.mk (hb); replace HI0 := Aside0.mk (hi); (try clear hb); (try clear hk); (try clear hi)) | ((with_reducible refine gate_builtin (b := .append) (xs := #[.tmp 51, .tmp 59]) rfl ?_); at_builtin; refine Kd.R_append k33 (w0 := w0) w0.heap.size rfl (.tmp 51) (.tmp 59) 66 33 (.agg #[(.int .i64 0), (.string ⟨#[]⟩)]) 24 rfl Try.underlying66 info33 rfl (by decide) (by omega) u3 x3_3 (⟨t357, t358⟩ : S33) [.int .i64 t357, .string t358] (fun k_ => (P3_ k_ ∨ w.heap.size ≤ k_)) (fun _ => False) rfl rfl ?aP (fun _ hk => hk.elim) ?aF ?aO ?aB ?aS ?aL ?_; (case aP => exact k33_mkM _ _ _ (⟨t357, t358⟩ : S33)); (case aB => exact (by repeat (first | (with_reducible first | exact HB.out | apply below_alloc | apply pw_below_drewN | apply below_drew1 | refine below_set ?_ (IsS48.ge HI0.out)) | exact HB.out))); (case aF => exact (fun k_ hk => (.inr (Nat.le_trans (by first | exact HK.out.1 | exact (show Kept w _ (fun k_ => (P3_ k_) ∨ k_ = g) from by repeat (first | (with_reducible first | exact HK.out | apply Kept.alloc | apply Kept.drewN | apply Kept.drew | refine Kept.setCell ?_ (.inl (.inr rfl)) _) | exact HK.out)).1) hk)))); (case aO => exact (R_later HO_3.out)); (case aS => exact (below_size (by repeat (first | (with_reducible first | exact HB.out | apply below_alloc | apply pw_below_drewN | apply below_drew1 | refine below_set ?_ (IsS48.ge HI0.out)) | exact HB.out)))); (case aL => have := LMc43.out; omega); intro v362 w45 ho hb hg hat; rw [← Ny361.out] at ho; have n0_ := Aside0.mk (IsS48.grown (by repeat (first | (with_reducible first | exact HI0.out | apply IsS48.alloc | apply IsS48.drewN | apply IsS48.drew | apply IsS48.set_1 | apply IsS48.set_2) | exact HI0.out)) hg (IsS48.own_ne HI0.out HO_3.out (by decide))); have n1_ := Aside0.mk (hb); have n2_ := Aside0.mk (Kept.of_grown (S := (fun k_ => (P3_ k_) ∨ k_ = g)) hg (by repeat (first | (with_reducible first | exact HK.out | apply Kept.alloc | apply Kept.drewN | apply Kept.drew | refine Kept.setCell ?_ (.inl (.inr rfl)) _) | exact HK.out)) (fun k_ e_ => Or.imp_left Or.inl ((HO_3.out.1 k_ e_)))); have n3_ := Aside0.mk (ho); clear HI0; clear HB; clear HK; clear HO_3; have HI0 := n0_; have HB := n1_; have HK := n2_; have HO363 := n3_; clear n0_ n1_ n2_ n3_; clear ho hb hg hat))
                  go_roundg k3
                  case measure => have := HJ4.out; have := HJ8.out; have := HK3.out; omega
                  case rel => exact ⟨(y361), (wrap64 (x10_3 + 1)), (t359), (t360), sr, H', ⟨by have := HJ4.out; have := HJ8.out; have := HK3.out; omega⟩, ⟨R_later HO363.out⟩, ⟨by repeat (first | (with_reducible first | exact HI0.out | apply IsS48.alloc | apply IsS48.drewN | apply IsS48.drew | apply IsS48.set_1 | apply IsS48.set_2) | exact HI0.out)⟩, ⟨by repeat (first | (with_reducible first | exact HK.out | apply Kept.alloc | apply Kept.drewN | apply Kept.drew | refine Kept.setCell ?_ (.inl (.inr rfl)) _) | exact HK.out)⟩, ⟨by repeat (first | (with_reducible first | exact HB.out | apply below_alloc | apply pw_below_drewN | apply below_drew1 | refine below_set ?_ (IsS48.ge HI0.out)) | exact HB.out)⟩⟩
              · rw [if_neg c31] at H
                have c31b0 := decide_eq_false c31
                clear c31
                simp only [Option.some.injEq, Prod.mk.injEq] at H
                obtain ⟨rfl, rfl, rfl⟩ := H
                go_wp2
                go_ret
                exact ⟨_, by first | rfl | (simp [errW_none, errW_some] <;> rfl) | (simp [*, errW_none, errW_some] <;> rfl), by (with_reducible repeat (first | apply Kd.R_alloc | apply Kd.R_drewN | apply Kd.R_drew)); exact HO_3.out, by repeat (first | (with_reducible first | exact HI0.out | apply IsS48.alloc | apply IsS48.drewN | apply IsS48.drew | apply IsS48.set_1 | apply IsS48.set_2) | exact HI0.out), by repeat (first | (with_reducible first | exact HB.out | apply below_alloc | apply pw_below_drewN | apply below_drew1 | refine below_set ?_ (IsS48.ge HI0.out)) | exact HB.out), by repeat (first | (with_reducible first | exact HK.out | apply Kept.alloc | apply Kept.drewN | apply Kept.drew | refine Kept.setCell ?_ (.inl (.inr rfl)) _) | exact HK.out)⟩

/-! ### spec_l13Empty: function 43 -/
mutual
def spec_l13Empty.j0 : Nat → List (S61) → Int → Bool → Option ((List (S33)))
  | 0, _, _, _ => none
  | k + 1, x0, x1, x25 => if x25 = true then (some (([(⟨0, (⟨#[]⟩ : ByteArray)⟩ : S33)] : List (S33)))) else (spec_l13Empty.l0 k x0 x1 (([] : List (S33))) (wrap64 (x1 + 1)) 0)
def spec_l13Empty.l0 : Nat → List (S61) → Int → List (S33) → Int → Int → Option ((List (S33)))
  | 0, _, _, _, _, _ => none
  | k + 1, x0, x1, x5, x6, x7 => if 0 ≤ x1 then (if x1 < (x0.length : Int) then (if x7 < ((rd_T61 x0 x1).f3) then ((spec_l13Empty.f k x0 x6).bind fun t381 => (if x5.length + t381.length < 5864062014805 then ((spec_l5After.f k x0 x6).bind fun t387 => (spec_l13Empty.l0 k x0 x1 (x5 ++ t381) t387 (wrap64 (x7 + 1)))) else (none))) else (some x5)) else (none)) else (none)
def spec_l13Empty.f : Nat → List (S61) → Int → Option ((List (S33)))
  | 0, _, _ => none
  | k + 1, l0, a1 => if a1 > 0 then (if 0 ≤ a1 then (if a1 < (l0.length : Int) then (if ((rd_T61 l0 a1).f2) = 0 then (spec_l13Empty.j0 k l0 a1 (((rd_T61 l0 a1).f1) != 7)) else (spec_l13Empty.j0 k l0 a1 true)) else (none)) else (none)) else (if 0 ≤ a1 then (if a1 < (l0.length : Int) then (spec_l13Empty.j0 k l0 a1 (((rd_T61 l0 a1).f1) != 7)) else (none)) else (none))
end
set_option maxHeartbeats 8000000 in
set_option maxRecDepth 100000 in
theorem spec_l13Empty.calls (k : Nat) : ∀ (A0 : Option Addr) (c0 : Nat) (l0 : List (S61)) (a1 : Int) (r : List (S33)) (w : World) (hr0 : Kd.C k61 w A0 l0.length l0) (hc0 : l0.length ≤ c0) (h : spec_l13Empty.f k l0 a1 = some r),
    Calls Try.prog 43 #[.slice A0 l0.length c0, .int .i64 a1] w fun e w' => ∃ v0_ : Value, e = .returned (v0_) ∧ Kd.R k33 33 w' w.heap.size (fun _ => True) v0_ r ∧ Below w.heap.size w w' := by
  induction k using Nat.strongRecOn with
  | _ k ih =>
  intro A0 c0 l0 a1 r w hr0 hc0 h
  cases k with
  | zero => exact absurd h (by simp [spec_l13Empty.f])
  | succ k =>
  simp only [spec_l13Empty.f] at h
  have hu33 := Try.underlying33
  have HR0 := Aside0.mk hr0
  have HC0 := Aside0.mk hc0
  clear hr0 hc0
  have HB := Aside0.mk (Below.refl w.heap.size w)
  have H : (if a1 > 0 then (if 0 ≤ a1 then (if a1 < (l0.length : Int) then (if ((rd_T61 l0 a1).f2) = 0 then (spec_l13Empty.j0 k l0 a1 (((rd_T61 l0 a1).f1) != 7)) else (spec_l13Empty.j0 k l0 a1 true)) else (none)) else (none)) else (if 0 ≤ a1 then (if a1 < (l0.length : Int) then (spec_l13Empty.j0 k l0 a1 (((rd_T61 l0 a1).f1) != 7)) else (none)) else (none))) = some r := h
  clear h
  have HC3 := Aside0.mk H
  clear H
  go_enter Try.func43, Try.ntmps43
  go_upto_region 1 with (fail)
  go_cut [25] (fun v25 wc => ∃ (kq : Nat) (x25_2 : Bool), v25 = .bool x25_2 ∧ Aside0 (spec_l13Empty.j0 kq l0 a1 x25_2 = some r) ∧ Aside0 (kq ≤ k) ∧ Aside0 (Below w.heap.size w wc))
  case first =>
    have H := HC3.out
    clear HC3
    by_cases c4 : a1 > 0
    · rw [if_pos c4] at H
      have c4b0 : decide (0 < a1) = true := decide_eq_true c4
      clear c4
      (first | rw [c4b0] | (simp only [i64_w, i32_w]; rw [c4b0]) | skip)
      replace H := ifd H
      obtain ⟨c5b0, H⟩ := H
      replace H := ifd H
      obtain ⟨c6b0, H⟩ := H
      by_cases c7 : ((rd_T61 l0 a1).f2) = 0
      · rw [if_pos c7] at H
        have c7b0 : (((rd_T61 l0 a1).f2) == 0) = true := beq_iff_eq.mpr c7
        have c7b1 : (((rd_T61 l0 a1).f2) != 0) = false := bne_eq_false_iff_eq.mpr c7
        clear c7
        have H' := Aside0.mk H
        clear H
        have p371 : 0 ≤ (a1 : Int) := dcd
        have q371 : a1 < (l0.length : Int) := dcd
        obtain ⟨ad371, e371, hx371_0, hx371_1, hx371_2, hx371_3⟩ := at_T61 HR0.out a1 p371 q371
        cases e371
        replace hx371_0 := crd HB hx371_0
        replace hx371_1 := crd HB hx371_1
        replace hx371_2 := crd HB hx371_2
        replace hx371_3 := crd HB hx371_3
        replace p371 := eq_true p371
        replace q371 := eq_true q371
        have p372 : 0 ≤ (a1 : Int) := dcd
        have q372 : a1 < (l0.length : Int) := dcd
        obtain ⟨ad372, e372, hx372_0, hx372_1, hx372_2, hx372_3⟩ := at_T61 HR0.out a1 p372 q372
        obtain rfl : ad371 = ad372 := (by injection e372)
        replace hx372_0 := crd HB hx372_0
        replace hx372_1 := crd HB hx372_1
        replace hx372_2 := crd HB hx372_2
        replace hx372_3 := crd HB hx372_3
        replace p372 := eq_true p372
        replace q372 := eq_true q372
        go_wp2
        go_meet
        case rel => exact ⟨_, ((((rd_T61 l0 a1).f1) != 7)), sr, H', ⟨by first | omega | exact Nat.le_refl _⟩, ⟨below_later HB.out⟩⟩
      · rw [if_neg c7] at H
        have c7b0 : (((rd_T61 l0 a1).f2) == 0) = false := beq_eq_false_iff_ne.mpr c7
        have c7b1 : (((rd_T61 l0 a1).f2) != 0) = true := bne_iff_ne.mpr c7
        have H' := Aside0.mk H
        clear H
        have p371 : 0 ≤ (a1 : Int) := dcd
        have q371 : a1 < (l0.length : Int) := dcd
        obtain ⟨ad371, e371, hx371_0, hx371_1, hx371_2, hx371_3⟩ := at_T61 HR0.out a1 p371 q371
        cases e371
        replace hx371_0 := crd HB hx371_0
        replace hx371_1 := crd HB hx371_1
        replace hx371_2 := crd HB hx371_2
        replace hx371_3 := crd HB hx371_3
        replace p371 := eq_true p371
        replace q371 := eq_true q371
        go_wp2
        go_meet
        case rel => exact ⟨_, (true), sr, H', ⟨by first | omega | exact Nat.le_refl _⟩, ⟨below_later HB.out⟩⟩
    · rw [if_neg c4] at H
      have c4b0 : decide (0 < a1) = false := decide_eq_false c4
      clear c4
      (first | rw [c4b0] | (simp only [i64_w, i32_w]; rw [c4b0]) | skip)
      replace H := ifd H
      obtain ⟨c8b0, H⟩ := H
      replace H := ifd H
      obtain ⟨c9b0, H⟩ := H
      have H' := Aside0.mk H
      clear H
      have p373 : 0 ≤ (a1 : Int) := dcd
      have q373 : a1 < (l0.length : Int) := dcd
      obtain ⟨ad373, e373, hx373_0, hx373_1, hx373_2, hx373_3⟩ := at_T61 HR0.out a1 p373 q373
      cases e373
      replace hx373_0 := crd HB hx373_0
      replace hx373_1 := crd HB hx373_1
      replace hx373_2 := crd HB hx373_2
      replace hx373_3 := crd HB hx373_3
      replace p373 := eq_true p373
      replace q373 := eq_true q373
      go_wp2
      go_meet
      case rel => exact ⟨_, ((((rd_T61 l0 a1).f1) != 7)), sr, H', ⟨by first | omega | exact Nat.le_refl _⟩, ⟨below_later HB.out⟩⟩
  case rest =>
    clear HC3
    obtain ⟨kq, x25_2, rfl, HA, HJ2, HB⟩ := hcut
    cases kq with
    | zero => exact absurd HA.out (by simp [spec_l13Empty.j0])
    | succ kj2 =>
      have H := HA.out
      clear HA
      simp only [spec_l13Empty.j0] at H
      by_cases c10 : x25_2 = true
      · subst c10
        replace H := ifp rfl H
        obtain ⟨y374, hy374⟩ : ∃ y_ : List (S33), y_ = (([(⟨0, (⟨#[]⟩ : ByteArray)⟩ : S33)] : List (S33))) := ⟨_, rfl⟩
        replace H : (some y374) = some r := by first | (rw [hy374]; with_reducible exact H) | (rw [hy374]; exact H) | exact H
        have Ny374 := Aside0.mk hy374
        clear hy374
        obtain rfl := Option.some.inj H
        go_wp2_with (first | ((with_reducible refine gate_dst (N := 27) rfl ?_); refine Kd.R_lit k33 _ 33 ?hg (N := 27) ?hd (xs := ([(⟨0, (⟨#[]⟩ : ByteArray)⟩ : S33)] : List (S33))) (inner := [.int .i64 0, .string (⟨#[]⟩ : ByteArray)]) (ok := fun _ => True) (okp := fun _ => True) ?hr ?hp (fun _ hk => hk) trivial (Below.refl _ _) (Nat.le_refl _) (by simp) ?_; (case hd => rfl); (case hg => rfl); (case hr => first | (go_simp; done) | (go_simp; rfl)); (case hp => exact (Reps.c2 (show Kd.M k33 _ _ _ (⟨0, (⟨#[]⟩ : ByteArray)⟩ : S33) [.int .i64 0, .string (⟨#[]⟩ : ByteArray)] from (k33_mkM _ _ _ (⟨0, (⟨#[]⟩ : ByteArray)⟩ : S33) )) (Reps.none _ _))); intro v375 w11 ho12 hb hg_ hnew_; clear hg_ hnew_; (first | rw [← Ny374.out] at ho12 | (simp only [Int.reduceToNat] at ho12; rw [← Ny374.out] at ho12)); have HO376 := Aside0.mk (Kd.R_lower ho12 (below_size (below_later HB.out))); replace HB := bst HB hb; clear hb ho12))
        go_ret
        exact ⟨_, by first | rfl | (simp [errW_none, errW_some] <;> rfl) | (simp [*, errW_none, errW_some] <;> rfl), by (with_reducible repeat (first | apply Kd.R_alloc | apply Kd.R_drewN | apply Kd.R_drew)); exact HO376.out, below_later HB.out⟩
      · replace c10 := Bool.eq_false_iff.mpr c10
        subst c10
        replace H := ifn Bool.false_ne_true H
        obtain ⟨y377, hy377⟩ : ∃ y_ : List (S33), y_ = (([] : List (S33))) := ⟨_, rfl⟩
        replace H : (spec_l13Empty.l0 kj2 l0 a1 y377 (wrap64 (a1 + 1)) 0) = some r := by first | (rw [hy377]; with_reducible exact H) | (rw [hy377]; exact H) | exact H
        have Ny377 := Aside0.mk hy377
        clear hy377
        have H' := Aside0.mk H
        clear H
        go_wp2_with (first | ((with_reducible refine gate_dst (N := 28) rfl ?_); refine Kd.R_lit k33 _ 33 ?hg (N := 28) ?hd (xs := ([] : List (S33))) (inner := []) (ok := fun _ => True) (okp := fun _ => True) ?hr ?hp (fun _ hk => hk) trivial (Below.refl _ _) (Nat.le_refl _) (by simp) ?_; (case hd => rfl); (case hg => rfl); (case hr => first | (go_simp; done) | (go_simp; rfl)); (case hp => exact (Reps.none _ _)); intro v378 w13 ho14 hb hg_ hnew_; clear hg_ hnew_; (first | rw [← Ny377.out] at ho14 | (simp only [Int.reduceToNat] at ho14; rw [← Ny377.out] at ho14)); have HO379 := Aside0.mk (Kd.R_lower ho14 (below_size (below_later HB.out))); replace HB := bst HB hb; clear hb ho14))
        go_loopg [5, 6, 7] kj2 (fun kq v5 v6 v7 w' => ∃ (x5_2 : List (S33)) (x6_2 : Int) (x7_2 : Int), v6 = .int .i64 x6_2 ∧ v7 = .int .i64 x7_2 ∧ Aside0 (spec_l13Empty.l0 kq l0 a1 x5_2 x6_2 x7_2 = some r) ∧ Aside0 (kq ≤ kj2) ∧ Aside0 (Kd.R k33 33 w' w.heap.size (fun _ => True) v5 x5_2) ∧ Aside0 (Below w.heap.size w w'))
        case atStart => exact ⟨(y377), (wrap64 (a1 + 1)), (0), sr, sr, H', ⟨Nat.le_refl _⟩, ⟨R_later HO379.out⟩, ⟨below_later HB.out⟩⟩
        case round =>
          clear H'
          try clear c10
          obtain ⟨x5_2, x6_2, x7_2, rfl, rfl, HA, HK2, HO_5, HB⟩ := hrel
          cases gk with
          | zero => exact absurd HA.out (by simp [spec_l13Empty.l0])
          | succ k2 =>
            have H := HA.out
            clear HA
            simp only [spec_l13Empty.l0] at H
            replace H := ifd H
            obtain ⟨c15b0, H⟩ := H
            replace H := ifd H
            obtain ⟨c16b0, H⟩ := H
            by_cases c17 : x7_2 < ((rd_T61 l0 a1).f3)
            · rw [if_pos c17] at H
              have c17b0 := decide_eq_true c17
              clear c17
              replace H := bnd H
              obtain ⟨t381, A18, H⟩ := H
              replace H := ifs H
              obtain ⟨c19, H⟩ := H
              have LMc19 := Aside0.mk c19
              clear c19
              obtain ⟨y384, hy384⟩ : ∃ y_ : List (S33), y_ = (x5_2 ++ t381) := ⟨_, rfl⟩
              replace H : ((spec_l5After.f k2 l0 x6_2).bind fun t387 => (spec_l13Empty.l0 k2 l0 a1 y384 t387 (wrap64 (x7_2 + 1)))) = some r := by first | (rw [hy384]; with_reducible exact H) | (rw [hy384]; exact H) | exact H
              have Ny384 := Aside0.mk hy384
              clear hy384
              replace H := bnd H
              obtain ⟨t387, A20, H⟩ := H
              have H' := Aside0.mk H
              clear H
              have p380 : 0 ≤ (a1 : Int) := dcd
              have q380 : a1 < (l0.length : Int) := dcd
              obtain ⟨ad380, e380, hx380_0, hx380_1, hx380_2, hx380_3⟩ := at_T61 HR0.out a1 p380 q380
              cases e380
              replace hx380_0 := crd HB hx380_0
              replace hx380_1 := crd HB hx380_1
              replace hx380_2 := crd HB hx380_2
              replace hx380_3 := crd HB hx380_3
              replace p380 := eq_true p380
              replace q380 := eq_true q380
              go_wp2_with (first | ((with_reducible refine gate_callee (f := 43) rfl ?_); refine gl_ (some 43) Try.func43 #[.slice (some ad380) l0.length c0, .int .i64 x6_2] rfl ?_; (with_reducible refine (ih k2 (by have := HJ2.out; have := HK2.out; omega) _ _ l0 x6_2 t381 _ ?side1 ?side2 A18.out).mono ?_); (case side1 => repeat (first | exact (Kd.C_below HR0.out HB.out) | (with_reducible refine Kd.C_alloc ?_ _) | (with_reducible refine Kd.C_drewN ?_ _) | (with_reducible refine Kd.C_drew ?_))); (case side2 => exact HC0.out); rintro e w21 ⟨v382, rfl, ho0, hb⟩; refine ⟨_, rfl, ?_⟩; have HO383 := Aside0.mk (Kd.R_lower (Kd.R_new' ho0 (Kd.R_lt (R_later HO_5.out))) (below_size (below_later HB.out))); replace HO_5 := Aside0.mk (Kd.R_elder' (R_later HO_5.out) (Kd.R_base ho0) hb); replace HB := bst HB hb; (try clear hb); (try clear hk); (try clear ho0); obtain ⟨Ao23, co23, eo23⟩ := Kd.R_slice HO383.out; subst eo23) | ((with_reducible refine gate_builtin (b := .append) (xs := #[.tmp 40, .tmp 43]) rfl ?_); at_builtin; refine Kd.R_append_rows k33 (w0 := w) w.heap.size rfl (.tmp 40) (.tmp 43) 66 33 (.agg #[(.int .i64 0), (.string ⟨#[]⟩)]) 24 rfl Try.underlying66 info33 rfl (by decide) (by omega) u5 x5_2 t381 _ _ _ (fun k_ => some k_ ≠ (.slice Ao23 t381.length co23 : Value).ownBlock) (fun _ => False) rfl rfl ?aO ?aR (fun _ _ h => h) (fun _ h => h.elim) ?aF ?aB ?aS ?aL ?_; (case aR => repeat (first | exact (Kd.R_reads' HO383.out).2.2 | (with_reducible refine Kd.C_alloc ?_ _) | (with_reducible refine Kd.C_drewN ?_ _) | (with_reducible refine Kd.C_drew ?_))); (case aB => exact (below_later HB.out)); (case aF => exact (fun k_ hk => Kd.fresh' (Kd.R_lt (R_later HO383.out)) k_ hk)); (case aO => exact (by (with_reducible repeat (first | apply Kd.R_alloc | apply Kd.R_drewN | apply Kd.R_drew)); exact Kd.R_mono HO_5.out (fun _ hk => hk.2))); (case aS => exact (below_size (below_later HB.out))); (case aL => have := LMc19.out; omega); intro v385 w22 ho hb hg hat; rw [← Ny384.out] at ho; have n0_ := Aside0.mk (Kd.R_after (ok := (fun _ => True)) (R_later HO383.out) hg hat); have n1_ := Aside0.mk (hb); have n2_ := Aside0.mk (ho); clear HO383; clear HB; clear HO_5; have HO383 := n0_; have HB := n1_; have HO386 := n2_; clear n0_ n1_ n2_; clear ho hb hg hat) | ((with_reducible refine gate_callee (f := 33) rfl ?_); refine gl_ (some 47) Try.func33 #[.slice (some ad380) l0.length c0, .int .i64 x6_2] rfl ?_; (with_reducible refine (spec_l5After.calls k2 _ _ l0 x6_2 t387 _ ?side1 ?side2 A20.out).mono ?_); (case side1 => repeat (first | exact (Kd.C_below HR0.out HB.out) | (with_reducible refine Kd.C_alloc ?_ _) | (with_reducible refine Kd.C_drewN ?_ _) | (with_reducible refine Kd.C_drew ?_))); (case side2 => exact HC0.out); rintro e w' ⟨rfl, ⟨nd, rfl⟩⟩; refine ⟨_, rfl, ?_⟩))
              go_roundg k2
              case measure => have := HJ2.out; have := HK2.out; omega
              case rel => exact ⟨(y384), (t387), (wrap64 (x7_2 + 1)), sr, sr, H', ⟨by have := HJ2.out; have := HK2.out; omega⟩, ⟨R_later (Kd.R_mono HO386.out (fun _ hk => trivial))⟩, ⟨below_later HB.out⟩⟩
            · rw [if_neg c17] at H
              have c17b0 := decide_eq_false c17
              clear c17
              obtain rfl := Option.some.inj H
              have p380 : 0 ≤ (a1 : Int) := dcd
              have q380 : a1 < (l0.length : Int) := dcd
              obtain ⟨ad380, e380, hx380_0, hx380_1, hx380_2, hx380_3⟩ := at_T61 HR0.out a1 p380 q380
              cases e380
              replace hx380_0 := crd HB hx380_0
              replace hx380_1 := crd HB hx380_1
              replace hx380_2 := crd HB hx380_2
              replace hx380_3 := crd HB hx380_3
              replace p380 := eq_true p380
              replace q380 := eq_true q380
              go_wp2
              go_ret
              exact ⟨_, by first | rfl | (simp [errW_none, errW_some] <;> rfl) | (simp [*, errW_none, errW_some] <;> rfl), by (with_reducible repeat (first | apply Kd.R_alloc | apply Kd.R_drewN | apply Kd.R_drew)); exact HO_5.out, below_later HB.out⟩
/-! ### spec_RecEmpty: function 35 -/
def spec_RecEmpty.f (k : Nat) (l0 : List (S61)) : Option ((List (S33)) × Bool) := (spec_SchemaOk.f k l0).bind fun t389 => (if t389 = true then ((spec_l13Empty.f k l0 0).bind fun t390 => (some (t390, true))) else (some (([] : List (S33)), false)))
set_option maxHeartbeats 8000000 in
set_option maxRecDepth 100000 in
theorem spec_RecEmpty.calls (k : Nat) (A0 : Option Addr) (c0 : Nat) (l0 : List (S61)) (r1 : List (S33)) (r2 : Bool) (w : World) (hr0 : Kd.C k61 w A0 l0.length l0) (hc0 : l0.length ≤ c0) (h : spec_RecEmpty.f k l0 = some (r1, r2)) :
    Calls Try.prog 35 #[.slice A0 l0.length c0] w fun e w' => ∃ v0_ : Value, e = .returned (.tuple #[.agg #[v0_], .bool r2]) ∧ Kd.R k33 33 w' w.heap.size (fun _ => True) v0_ r1 ∧ Below w.heap.size w w' := by
  have hu68 := Try.underlying68
  have HR0 := Aside0.mk hr0
  have HC0 := Aside0.mk hc0
  clear hr0 hc0
  have HB := Aside0.mk (Below.refl w.heap.size w)
  have H : ((spec_SchemaOk.f k l0).bind fun t389 => (if t389 = true then ((spec_l13Empty.f k l0 0).bind fun t390 => (some (t390, true))) else (some (([] : List (S33)), false)))) = some (r1, r2) := h
  clear h
  replace H := bnd H
  obtain ⟨t389, A2, H⟩ := H
  by_cases c3 : t389 = true
  · subst c3
    replace H := ifp rfl H
    replace H := bnd H
    obtain ⟨t390, A4, H⟩ := H
    simp only [Option.some.injEq, Prod.mk.injEq] at H
    obtain ⟨rfl, rfl⟩ := H
    go_enter Try.func35, Try.ntmps35
    go_wp2_with (first | ((with_reducible refine gate_dst (N := 2) rfl ?_); refine bx_ 2 #[.slice none 0 0] 68 ?_; intro gb388 hg w5 hbox hb; have BK388 := Aside0.mk (hbox); have GW388 := gwe HB hg; have GE388 := GW388; replace HB := bst HB hb; clear hb hbox hg) | ((with_reducible refine gate_callee (f := 21) rfl ?_); refine gl_ (some 5) Try.func21 #[.slice A0 l0.length c0] rfl ?_; (with_reducible refine (spec_SchemaOk.calls k _ _ l0 true _ ?side1 ?side2 A2.out).mono ?_); (case side1 => repeat (first | exact (Kd.C_below HR0.out HB.out) | (with_reducible refine Kd.C_alloc ?_ _) | (with_reducible refine Kd.C_drewN ?_ _) | (with_reducible refine Kd.C_drew ?_))); (case side2 => exact HC0.out); rintro e w6 ⟨rfl, hb⟩; refine ⟨_, rfl, ?_⟩; replace BK388 := bkb BK388 hb; replace HB := bst HB hb; (try clear hb)) | ((with_reducible refine gate_callee (f := 43) rfl ?_); refine gl_ (some 9) Try.func43 #[.slice A0 l0.length c0, .int .i64 0] rfl ?_; (with_reducible refine (spec_l13Empty.calls k _ _ l0 0 t390 _ ?side1 ?side2 A4.out).mono ?_); (case side1 => repeat (first | exact (Kd.C_below HR0.out HB.out) | (with_reducible refine Kd.C_alloc ?_ _) | (with_reducible refine Kd.C_drewN ?_ _) | (with_reducible refine Kd.C_drew ?_))); (case side2 => exact HC0.out); rintro e w7 ⟨v391, rfl, ho0, hb⟩; refine ⟨_, rfl, ?_⟩; have HO392 := Aside0.mk (Kd.R_lower ho0 (below_size (below_later HB.out))); replace BK388 := bkb BK388 hb; replace HB := bst HB hb; (try clear hb); (try clear ho0); obtain ⟨Ao8, co8, eo8⟩ := Kd.R_slice HO392.out; subst eo8; obtain ⟨hcz9_0, hfz9_0⟩ := cl1 BK388))
    refine bodyPost_ret (results_ct rfl _ _ gb388 68 #[.slice Ao8 t390.length co8] (0, 0) _ rfl (by (with_reducible repeat (first | refine blk_drewN ?_ _ | refine blk_drew ?_ | refine blk_alloc ?_ _)); refine blk_put (cs := #[.slice none 0 0]) ?_ 0 _ rfl; (with_reducible repeat (first | refine blk_drewN ?_ _ | refine blk_drew ?_ | refine blk_alloc ?_ _)); exact BK388.out) Try.underlying68 rfl (by kernel_rfl)) rfl ?_
    exact ⟨_, by first | rfl | (simp [errW_none, errW_some] <;> rfl) | (simp [*, errW_none, errW_some] <;> rfl), by (with_reducible repeat (first | apply Kd.R_alloc | apply Kd.R_drewN | apply Kd.R_drew)); exact Kd.R_mono (Kd.R_far (p := ⟨gb388, 0, none⟩) (Kd.R_types HO392.out BK388.out (by decide)) (fun _ hk => hk.2) (.slice Ao8 t390.length co8)) (fun _ hk => trivial), below_later HB.out⟩
  · replace c3 := Bool.eq_false_iff.mpr c3
    subst c3
    replace H := ifn Bool.false_ne_true H
    simp only [Option.some.injEq, Prod.mk.injEq] at H
    obtain ⟨rfl, rfl⟩ := H
    go_enter Try.func35, Try.ntmps35
    go_wp2_with (first | ((with_reducible refine gate_dst (N := 2) rfl ?_); refine bx_ 2 #[.slice none 0 0] 68 ?_; intro gb388 hg w10 hbox hb; have BK388 := Aside0.mk (hbox); have GW388 := gwe HB hg; have GE388 := GW388; replace HB := bst HB hb; clear hb hbox hg) | ((with_reducible refine gate_callee (f := 21) rfl ?_); refine gl_ (some 5) Try.func21 #[.slice A0 l0.length c0] rfl ?_; (with_reducible refine (spec_SchemaOk.calls k _ _ l0 false _ ?side1 ?side2 A2.out).mono ?_); (case side1 => repeat (first | exact (Kd.C_below HR0.out HB.out) | (with_reducible refine Kd.C_alloc ?_ _) | (with_reducible refine Kd.C_drewN ?_ _) | (with_reducible refine Kd.C_drew ?_))); (case side2 => exact HC0.out); rintro e w11 ⟨rfl, hb⟩; refine ⟨_, rfl, ?_⟩; replace BK388 := bkb BK388 hb; replace HB := bst HB hb; (try clear hb); obtain ⟨hcz12_0, hfz12_0⟩ := cl1 BK388))
    refine bodyPost_ret (results_ct rfl _ _ gb388 68 #[.slice none 0 0] (0, 0) _ rfl (by (with_reducible repeat (first | refine blk_drewN ?_ _ | refine blk_drew ?_ | refine blk_alloc ?_ _)); refine blk_put (cs := #[.slice none 0 0]) ?_ 0 _ rfl; (with_reducible repeat (first | refine blk_drewN ?_ _ | refine blk_drew ?_ | refine blk_alloc ?_ _)); exact BK388.out) Try.underlying68 rfl (by kernel_rfl)) rfl ?_
    exact ⟨_, by first | rfl | (simp [errW_none, errW_some] <;> rfl) | (simp [*, errW_none, errW_some] <;> rfl), by first | exact Kd.R_nil _ _ _ _ _ | exact Kd.N_nil _ _ _ _ _ | exact Kd.V_nil _ _ _ _ _ | exact Kd.Q_nil _ _ _ _ _ | exact Kd.S_nil _ _ _ _ _, below_later HB.out⟩

-- NOT PRINTED: function 25 (spec_l13DrawRight)

-- NOT PRINTED: function 17 (spec_l14DrawRecs)

/-! ### spec_SchemaLeaves: function 26 -/
def spec_SchemaLeaves.f (k : Nat) (l0 : List (S61)) : Option (List Int) := (spec_SchemaOk.f k l0).bind fun t414 => (if t414 = true then ((spec_l5Leaves.f k l0).bind fun t415 => (some t415)) else (some (([] : List Int))))
set_option maxHeartbeats 8000000 in
set_option maxRecDepth 100000 in
theorem spec_SchemaLeaves.calls (k : Nat) (A0 : Option Addr) (c0 : Nat) (l0 : List (S61)) (r : List Int) (w : World) (hr0 : Kd.C k61 w A0 l0.length l0) (hc0 : l0.length ≤ c0) (h : spec_SchemaLeaves.f k l0 = some r) :
    Calls Try.prog 26 #[.slice A0 l0.length c0] w fun e w' => ∃ v0_ : Value, e = .returned (v0_) ∧ Kd.R (Kd.int .i64) 3 w' w.heap.size (fun _ => True) v0_ r ∧ Below w.heap.size w w' := by
  have HR0 := Aside0.mk hr0
  have HC0 := Aside0.mk hc0
  clear hr0 hc0
  have HB := Aside0.mk (Below.refl w.heap.size w)
  have H : ((spec_SchemaOk.f k l0).bind fun t414 => (if t414 = true then ((spec_l5Leaves.f k l0).bind fun t415 => (some t415)) else (some (([] : List Int))))) = some r := h
  clear h
  replace H := bnd H
  obtain ⟨t414, A2, H⟩ := H
  by_cases c3 : t414 = true
  · subst c3
    replace H := ifp rfl H
    replace H := bnd H
    obtain ⟨t415, A4, H⟩ := H
    obtain rfl := Option.some.inj H
    go_enter Try.func26, Try.ntmps26
    go_wp2_with (first | ((with_reducible refine gate_callee (f := 21) rfl ?_); refine gl_ (some 4) Try.func21 #[.slice A0 l0.length c0] rfl ?_; (with_reducible refine (spec_SchemaOk.calls k _ _ l0 true _ ?side1 ?side2 A2.out).mono ?_); (case side1 => exact C_later HR0.out); (case side2 => exact HC0.out); rintro e w5 ⟨rfl, hb⟩; refine ⟨_, rfl, ?_⟩; replace HB := bst HB hb; (try clear hb)) | ((with_reducible refine gate_callee (f := 22) rfl ?_); refine gl_ (some 8) Try.func22 #[.slice A0 l0.length c0] rfl ?_; (with_reducible refine (spec_l5Leaves.calls k _ _ l0 t415 _ ?side1 ?side2 A4.out).mono ?_); (case side1 => repeat (first | exact (Kd.C_below HR0.out HB.out) | (with_reducible refine Kd.C_alloc ?_ _) | (with_reducible refine Kd.C_drewN ?_ _) | (with_reducible refine Kd.C_drew ?_))); (case side2 => exact HC0.out); rintro e w6 ⟨v416, rfl, ho0, hb⟩; refine ⟨_, rfl, ?_⟩; have HO417 := Aside0.mk (Kd.R_lower ho0 (below_size (below_later HB.out))); replace HB := bst HB hb; (try clear hb); (try clear ho0)))
    go_ret
    exact ⟨_, by first | rfl | (simp [errW_none, errW_some] <;> rfl) | (simp [*, errW_none, errW_some] <;> rfl), by (with_reducible repeat (first | apply Kd.R_alloc | apply Kd.R_drewN | apply Kd.R_drew)); exact HO417.out, below_later HB.out⟩
  · replace c3 := Bool.eq_false_iff.mpr c3
    subst c3
    replace H := ifn Bool.false_ne_true H
    obtain ⟨y418, hy418⟩ : ∃ y_ : List Int, y_ = (([] : List Int)) := ⟨_, rfl⟩
    replace H : (some y418) = some r := by first | (rw [hy418]; with_reducible exact H) | (rw [hy418]; exact H) | exact H
    have Ny418 := Aside0.mk hy418
    clear hy418
    obtain rfl := Option.some.inj H
    go_enter Try.func26, Try.ntmps26
    go_wp2_with (first | ((with_reducible refine gate_callee (f := 21) rfl ?_); refine gl_ (some 4) Try.func21 #[.slice A0 l0.length c0] rfl ?_; (with_reducible refine (spec_SchemaOk.calls k _ _ l0 false _ ?side1 ?side2 A2.out).mono ?_); (case side1 => exact C_later HR0.out); (case side2 => exact HC0.out); rintro e w7 ⟨rfl, hb⟩; refine ⟨_, rfl, ?_⟩; replace HB := bst HB hb; (try clear hb); (try clear hk)) | ((with_reducible refine gate_dst (N := 6) rfl ?_); refine Kd.R_lit (Kd.int .i64) _ 3 ?hg (N := 6) ?hd (xs := ([] : List Int)) (inner := []) (ok := fun _ => True) (okp := fun _ => True) ?hr ?hp (fun _ hk => hk) trivial (Below.refl _ _) (Nat.le_refl _) (by simp) ?_; (case hd => rfl); (case hg => rfl); (case hr => first | (go_simp; done) | (go_simp; rfl)); (case hp => exact (Reps.none _ _)); intro v419 w8 ho9 hb hg_ hnew_; clear hg_ hnew_; (first | rw [← Ny418.out] at ho9 | (simp only [Int.reduceToNat] at ho9; rw [← Ny418.out] at ho9)); have HO420 := Aside0.mk (Kd.R_lower ho9 (below_size (below_later HB.out))); replace HB := bst HB hb; clear hb ho9))
    go_ret
    exact ⟨_, by first | rfl | (simp [errW_none, errW_some] <;> rfl) | (simp [*, errW_none, errW_some] <;> rfl), by (with_reducible repeat (first | apply Kd.R_alloc | apply Kd.R_drewN | apply Kd.R_drew)); exact HO420.out, below_later HB.out⟩

/-! ### spec_l5Way: function 36 -/
def spec_l5Way.l0 : Nat → List (S61) → Int → List Int → Int → Option (List Int)
  | 0, _, _, _, _ => none
  | k + 1, x0, x1, x5, x6 => if x6 ≤ x1 then ((spec_l5After.f k x0 x6).bind fun t424 => (if t424 > x1 then (if x5.length < 17592186044416 then (spec_l5Way.l0 k x0 x1 (x5 ++ [x6]) (wrap64 (x6 + 1))) else (none)) else (spec_l5Way.l0 k x0 x1 x5 (wrap64 (x6 + 1))))) else (some x5)
def spec_l5Way.f (k : Nat) (l0 : List (S61)) (a1 : Int) : Option (List Int) := spec_l5Way.l0 k l0 a1 (([] : List Int)) 0
set_option maxHeartbeats 8000000 in
set_option maxRecDepth 100000 in
theorem spec_l5Way.calls (k : Nat) (A0 : Option Addr) (c0 : Nat) (l0 : List (S61)) (a1 : Int) (r : List Int) (w : World) (hr0 : Kd.C k61 w A0 l0.length l0) (hc0 : l0.length ≤ c0) (h : spec_l5Way.f k l0 a1 = some r) :
    Calls Try.prog 36 #[.slice A0 l0.length c0, .int .i64 a1] w fun e w' => ∃ v0_ : Value, e = .returned (v0_) ∧ Kd.R (Kd.int .i64) 3 w' w.heap.size (fun _ => True) v0_ r ∧ Below w.heap.size w w' := by
  have HR0 := Aside0.mk hr0
  have HC0 := Aside0.mk hc0
  clear hr0 hc0
  have HB := Aside0.mk (Below.refl w.heap.size w)
  have H : (spec_l5Way.l0 k l0 a1 (([] : List Int)) 0) = some r := h
  clear h
  obtain ⟨y421, hy421⟩ : ∃ y_ : List Int, y_ = (([] : List Int)) := ⟨_, rfl⟩
  replace H : (spec_l5Way.l0 k l0 a1 y421 0) = some r := by first | (rw [hy421]; with_reducible exact H) | (rw [hy421]; exact H) | exact H
  have Ny421 := Aside0.mk hy421
  clear hy421
  have H' := Aside0.mk H
  clear H
  go_enter Try.func36, Try.ntmps36
  go_wp2_with (first | ((with_reducible refine gate_dst (N := 7) rfl ?_); refine Kd.R_lit (Kd.int .i64) _ 3 ?hg (N := 7) ?hd (xs := ([] : List Int)) (inner := []) (ok := fun _ => True) (okp := fun _ => True) ?hr ?hp (fun _ hk => hk) trivial (Below.refl _ _) (Nat.le_refl _) (by simp) ?_; (case hd => rfl); (case hg => rfl); (case hr => first | (go_simp; done) | (go_simp; rfl)); (case hp => exact (Reps.none _ _)); intro v422 w3 ho4 hb hg_ hnew_; clear hg_ hnew_; (first | rw [← Ny421.out] at ho4 | (simp only [Int.reduceToNat] at ho4; rw [← Ny421.out] at ho4)); have HO423 := Aside0.mk (Kd.R_lower ho4 (below_size (below_later HB.out))); replace HB := bst HB hb; clear hb ho4))
  go_loopg [5, 6] k (fun kq v5 v6 w' => ∃ (x5_1 : List Int) (x6_1 : Int), v6 = .int .i64 x6_1 ∧ Aside0 (spec_l5Way.l0 kq l0 a1 x5_1 x6_1 = some r) ∧ Aside0 (kq ≤ k) ∧ Aside0 (Kd.R (Kd.int .i64) 3 w' w.heap.size (fun _ => True) v5 x5_1) ∧ Aside0 (Below w.heap.size w w'))
  case atStart => exact ⟨(y421), (0), sr, H', ⟨Nat.le_refl _⟩, ⟨R_later HO423.out⟩, ⟨below_later HB.out⟩⟩
  case round =>
    clear H'
    obtain ⟨x5_1, x6_1, rfl, HA, HK1, HO_5, HB⟩ := hrel
    cases gk with
    | zero => exact absurd HA.out (by simp [spec_l5Way.l0])
    | succ k1 =>
      have H := HA.out
      clear HA
      simp only [spec_l5Way.l0] at H
      by_cases c5 : x6_1 ≤ a1
      · rw [if_pos c5] at H
        have c5b0 := decide_eq_true c5
        clear c5
        replace H := bnd H
        obtain ⟨t424, A6, H⟩ := H
        by_cases c7 : t424 > a1
        · rw [if_pos c7] at H
          have c7b0 : decide (a1 < t424) = true := decide_eq_true c7
          clear c7
          replace H := ifs H
          obtain ⟨c8, H⟩ := H
          have LMc8 := Aside0.mk c8
          clear c8
          obtain ⟨y425, hy425⟩ : ∃ y_ : List Int, y_ = (x5_1 ++ [x6_1]) := ⟨_, rfl⟩
          replace H : (spec_l5Way.l0 k1 l0 a1 y425 (wrap64 (x6_1 + 1))) = some r := by first | (rw [hy425]; with_reducible exact H) | (rw [hy425]; exact H) | exact H
          have Ny425 := Aside0.mk hy425
          clear hy425
          have H' := Aside0.mk H
          clear H
          go_wp2_with (first | ((with_reducible refine gate_callee (f := 33) rfl ?_); refine gl_ (some 15) Try.func33 #[.slice A0 l0.length c0, .int .i64 x6_1] rfl ?_; (with_reducible refine (spec_l5After.calls k1 _ _ l0 x6_1 t424 _ ?side1 ?side2 A6.out).mono ?_); (case side1 => repeat (first | exact (Kd.C_below HR0.out HB.out) | (with_reducible refine Kd.C_alloc ?_ _) | (with_reducible refine Kd.C_drewN ?_ _) | (with_reducible refine Kd.C_drew ?_))); (case side2 => exact HC0.out); rintro e w' ⟨rfl, ⟨nd, rfl⟩⟩; refine ⟨_, rfl, ?_⟩) | ((with_reducible refine gate_builtin (b := .append) (xs := #[.tmp 18, .tmp 20]) rfl ?_); at_builtin; refine Kd.R_append (Kd.int .i64) (w0 := w) w.heap.size rfl (.tmp 18) (.tmp 20) 63 3 (.int .i64 0) 8 rfl Try.underlying63 info3 rfl (by decide) (by omega) u5 x5_1 x6_1 [.int .i64 x6_1] (fun _ => True) (fun _ => False) rfl rfl ?aP (fun _ hk => hk.elim) ?aF ?aO ?aB ?aS ?aL ?_; (case aP => exact rfl); (case aB => exact (below_later HB.out)); (case aF => exact (fun _ _ => trivial)); (case aO => exact (R_later HO_5.out)); (case aS => exact (below_size (below_later HB.out))); (case aL => have := LMc8.out; omega); intro v426 w9 ho hb hg hat; rw [← Ny425.out] at ho; have n0_ := Aside0.mk (hb); have n1_ := Aside0.mk (ho); clear HB; clear HO_5; have HB := n0_; have HO427 := n1_; clear n0_ n1_; clear ho hb hg hat))
          go_roundg k1
          case measure => have := HK1.out; omega
          case rel => exact ⟨(y425), (wrap64 (x6_1 + 1)), sr, H', ⟨by have := HK1.out; omega⟩, ⟨R_later HO427.out⟩, ⟨below_later HB.out⟩⟩
        · rw [if_neg c7] at H
          have c7b0 : decide (a1 < t424) = false := decide_eq_false c7
          clear c7
          have H' := Aside0.mk H
          clear H
          go_wp2_with (first | ((with_reducible refine gate_callee (f := 33) rfl ?_); refine gl_ (some 15) Try.func33 #[.slice A0 l0.length c0, .int .i64 x6_1] rfl ?_; (with_reducible refine (spec_l5After.calls k1 _ _ l0 x6_1 t424 _ ?side1 ?side2 A6.out).mono ?_); (case side1 => repeat (first | exact (Kd.C_below HR0.out HB.out) | (with_reducible refine Kd.C_alloc ?_ _) | (with_reducible refine Kd.C_drewN ?_ _) | (with_reducible refine Kd.C_drew ?_))); (case side2 => exact HC0.out); rintro e w' ⟨rfl, ⟨nd, rfl⟩⟩; refine ⟨_, rfl, ?_⟩))
          go_roundg k1
          case measure => have := HK1.out; omega
          case rel => exact ⟨(x5_1), (wrap64 (x6_1 + 1)), sr, H', ⟨by have := HK1.out; omega⟩, ⟨R_later HO_5.out⟩, ⟨below_later HB.out⟩⟩
      · rw [if_neg c5] at H
        have c5b0 := decide_eq_false c5
        clear c5
        obtain rfl := Option.some.inj H
        go_wp2
        go_ret
        exact ⟨_, by first | rfl | (simp [errW_none, errW_some] <;> rfl) | (simp [*, errW_none, errW_some] <;> rfl), by (with_reducible repeat (first | apply Kd.R_alloc | apply Kd.R_drewN | apply Kd.R_drew)); exact HO_5.out, below_later HB.out⟩

end Go.Proofs.Ytbiobenhhnbbaaa.PFnCut
