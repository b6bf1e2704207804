/- The machine's side of FnExactDictPack, written by wip/tools/hyb.py of this repo: each Go function as a plain Lean function, and the proof that the call comes to just its answer. No condition. -/
import Derived.Test.YtgiljoeekpfpmaaPFnExactDictPackx0
import Derived.Test.YtgiljoeekpfpmaaPFnExactDictPackx2
import Derived.Test.YtgiljoeekpfpmaaPFnExactDictPackx5
namespace Go.Proofs.Ytgiljoeekpfpmaa.PFnExactDictPack
open Go.RowKit Go.Proofs.YtgiljoeekpfpmaaW.PrintWords Go.Proofs.YtgiljoeekpfpmaaW.PrintLast Go.Proofs.YtgiljoeekpfpmaaW.PrintMore Go.Proofs.YtgiljoeekpfpmaaW.PrintMore2
attribute [local go_sem] max2_int min2_int max_two min_two max_three min_three max_four min_four   -- for this text's walks alone
set_option linter.unusedVariables false
set_option linter.unusedSimpArgs false

/-! ### spec_l16Page: function 33 -/
def spec_l16Page.j0 : Nat → List Int → List (S57) → List (S57) → Int → Option (List Int × Bool)
  | 0, _, _, _, _ => none
  | k + 1, x1, x3, x10, x11 => if 0 < (x10.length : Int) then ((some (x10.set (0 : Int).toNat (⟨(rd_T57 x10 0).f0, (rd_T57 x10 0).f1, (rd_T57 x10 0).f2, (rd_T57 x10 0).f3, 5⟩ : S57) : List (S57))).bind fun y299 => ((spec_l16Int.f 4 x11).bind fun bt300 => (if y299.length < 2932031007402 then ((some (y299 ++ [(⟨bt300.1, bt300.2.1, bt300.2.2.1, bt300.2.2.2.1, bt300.2.2.2.2⟩ : S57)] : List (S57))).bind fun y305 => (if y305.length + x3.length < 2932031007402 then ((spec_TreePack.f k (y305 ++ x3)).bind fun bt311 => (if bt311.2 = true then (if bt311.1.length + x1.length < 140737488355328 then (some ((bt311.1 ++ x1), true)) else (none)) else (some ((([] : List Int)), false)))) else (none))) else (none)))) else (none)
def spec_l16Page.f (k : Nat) (a0 : Int) (l1 : List Int) (a2 : Bool) (l3 : List (S57)) : Option (List Int × Bool) := (spec_l16Int.f 1 a0).bind fun bt280 => ((spec_l16Int.f 2 (l1.length : Int)).bind fun bt285 => ((spec_l16Int.f 3 (l1.length : Int)).bind fun bt290 => ((some (([(⟨12, 0, 0, (⟨#[]⟩ : ByteArray), 4⟩ : S57), (⟨bt280.1, bt280.2.1, bt280.2.2.1, bt280.2.2.2.1, bt280.2.2.2.2⟩ : S57), (⟨bt285.1, bt285.2.1, bt285.2.2.1, bt285.2.2.2.1, bt285.2.2.2.2⟩ : S57), (⟨bt290.1, bt290.2.1, bt290.2.2.1, bt290.2.2.2.1, bt290.2.2.2.2⟩ : S57)] : List (S57)) : List (S57))).bind fun y295 => (if a2 = true then ((spec_CrcOf.f k l1).bind fun t298 => (if t298 > 2147483647 then (spec_l16Page.j0 k l1 l3 y295 (wrap64 (t298 - 4294967296))) else (spec_l16Page.j0 k l1 l3 y295 t298))) else (if y295.length + l3.length < 2932031007402 then ((spec_TreePack.f k (y295 ++ l3)).bind fun bt324 => (if bt324.2 = true then (if bt324.1.length + l1.length < 140737488355328 then (some ((bt324.1 ++ l1), true)) else (none)) else (some ((([] : List Int)), false)))) else (none))))))
set_option maxHeartbeats 8000000 in
set_option maxRecDepth 100000 in
theorem spec_l16Page.calls (k : Nat) (a0 : Int) (A1 : Option Addr) (c1 : Nat) (l1 : List Int) (a2 : Bool) (A3 : Option Addr) (c3 : Nat) (l3 : List (S57)) (r1 : List Int) (r2 : Bool) (w : World) (hr1 : Kd.C (Kd.int .u8) w A1 l1.length l1) (hc1 : l1.length ≤ c1) (hr3 : Kd.C k57 w A3 l3.length l3) (hc3 : l3.length ≤ c3) (h : spec_l16Page.f k a0 l1 a2 l3 = some (r1, r2)) :
    Calls Try.prog 33 #[.int .i64 a0, .slice A1 l1.length c1, .bool a2, .slice A3 l3.length c3] w fun e w' => ∃ v0_ : Value, e = .returned (.tuple #[v0_, .bool r2]) ∧ Kd.R (Kd.int .u8) 5 w' w.heap.size (fun _ => True) v0_ r1 ∧ Below w.heap.size w w' := by
  have hu57 := Try.underlying57
  have HR1 := Aside0.mk hr1
  have HC1 := Aside0.mk hc1
  clear hr1 hc1
  have HR3 := Aside0.mk hr3
  have HC3 := Aside0.mk hc3
  clear hr3 hc3
  have HB := Aside0.mk (Below.refl w.heap.size w)
  have H : ((spec_l16Int.f 1 a0).bind fun bt280 => ((spec_l16Int.f 2 (l1.length : Int)).bind fun bt285 => ((spec_l16Int.f 3 (l1.length : Int)).bind fun bt290 => ((some (([(⟨12, 0, 0, (⟨#[]⟩ : ByteArray), 4⟩ : S57), (⟨bt280.1, bt280.2.1, bt280.2.2.1, bt280.2.2.2.1, bt280.2.2.2.2⟩ : S57), (⟨bt285.1, bt285.2.1, bt285.2.2.1, bt285.2.2.2.1, bt285.2.2.2.2⟩ : S57), (⟨bt290.1, bt290.2.1, bt290.2.2.1, bt290.2.2.2.1, bt290.2.2.2.2⟩ : S57)] : List (S57)) : List (S57))).bind fun y295 => (if a2 = true then ((spec_CrcOf.f k l1).bind fun t298 => (if t298 > 2147483647 then (spec_l16Page.j0 k l1 l3 y295 (wrap64 (t298 - 4294967296))) else (spec_l16Page.j0 k l1 l3 y295 t298))) else (if y295.length + l3.length < 2932031007402 then ((spec_TreePack.f k (y295 ++ l3)).bind fun bt324 => (if bt324.2 = true then (if bt324.1.length + l1.length < 140737488355328 then (some ((bt324.1 ++ l1), true)) else (none)) else (some ((([] : List Int)), false)))) else (none))))))) = some (r1, r2) := h
  clear h
  replace H := Option.bind_eq_some_iff.mp H
  obtain ⟨⟨t280, t281, t282, t283, t284⟩, A50, H⟩ := H
  replace H : ((spec_l16Int.f 2 (l1.length : Int)).bind fun bt285 => ((spec_l16Int.f 3 (l1.length : Int)).bind fun bt290 => ((some (([(⟨12, 0, 0, (⟨#[]⟩ : ByteArray), 4⟩ : S57), (⟨t280, t281, t282, t283, t284⟩ : S57), (⟨bt285.1, bt285.2.1, bt285.2.2.1, bt285.2.2.2.1, bt285.2.2.2.2⟩ : S57), (⟨bt290.1, bt290.2.1, bt290.2.2.1, bt290.2.2.2.1, bt290.2.2.2.2⟩ : S57)] : List (S57)) : List (S57))).bind fun y295 => (if a2 = true then ((spec_CrcOf.f k l1).bind fun t298 => (if t298 > 2147483647 then (spec_l16Page.j0 k l1 l3 y295 (wrap64 (t298 - 4294967296))) else (spec_l16Page.j0 k l1 l3 y295 t298))) else (if y295.length + l3.length < 2932031007402 then ((spec_TreePack.f k (y295 ++ l3)).bind fun bt324 => (if bt324.2 = true then (if bt324.1.length + l1.length < 140737488355328 then (some ((bt324.1 ++ l1), true)) else (none)) else (some ((([] : List Int)), false)))) else (none)))))) = some (r1, r2) := H
  have A5 := Aside0.mk A50
  clear A50
  replace H := Option.bind_eq_some_iff.mp H
  obtain ⟨⟨t285, t286, t287, t288, t289⟩, A60, H⟩ := H
  replace H : ((spec_l16Int.f 3 (l1.length : Int)).bind fun bt290 => ((some (([(⟨12, 0, 0, (⟨#[]⟩ : ByteArray), 4⟩ : S57), (⟨t280, t281, t282, t283, t284⟩ : S57), (⟨t285, t286, t287, t288, t289⟩ : S57), (⟨bt290.1, bt290.2.1, bt290.2.2.1, bt290.2.2.2.1, bt290.2.2.2.2⟩ : S57)] : List (S57)) : List (S57))).bind fun y295 => (if a2 = true then ((spec_CrcOf.f k l1).bind fun t298 => (if t298 > 2147483647 then (spec_l16Page.j0 k l1 l3 y295 (wrap64 (t298 - 4294967296))) else (spec_l16Page.j0 k l1 l3 y295 t298))) else (if y295.length + l3.length < 2932031007402 then ((spec_TreePack.f k (y295 ++ l3)).bind fun bt324 => (if bt324.2 = true then (if bt324.1.length + l1.length < 140737488355328 then (some ((bt324.1 ++ l1), true)) else (none)) else (some ((([] : List Int)), false)))) else (none))))) = some (r1, r2) := H
  have A6 := Aside0.mk A60
  clear A60
  replace H := Option.bind_eq_some_iff.mp H
  obtain ⟨⟨t290, t291, t292, t293, t294⟩, A70, H⟩ := H
  replace H : ((some (([(⟨12, 0, 0, (⟨#[]⟩ : ByteArray), 4⟩ : S57), (⟨t280, t281, t282, t283, t284⟩ : S57), (⟨t285, t286, t287, t288, t289⟩ : S57), (⟨t290, t291, t292, t293, t294⟩ : S57)] : List (S57)) : List (S57))).bind fun y295 => (if a2 = true then ((spec_CrcOf.f k l1).bind fun t298 => (if t298 > 2147483647 then (spec_l16Page.j0 k l1 l3 y295 (wrap64 (t298 - 4294967296))) else (spec_l16Page.j0 k l1 l3 y295 t298))) else (if y295.length + l3.length < 2932031007402 then ((spec_TreePack.f k (y295 ++ l3)).bind fun bt324 => (if bt324.2 = true then (if bt324.1.length + l1.length < 140737488355328 then (some ((bt324.1 ++ l1), true)) else (none)) else (some ((([] : List Int)), false)))) else (none)))) = some (r1, r2) := H
  have A7 := Aside0.mk A70
  clear A70
  replace H := bsm H
  obtain ⟨y295, Ny295, H⟩ := H
  by_cases c8 : a2 = true
  · subst c8
    replace H := ifp rfl H
    replace H := bnd H
    obtain ⟨t298, A9, H⟩ := H
    have HC10 := Aside0.mk H
    clear H
    go_enter Try.func33, Try.ntmps33
    go_upto_if 28 with (first | ((with_reducible refine gate_callee (f := 34) rfl ?_); refine gl_ (some 16) Try.func34 #[.int .i64 1, .int .i64 a0] rfl ?_; (with_reducible refine (spec_l16Int.calls 1 a0 t280 t281 t282 t283 t284 _ A5.out).mono ?_); rintro e w11 ⟨rfl, hb⟩; refine ⟨_, rfl, ?_⟩; replace HB := bst HB hb; (try clear hb); (try clear hk)) | ((with_reducible refine gate_callee (f := 34) rfl ?_); refine gl_ (some 19) Try.func34 #[.int .i64 2, .int .i64 (l1.length : Int)] rfl ?_; (with_reducible refine (spec_l16Int.calls 2 (l1.length : Int) t285 t286 t287 t288 t289 _ A6.out).mono ?_); rintro e w12 ⟨rfl, hb⟩; refine ⟨_, rfl, ?_⟩; replace HB := bst HB hb; (try clear hb); (try clear hk)) | ((with_reducible refine gate_callee (f := 34) rfl ?_); refine gl_ (some 22) Try.func34 #[.int .i64 3, .int .i64 (l1.length : Int)] rfl ?_; (with_reducible refine (spec_l16Int.calls 3 (l1.length : Int) t290 t291 t292 t293 t294 _ A7.out).mono ?_); rintro e w13 ⟨rfl, hb⟩; refine ⟨_, rfl, ?_⟩; replace HB := bst HB hb; (try clear hb); (try clear hk)) | ((with_reducible refine gate_dst (N := 23) rfl ?_); refine Kd.R_lit k57 _ 57 ?hg (N := 23) ?hd (xs := ([(⟨12, 0, 0, (⟨#[]⟩ : ByteArray), 4⟩ : S57), (⟨t280, t281, t282, t283, t284⟩ : S57), (⟨t285, t286, t287, t288, t289⟩ : S57), (⟨t290, t291, t292, t293, t294⟩ : S57)] : List (S57))) (inner := [.int .i64 12, .int .i64 0, .int .i64 0, .string (⟨#[]⟩ : ByteArray), .int .i64 4, .int .i64 t280, .int .i64 t281, .int .i64 t282, .string t283, .int .i64 t284, .int .i64 t285, .int .i64 t286, .int .i64 t287, .string t288, .int .i64 t289, .int .i64 t290, .int .i64 t291, .int .i64 t292, .string t293, .int .i64 t294]) (ok := fun _ => True) (okp := fun _ => True) ?hr ?hp (fun _ hk => hk) trivial (Below.refl _ _) (Nat.le_refl _) (by simp) ?_; (case hd => rfl); (case hg => rfl); (case hr => first | (go_simp; done) | (go_simp; rfl)); (case hp => exact (Reps.c5 (show Kd.M k57 _ _ _ (⟨12, 0, 0, (⟨#[]⟩ : ByteArray), 4⟩ : S57) [.int .i64 12, .int .i64 0, .int .i64 0, .string (⟨#[]⟩ : ByteArray), .int .i64 4] from (k57_mkM _ _ _ (⟨12, 0, 0, (⟨#[]⟩ : ByteArray), 4⟩ : S57) )) (Reps.c5 (show Kd.M k57 _ _ _ (⟨t280, t281, t282, t283, t284⟩ : S57) [.int .i64 t280, .int .i64 t281, .int .i64 t282, .string t283, .int .i64 t284] from (k57_mkM _ _ _ (⟨t280, t281, t282, t283, t284⟩ : S57) )) (Reps.c5 (show Kd.M k57 _ _ _ (⟨t285, t286, t287, t288, t289⟩ : S57) [.int .i64 t285, .int .i64 t286, .int .i64 t287, .string t288, .int .i64 t289] from (k57_mkM _ _ _ (⟨t285, t286, t287, t288, t289⟩ : S57) )) (Reps.c5 (show Kd.M k57 _ _ _ (⟨t290, t291, t292, t293, t294⟩ : S57) [.int .i64 t290, .int .i64 t291, .int .i64 t292, .string t293, .int .i64 t294] from (k57_mkM _ _ _ (⟨t290, t291, t292, t293, t294⟩ : S57) )) (Reps.none _ _)))))); intro v296 w14 ho15 hb hg_ hnew_; clear hg_ hnew_; (first | rw [← Ny295.out] at ho15 | (simp only [Int.reduceToNat] at ho15; rw [← Ny295.out] at ho15)); have HO297 := Aside0.mk (Kd.R_lower ho15 (below_size (below_later HB.out))); replace HB := bst HB hb; clear hb ho15) | ((with_reducible refine gate_callee (f := 59) rfl ?_); refine gl_ (some 26) Try.func59 #[.slice A1 l1.length c1] rfl ?_; (with_reducible refine (spec_CrcOf.calls k _ _ l1 t298 _ ?side1 ?side2 A9.out).mono ?_); (case side1 => repeat (first | exact (Kd.C_below HR1.out HB.out) | (with_reducible refine Kd.C_alloc ?_ _) | (with_reducible refine Kd.C_drewN ?_ _) | (with_reducible refine Kd.C_drew ?_))); (case side2 => exact HC1.out); rintro e w' ⟨rfl, ⟨nd, rfl⟩⟩; refine ⟨_, rfl, ?_⟩))
    (try simp only [Act.put, List.setIfInBounds_toArray, List.set_cons_zero, List.set_cons_succ])
    go_cut [11] (fun v11 wc => ∃ (kq : Nat) (x11_9 : Int), v11 = .int .i64 x11_9 ∧ Aside0 (spec_l16Page.j0 kq l1 l3 y295 x11_9 = some (r1, r2)) ∧ Aside0 (kq ≤ k) ∧ Aside0 (Kd.R k57 57 wc w.heap.size (fun _ => True) v296 y295) ∧ Aside0 (Below w.heap.size w wc))
    case first =>
      have H := HC10.out
      clear HC10
      by_cases c16 : t298 > 2147483647
      · rw [if_pos c16] at H
        have c16b0 : decide (2147483647 < t298) = true := decide_eq_true c16
        clear c16
        (first | rw [c16b0] | (simp only [i64_w, i32_w]; rw [c16b0]) | skip)
        have H' := Aside0.mk H
        clear H
        go_wp2
        go_meet
        case rel => exact ⟨_, (wrap64 (t298 - 4294967296)), sr, H', ⟨by first | omega | exact Nat.le_refl _⟩, ⟨R_later HO297.out⟩, ⟨below_later HB.out⟩⟩
      · rw [if_neg c16] at H
        have c16b0 : decide (2147483647 < t298) = false := decide_eq_false c16
        clear c16
        (first | rw [c16b0] | (simp only [i64_w, i32_w]; rw [c16b0]) | skip)
        have H' := Aside0.mk H
        clear H
        go_wp2
        go_meet
        case rel => exact ⟨_, (t298), sr, H', ⟨by first | omega | exact Nat.le_refl _⟩, ⟨R_later HO297.out⟩, ⟨below_later HB.out⟩⟩
    case rest =>
      clear HC10
      try clear c1
      try clear c3
      try clear c5
      try clear c8
      obtain ⟨kq, x11_9, rfl, HA, HJ9, HO_10, HB⟩ := hcut
      cases kq with
      | zero => exact absurd HA.out (by simp [spec_l16Page.j0])
      | succ kj9 =>
        have H := HA.out
        clear HA
        simp only [spec_l16Page.j0] at H
        replace H := ifs H
        obtain ⟨c17, H⟩ := H
        have c17b0 := decide_eq_true c17
        have c17b1 : decide (0 < y295.length) = true := decide_eq_true (by omega)
        clear c17
        replace H := bsm H
        obtain ⟨y299, Ny299, H⟩ := H
        replace H := Option.bind_eq_some_iff.mp H
        obtain ⟨⟨t300, t301, t302, t303, t304⟩, A190, H⟩ := H
        replace H : (if y299.length < 2932031007402 then ((some (y299 ++ [(⟨t300, t301, t302, t303, t304⟩ : S57)] : List (S57))).bind fun y305 => (if y305.length + l3.length < 2932031007402 then ((spec_TreePack.f kj9 (y305 ++ l3)).bind fun bt311 => (if bt311.2 = true then (if bt311.1.length + l1.length < 140737488355328 then (some ((bt311.1 ++ l1), true)) else (none)) else (some ((([] : List Int)), false)))) else (none))) else (none)) = some (r1, r2) := H
        have A19 := Aside0.mk A190
        clear A190
        replace H := ifs H
        obtain ⟨c20, H⟩ := H
        have LMc20 := Aside0.mk c20
        clear c20
        replace H := bsm H
        obtain ⟨y305, Ny305, H⟩ := H
        replace H := ifs H
        obtain ⟨c21, H⟩ := H
        have LMc21 := Aside0.mk c21
        clear c21
        obtain ⟨y308, hy308⟩ : ∃ y_ : List (S57), y_ = (y305 ++ l3) := ⟨_, rfl⟩
        replace H : ((spec_TreePack.f kj9 y308).bind fun bt311 => (if bt311.2 = true then (if bt311.1.length + l1.length < 140737488355328 then (some ((bt311.1 ++ l1), true)) else (none)) else (some ((([] : List Int)), false)))) = some (r1, r2) := by first | (rw [hy308]; with_reducible exact H) | (rw [hy308]; exact H) | exact H
        have Ny308 := Aside0.mk hy308
        clear hy308
        replace H := Option.bind_eq_some_iff.mp H
        obtain ⟨⟨t311, t312⟩, A220, H⟩ := H
        replace H : (if t312 = true then (if t311.length + l1.length < 140737488355328 then (some ((t311 ++ l1), true)) else (none)) else (some ((([] : List Int)), false))) = some (r1, r2) := H
        have A22 := Aside0.mk A220
        clear A220
        by_cases c23 : t312 = true
        · subst c23
          replace H := ifp rfl H
          replace H := ifs H
          obtain ⟨c24, H⟩ := H
          have LMc24 := Aside0.mk c24
          clear c24
          obtain ⟨y315, hy315⟩ : ∃ y_ : List Int, y_ = (t311 ++ l1) := ⟨_, rfl⟩
          replace H : (some (y315, true)) = some (r1, r2) := by first | (rw [hy315]; with_reducible exact H) | (rw [hy315]; exact H) | exact H
          have Ny315 := Aside0.mk hy315
          clear hy315
          simp only [Option.some.injEq, Prod.mk.injEq] at H
          obtain ⟨rfl, rfl⟩ := H
          have p18 : 0 ≤ (0 : Int) := (by omega)
          have q18 : (0 : Int) < ((y295.length : Int) : Int) := dcd
          have qi18 : (0 < y295.length) = True := eq_true (by omega)
          obtain ⟨go18, co18, eo18, gb18, gl18, cl18, HG18⟩ := Kd.R_form HO_10.out (by omega)
          (first | cases eo18 | (injection eo18 with ea_ en_ ec_; (first | subst ea_ | (injection ea_ with ea_; subst ea_)); subst ec_; clear en_))
          have GB18 := Aside0.mk gb18
          have GG18 := Aside0.mk HG18
          clear gb18 gl18 HG18
          obtain ⟨ce18, hcl18, hM18, hcc18, hfr18⟩ := Kd.R_elem HO_10.out z57 (0 : Int) p18 q18
          obtain rfl := k57_openM hM18
          have hx18_0 : wc.cell? ⟨go18, (0 : Int).toNat * 5, none⟩ = some (.int .i64 ((rd_T57 y295 0).f0)) := hcc18 0 _ rfl
          have hx18_1 : wc.cell? ⟨go18, (0 : Int).toNat * 5 + 1, none⟩ = some (.int .i64 ((rd_T57 y295 0).f1)) := hcc18 1 _ rfl
          have hx18_2 : wc.cell? ⟨go18, (0 : Int).toNat * 5 + 2, none⟩ = some (.int .i64 ((rd_T57 y295 0).f2)) := hcc18 2 _ rfl
          have hx18_3 : wc.cell? ⟨go18, (0 : Int).toNat * 5 + 3, none⟩ = some (.string ((rd_T57 y295 0).f3)) := hcc18 3 _ rfl
          have hx18_4 : wc.cell? ⟨go18, (0 : Int).toNat * 5 + 4, none⟩ = some (.int .i64 ((rd_T57 y295 0).f4)) := hcc18 4 _ rfl
          have hf18_0 : wc.frozen? ⟨go18, (0 : Int).toNat * 5, none⟩ = false := hfr18 0
          have hf18_1 : wc.frozen? ⟨go18, (0 : Int).toNat * 5 + 1, none⟩ = false := hfr18 1
          have hf18_2 : wc.frozen? ⟨go18, (0 : Int).toNat * 5 + 2, none⟩ = false := hfr18 2
          have hf18_3 : wc.frozen? ⟨go18, (0 : Int).toNat * 5 + 3, none⟩ = false := hfr18 3
          have hf18_4 : wc.frozen? ⟨go18, (0 : Int).toNat * 5 + 4, none⟩ = false := hfr18 4
          clear hcl18 hcc18 hfr18 hM18
          (try rw [show ((0 : Int)).toNat = 0 from rfl] at hx18_0)
          (try simp only [Nat.reduceMul, Nat.zero_mul, Nat.zero_add, Nat.reduceAdd] at hx18_0)
          (try rw [show ((0 : Int)).toNat = 0 from rfl] at hf18_0)
          (try simp only [Nat.reduceMul, Nat.zero_mul, Nat.zero_add, Nat.reduceAdd] at hf18_0)
          (try rw [show ((0 : Int)).toNat = 0 from rfl] at hx18_1)
          (try simp only [Nat.reduceMul, Nat.zero_mul, Nat.zero_add, Nat.reduceAdd] at hx18_1)
          (try rw [show ((0 : Int)).toNat = 0 from rfl] at hf18_1)
          (try simp only [Nat.reduceMul, Nat.zero_mul, Nat.zero_add, Nat.reduceAdd] at hf18_1)
          (try rw [show ((0 : Int)).toNat = 0 from rfl] at hx18_2)
          (try simp only [Nat.reduceMul, Nat.zero_mul, Nat.zero_add, Nat.reduceAdd] at hx18_2)
          (try rw [show ((0 : Int)).toNat = 0 from rfl] at hf18_2)
          (try simp only [Nat.reduceMul, Nat.zero_mul, Nat.zero_add, Nat.reduceAdd] at hf18_2)
          (try rw [show ((0 : Int)).toNat = 0 from rfl] at hx18_3)
          (try simp only [Nat.reduceMul, Nat.zero_mul, Nat.zero_add, Nat.reduceAdd] at hx18_3)
          (try rw [show ((0 : Int)).toNat = 0 from rfl] at hf18_3)
          (try simp only [Nat.reduceMul, Nat.zero_mul, Nat.zero_add, Nat.reduceAdd] at hf18_3)
          (try rw [show ((0 : Int)).toNat = 0 from rfl] at hx18_4)
          (try simp only [Nat.reduceMul, Nat.zero_mul, Nat.zero_add, Nat.reduceAdd] at hx18_4)
          (try rw [show ((0 : Int)).toNat = 0 from rfl] at hf18_4)
          (try simp only [Nat.reduceMul, Nat.zero_mul, Nat.zero_add, Nat.reduceAdd] at hf18_4)
          replace p18 := eq_true p18
          replace q18 := eq_true q18
          have HX25 := Aside0.mk (show Kd.R k57 57 wc w.heap.size (fun _ => True) (.slice (some ⟨go18, 0, none⟩) y295.length co18) y295 from (R_later HO_10.out))
          obtain ⟨ce25, hcl25, hM25, hcc25, hfr25⟩ := Kd.R_elem HX25.out z57 (0 : Int) (by omega) (by have h_ : (0 : Int) < ((y295.length : Int) : Int) := dcd; first | exact h_ | (have e_ := (Kd.R_reads' HO_10.out).1; omega) | simpa using h_)
          obtain rfl := k57_openM hM25
          have HP25 := Kd.R_seg HX25.out (0 : Int) (by omega) (by have h_ : (0 : Int) < ((y295.length : Int) : Int) := dcd; first | exact h_ | (have e_ := (Kd.R_reads' HO_10.out).1; omega) | simpa using h_) (seg := [.int .i64 5]) (j := 4) hcl25 hcc25 (show 5 ≤ 5 from by decide) (x' := (⟨(rd_T57 y295 0).f0, (rd_T57 y295 0).f1, (rd_T57 y295 0).f2, (rd_T57 y295 0).f3, 5⟩ : S57)) (k57_mkM _ _ _ (⟨(rd_T57 y295 0).f0, (rd_T57 y295 0).f1, (rd_T57 y295 0).f2, (rd_T57 y295 0).f3, 5⟩ : S57) ) (fun _ hk => hk)
          have hx25_4 := hcc25 4 _ rfl
          (try simp only [show (k57).sz = 5 from rfl, Nat.mul_one, Nat.add_zero] at hx25_4)
          (try rw [show ((0 : Int)).toNat = 0 from rfl] at hx25_4)
          (try simp only [Nat.reduceMul, Nat.zero_mul, Nat.zero_add, Nat.reduceAdd] at hx25_4)
          have hf25_4 := hfr25 4
          (try simp only [show (k57).sz = 5 from rfl, Nat.mul_one, Nat.add_zero] at hf25_4)
          (try rw [show ((0 : Int)).toNat = 0 from rfl] at hf25_4)
          (try simp only [Nat.reduceMul, Nat.zero_mul, Nat.zero_add, Nat.reduceAdd] at hf25_4)
          clear hcl25 hcc25 hfr25 hM25
          go_wp2_with (first | ((with_reducible refine gate_store (t := 3) (p := 33) rfl ?_); refine st_ 3 33 (wc.setCell ⟨go18, 4, none⟩ (.int .i64 5)) ?_; intro w26 hw; have hg : wc.grownBy w26 (some go18) := (by rw [hw]; exact HP25.2); have hp_ : Kd.R k57 57 w26 w.heap.size (fun _ => True) (.slice (some ⟨go18, 0, none⟩) y295.length co18) y299 := (by rw [hw, Ny299.out]; exact HP25.1); clear HP25; replace HO_10 := Aside0.mk (hp_); replace HB := Aside0.mk ((by rw [hw]; exact below_set (HB.out) GB18.out : Below w.heap.size w w26)); clear hg hw hp_) | ((with_reducible refine gate_callee (f := 34) rfl ?_); refine gl_ (some 36) Try.func34 #[.int .i64 4, .int .i64 x11_9] rfl ?_; (with_reducible refine (spec_l16Int.calls 4 x11_9 t300 t301 t302 t303 t304 _ A19.out).mono ?_); rintro e w27 ⟨rfl, hb⟩; refine ⟨_, rfl, ?_⟩; replace HO_10 := Aside0.mk (Kd.R_below (R_later HO_10.out) hb); replace HB := bst HB hb; (try clear hb); (try clear hk)) | ((with_reducible refine gate_builtin (b := .append) (xs := #[.tmp 34, .tmp 37]) rfl ?_); at_builtin; refine Kd.R_append k57 (w0 := w) w.heap.size rfl (.tmp 34) (.tmp 37) 34 57 (.agg #[(.int .i64 0), (.int .i64 0), (.int .i64 0), (.string ⟨#[]⟩), (.int .i64 0)]) 48 rfl Try.underlying34 info57 rfl (by decide) (by omega) (.slice (some ⟨go18, 0, none⟩) y295.length co18) y299 (⟨t300, t301, t302, t303, t304⟩ : S57) [.int .i64 t300, .int .i64 t301, .int .i64 t302, .string t303, .int .i64 t304] (fun _ => True) (fun _ => False) rfl rfl ?aP (fun _ hk => hk.elim) ?aF ?aO ?aB ?aS ?aL ?_; (case aP => exact k57_mkM _ _ _ (⟨t300, t301, t302, t303, t304⟩ : S57)); (case aB => exact (below_later HB.out)); (case aF => exact (fun _ _ => trivial)); (case aO => exact (R_later HO_10.out)); (case aS => exact (below_size (below_later HB.out))); (case aL => have := LMc20.out; omega); intro v306 w28 ho hb hg hat; rw [← Ny305.out] at ho; have n0_ := Aside0.mk (hb); have n1_ := Aside0.mk (ho); clear HB; clear HO_10; have HB := n0_; have HO307 := n1_; clear n0_ n1_; clear ho hb hg hat) | ((with_reducible refine gate_builtin (b := .append) (xs := #[.tmp 40, .tmp 41]) rfl ?_); at_builtin; refine Kd.R_append_rows k57 (w0 := w) w.heap.size rfl (.tmp 40) (.tmp 41) 34 57 (.agg #[(.int .i64 0), (.int .i64 0), (.int .i64 0), (.string ⟨#[]⟩), (.int .i64 0)]) 48 rfl Try.underlying34 info57 rfl (by decide) (by omega) v306 y305 l3 _ _ _ (fun _ => True) (fun _ => False) rfl rfl ?aO ?aR (fun _ _ h => h) (fun _ h => h.elim) ?aF ?aB ?aS ?aL ?_; (case aR => repeat (first | exact (Kd.C_below HR3.out HB.out) | (with_reducible refine Kd.C_alloc ?_ _) | (with_reducible refine Kd.C_drewN ?_ _) | (with_reducible refine Kd.C_drew ?_))); (case aB => exact (below_later HB.out)); (case aF => exact (fun _ _ => trivial)); (case aO => exact (R_later HO307.out)); (case aS => exact (below_size (below_later HB.out))); (case aL => have := LMc21.out; omega); intro v309 w29 ho hb hg hat; rw [← Ny308.out] at ho; have n0_ := Aside0.mk (hb); have n1_ := Aside0.mk (ho); clear HB; clear HO307; have HB := n0_; have HO310 := n1_; clear n0_ n1_; clear ho hb hg hat; obtain ⟨Ao30, co30, eo30⟩ := Kd.R_slice HO310.out; subst eo30) | ((with_reducible refine gate_callee (f := 60) rfl ?_); refine gl_ (some 43) Try.func60 #[.slice Ao30 y308.length co30] rfl ?_; (with_reducible refine (spec_TreePack.calls kj9 _ _ y308 t311 true _ ?side1 ?side2 A22.out).mono ?_); (case side1 => repeat (first | exact (Kd.R_reads' HO310.out).2.2 | (with_reducible refine Kd.C_alloc ?_ _) | (with_reducible refine Kd.C_drewN ?_ _) | (with_reducible refine Kd.C_drew ?_))); (case side2 => exact (Kd.R_reads' HO310.out).2.1); rintro e w31 ⟨v313, rfl, ho0, hb⟩; refine ⟨_, rfl, ?_⟩; have HO314 := Aside0.mk (Kd.R_lower ho0 (below_size (below_later HB.out))); replace HO310 := Aside0.mk (Kd.R_below (R_later HO310.out) hb); replace HB := bst HB hb; (try clear hb); (try clear hk); (try clear ho0)) | ((with_reducible refine gate_builtin (b := .append) (xs := #[.tmp 49, .tmp 50]) rfl ?_); at_builtin; refine Kd.R_append_rows (Kd.int .u8) (w0 := w) w.heap.size rfl (.tmp 49) (.tmp 50) 41 5 (.int .u8 0) 1 rfl Try.underlying41 info5 rfl (by decide) (by omega) v313 t311 l1 _ _ _ (fun _ => True) (fun _ => False) rfl rfl ?aO ?aR (fun _ _ h => h) (fun _ h => h.elim) ?aF ?aB ?aS ?aL ?_; (case aR => repeat (first | exact (Kd.C_below HR1.out HB.out) | (with_reducible refine Kd.C_alloc ?_ _) | (with_reducible refine Kd.C_drewN ?_ _) | (with_reducible refine Kd.C_drew ?_))); (case aB => exact (below_later HB.out)); (case aF => exact (fun _ _ => trivial)); (case aO => exact (R_later HO314.out)); (case aS => exact (below_size (below_later HB.out))); (case aL => have := LMc24.out; omega); intro v316 w32 ho hb hg hat; rw [← Ny315.out] at ho; have n0_ := Aside0.mk (Kd.R_over' (R_later HO310.out) (Kd.R_typed (R_later HO314.out)) (by decide) hg); have n1_ := Aside0.mk (hb); have n2_ := Aside0.mk (ho); clear HO310; clear HB; clear HO314; have HO310 := n0_; have HB := n1_; have HO317 := n2_; clear n0_ n1_ n2_; clear ho hb hg hat))
          go_ret2
          exact ⟨_, by first | rfl | (simp [errW_none, errW_some] <;> rfl) | (simp [*, errW_none, errW_some] <;> rfl), by (with_reducible repeat (first | apply Kd.R_alloc | apply Kd.R_drewN | apply Kd.R_drew)); exact HO317.out, below_later HB.out⟩
        · replace c23 := Bool.eq_false_iff.mpr c23
          subst c23
          replace H := ifn Bool.false_ne_true H
          obtain ⟨y318, hy318⟩ : ∃ y_ : List Int, y_ = (([] : List Int)) := ⟨_, rfl⟩
          replace H : (some (y318, false)) = some (r1, r2) := by first | (rw [hy318]; with_reducible exact H) | (rw [hy318]; exact H) | exact H
          have Ny318 := Aside0.mk hy318
          clear hy318
          simp only [Option.some.injEq, Prod.mk.injEq] at H
          obtain ⟨rfl, rfl⟩ := H
          have p18 : 0 ≤ (0 : Int) := (by omega)
          have q18 : (0 : Int) < ((y295.length : Int) : Int) := dcd
          have qi18 : (0 < y295.length) = True := eq_true (by omega)
          obtain ⟨go18, co18, eo18, gb18, gl18, cl18, HG18⟩ := Kd.R_form HO_10.out (by omega)
          (first | cases eo18 | (injection eo18 with ea_ en_ ec_; (first | subst ea_ | (injection ea_ with ea_; subst ea_)); subst ec_; clear en_))
          have GB18 := Aside0.mk gb18
          have GG18 := Aside0.mk HG18
          clear gb18 gl18 HG18
          obtain ⟨ce18, hcl18, hM18, hcc18, hfr18⟩ := Kd.R_elem HO_10.out z57 (0 : Int) p18 q18
          obtain rfl := k57_openM hM18
          have hx18_0 : wc.cell? ⟨go18, (0 : Int).toNat * 5, none⟩ = some (.int .i64 ((rd_T57 y295 0).f0)) := hcc18 0 _ rfl
          have hx18_1 : wc.cell? ⟨go18, (0 : Int).toNat * 5 + 1, none⟩ = some (.int .i64 ((rd_T57 y295 0).f1)) := hcc18 1 _ rfl
          have hx18_2 : wc.cell? ⟨go18, (0 : Int).toNat * 5 + 2, none⟩ = some (.int .i64 ((rd_T57 y295 0).f2)) := hcc18 2 _ rfl
          have hx18_3 : wc.cell? ⟨go18, (0 : Int).toNat * 5 + 3, none⟩ = some (.string ((rd_T57 y295 0).f3)) := hcc18 3 _ rfl
          have hx18_4 : wc.cell? ⟨go18, (0 : Int).toNat * 5 + 4, none⟩ = some (.int .i64 ((rd_T57 y295 0).f4)) := hcc18 4 _ rfl
          have hf18_0 : wc.frozen? ⟨go18, (0 : Int).toNat * 5, none⟩ = false := hfr18 0
          have hf18_1 : wc.frozen? ⟨go18, (0 : Int).toNat * 5 + 1, none⟩ = false := hfr18 1
          have hf18_2 : wc.frozen? ⟨go18, (0 : Int).toNat * 5 + 2, none⟩ = false := hfr18 2
          have hf18_3 : wc.frozen? ⟨go18, (0 : Int).toNat * 5 + 3, none⟩ = false := hfr18 3
          have hf18_4 : wc.frozen? ⟨go18, (0 : Int).toNat * 5 + 4, none⟩ = false := hfr18 4
          clear hcl18 hcc18 hfr18 hM18
          (try rw [show ((0 : Int)).toNat = 0 from rfl] at hx18_0)
          (try simp only [Nat.reduceMul, Nat.zero_mul, Nat.zero_add, Nat.reduceAdd] at hx18_0)
          (try rw [show ((0 : Int)).toNat = 0 from rfl] at hf18_0)
          (try simp only [Nat.reduceMul, Nat.zero_mul, Nat.zero_add, Nat.reduceAdd] at hf18_0)
          (try rw [show ((0 : Int)).toNat = 0 from rfl] at hx18_1)
          (try simp only [Nat.reduceMul, Nat.zero_mul, Nat.zero_add, Nat.reduceAdd] at hx18_1)
          (try rw [show ((0 : Int)).toNat = 0 from rfl] at hf18_1)
          (try simp only [Nat.reduceMul, Nat.zero_mul, Nat.zero_add, Nat.reduceAdd] at hf18_1)
          (try rw [show ((0 : Int)).toNat = 0 from rfl] at hx18_2)
          (try simp only [Nat.reduceMul, Nat.zero_mul, Nat.zero_add, Nat.reduceAdd] at hx18_2)
          (try rw [show ((0 : Int)).toNat = 0 from rfl] at hf18_2)
          (try simp only [Nat.reduceMul, Nat.zero_mul, Nat.zero_add, Nat.reduceAdd] at hf18_2)
          (try rw [show ((0 : Int)).toNat = 0 from rfl] at hx18_3)
          (try simp only [Nat.reduceMul, Nat.zero_mul, Nat.zero_add, Nat.reduceAdd] at hx18_3)
          (try rw [show ((0 : Int)).toNat = 0 from rfl] at hf18_3)
          (try simp only [Nat.reduceMul, Nat.zero_mul, Nat.zero_add, Nat.reduceAdd] at hf18_3)
          (try rw [show ((0 : Int)).toNat = 0 from rfl] at hx18_4)
          (try simp only [Nat.reduceMul, Nat.zero_mul, Nat.zero_add, Nat.reduceAdd] at hx18_4)
          (try rw [show ((0 : Int)).toNat = 0 from rfl] at hf18_4)
          (try simp only [Nat.reduceMul, Nat.zero_mul, Nat.zero_add, Nat.reduceAdd] at hf18_4)
          replace p18 := eq_true p18
          replace q18 := eq_true q18
          have HX33 := Aside0.mk (show Kd.R k57 57 wc w.heap.size (fun _ => True) (.slice (some ⟨go18, 0, none⟩) y295.length co18) y295 from (R_later HO_10.out))
          obtain ⟨ce33, hcl33, hM33, hcc33, hfr33⟩ := Kd.R_elem HX33.out z57 (0 : Int) (by omega) (by have h_ : (0 : Int) < ((y295.length : Int) : Int) := dcd; first | exact h_ | (have e_ := (Kd.R_reads' HO_10.out).1; omega) | simpa using h_)
          obtain rfl := k57_openM hM33
          have HP33 := Kd.R_seg HX33.out (0 : Int) (by omega) (by have h_ : (0 : Int) < ((y295.length : Int) : Int) := dcd; first | exact h_ | (have e_ := (Kd.R_reads' HO_10.out).1; omega) | simpa using h_) (seg := [.int .i64 5]) (j := 4) hcl33 hcc33 (show 5 ≤ 5 from by decide) (x' := (⟨(rd_T57 y295 0).f0, (rd_T57 y295 0).f1, (rd_T57 y295 0).f2, (rd_T57 y295 0).f3, 5⟩ : S57)) (k57_mkM _ _ _ (⟨(rd_T57 y295 0).f0, (rd_T57 y295 0).f1, (rd_T57 y295 0).f2, (rd_T57 y295 0).f3, 5⟩ : S57) ) (fun _ hk => hk)
          have hx33_4 := hcc33 4 _ rfl
          (try simp only [show (k57).sz = 5 from rfl, Nat.mul_one, Nat.add_zero] at hx33_4)
          (try rw [show ((0 : Int)).toNat = 0 from rfl] at hx33_4)
          (try simp only [Nat.reduceMul, Nat.zero_mul, Nat.zero_add, Nat.reduceAdd] at hx33_4)
          have hf33_4 := hfr33 4
          (try simp only [show (k57).sz = 5 from rfl, Nat.mul_one, Nat.add_zero] at hf33_4)
          (try rw [show ((0 : Int)).toNat = 0 from rfl] at hf33_4)
          (try simp only [Nat.reduceMul, Nat.zero_mul, Nat.zero_add, Nat.reduceAdd] at hf33_4)
          clear hcl33 hcc33 hfr33 hM33
          go_wp2_with (first | ((with_reducible refine gate_store (t := 3) (p := 33) rfl ?_); refine st_ 3 33 (wc.setCell ⟨go18, 4, none⟩ (.int .i64 5)) ?_; intro w34 hw; have hg : wc.grownBy w34 (some go18) := (by rw [hw]; exact HP33.2); have hp_ : Kd.R k57 57 w34 w.heap.size (fun _ => True) (.slice (some ⟨go18, 0, none⟩) y295.length co18) y299 := (by rw [hw, Ny299.out]; exact HP33.1); clear HP33; replace HO_10 := Aside0.mk (hp_); replace HB := Aside0.mk ((by rw [hw]; exact below_set (HB.out) GB18.out : Below w.heap.size w w34)); clear hg hw hp_) | ((with_reducible refine gate_callee (f := 34) rfl ?_); refine gl_ (some 36) Try.func34 #[.int .i64 4, .int .i64 x11_9] rfl ?_; (with_reducible refine (spec_l16Int.calls 4 x11_9 t300 t301 t302 t303 t304 _ A19.out).mono ?_); rintro e w35 ⟨rfl, hb⟩; refine ⟨_, rfl, ?_⟩; replace HO_10 := Aside0.mk (Kd.R_below (R_later HO_10.out) hb); replace HB := bst HB hb; (try clear hb); (try clear hk)) | ((with_reducible refine gate_builtin (b := .append) (xs := #[.tmp 34, .tmp 37]) rfl ?_); at_builtin; refine Kd.R_append k57 (w0 := w) w.heap.size rfl (.tmp 34) (.tmp 37) 34 57 (.agg #[(.int .i64 0), (.int .i64 0), (.int .i64 0), (.string ⟨#[]⟩), (.int .i64 0)]) 48 rfl Try.underlying34 info57 rfl (by decide) (by omega) (.slice (some ⟨go18, 0, none⟩) y295.length co18) y299 (⟨t300, t301, t302, t303, t304⟩ : S57) [.int .i64 t300, .int .i64 t301, .int .i64 t302, .string t303, .int .i64 t304] (fun _ => True) (fun _ => False) rfl rfl ?aP (fun _ hk => hk.elim) ?aF ?aO ?aB ?aS ?aL ?_; (case aP => exact k57_mkM _ _ _ (⟨t300, t301, t302, t303, t304⟩ : S57)); (case aB => exact (below_later HB.out)); (case aF => exact (fun _ _ => trivial)); (case aO => exact (R_later HO_10.out)); (case aS => exact (below_size (below_later HB.out))); (case aL => have := LMc20.out; omega); intro v306 w36 ho hb hg hat; rw [← Ny305.out] at ho; have n0_ := Aside0.mk (hb); have n1_ := Aside0.mk (ho); clear HB; clear HO_10; have HB := n0_; have HO307 := n1_; clear n0_ n1_; clear ho hb hg hat) | ((with_reducible refine gate_builtin (b := .append) (xs := #[.tmp 40, .tmp 41]) rfl ?_); at_builtin; refine Kd.R_append_rows k57 (w0 := w) w.heap.size rfl (.tmp 40) (.tmp 41) 34 57 (.agg #[(.int .i64 0), (.int .i64 0), (.int .i64 0), (.string ⟨#[]⟩), (.int .i64 0)]) 48 rfl Try.underlying34 info57 rfl (by decide) (by omega) v306 y305 l3 _ _ _ (fun _ => True) (fun _ => False) rfl rfl ?aO ?aR (fun _ _ h => h) (fun _ h => h.elim) ?aF ?aB ?aS ?aL ?_; (case aR => repeat (first | exact (Kd.C_below HR3.out HB.out) | (with_reducible refine Kd.C_alloc ?_ _) | (with_reducible refine Kd.C_drewN ?_ _) | (with_reducible refine Kd.C_drew ?_))); (case aB => exact (below_later HB.out)); (case aF => exact (fun _ _ => trivial)); (case aO => exact (R_later HO307.out)); (case aS => exact (below_size (below_later HB.out))); (case aL => have := LMc21.out; omega); intro v309 w37 ho hb hg hat; rw [← Ny308.out] at ho; have n0_ := Aside0.mk (hb); have n1_ := Aside0.mk (ho); clear HB; clear HO307; have HB := n0_; have HO310 := n1_; clear n0_ n1_; clear ho hb hg hat; obtain ⟨Ao38, co38, eo38⟩ := Kd.R_slice HO310.out; subst eo38) | ((with_reducible refine gate_callee (f := 60) rfl ?_); refine gl_ (some 43) Try.func60 #[.slice Ao38 y308.length co38] rfl ?_; (with_reducible refine (spec_TreePack.calls kj9 _ _ y308 t311 false _ ?side1 ?side2 A22.out).mono ?_); (case side1 => repeat (first | exact (Kd.R_reads' HO310.out).2.2 | (with_reducible refine Kd.C_alloc ?_ _) | (with_reducible refine Kd.C_drewN ?_ _) | (with_reducible refine Kd.C_drew ?_))); (case side2 => exact (Kd.R_reads' HO310.out).2.1); rintro e w39 ⟨v313, rfl, ho0, hb⟩; refine ⟨_, rfl, ?_⟩; have HO314 := Aside0.mk (Kd.R_lower ho0 (below_size (below_later HB.out))); replace HO310 := Aside0.mk (Kd.R_below (R_later HO310.out) hb); replace HB := bst HB hb; (try clear hb); (try clear hk); (try clear ho0)) | ((with_reducible refine gate_dst (N := 48) rfl ?_); refine Kd.R_lit (Kd.int .u8) _ 5 ?hg (N := 48) ?hd (xs := ([] : List Int)) (inner := []) (ok := fun _ => True) (okp := fun _ => True) ?hr ?hp (fun _ hk => hk) trivial (Below.refl _ _) (Nat.le_refl _) (by simp) ?_; (case hd => rfl); (case hg => rfl); (case hr => first | (go_simp; done) | (go_simp; rfl)); (case hp => exact (Reps.none _ _)); intro v319 w40 ho41 hb hg_ hnew_; clear hg_ hnew_; (first | rw [← Ny318.out] at ho41 | (simp only [Int.reduceToNat] at ho41; rw [← Ny318.out] at ho41)); have HO320 := Aside0.mk (Kd.R_lower (Kd.R_new' ho41 (Kd.R_lt (R_later HO314.out))) (below_size (below_later HB.out))); replace HO310 := Aside0.mk (Kd.R_below (R_later HO310.out) hb); replace HO314 := Aside0.mk (Kd.R_elder' (R_later HO314.out) (Kd.R_base ho41) hb); replace HB := bst HB hb; clear hb ho41))
          go_ret2
          exact ⟨_, by first | rfl | (simp [errW_none, errW_some] <;> rfl) | (simp [*, errW_none, errW_some] <;> rfl), by (with_reducible repeat (first | apply Kd.R_alloc | apply Kd.R_drewN | apply Kd.R_drew)); exact Kd.R_mono HO320.out (fun _ hk => trivial), below_later HB.out⟩
  · replace c8 := Bool.eq_false_iff.mpr c8
    subst c8
    replace H := ifn Bool.false_ne_true H
    replace H := ifs H
    obtain ⟨c42, H⟩ := H
    have LMc42 := Aside0.mk c42
    clear c42
    obtain ⟨y321, hy321⟩ : ∃ y_ : List (S57), y_ = (y295 ++ l3) := ⟨_, rfl⟩
    replace H : ((spec_TreePack.f k y321).bind fun bt324 => (if bt324.2 = true then (if bt324.1.length + l1.length < 140737488355328 then (some ((bt324.1 ++ l1), true)) else (none)) else (some ((([] : List Int)), false)))) = some (r1, r2) := by first | (rw [hy321]; with_reducible exact H) | (rw [hy321]; exact H) | exact H
    have Ny321 := Aside0.mk hy321
    clear hy321
    replace H := Option.bind_eq_some_iff.mp H
    obtain ⟨⟨t324, t325⟩, A430, H⟩ := H
    replace H : (if t325 = true then (if t324.length + l1.length < 140737488355328 then (some ((t324 ++ l1), true)) else (none)) else (some ((([] : List Int)), false))) = some (r1, r2) := H
    have A43 := Aside0.mk A430
    clear A430
    by_cases c44 : t325 = true
    · subst c44
      replace H := ifp rfl H
      replace H := ifs H
      obtain ⟨c45, H⟩ := H
      have LMc45 := Aside0.mk c45
      clear c45
      obtain ⟨y328, hy328⟩ : ∃ y_ : List Int, y_ = (t324 ++ l1) := ⟨_, rfl⟩
      replace H : (some (y328, true)) = some (r1, r2) := by first | (rw [hy328]; with_reducible exact H) | (rw [hy328]; exact H) | exact H
      have Ny328 := Aside0.mk hy328
      clear hy328
      simp only [Option.some.injEq, Prod.mk.injEq] at H
      obtain ⟨rfl, rfl⟩ := H
      go_enter Try.func33, Try.ntmps33
      go_wp2_with (first | ((with_reducible refine gate_callee (f := 34) rfl ?_); refine gl_ (some 16) Try.func34 #[.int .i64 1, .int .i64 a0] rfl ?_; (with_reducible refine (spec_l16Int.calls 1 a0 t280 t281 t282 t283 t284 _ A5.out).mono ?_); rintro e w46 ⟨rfl, hb⟩; refine ⟨_, rfl, ?_⟩; replace HB := bst HB hb; (try clear hb); (try clear hk)) | ((with_reducible refine gate_callee (f := 34) rfl ?_); refine gl_ (some 19) Try.func34 #[.int .i64 2, .int .i64 (l1.length : Int)] rfl ?_; (with_reducible refine (spec_l16Int.calls 2 (l1.length : Int) t285 t286 t287 t288 t289 _ A6.out).mono ?_); rintro e w47 ⟨rfl, hb⟩; refine ⟨_, rfl, ?_⟩; replace HB := bst HB hb; (try clear hb); (try clear hk)) | ((with_reducible refine gate_callee (f := 34) rfl ?_); refine gl_ (some 22) Try.func34 #[.int .i64 3, .int .i64 (l1.length : Int)] rfl ?_; (with_reducible refine (spec_l16Int.calls 3 (l1.length : Int) t290 t291 t292 t293 t294 _ A7.out).mono ?_); rintro e w48 ⟨rfl, hb⟩; refine ⟨_, rfl, ?_⟩; replace HB := bst HB hb; (try clear hb); (try clear hk)) | ((with_reducible refine gate_dst (N := 23) rfl ?_); refine Kd.R_lit k57 _ 57 ?hg (N := 23) ?hd (xs := ([(⟨12, 0, 0, (⟨#[]⟩ : ByteArray), 4⟩ : S57), (⟨t280, t281, t282, t283, t284⟩ : S57), (⟨t285, t286, t287, t288, t289⟩ : S57), (⟨t290, t291, t292, t293, t294⟩ : S57)] : List (S57))) (inner := [.int .i64 12, .int .i64 0, .int .i64 0, .string (⟨#[]⟩ : ByteArray), .int .i64 4, .int .i64 t280, .int .i64 t281, .int .i64 t282, .string t283, .int .i64 t284, .int .i64 t285, .int .i64 t286, .int .i64 t287, .string t288, .int .i64 t289, .int .i64 t290, .int .i64 t291, .int .i64 t292, .string t293, .int .i64 t294]) (ok := fun _ => True) (okp := fun _ => True) ?hr ?hp (fun _ hk => hk) trivial (Below.refl _ _) (Nat.le_refl _) (by simp) ?_; (case hd => rfl); (case hg => rfl); (case hr => first | (go_simp; done) | (go_simp; rfl)); (case hp => exact (Reps.c5 (show Kd.M k57 _ _ _ (⟨12, 0, 0, (⟨#[]⟩ : ByteArray), 4⟩ : S57) [.int .i64 12, .int .i64 0, .int .i64 0, .string (⟨#[]⟩ : ByteArray), .int .i64 4] from (k57_mkM _ _ _ (⟨12, 0, 0, (⟨#[]⟩ : ByteArray), 4⟩ : S57) )) (Reps.c5 (show Kd.M k57 _ _ _ (⟨t280, t281, t282, t283, t284⟩ : S57) [.int .i64 t280, .int .i64 t281, .int .i64 t282, .string t283, .int .i64 t284] from (k57_mkM _ _ _ (⟨t280, t281, t282, t283, t284⟩ : S57) )) (Reps.c5 (show Kd.M k57 _ _ _ (⟨t285, t286, t287, t288, t289⟩ : S57) [.int .i64 t285, .int .i64 t286, .int .i64 t287, .string t288, .int .i64 t289] from (k57_mkM _ _ _ (⟨t285, t286, t287, t288, t289⟩ : S57) )) (Reps.c5 (show Kd.M k57 _ _ _ (⟨t290, t291, t292, t293, t294⟩ : S57) [.int .i64 t290, .int .i64 t291, .int .i64 t292, .string t293, .int .i64 t294] from (k57_mkM _ _ _ (⟨t290, t291, t292, t293, t294⟩ : S57) )) (Reps.none _ _)))))); intro v296 w49 ho50 hb hg_ hnew_; clear hg_ hnew_; (first | rw [← Ny295.out] at ho50 | (simp only [Int.reduceToNat] at ho50; rw [← Ny295.out] at ho50)); have HO297 := Aside0.mk (Kd.R_lower ho50 (below_size (below_later HB.out))); replace HB := bst HB hb; clear hb ho50) | ((with_reducible refine gate_builtin (b := .append) (xs := #[.tmp 40, .tmp 41]) rfl ?_); at_builtin; refine Kd.R_append_rows k57 (w0 := w) w.heap.size rfl (.tmp 40) (.tmp 41) 34 57 (.agg #[(.int .i64 0), (.int .i64 0), (.int .i64 0), (.string ⟨#[]⟩), (.int .i64 0)]) 48 rfl Try.underlying34 info57 rfl (by decide) (by omega) v296 y295 l3 _ _ _ (fun _ => True) (fun _ => False) rfl rfl ?aO ?aR (fun _ _ h => h) (fun _ h => h.elim) ?aF ?aB ?aS ?aL ?_; (case aR => repeat (first | exact (Kd.C_below HR3.out HB.out) | (with_reducible refine Kd.C_alloc ?_ _) | (with_reducible refine Kd.C_drewN ?_ _) | (with_reducible refine Kd.C_drew ?_))); (case aB => exact (below_later HB.out)); (case aF => exact (fun _ _ => trivial)); (case aO => exact (R_later HO297.out)); (case aS => exact (below_size (below_later HB.out))); (case aL => have := LMc42.out; omega); intro v322 w51 ho hb hg hat; rw [← Ny321.out] at ho; have n0_ := Aside0.mk (hb); have n1_ := Aside0.mk (ho); clear HB; clear HO297; have HB := n0_; have HO323 := n1_; clear n0_ n1_; clear ho hb hg hat; obtain ⟨Ao52, co52, eo52⟩ := Kd.R_slice HO323.out; subst eo52) | ((with_reducible refine gate_callee (f := 60) rfl ?_); refine gl_ (some 43) Try.func60 #[.slice Ao52 y321.length co52] rfl ?_; (with_reducible refine (spec_TreePack.calls k _ _ y321 t324 true _ ?side1 ?side2 A43.out).mono ?_); (case side1 => repeat (first | exact (Kd.R_reads' HO323.out).2.2 | (with_reducible refine Kd.C_alloc ?_ _) | (with_reducible refine Kd.C_drewN ?_ _) | (with_reducible refine Kd.C_drew ?_))); (case side2 => exact (Kd.R_reads' HO323.out).2.1); rintro e w53 ⟨v326, rfl, ho0, hb⟩; refine ⟨_, rfl, ?_⟩; have HO327 := Aside0.mk (Kd.R_lower ho0 (below_size (below_later HB.out))); replace HO323 := Aside0.mk (Kd.R_below (R_later HO323.out) hb); replace HB := bst HB hb; (try clear hb); (try clear hk); (try clear ho0)) | ((with_reducible refine gate_builtin (b := .append) (xs := #[.tmp 49, .tmp 50]) rfl ?_); at_builtin; refine Kd.R_append_rows (Kd.int .u8) (w0 := w) w.heap.size rfl (.tmp 49) (.tmp 50) 41 5 (.int .u8 0) 1 rfl Try.underlying41 info5 rfl (by decide) (by omega) v326 t324 l1 _ _ _ (fun _ => True) (fun _ => False) rfl rfl ?aO ?aR (fun _ _ h => h) (fun _ h => h.elim) ?aF ?aB ?aS ?aL ?_; (case aR => repeat (first | exact (Kd.C_below HR1.out HB.out) | (with_reducible refine Kd.C_alloc ?_ _) | (with_reducible refine Kd.C_drewN ?_ _) | (with_reducible refine Kd.C_drew ?_))); (case aB => exact (below_later HB.out)); (case aF => exact (fun _ _ => trivial)); (case aO => exact (R_later HO327.out)); (case aS => exact (below_size (below_later HB.out))); (case aL => have := LMc45.out; omega); intro v329 w54 ho hb hg hat; rw [← Ny328.out] at ho; have n0_ := Aside0.mk (Kd.R_over' (R_later HO323.out) (Kd.R_typed (R_later HO327.out)) (by decide) hg); have n1_ := Aside0.mk (hb); have n2_ := Aside0.mk (ho); clear HO323; clear HB; clear HO327; have HO323 := n0_; have HB := n1_; have HO330 := n2_; clear n0_ n1_ n2_; clear ho hb hg hat))
      go_ret2
      exact ⟨_, by first | rfl | (simp [errW_none, errW_some] <;> rfl) | (simp [*, errW_none, errW_some] <;> rfl), by (with_reducible repeat (first | apply Kd.R_alloc | apply Kd.R_drewN | apply Kd.R_drew)); exact HO330.out, below_later HB.out⟩
    · replace c44 := Bool.eq_false_iff.mpr c44
      subst c44
      replace H := ifn Bool.false_ne_true H
      obtain ⟨y331, hy331⟩ : ∃ y_ : List Int, y_ = (([] : List Int)) := ⟨_, rfl⟩
      replace H : (some (y331, false)) = some (r1, r2) := by first | (rw [hy331]; with_reducible exact H) | (rw [hy331]; exact H) | exact H
      have Ny331 := Aside0.mk hy331
      clear hy331
      simp only [Option.some.injEq, Prod.mk.injEq] at H
      obtain ⟨rfl, rfl⟩ := H
      go_enter Try.func33, Try.ntmps33
      go_wp2_with (first | ((with_reducible refine gate_callee (f := 34) rfl ?_); refine gl_ (some 16) Try.func34 #[.int .i64 1, .int .i64 a0] rfl ?_; (with_reducible refine (spec_l16Int.calls 1 a0 t280 t281 t282 t283 t284 _ A5.out).mono ?_); rintro e w55 ⟨rfl, hb⟩; refine ⟨_, rfl, ?_⟩; replace HB := bst HB hb; (try clear hb); (try clear hk)) | ((with_reducible refine gate_callee (f := 34) rfl ?_); refine gl_ (some 19) Try.func34 #[.int .i64 2, .int .i64 (l1.length : Int)] rfl ?_; (with_reducible refine (spec_l16Int.calls 2 (l1.length : Int) t285 t286 t287 t288 t289 _ A6.out).mono ?_); rintro e w56 ⟨rfl, hb⟩; refine ⟨_, rfl, ?_⟩; replace HB := bst HB hb; (try clear hb); (try clear hk)) | ((with_reducible refine gate_callee (f := 34) rfl ?_); refine gl_ (some 22) Try.func34 #[.int .i64 3, .int .i64 (l1.length : Int)] rfl ?_; (with_reducible refine (spec_l16Int.calls 3 (l1.length : Int) t290 t291 t292 t293 t294 _ A7.out).mono ?_); rintro e w57 ⟨rfl, hb⟩; refine ⟨_, rfl, ?_⟩; replace HB := bst HB hb; (try clear hb); (try clear hk)) | ((with_reducible refine gate_dst (N := 23) rfl ?_); refine Kd.R_lit k57 _ 57 ?hg (N := 23) ?hd (xs := ([(⟨12, 0, 0, (⟨#[]⟩ : ByteArray), 4⟩ : S57), (⟨t280, t281, t282, t283, t284⟩ : S57), (⟨t285, t286, t287, t288, t289⟩ : S57), (⟨t290, t291, t292, t293, t294⟩ : S57)] : List (S57))) (inner := [.int .i64 12, .int .i64 0, .int .i64 0, .string (⟨#[]⟩ : ByteArray), .int .i64 4, .int .i64 t280, .int .i64 t281, .int .i64 t282, .string t283, .int .i64 t284, .int .i64 t285, .int .i64 t286, .int .i64 t287, .string t288, .int .i64 t289, .int .i64 t290, .int .i64 t291, .int .i64 t292, .string t293, .int .i64 t294]) (ok := fun _ => True) (okp := fun _ => True) ?hr ?hp (fun _ hk => hk) trivial (Below.refl _ _) (Nat.le_refl _) (by simp) ?_; (case hd => rfl); (case hg => rfl); (case hr => first | (go_simp; done) | (go_simp; rfl)); (case hp => exact (Reps.c5 (show Kd.M k57 _ _ _ (⟨12, 0, 0, (⟨#[]⟩ : ByteArray), 4⟩ : S57) [.int .i64 12, .int .i64 0, .int .i64 0, .string (⟨#[]⟩ : ByteArray), .int .i64 4] from (k57_mkM _ _ _ (⟨12, 0, 0, (⟨#[]⟩ : ByteArray), 4⟩ : S57) )) (Reps.c5 (show Kd.M k57 _ _ _ (⟨t280, t281, t282, t283, t284⟩ : S57) [.int .i64 t280, .int .i64 t281, .int .i64 t282, .string t283, .int .i64 t284] from (k57_mkM _ _ _ (⟨t280, t281, t282, t283, t284⟩ : S57) )) (Reps.c5 (show Kd.M k57 _ _ _ (⟨t285, t286, t287, t288, t289⟩ : S57) [.int .i64 t285, .int .i64 t286, .int .i64 t287, .string t288, .int .i64 t289] from (k57_mkM _ _ _ (⟨t285, t286, t287, t288, t289⟩ : S57) )) (Reps.c5 (show Kd.M k57 _ _ _ (⟨t290, t291, t292, t293, t294⟩ : S57) [.int .i64 t290, .int .i64 t291, .int .i64 t292, .string t293, .int .i64 t294] from (k57_mkM _ _ _ (⟨t290, t291, t292, t293, t294⟩ : S57) )) (Reps.none _ _)))))); intro v296 w58 ho59 hb hg_ hnew_; clear hg_ hnew_; (first | rw [← Ny295.out] at ho59 | (simp only [Int.reduceToNat] at ho59; rw [← Ny295.out] at ho59)); have HO297 := Aside0.mk (Kd.R_lower ho59 (below_size (below_later HB.out))); replace HB := bst HB hb; clear hb ho59) | ((with_reducible refine gate_builtin (b := .append) (xs := #[.tmp 40, .tmp 41]) rfl ?_); at_builtin; refine Kd.R_append_rows k57 (w0 := w) w.heap.size rfl (.tmp 40) (.tmp 41) 34 57 (.agg #[(.int .i64 0), (.int .i64 0), (.int .i64 0), (.string ⟨#[]⟩), (.int .i64 0)]) 48 rfl Try.underlying34 info57 rfl (by decide) (by omega) v296 y295 l3 _ _ _ (fun _ => True) (fun _ => False) rfl rfl ?aO ?aR (fun _ _ h => h) (fun _ h => h.elim) ?aF ?aB ?aS ?aL ?_; (case aR => repeat (first | exact (Kd.C_below HR3.out HB.out) | (with_reducible refine Kd.C_alloc ?_ _) | (with_reducible refine Kd.C_drewN ?_ _) | (with_reducible refine Kd.C_drew ?_))); (case aB => exact (below_later HB.out)); (case aF => exact (fun _ _ => trivial)); (case aO => exact (R_later HO297.out)); (case aS => exact (below_size (below_later HB.out))); (case aL => have := LMc42.out; omega); intro v322 w60 ho hb hg hat; rw [← Ny321.out] at ho; have n0_ := Aside0.mk (hb); have n1_ := Aside0.mk (ho); clear HB; clear HO297; have HB := n0_; have HO323 := n1_; clear n0_ n1_; clear ho hb hg hat; obtain ⟨Ao61, co61, eo61⟩ := Kd.R_slice HO323.out; subst eo61) | ((with_reducible refine gate_callee (f := 60) rfl ?_); refine gl_ (some 43) Try.func60 #[.slice Ao61 y321.length co61] rfl ?_; (with_reducible refine (spec_TreePack.calls k _ _ y321 t324 false _ ?side1 ?side2 A43.out).mono ?_); (case side1 => repeat (first | exact (Kd.R_reads' HO323.out).2.2 | (with_reducible refine Kd.C_alloc ?_ _) | (with_reducible refine Kd.C_drewN ?_ _) | (with_reducible refine Kd.C_drew ?_))); (case side2 => exact (Kd.R_reads' HO323.out).2.1); rintro e w62 ⟨v326, rfl, ho0, hb⟩; refine ⟨_, rfl, ?_⟩; have HO327 := Aside0.mk (Kd.R_lower ho0 (below_size (below_later HB.out))); replace HO323 := Aside0.mk (Kd.R_below (R_later HO323.out) hb); replace HB := bst HB hb; (try clear hb); (try clear hk); (try clear ho0)) | ((with_reducible refine gate_dst (N := 48) rfl ?_); refine Kd.R_lit (Kd.int .u8) _ 5 ?hg (N := 48) ?hd (xs := ([] : List Int)) (inner := []) (ok := fun _ => True) (okp := fun _ => True) ?hr ?hp (fun _ hk => hk) trivial (Below.refl _ _) (Nat.le_refl _) (by simp) ?_; (case hd => rfl); (case hg => rfl); (case hr => first | (go_simp; done) | (go_simp; rfl)); (case hp => exact (Reps.none _ _)); intro v332 w63 ho64 hb hg_ hnew_; clear hg_ hnew_; (first | rw [← Ny331.out] at ho64 | (simp only [Int.reduceToNat] at ho64; rw [← Ny331.out] at ho64)); have HO333 := Aside0.mk (Kd.R_lower (Kd.R_new' ho64 (Kd.R_lt (R_later HO327.out))) (below_size (below_later HB.out))); replace HO323 := Aside0.mk (Kd.R_below (R_later HO323.out) hb); replace HO327 := Aside0.mk (Kd.R_elder' (R_later HO327.out) (Kd.R_base ho64) hb); replace HB := bst HB hb; clear hb ho64))
      go_ret2
      exact ⟨_, by first | rfl | (simp [errW_none, errW_some] <;> rfl) | (simp [*, errW_none, errW_some] <;> rfl), by (with_reducible repeat (first | apply Kd.R_alloc | apply Kd.R_drewN | apply Kd.R_drew)); exact Kd.R_mono HO333.out (fun _ hk => trivial), below_later HB.out⟩
/-! ### spec_DictPack: function 13 -/
def spec_DictPack.f (k : Nat) (a0 : Int) (l1 : List (S27)) (a2 : Bool) : Option (List Int × Bool) := (spec_PlainPack.f k a0 l1).bind fun bt334 => (if bt334.2 = true then ((spec_l16Int.f 1 (l1.length : Int)).bind fun bt338 => ((spec_l16Int.f 2 0).bind fun bt343 => ((spec_l16Page.f k 2 bt334.1 a2 (([(⟨12, 7, 0, (⟨#[]⟩ : ByteArray), 2⟩ : S57), (⟨bt338.1, bt338.2.1, bt338.2.2.1, bt338.2.2.2.1, bt338.2.2.2.2⟩ : S57), (⟨bt343.1, bt343.2.1, bt343.2.2.1, bt343.2.2.2.1, bt343.2.2.2.2⟩ : S57)] : List (S57)))).bind fun bt351 => (some (bt351.1, bt351.2))))) else (some ((([] : List Int)), false)))
set_option maxHeartbeats 8000000 in
set_option maxRecDepth 100000 in
theorem spec_DictPack.calls (k : Nat) (a0 : Int) (A1 : Option Addr) (c1 : Nat) (l1 : List (S27)) (a2 : Bool) (r1 : List Int) (r2 : Bool) (w : World) (hr1 : Kd.C k27 w A1 l1.length l1) (hc1 : l1.length ≤ c1) (h : spec_DictPack.f k a0 l1 a2 = some (r1, r2)) :
    Calls Try.prog 13 #[.int .i64 a0, .slice A1 l1.length c1, .bool a2] w fun e w' => ∃ v0_ : Value, e = .returned (.tuple #[v0_, .bool r2]) ∧ Kd.R (Kd.int .u8) 5 w' w.heap.size (fun _ => True) v0_ r1 ∧ Below w.heap.size w w' := by
  have hu57 := Try.underlying57
  have HR1 := Aside0.mk hr1
  have HC1 := Aside0.mk hc1
  clear hr1 hc1
  have HB := Aside0.mk (Below.refl w.heap.size w)
  have H : ((spec_PlainPack.f k a0 l1).bind fun bt334 => (if bt334.2 = true then ((spec_l16Int.f 1 (l1.length : Int)).bind fun bt338 => ((spec_l16Int.f 2 0).bind fun bt343 => ((spec_l16Page.f k 2 bt334.1 a2 (([(⟨12, 7, 0, (⟨#[]⟩ : ByteArray), 2⟩ : S57), (⟨bt338.1, bt338.2.1, bt338.2.2.1, bt338.2.2.2.1, bt338.2.2.2.2⟩ : S57), (⟨bt343.1, bt343.2.1, bt343.2.2.1, bt343.2.2.2.1, bt343.2.2.2.2⟩ : S57)] : List (S57)))).bind fun bt351 => (some (bt351.1, bt351.2))))) else (some ((([] : List Int)), false)))) = some (r1, r2) := h
  clear h
  replace H := Option.bind_eq_some_iff.mp H
  obtain ⟨⟨t334, t335⟩, A40, H⟩ := H
  replace H : (if t335 = true then ((spec_l16Int.f 1 (l1.length : Int)).bind fun bt338 => ((spec_l16Int.f 2 0).bind fun bt343 => ((spec_l16Page.f k 2 t334 a2 (([(⟨12, 7, 0, (⟨#[]⟩ : ByteArray), 2⟩ : S57), (⟨bt338.1, bt338.2.1, bt338.2.2.1, bt338.2.2.2.1, bt338.2.2.2.2⟩ : S57), (⟨bt343.1, bt343.2.1, bt343.2.2.1, bt343.2.2.2.1, bt343.2.2.2.2⟩ : S57)] : List (S57)))).bind fun bt351 => (some (bt351.1, bt351.2))))) else (some ((([] : List Int)), false))) = some (r1, r2) := H
  have A4 := Aside0.mk A40
  clear A40
  by_cases c5 : t335 = true
  · subst c5
    replace H := ifp rfl H
    replace H := Option.bind_eq_some_iff.mp H
    obtain ⟨⟨t338, t339, t340, t341, t342⟩, A60, H⟩ := H
    replace H : ((spec_l16Int.f 2 0).bind fun bt343 => ((spec_l16Page.f k 2 t334 a2 (([(⟨12, 7, 0, (⟨#[]⟩ : ByteArray), 2⟩ : S57), (⟨t338, t339, t340, t341, t342⟩ : S57), (⟨bt343.1, bt343.2.1, bt343.2.2.1, bt343.2.2.2.1, bt343.2.2.2.2⟩ : S57)] : List (S57)))).bind fun bt351 => (some (bt351.1, bt351.2)))) = some (r1, r2) := H
    have A6 := Aside0.mk A60
    clear A60
    replace H := Option.bind_eq_some_iff.mp H
    obtain ⟨⟨t343, t344, t345, t346, t347⟩, A70, H⟩ := H
    replace H : ((spec_l16Page.f k 2 t334 a2 (([(⟨12, 7, 0, (⟨#[]⟩ : ByteArray), 2⟩ : S57), (⟨t338, t339, t340, t341, t342⟩ : S57), (⟨t343, t344, t345, t346, t347⟩ : S57)] : List (S57)))).bind fun bt351 => (some (bt351.1, bt351.2))) = some (r1, r2) := H
    have A7 := Aside0.mk A70
    clear A70
    obtain ⟨y348, hy348⟩ : ∃ y_ : List (S57), y_ = (([(⟨12, 7, 0, (⟨#[]⟩ : ByteArray), 2⟩ : S57), (⟨t338, t339, t340, t341, t342⟩ : S57), (⟨t343, t344, t345, t346, t347⟩ : S57)] : List (S57))) := ⟨_, rfl⟩
    replace H : ((spec_l16Page.f k 2 t334 a2 y348).bind fun bt351 => (some (bt351.1, bt351.2))) = some (r1, r2) := by first | (rw [hy348]; with_reducible exact H) | (rw [hy348]; exact H) | exact H
    have Ny348 := Aside0.mk hy348
    clear hy348
    replace H := Option.bind_eq_some_iff.mp H
    obtain ⟨⟨t351, t352⟩, A80, H⟩ := H
    replace H : (some (t351, t352)) = some (r1, r2) := H
    have A8 := Aside0.mk A80
    clear A80
    simp only [Option.some.injEq, Prod.mk.injEq] at H
    obtain ⟨rfl, rfl⟩ := H
    go_enter Try.func13, Try.ntmps13
    go_wp2_with (first | ((with_reducible refine gate_callee (f := 32) rfl ?_); refine gl_ (some 13) Try.func32 #[.int .i64 a0, .slice A1 l1.length c1] rfl ?_; (with_reducible refine (spec_PlainPack.calls k a0 _ _ l1 t334 true _ ?side1 ?side2 A4.out).mono ?_); (case side1 => exact C_later HR1.out); (case side2 => exact HC1.out); rintro e w9 ⟨v336, rfl, ho0, hb⟩; refine ⟨_, rfl, ?_⟩; have HO337 := Aside0.mk (Kd.R_lower ho0 (below_size (below_later HB.out))); replace HB := bst HB hb; (try clear hb); (try clear hk); (try clear ho0)) | ((with_reducible refine gate_callee (f := 34) rfl ?_); refine gl_ (some 24) Try.func34 #[.int .i64 1, .int .i64 (l1.length : Int)] rfl ?_; (with_reducible refine (spec_l16Int.calls 1 (l1.length : Int) t338 t339 t340 t341 t342 _ A6.out).mono ?_); rintro e w10 ⟨rfl, hb⟩; refine ⟨_, rfl, ?_⟩; replace HO337 := Aside0.mk (Kd.R_below (R_later HO337.out) hb); replace HB := bst HB hb; (try clear hb); (try clear hk)) | ((with_reducible refine gate_callee (f := 34) rfl ?_); refine gl_ (some 25) Try.func34 #[.int .i64 2, .int .i64 0] rfl ?_; (with_reducible refine (spec_l16Int.calls 2 0 t343 t344 t345 t346 t347 _ A7.out).mono ?_); rintro e w11 ⟨rfl, hb⟩; refine ⟨_, rfl, ?_⟩; replace HO337 := Aside0.mk (Kd.R_below (R_later HO337.out) hb); replace HB := bst HB hb; (try clear hb); (try clear hk)) | ((with_reducible refine gate_dst (N := 26) rfl ?_); refine Kd.R_lit k57 _ 57 ?hg (N := 26) ?hd (xs := ([(⟨12, 7, 0, (⟨#[]⟩ : ByteArray), 2⟩ : S57), (⟨t338, t339, t340, t341, t342⟩ : S57), (⟨t343, t344, t345, t346, t347⟩ : S57)] : List (S57))) (inner := [.int .i64 12, .int .i64 7, .int .i64 0, .string (⟨#[]⟩ : ByteArray), .int .i64 2, .int .i64 t338, .int .i64 t339, .int .i64 t340, .string t341, .int .i64 t342, .int .i64 t343, .int .i64 t344, .int .i64 t345, .string t346, .int .i64 t347]) (ok := fun _ => True) (okp := fun _ => True) ?hr ?hp (fun _ hk => hk) trivial (Below.refl _ _) (Nat.le_refl _) (by simp) ?_; (case hd => rfl); (case hg => rfl); (case hr => first | (go_simp; done) | (go_simp; rfl)); (case hp => exact (Reps.c5 (show Kd.M k57 _ _ _ (⟨12, 7, 0, (⟨#[]⟩ : ByteArray), 2⟩ : S57) [.int .i64 12, .int .i64 7, .int .i64 0, .string (⟨#[]⟩ : ByteArray), .int .i64 2] from (k57_mkM _ _ _ (⟨12, 7, 0, (⟨#[]⟩ : ByteArray), 2⟩ : S57) )) (Reps.c5 (show Kd.M k57 _ _ _ (⟨t338, t339, t340, t341, t342⟩ : S57) [.int .i64 t338, .int .i64 t339, .int .i64 t340, .string t341, .int .i64 t342] from (k57_mkM _ _ _ (⟨t338, t339, t340, t341, t342⟩ : S57) )) (Reps.c5 (show Kd.M k57 _ _ _ (⟨t343, t344, t345, t346, t347⟩ : S57) [.int .i64 t343, .int .i64 t344, .int .i64 t345, .string t346, .int .i64 t347] from (k57_mkM _ _ _ (⟨t343, t344, t345, t346, t347⟩ : S57) )) (Reps.none _ _))))); intro v349 w12 ho13 hb hg_ hnew_; clear hg_ hnew_; (first | rw [← Ny348.out] at ho13 | (simp only [Int.reduceToNat] at ho13; rw [← Ny348.out] at ho13)); have HO350 := Aside0.mk (Kd.R_lower ho13 (below_size (below_later HB.out))); replace HO337 := Aside0.mk (Kd.R_below (R_later HO337.out) hb); replace HB := bst HB hb; clear hb ho13; obtain ⟨Ao14, co14, eo14⟩ := Kd.R_slice HO337.out; subst eo14; obtain ⟨Ao15, co15, eo15⟩ := Kd.R_slice HO350.out; subst eo15) | ((with_reducible refine gate_callee (f := 33) rfl ?_); refine gl_ (some 27) Try.func33 #[.int .i64 2, .slice Ao14 t334.length co14, .bool a2, .slice Ao15 y348.length co15] rfl ?_; (with_reducible refine (spec_l16Page.calls k 2 _ _ t334 a2 _ _ y348 t351 t352 _ ?side1 ?side2 ?side3 ?side4 A8.out).mono ?_); (case side1 => repeat (first | exact (Kd.R_reads' HO337.out).2.2 | (with_reducible refine Kd.C_alloc ?_ _) | (with_reducible refine Kd.C_drewN ?_ _) | (with_reducible refine Kd.C_drew ?_))); (case side2 => exact (Kd.R_reads' HO337.out).2.1); (case side3 => repeat (first | exact (Kd.R_reads' HO350.out).2.2 | (with_reducible refine Kd.C_alloc ?_ _) | (with_reducible refine Kd.C_drewN ?_ _) | (with_reducible refine Kd.C_drew ?_))); (case side4 => exact (Kd.R_reads' HO350.out).2.1); rintro e w16 ⟨v353, rfl, ho0, hb⟩; refine ⟨_, rfl, ?_⟩; have HO354 := Aside0.mk (Kd.R_lower (Kd.R_new' ho0 (Kd.R_lt (R_later HO337.out))) (below_size (below_later HB.out))); replace HO337 := Aside0.mk (Kd.R_elder' (R_later HO337.out) (Kd.R_base ho0) hb); replace HO350 := Aside0.mk (Kd.R_below (R_later HO350.out) hb); replace HB := bst HB hb; (try clear hb); (try clear hk); (try clear ho0)))
    go_ret2
    exact ⟨_, by first | rfl | (simp [errW_none, errW_some] <;> rfl) | (simp [*, errW_none, errW_some] <;> rfl), by (with_reducible repeat (first | apply Kd.R_alloc | apply Kd.R_drewN | apply Kd.R_drew)); exact Kd.R_mono HO354.out (fun _ hk => trivial), below_later HB.out⟩
  · replace c5 := Bool.eq_false_iff.mpr c5
    subst c5
    replace H := ifn Bool.false_ne_true H
    obtain ⟨y355, hy355⟩ : ∃ y_ : List Int, y_ = (([] : List Int)) := ⟨_, rfl⟩
    replace H : (some (y355, false)) = some (r1, r2) := by first | (rw [hy355]; with_reducible exact H) | (rw [hy355]; exact H) | exact H
    have Ny355 := Aside0.mk hy355
    clear hy355
    simp only [Option.some.injEq, Prod.mk.injEq] at H
    obtain ⟨rfl, rfl⟩ := H
    go_enter Try.func13, Try.ntmps13
    go_wp2_with (first | ((with_reducible refine gate_callee (f := 32) rfl ?_); refine gl_ (some 13) Try.func32 #[.int .i64 a0, .slice A1 l1.length c1] rfl ?_; (with_reducible refine (spec_PlainPack.calls k a0 _ _ l1 t334 false _ ?side1 ?side2 A4.out).mono ?_); (case side1 => exact C_later HR1.out); (case side2 => exact HC1.out); rintro e w17 ⟨v336, rfl, ho0, hb⟩; refine ⟨_, rfl, ?_⟩; have HO337 := Aside0.mk (Kd.R_lower ho0 (below_size (below_later HB.out))); replace HB := bst HB hb; (try clear hb); (try clear hk); (try clear ho0)) | ((with_reducible refine gate_dst (N := 18) rfl ?_); refine Kd.R_lit (Kd.int .u8) _ 5 ?hg (N := 18) ?hd (xs := ([] : List Int)) (inner := []) (ok := fun _ => True) (okp := fun _ => True) ?hr ?hp (fun _ hk => hk) trivial (Below.refl _ _) (Nat.le_refl _) (by simp) ?_; (case hd => rfl); (case hg => rfl); (case hr => first | (go_simp; done) | (go_simp; rfl)); (case hp => exact (Reps.none _ _)); intro v356 w18 ho19 hb hg_ hnew_; clear hg_ hnew_; (first | rw [← Ny355.out] at ho19 | (simp only [Int.reduceToNat] at ho19; rw [← Ny355.out] at ho19)); have HO357 := Aside0.mk (Kd.R_lower (Kd.R_new' ho19 (Kd.R_lt (R_later HO337.out))) (below_size (below_later HB.out))); replace HO337 := Aside0.mk (Kd.R_elder' (R_later HO337.out) (Kd.R_base ho19) hb); replace HB := bst HB hb; clear hb ho19))
    go_ret2
    exact ⟨_, by first | rfl | (simp [errW_none, errW_some] <;> rfl) | (simp [*, errW_none, errW_some] <;> rfl), by (with_reducible repeat (first | apply Kd.R_alloc | apply Kd.R_drewN | apply Kd.R_drew)); exact Kd.R_mono HO357.out (fun _ hk => trivial), below_later HB.out⟩

/-! ### laws_toVal: function 35 -/
def laws_toVal.f (a0_0 : Int) (a0_1 : ByteArray) : Option (Int × ByteArray) := some (a0_0, a0_1)
set_option maxHeartbeats 8000000 in
set_option maxRecDepth 100000 in
theorem laws_toVal.calls (a0_0 : Int) (a0_1 : ByteArray) (r1 : Int) (r2 : ByteArray) (w : World) (h : laws_toVal.f a0_0 a0_1 = some (r1, r2)) :
    Calls Try.prog 35 #[.agg #[.int .i64 a0_0, .string a0_1]] w fun e w' => e = .returned (.agg #[.int .i64 r1, .string r2]) ∧ Below w.heap.size w w' := by
  have hu66 := Try.underlying66
  have hu27 := Try.underlying27
  have HB := Aside0.mk (Below.refl w.heap.size w)
  have H : (some (a0_0, a0_1)) = some (r1, r2) := h
  clear h
  simp only [Option.some.injEq, Prod.mk.injEq] at H
  obtain ⟨rfl, rfl⟩ := H
  go_enter Try.func35, Try.ntmps35
  go_wp2_with (first | ((with_reducible refine gate_dst (N := 1) rfl ?_); refine bx_ 1 #[.int .i64 a0_0, .string a0_1] 66 ?_; intro gb358 hg w2 hbox hb; have BK358 := Aside0.mk (hbox); have GW358 := gwe HB hg; have GE358 := GW358; replace HB := bst HB hb; clear hb hbox hg) | ((with_reducible refine gate_dst (N := 2) rfl ?_); refine bx_ 2 #[.int .i64 0, .string (⟨#[]⟩ : ByteArray)] 27 ?_; intro gb359 hg w3 hbox hb; have BK359 := Aside0.mk (hbox); have GW359 := gwe HB hg; have GE359 := GW359; have NB358_359 := nbl BK358 hg; have NB359_358 := nbr (nbl BK358 hg); replace BK358 := bkb BK358 hb; replace HB := bst HB hb; clear hb hbox hg) | ((with_reducible refine gate_dst (N := 3) rfl ?_); refine bx_ 3 #[.int .i64 0, .string (⟨#[]⟩ : ByteArray)] 27 ?_; intro gb360 hg w4 hbox hb; have BK360 := Aside0.mk (hbox); have GW360 := gwe HB hg; have GE360 := GW360; have NB358_360 := nbl BK358 hg; have NB360_358 := nbr (nbl BK358 hg); have NB359_360 := nbl BK359 hg; have NB360_359 := nbr (nbl BK359 hg); replace BK358 := bkb BK358 hb; replace BK359 := bkb BK359 hb; replace HB := bst HB hb; clear hb hbox hg; have hnb5 := NB358_359.out; have hnc5 := NB359_358.out; have hnb6 := NB358_360.out; have hnc6 := NB360_358.out; obtain ⟨hcz7_0, hcz7_1, hfz7_0, hfz7_1⟩ := cl2 BK358; have hnb8 := NB360_359.out; have hnc8 := NB359_360.out; obtain ⟨hcz9_0, hcz9_1, hfz9_0, hfz9_1⟩ := cl2 BK360; obtain ⟨hcz10_0, hcz10_1, hfz10_0, hfz10_1⟩ := cl2 BK359))
  refine bodyPost_ret (results_cell_row rfl _ _ gb359 27 #[.int .i64 a0_0, .string a0_1] (0, 0) _ rfl (by (with_reducible repeat (first | refine blk_drewN ?_ _ | refine blk_drew ?_ | refine blk_alloc ?_ _)); refine blk_put (cs := #[.int .i64 a0_0, .string (⟨#[]⟩ : ByteArray)]) ?_ 1 _ rfl; (with_reducible repeat (first | refine blk_drewN ?_ _ | refine blk_drew ?_ | refine blk_alloc ?_ _)); refine blk_put (cs := #[.int .i64 0, .string (⟨#[]⟩ : ByteArray)]) ?_ 0 _ rfl; (with_reducible repeat (first | refine blk_drewN ?_ _ | refine blk_drew ?_ | refine blk_alloc ?_ _)); refine blk_far ?_ NB359_360.out _; (with_reducible repeat (first | refine blk_drewN ?_ _ | refine blk_drew ?_ | refine blk_alloc ?_ _)); refine blk_far ?_ NB359_360.out _; (with_reducible repeat (first | refine blk_drewN ?_ _ | refine blk_drew ?_ | refine blk_alloc ?_ _)); exact BK359.out) Try.underlying27 rfl (by kernel_rfl)) rfl ?_
  exact fin_ (below_later HB.out)

/-! ### laws_toValS: function 14 -/
def laws_toValS.l0 : Nat → List (S66) → List (S27) → Int → Option ((List (S27)))
  | 0, _, _, _ => none
  | k + 1, x0, x3, x4 => if x4 < (x0.length : Int) then (if 0 ≤ x4 then ((laws_toVal.f ((rd_T66 x0 x4).f0) ((rd_T66 x0 x4).f1)).bind fun bt365 => (if x4 < (x3.length : Int) then (laws_toValS.l0 k x0 (x3.set (x4 : Int).toNat (⟨bt365.1, bt365.2⟩ : S27)) (wrap64 (x4 + 1))) else (none))) else (none)) else (some x3)
def laws_toValS.f (k : Nat) (l0 : List (S66)) : Option ((List (S27))) := if 0 ≤ (l0.length : Int) then (if ((l0.length : Int) : Int).toNat ≤ 11728124029610 then (laws_toValS.l0 k l0 (List.replicate ((l0.length : Int) : Int).toNat z27) 0) else (none)) else (none)
set_option maxHeartbeats 8000000 in
set_option maxRecDepth 100000 in
theorem laws_toValS.calls (k : Nat) (A0 : Option Addr) (c0 : Nat) (l0 : List (S66)) (r : List (S27)) (w : World) (hr0 : Kd.C k66 w A0 l0.length l0) (hc0 : l0.length ≤ c0) (h : laws_toValS.f k l0 = some r) :
    Calls Try.prog 14 #[.slice A0 l0.length c0] w fun e w' => ∃ v0_ : Value, e = .returned (v0_) ∧ Kd.R k27 27 w' w.heap.size (fun _ => True) v0_ r ∧ Below w.heap.size w w' := by
  have hu66 := Try.underlying66
  have hu27 := Try.underlying27
  have HR0 := Aside0.mk hr0
  have HC0 := Aside0.mk hc0
  clear hr0 hc0
  have HB := Aside0.mk (Below.refl w.heap.size w)
  have H : (if 0 ≤ (l0.length : Int) then (if ((l0.length : Int) : Int).toNat ≤ 11728124029610 then (laws_toValS.l0 k l0 (List.replicate ((l0.length : Int) : Int).toNat z27) 0) else (none)) else (none)) = some r := h
  clear h
  replace H := ifs H
  obtain ⟨c2, H⟩ := H
  have c2b0 := eq_true c2
  have c2b1 := decide_eq_true c2
  clear c2
  replace H := ifs H
  obtain ⟨c3, H⟩ := H
  have c3b0 := eq_true c3
  have c3b1 := decide_eq_true c3
  clear c3
  obtain ⟨y361, hy361⟩ : ∃ y_ : List (S27), y_ = (List.replicate ((l0.length : Int) : Int).toNat z27) := ⟨_, rfl⟩
  replace H : (laws_toValS.l0 k l0 y361 0) = some r := by first | (rw [hy361]; with_reducible exact H) | (rw [hy361]; exact H) | exact H
  have Ny361 := Aside0.mk hy361
  clear hy361
  have H' := Aside0.mk H
  clear H
  go_enter Try.func14, Try.ntmps14
  go_wp2_with (first | ((with_reducible refine gate_dst (N := 7) rfl ?_); refine Kd.R_make k27 _ 27 rfl (N := 7) rfl 44 _ _ rfl (l0.length : Int) rfl rfl Try.underlying44 (.agg #[(.int .i64 0), (.string ⟨#[]⟩)]) 24 info27 rfl (by decide) (by omega) z27 (ok := fun _ => True) (okp := fun _ => True) (k27_mkM _ _ _ z27 ) (fun _ hk => hk) trivial (dcd) (Nat.le_trans (Nat.mul_le_mul_right _ (dcd : (l0.length : Int).toNat ≤ 11728124029610)) (by omega)) (Below.refl _ _) (Nat.le_refl _) ?_; intro v362 w4 ho5 hb hg_ hnew_; clear hg_ hnew_; (first | rw [← Ny361.out] at ho5 | (simp only [Int.reduceToNat] at ho5; rw [← Ny361.out] at ho5)); have HO363 := Aside0.mk (Kd.R_lower ho5 (below_size (below_later HB.out))); replace HB := bst HB hb; clear hb ho5))
  go_loopg [4] k (fun kq v4 w' => ∃ (x3_1 : List (S27)) (x4_1 : Int), v4 = .int .i64 x4_1 ∧ Aside0 (laws_toValS.l0 kq l0 x3_1 x4_1 = some r) ∧ Aside0 (kq ≤ k) ∧ Aside0 (Kd.R k27 27 w' w.heap.size (fun _ => True) v362 x3_1) ∧ Aside0 (Below w.heap.size w w'))
  case atStart => exact ⟨(y361), (0), sr, H', ⟨Nat.le_refl _⟩, ⟨R_later HO363.out⟩, ⟨below_later HB.out⟩⟩
  case round =>
    clear H'
    try clear c2
    try clear c2b0
    try clear c2b1
    try clear c3
    try clear c3b0
    try clear c3b1
    obtain ⟨x3_1, x4_1, rfl, HA, HK1, HO_3, HB⟩ := hrel
    cases gk with
    | zero => exact absurd HA.out (by simp [laws_toValS.l0])
    | succ k1 =>
      have H := HA.out
      clear HA
      simp only [laws_toValS.l0] at H
      by_cases c6 : x4_1 < (l0.length : Int)
      · rw [if_pos c6] at H
        have c6b0 := decide_eq_true c6
        clear c6
        replace H := ifd H
        obtain ⟨c7b0, H⟩ := H
        replace H := Option.bind_eq_some_iff.mp H
        obtain ⟨⟨t365, t366⟩, A80, H⟩ := H
        replace H : (if x4_1 < (x3_1.length : Int) then (laws_toValS.l0 k1 l0 (x3_1.set (x4_1 : Int).toNat (⟨t365, t366⟩ : S27)) (wrap64 (x4_1 + 1))) else (none)) = some r := H
        have A8 := Aside0.mk A80
        clear A80
        replace H := ifd H
        obtain ⟨c9b0, H⟩ := H
        obtain ⟨y367, hy367⟩ : ∃ y_ : List (S27), y_ = (x3_1.set (x4_1 : Int).toNat (⟨t365, t366⟩ : S27)) := ⟨_, rfl⟩
        replace H : (laws_toValS.l0 k1 l0 y367 (wrap64 (x4_1 + 1))) = some r := by first | (rw [hy367]; with_reducible exact H) | (rw [hy367]; exact H) | exact H
        have Ny367 := Aside0.mk hy367
        clear hy367
        have H' := Aside0.mk H
        clear H
        have p364 : 0 ≤ (x4_1 : Int) := dcd
        have q364 : x4_1 < (l0.length : Int) := dcd
        obtain ⟨ad364, e364, hx364_0, hx364_1⟩ := at_T66 HR0.out x4_1 p364 q364
        cases e364
        replace hx364_0 := crd HB hx364_0
        replace hx364_1 := crd HB hx364_1
        replace p364 := eq_true p364
        replace q364 := eq_true q364
        go_wp2_with (first | ((with_reducible refine gate_callee (f := 35) rfl ?_); refine gl_ (some 20) Try.func35 #[.agg #[.int .i64 ((rd_T66 l0 x4_1).f0), .string ((rd_T66 l0 x4_1).f1)]] rfl ?_; (with_reducible refine (laws_toVal.calls ((rd_T66 l0 x4_1).f0) ((rd_T66 l0 x4_1).f1) t365 t366 _ A8.out).mono ?_); rintro e w11 ⟨rfl, hb⟩; refine ⟨_, rfl, ?_⟩; replace HO_3 := Aside0.mk (Kd.R_below (R_later HO_3.out) hb); replace HB := bst HB hb; (try clear hb); (try clear hk); have p10 : 0 ≤ (x4_1 : Int) := dcd; have q10 : (x4_1 : Int) < ((x3_1.length : Int) : Int) := dcd; obtain ⟨go10, co10, eo10, gb10, gl10, cl10, HG10⟩ := Kd.R_form HO_3.out (by omega); (first | cases eo10 | (injection eo10 with ea_ en_ ec_; (first | subst ea_ | (injection ea_ with ea_; subst ea_)); subst ec_; clear en_)); have GB10 := Aside0.mk gb10; have GG10 := Aside0.mk HG10; clear gb10 gl10 HG10; obtain ⟨ce10, hcl10, hM10, hcc10, hfr10⟩ := Kd.R_elem HO_3.out z27 (x4_1 : Int) p10 q10; obtain rfl := k27_openM hM10; have hx10_0 : w11.cell? ⟨go10, (x4_1 : Int).toNat * 2, none⟩ = some (.int .i64 ((rd_T27 x3_1 x4_1).f0)) := hcc10 0 _ rfl; have hx10_1 : w11.cell? ⟨go10, (x4_1 : Int).toNat * 2 + 1, none⟩ = some (.string ((rd_T27 x3_1 x4_1).f1)) := hcc10 1 _ rfl; have hf10_0 : w11.frozen? ⟨go10, (x4_1 : Int).toNat * 2, none⟩ = false := hfr10 0; have hf10_1 : w11.frozen? ⟨go10, (x4_1 : Int).toNat * 2 + 1, none⟩ = false := hfr10 1; clear hcl10 hcc10 hfr10 hM10; replace p10 := eq_true p10; replace q10 := eq_true q10; have HX12 := Aside0.mk (show Kd.R k27 27 w11 w.heap.size (fun _ => True) (.slice (some ⟨go10, 0, none⟩) x3_1.length co10) x3_1 from (R_later HO_3.out)); obtain ⟨ce12, hcl12, hM12, hcc12, hfr12⟩ := Kd.R_elem HX12.out z27 (x4_1 : Int) (dcd) (by have h_ : (x4_1 : Int) < ((x3_1.length : Int) : Int) := dcd; first | exact h_ | (have e_ := (Kd.R_reads' HO_3.out).1; omega) | simpa using h_); obtain rfl := k27_openM hM12; have HP12 := Kd.R_seg HX12.out (x4_1 : Int) (dcd) (by have h_ : (x4_1 : Int) < ((x3_1.length : Int) : Int) := dcd; first | exact h_ | (have e_ := (Kd.R_reads' HO_3.out).1; omega) | simpa using h_) (seg := [.int .i64 t365, .string t366]) (j := 0) hcl12 hcc12 (show 2 ≤ 2 from by decide) (x' := (⟨t365, t366⟩ : S27)) (k27_mkM _ _ _ (⟨t365, t366⟩ : S27) ) (fun _ hk => hk); have hx12_0 := hcc12 0 _ rfl; (try simp only [show (k27).sz = 2 from rfl, Nat.mul_one, Nat.add_zero] at hx12_0); have hf12_0 := hfr12 0; (try simp only [show (k27).sz = 2 from rfl, Nat.mul_one, Nat.add_zero] at hf12_0); have hx12_1 := hcc12 1 _ rfl; (try simp only [show (k27).sz = 2 from rfl, Nat.mul_one, Nat.add_zero] at hx12_1); have hf12_1 := hfr12 1; (try simp only [show (k27).sz = 2 from rfl, Nat.mul_one, Nat.add_zero] at hf12_1); clear hcl12 hcc12 hfr12 hM12) | ((with_reducible refine gate_store (t := 27) (p := 21) rfl ?_); refine st_ 27 21 ((w11.setCell ⟨go10, (x4_1 : Int).toNat * 2, none⟩ (.int .i64 t365)).setCell ⟨go10, (x4_1 : Int).toNat * 2 + 1, none⟩ (.string t366)) ?_; intro w13 hw; have hg : w11.grownBy w13 (some go10) := (by rw [hw]; exact HP12.2); have hp_ : Kd.R k27 27 w13 w.heap.size (fun _ => True) (.slice (some ⟨go10, 0, none⟩) x3_1.length co10) y367 := (by rw [hw, Ny367.out]; exact HP12.1); clear HP12; replace HO_3 := Aside0.mk (hp_); replace HB := Aside0.mk ((by rw [hw]; exact below_set (below_set (HB.out) GB10.out) GB10.out : Below w.heap.size w w13)); clear hg hw hp_))
        go_roundg k1
        case measure => have := HK1.out; omega
        case rel => exact ⟨(y367), (wrap64 (x4_1 + 1)), sr, H', ⟨by have := HK1.out; omega⟩, ⟨R_later HO_3.out⟩, ⟨below_later HB.out⟩⟩
      · rw [if_neg c6] at H
        have c6b0 := decide_eq_false c6
        clear c6
        obtain rfl := Option.some.inj H
        go_wp2
        go_ret
        exact ⟨_, by first | rfl | (simp [errW_none, errW_some] <;> rfl) | (simp [*, errW_none, errW_some] <;> rfl), by (with_reducible repeat (first | apply Kd.R_alloc | apply Kd.R_drewN | apply Kd.R_drew)); exact HO_3.out, below_later HB.out⟩
/-! ### impl_within: function 48 -/
def impl_within.f (a0 : Int) (a1 : Int) (a2 : Int) : Option (Bool) := if a0 ≥ a1 then (some (decide (a0 ≤ a2))) else (some false)
set_option maxHeartbeats 8000000 in
set_option maxRecDepth 100000 in
theorem impl_within.calls (a0 : Int) (a1 : Int) (a2 : Int) (r : Bool) (w : World) (h : impl_within.f a0 a1 a2 = some r) :
    Calls Try.prog 48 #[.int .i64 a0, .int .i64 a1, .int .i64 a2] w fun e w' => e = .returned (.bool r) ∧ Drawn0 w w' := by
  have H : (if a0 ≥ a1 then (some (decide (a0 ≤ a2))) else (some false)) = some r := h
  clear h
  by_cases c4 : a0 ≥ a1
  · rw [if_pos c4] at H
    have c4b0 : decide (a1 ≤ a0) = true := decide_eq_true c4
    clear c4
    obtain rfl := Option.some.inj H
    go_enter Try.func48, Try.ntmps48
    go_wp2
    go_ret
    exact ⟨by first | rfl | (simp; done) | (simp [*]; done), by repeat (first | exact Drawn0.refl _ | apply Drawn0.step)⟩
  · rw [if_neg c4] at H
    have c4b0 : decide (a1 ≤ a0) = false := decide_eq_false c4
    clear c4
    obtain rfl := Option.some.inj H
    go_enter Try.func48, Try.ntmps48
    go_wp2
    go_ret
    exact ⟨by first | rfl | (simp; done) | (simp [*]; done), by repeat (first | exact Drawn0.refl _ | apply Drawn0.step)⟩

/-! ### impl_TypeOk: function 76 -/
def impl_TypeOk.f (a0 : Int) : Option (Bool) := (impl_within.f a0 0 2).bind fun t368 => (if t368 = true then (some true) else (if a0 = 5 then (some true) else (some (a0 == 6))))
set_option maxHeartbeats 8000000 in
set_option maxRecDepth 100000 in
theorem impl_TypeOk.calls (a0 : Int) (r : Bool) (w : World) (h : impl_TypeOk.f a0 = some r) :
    Calls Try.prog 76 #[.int .i64 a0] w fun e w' => e = .returned (.bool r) ∧ Drawn0 w w' := by
  have H : ((impl_within.f a0 0 2).bind fun t368 => (if t368 = true then (some true) else (if a0 = 5 then (some true) else (some (a0 == 6))))) = some r := h
  clear h
  replace H := bnd H
  obtain ⟨t368, A2, H⟩ := H
  by_cases c3 : t368 = true
  · subst c3
    replace H := ifp rfl H
    obtain rfl := Option.some.inj H
    go_enter Try.func76, Try.ntmps76
    go_wp2_with (first | ((with_reducible refine gate_callee (f := 48) rfl ?_); refine gl_ (some 4) Try.func48 #[.int .i64 a0, .int .i64 0, .int .i64 2] rfl ?_; (with_reducible refine (impl_within.calls a0 0 2 true _ A2.out).mono ?_); rintro e w' ⟨rfl, ⟨nd, rfl⟩⟩; refine ⟨_, rfl, ?_⟩))
    go_ret
    exact ⟨by first | rfl | (simp; done) | (simp [*]; done), by repeat (first | exact Drawn0.refl _ | apply Drawn0.step)⟩
  · replace c3 := Bool.eq_false_iff.mpr c3
    subst c3
    replace H := ifn Bool.false_ne_true H
    by_cases c4 : a0 = 5
    · rw [if_pos c4] at H
      have c4b0 : (a0 == 5) = true := beq_iff_eq.mpr c4
      have c4b1 : (a0 != 5) = false := bne_eq_false_iff_eq.mpr c4
      clear c4
      obtain rfl := Option.some.inj H
      go_enter Try.func76, Try.ntmps76
      go_wp2_with (first | ((with_reducible refine gate_callee (f := 48) rfl ?_); refine gl_ (some 4) Try.func48 #[.int .i64 a0, .int .i64 0, .int .i64 2] rfl ?_; (with_reducible refine (impl_within.calls a0 0 2 false _ A2.out).mono ?_); rintro e w' ⟨rfl, ⟨nd, rfl⟩⟩; refine ⟨_, rfl, ?_⟩))
      go_ret
      exact ⟨by first | rfl | (simp; done) | (simp [*]; done), by repeat (first | exact Drawn0.refl _ | apply Drawn0.step)⟩
    · rw [if_neg c4] at H
      have c4b0 : (a0 == 5) = false := beq_eq_false_iff_ne.mpr c4
      have c4b1 : (a0 != 5) = true := bne_iff_ne.mpr c4
      obtain rfl := Option.some.inj H
      go_enter Try.func76, Try.ntmps76
      go_wp2_with (first | ((with_reducible refine gate_callee (f := 48) rfl ?_); refine gl_ (some 4) Try.func48 #[.int .i64 a0, .int .i64 0, .int .i64 2] rfl ?_; (with_reducible refine (impl_within.calls a0 0 2 false _ A2.out).mono ?_); rintro e w' ⟨rfl, ⟨nd, rfl⟩⟩; refine ⟨_, rfl, ?_⟩))
      go_ret
      exact ⟨by first | rfl | (simp; done) | (simp [*]; done), by repeat (first | exact Drawn0.refl _ | apply Drawn0.step)⟩

/-! ### impl_isInt32: function 67 -/
def impl_isInt32.f (a0 : Int) : Option (Bool) := (impl_within.f a0 (-2147483648) 2147483647).bind fun t369 => (some t369)
set_option maxHeartbeats 8000000 in
set_option maxRecDepth 100000 in
theorem impl_isInt32.calls (a0 : Int) (r : Bool) (w : World) (h : impl_isInt32.f a0 = some r) :
    Calls Try.prog 67 #[.int .i64 a0] w fun e w' => e = .returned (.bool r) ∧ Drawn0 w w' := by
  have H : ((impl_within.f a0 (-2147483648) 2147483647).bind fun t369 => (some t369)) = some r := h
  clear h
  replace H := bnd H
  obtain ⟨t369, A2, H⟩ := H
  obtain rfl := Option.some.inj H
  go_enter Try.func67, Try.ntmps67
  go_wp2_with (first | ((with_reducible refine gate_callee (f := 48) rfl ?_); refine gl_ (some 4) Try.func48 #[.int .i64 a0, .int .i64 (-2147483648), .int .i64 2147483647] rfl ?_; (with_reducible refine (impl_within.calls a0 (-2147483648) 2147483647 t369 _ A2.out).mono ?_); rintro e w' ⟨rfl, ⟨nd, rfl⟩⟩; refine ⟨_, rfl, ?_⟩))
  go_ret
  exact ⟨by first | rfl | (simp; done) | (simp [*]; done), by repeat (first | exact Drawn0.refl _ | apply Drawn0.step)⟩

/-! ### impl_ValOk: function 77 -/
def impl_ValOk.f (a0 : Int) (a1_0 : Int) (a1_1 : ByteArray) : Option (Bool) := if a0 = 0 then ((impl_within.f a1_0 0 1).bind fun t371 => (if t371 = true then (some (a1_1.toList == ([] : List UInt8))) else (some false))) else (if a0 = 1 then ((impl_isInt32.f a1_0).bind fun t372 => (if t372 = true then (some (a1_1.toList == ([] : List UInt8))) else (some false))) else (if a0 = 2 then (some (a1_1.toList == ([] : List UInt8))) else (if a0 = 5 then (some (a1_1.toList == ([] : List UInt8))) else (if a0 = 6 then (if a1_0 = 0 then (some (decide ((a1_1.size : Int) ≤ 40))) else (some false)) else (some false)))))
set_option maxHeartbeats 8000000 in
set_option maxRecDepth 100000 in
theorem impl_ValOk.calls (a0 : Int) (a1_0 : Int) (a1_1 : ByteArray) (r : Bool) (w : World) (h : impl_ValOk.f a0 a1_0 a1_1 = some r) :
    Calls Try.prog 77 #[.int .i64 a0, .agg #[.int .i64 a1_0, .string a1_1]] w fun e w' => e = .returned (.bool r) ∧ Below w.heap.size w w' := by
  have hu27 := Try.underlying27
  have HB := Aside0.mk (Below.refl w.heap.size w)
  have H : (if a0 = 0 then ((impl_within.f a1_0 0 1).bind fun t371 => (if t371 = true then (some (a1_1.toList == ([] : List UInt8))) else (some false))) else (if a0 = 1 then ((impl_isInt32.f a1_0).bind fun t372 => (if t372 = true then (some (a1_1.toList == ([] : List UInt8))) else (some false))) else (if a0 = 2 then (some (a1_1.toList == ([] : List UInt8))) else (if a0 = 5 then (some (a1_1.toList == ([] : List UInt8))) else (if a0 = 6 then (if a1_0 = 0 then (some (decide ((a1_1.size : Int) ≤ 40))) else (some false)) else (some false)))))) = some r := h
  clear h
  by_cases c3 : a0 = 0
  · rw [if_pos c3] at H
    have c3b0 : (a0 == 0) = true := beq_iff_eq.mpr c3
    have c3b1 : (a0 != 0) = false := bne_eq_false_iff_eq.mpr c3
    clear c3
    replace H := bnd H
    obtain ⟨t371, A4, H⟩ := H
    by_cases c5 : t371 = true
    · subst c5
      replace H := ifp rfl H
      obtain rfl := Option.some.inj H
      go_enter Try.func77, Try.ntmps77
      go_wp2_with (first | ((with_reducible refine gate_dst (N := 3) rfl ?_); (try (refine gate_guard (by rfl) ?_; dsimp only)); refine bx_ 3 #[.int .i64 a1_0, .string a1_1] 27 ?_; intro gb370 hg w6 hbox hb; have BK370 := Aside0.mk (hbox); have GW370 := gwe HB hg; have GE370 := GW370; replace HB := bst HB hb; clear hb hbox hg; obtain ⟨hcz7_0, hcz7_1, hfz7_0, hfz7_1⟩ := cl2 BK370) | ((with_reducible refine gate_callee (f := 48) rfl ?_); refine gl_ (some 10) Try.func48 #[.int .i64 a1_0, .int .i64 0, .int .i64 1] rfl ?_; (with_reducible refine (impl_within.calls a1_0 0 1 true _ A4.out).mono ?_); rintro e w' ⟨rfl, ⟨nd, rfl⟩⟩; refine ⟨_, rfl, ?_⟩))
      go_ret
      exact fin_ (below_later HB.out)
    · replace c5 := Bool.eq_false_iff.mpr c5
      subst c5
      replace H := ifn Bool.false_ne_true H
      obtain rfl := Option.some.inj H
      go_enter Try.func77, Try.ntmps77
      go_wp2_with (first | ((with_reducible refine gate_dst (N := 3) rfl ?_); (try (refine gate_guard (by rfl) ?_; dsimp only)); refine bx_ 3 #[.int .i64 a1_0, .string a1_1] 27 ?_; intro gb370 hg w8 hbox hb; have BK370 := Aside0.mk (hbox); have GW370 := gwe HB hg; have GE370 := GW370; replace HB := bst HB hb; clear hb hbox hg; obtain ⟨hcz9_0, hcz9_1, hfz9_0, hfz9_1⟩ := cl2 BK370) | ((with_reducible refine gate_callee (f := 48) rfl ?_); refine gl_ (some 10) Try.func48 #[.int .i64 a1_0, .int .i64 0, .int .i64 1] rfl ?_; (with_reducible refine (impl_within.calls a1_0 0 1 false _ A4.out).mono ?_); rintro e w' ⟨rfl, ⟨nd, rfl⟩⟩; refine ⟨_, rfl, ?_⟩))
      go_ret
      exact fin_ (below_later HB.out)
  · rw [if_neg c3] at H
    have c3b0 : (a0 == 0) = false := beq_eq_false_iff_ne.mpr c3
    have c3b1 : (a0 != 0) = true := bne_iff_ne.mpr c3
    by_cases c10 : a0 = 1
    · rw [if_pos c10] at H
      have c10b0 : (a0 == 1) = true := beq_iff_eq.mpr c10
      have c10b1 : (a0 != 1) = false := bne_eq_false_iff_eq.mpr c10
      clear c10
      replace H := bnd H
      obtain ⟨t372, A11, H⟩ := H
      by_cases c12 : t372 = true
      · subst c12
        replace H := ifp rfl H
        obtain rfl := Option.some.inj H
        go_enter Try.func77, Try.ntmps77
        go_wp2_with (first | ((with_reducible refine gate_dst (N := 3) rfl ?_); (try (refine gate_guard (by rfl) ?_; dsimp only)); refine bx_ 3 #[.int .i64 a1_0, .string a1_1] 27 ?_; intro gb370 hg w13 hbox hb; have BK370 := Aside0.mk (hbox); have GW370 := gwe HB hg; have GE370 := GW370; replace HB := bst HB hb; clear hb hbox hg; obtain ⟨hcz14_0, hcz14_1, hfz14_0, hfz14_1⟩ := cl2 BK370) | ((with_reducible refine gate_callee (f := 67) rfl ?_); refine gl_ (some 20) Try.func67 #[.int .i64 a1_0] rfl ?_; (with_reducible refine (impl_isInt32.calls a1_0 true _ A11.out).mono ?_); rintro e w' ⟨rfl, ⟨nd, rfl⟩⟩; refine ⟨_, rfl, ?_⟩))
        go_ret
        exact fin_ (below_later HB.out)
      · replace c12 := Bool.eq_false_iff.mpr c12
        subst c12
        replace H := ifn Bool.false_ne_true H
        obtain rfl := Option.some.inj H
        go_enter Try.func77, Try.ntmps77
        go_wp2_with (first | ((with_reducible refine gate_dst (N := 3) rfl ?_); (try (refine gate_guard (by rfl) ?_; dsimp only)); refine bx_ 3 #[.int .i64 a1_0, .string a1_1] 27 ?_; intro gb370 hg w15 hbox hb; have BK370 := Aside0.mk (hbox); have GW370 := gwe HB hg; have GE370 := GW370; replace HB := bst HB hb; clear hb hbox hg; obtain ⟨hcz16_0, hcz16_1, hfz16_0, hfz16_1⟩ := cl2 BK370) | ((with_reducible refine gate_callee (f := 67) rfl ?_); refine gl_ (some 20) Try.func67 #[.int .i64 a1_0] rfl ?_; (with_reducible refine (impl_isInt32.calls a1_0 false _ A11.out).mono ?_); rintro e w' ⟨rfl, ⟨nd, rfl⟩⟩; refine ⟨_, rfl, ?_⟩))
        go_ret
        exact fin_ (below_later HB.out)
    · rw [if_neg c10] at H
      have c10b0 : (a0 == 1) = false := beq_eq_false_iff_ne.mpr c10
      have c10b1 : (a0 != 1) = true := bne_iff_ne.mpr c10
      by_cases c17 : a0 = 2
      · rw [if_pos c17] at H
        have c17b0 : (a0 == 2) = true := beq_iff_eq.mpr c17
        have c17b1 : (a0 != 2) = false := bne_eq_false_iff_eq.mpr c17
        clear c17
        obtain rfl := Option.some.inj H
        go_enter Try.func77, Try.ntmps77
        go_wp2_with (first | ((with_reducible refine gate_dst (N := 3) rfl ?_); (try (refine gate_guard (by rfl) ?_; dsimp only)); refine bx_ 3 #[.int .i64 a1_0, .string a1_1] 27 ?_; intro gb370 hg w18 hbox hb; have BK370 := Aside0.mk (hbox); have GW370 := gwe HB hg; have GE370 := GW370; replace HB := bst HB hb; clear hb hbox hg; obtain ⟨hcz19_0, hcz19_1, hfz19_0, hfz19_1⟩ := cl2 BK370))
        go_ret
        exact fin_ (below_later HB.out)
      · rw [if_neg c17] at H
        have c17b0 : (a0 == 2) = false := beq_eq_false_iff_ne.mpr c17
        have c17b1 : (a0 != 2) = true := bne_iff_ne.mpr c17
        by_cases c20 : a0 = 5
        · rw [if_pos c20] at H
          have c20b0 : (a0 == 5) = true := beq_iff_eq.mpr c20
          have c20b1 : (a0 != 5) = false := bne_eq_false_iff_eq.mpr c20
          clear c20
          obtain rfl := Option.some.inj H
          go_enter Try.func77, Try.ntmps77
          go_wp2_with (first | ((with_reducible refine gate_dst (N := 3) rfl ?_); (try (refine gate_guard (by rfl) ?_; dsimp only)); refine bx_ 3 #[.int .i64 a1_0, .string a1_1] 27 ?_; intro gb370 hg w21 hbox hb; have BK370 := Aside0.mk (hbox); have GW370 := gwe HB hg; have GE370 := GW370; replace HB := bst HB hb; clear hb hbox hg; obtain ⟨hcz22_0, hcz22_1, hfz22_0, hfz22_1⟩ := cl2 BK370))
          go_ret
          exact fin_ (below_later HB.out)
        · rw [if_neg c20] at H
          have c20b0 : (a0 == 5) = false := beq_eq_false_iff_ne.mpr c20
          have c20b1 : (a0 != 5) = true := bne_iff_ne.mpr c20
          by_cases c23 : a0 = 6
          · rw [if_pos c23] at H
            have c23b0 : (a0 == 6) = true := beq_iff_eq.mpr c23
            have c23b1 : (a0 != 6) = false := bne_eq_false_iff_eq.mpr c23
            clear c23
            by_cases c24 : a1_0 = 0
            · rw [if_pos c24] at H
              have c24b0 : (a1_0 == 0) = true := beq_iff_eq.mpr c24
              have c24b1 : (a1_0 != 0) = false := bne_eq_false_iff_eq.mpr c24
              clear c24
              obtain rfl := Option.some.inj H
              go_enter Try.func77, Try.ntmps77
              go_wp2_with (first | ((with_reducible refine gate_dst (N := 3) rfl ?_); (try (refine gate_guard (by rfl) ?_; dsimp only)); refine bx_ 3 #[.int .i64 a1_0, .string a1_1] 27 ?_; intro gb370 hg w25 hbox hb; have BK370 := Aside0.mk (hbox); have GW370 := gwe HB hg; have GE370 := GW370; replace HB := bst HB hb; clear hb hbox hg; obtain ⟨hcz26_0, hcz26_1, hfz26_0, hfz26_1⟩ := cl2 BK370))
              go_ret
              exact fin_ (below_later HB.out)
            · rw [if_neg c24] at H
              have c24b0 : (a1_0 == 0) = false := beq_eq_false_iff_ne.mpr c24
              have c24b1 : (a1_0 != 0) = true := bne_iff_ne.mpr c24
              obtain rfl := Option.some.inj H
              go_enter Try.func77, Try.ntmps77
              go_wp2_with (first | ((with_reducible refine gate_dst (N := 3) rfl ?_); (try (refine gate_guard (by rfl) ?_; dsimp only)); refine bx_ 3 #[.int .i64 a1_0, .string a1_1] 27 ?_; intro gb370 hg w27 hbox hb; have BK370 := Aside0.mk (hbox); have GW370 := gwe HB hg; have GE370 := GW370; replace HB := bst HB hb; clear hb hbox hg; obtain ⟨hcz28_0, hcz28_1, hfz28_0, hfz28_1⟩ := cl2 BK370))
              go_ret
              exact fin_ (below_later HB.out)
          · rw [if_neg c23] at H
            have c23b0 : (a0 == 6) = false := beq_eq_false_iff_ne.mpr c23
            have c23b1 : (a0 != 6) = true := bne_iff_ne.mpr c23
            obtain rfl := Option.some.inj H
            go_enter Try.func77, Try.ntmps77
            go_wp2_with (first | ((with_reducible refine gate_dst (N := 3) rfl ?_); (try (refine gate_guard (by rfl) ?_; dsimp only)); refine bx_ 3 #[.int .i64 a1_0, .string a1_1] 27 ?_; intro gb370 hg w29 hbox hb; have BK370 := Aside0.mk (hbox); have GW370 := gwe HB hg; have GE370 := GW370; replace HB := bst HB hb; clear hb hbox hg))
            go_ret
            exact fin_ (below_later HB.out)

/-! ### impl_valsOk: function 61 -/
def impl_valsOk.l0 : Nat → Int → List (S27) → List (S27) → Int → Int → Option (Bool)
  | 0, _, _, _, _, _ => none
  | k + 1, x0, x1, x7, x8, x9 => if x9 < x8 then (if 0 ≤ x9 then (if x9 < (x7.length : Int) then ((impl_ValOk.f x0 ((rd_T27 x7 x9).f0) ((rd_T27 x7 x9).f1)).bind fun t375 => (if t375 = true then (impl_valsOk.l0 k x0 x1 x7 x8 (wrap64 (x9 + 1))) else (some false))) else (none)) else (none)) else (if (x1.length : Int) ≤ 2000 then ((impl_TypeOk.f x0).bind fun t376 => (some t376)) else (some false))
def impl_valsOk.f (k : Nat) (a0 : Int) (l1 : List (S27)) : Option (Bool) := impl_valsOk.l0 k a0 l1 l1 (l1.length : Int) 0
set_option maxHeartbeats 8000000 in
set_option maxRecDepth 100000 in
theorem impl_valsOk.calls (k : Nat) (a0 : Int) (A1 : Option Addr) (c1 : Nat) (l1 : List (S27)) (r : Bool) (w : World) (hr1 : Kd.C k27 w A1 l1.length l1) (hc1 : l1.length ≤ c1) (h : impl_valsOk.f k a0 l1 = some r) :
    Calls Try.prog 61 #[.int .i64 a0, .slice A1 l1.length c1] w fun e w' => e = .returned (.bool r) ∧ Below w.heap.size w w' := by
  have hu27 := Try.underlying27
  have HR1 := Aside0.mk hr1
  have HC1 := Aside0.mk hc1
  clear hr1 hc1
  have HB := Aside0.mk (Below.refl w.heap.size w)
  have H : (impl_valsOk.l0 k a0 l1 l1 (l1.length : Int) 0) = some r := h
  clear h
  have H' := Aside0.mk H
  clear H
  go_enter Try.func61, Try.ntmps61
  go_wp2
  go_loopg [9] k (fun kq v9 w' => ∃ (x9_1 : Int), v9 = .int .i64 x9_1 ∧ Aside0 (impl_valsOk.l0 kq a0 l1 l1 (l1.length : Int) x9_1 = some r) ∧ Aside0 (kq ≤ k) ∧ Aside0 (Below w.heap.size w w'))
  case atStart => exact ⟨(0), sr, H', ⟨Nat.le_refl _⟩, ⟨below_later HB.out⟩⟩
  case round =>
    clear H'
    try clear c1
    obtain ⟨x9_1, rfl, HA, HK1, HB⟩ := hrel
    cases gk with
    | zero => exact absurd HA.out (by simp [impl_valsOk.l0])
    | succ k1 =>
      have H := HA.out
      clear HA
      simp only [impl_valsOk.l0] at H
      by_cases c3 : x9_1 < (l1.length : Int)
      · rw [if_pos c3] at H
        have c3b0 := decide_eq_true c3
        clear c3
        replace H := ifd H
        obtain ⟨c4b0, H⟩ := H
        replace H := ifd H
        obtain ⟨c5b0, H⟩ := H
        replace H := bnd H
        obtain ⟨t375, A6, H⟩ := H
        by_cases c7 : t375 = true
        · subst c7
          replace H := ifp rfl H
          have H' := Aside0.mk H
          clear H
          have p373 : 0 ≤ (x9_1 : Int) := dcd
          have q373 : x9_1 < (l1.length : Int) := dcd
          obtain ⟨ad373, e373, hx373_0, hx373_1⟩ := at_T27 HR1.out x9_1 p373 q373
          cases e373
          replace hx373_0 := crd HB hx373_0
          replace hx373_1 := crd HB hx373_1
          replace p373 := eq_true p373
          replace q373 := eq_true q373
          go_wp2_with (first | ((with_reducible refine gate_dst (N := 6) rfl ?_); refine bx_ 6 #[.int .i64 0, .string (⟨#[]⟩ : ByteArray)] 27 ?_; intro gb374 hg w8 hbox hb; have BK374 := Aside0.mk (hbox); have GW374 := gwe HB hg; have GE374 := GW374; replace HB := bst HB hb; clear hb hbox hg; obtain ⟨hcz9_0, hcz9_1, hfz9_0, hfz9_1⟩ := cl2 BK374) | ((with_reducible refine gate_callee (f := 77) rfl ?_); refine gl_ (some 15) Try.func77 #[.int .i64 a0, .agg #[.int .i64 ((rd_T27 l1 x9_1).f0), .string ((rd_T27 l1 x9_1).f1)]] rfl ?_; (with_reducible refine (impl_ValOk.calls a0 ((rd_T27 l1 x9_1).f0) ((rd_T27 l1 x9_1).f1) true _ A6.out).mono ?_); rintro e w10 ⟨rfl, hb⟩; refine ⟨_, rfl, ?_⟩; replace BK374 := Aside0.mk (blk_below (g := gb374) (o := .cells #[.int .i64 ((rd_T27 l1 x9_1).f0), .string ((rd_T27 l1 x9_1).f1)] 27 (0, 0)) (blk_later BK374.out) hb); replace HB := bst HB hb; (try clear hb)))
          go_roundg k1
          case measure => have := HK1.out; omega
          case rel => exact ⟨(wrap64 (x9_1 + 1)), sr, H', ⟨by have := HK1.out; omega⟩, ⟨below_later HB.out⟩⟩
        · replace c7 := Bool.eq_false_iff.mpr c7
          subst c7
          replace H := ifn Bool.false_ne_true H
          obtain rfl := Option.some.inj H
          have p373 : 0 ≤ (x9_1 : Int) := dcd
          have q373 : x9_1 < (l1.length : Int) := dcd
          obtain ⟨ad373, e373, hx373_0, hx373_1⟩ := at_T27 HR1.out x9_1 p373 q373
          cases e373
          replace hx373_0 := crd HB hx373_0
          replace hx373_1 := crd HB hx373_1
          replace p373 := eq_true p373
          replace q373 := eq_true q373
          go_wp2_with (first | ((with_reducible refine gate_dst (N := 6) rfl ?_); refine bx_ 6 #[.int .i64 0, .string (⟨#[]⟩ : ByteArray)] 27 ?_; intro gb374 hg w11 hbox hb; have BK374 := Aside0.mk (hbox); have GW374 := gwe HB hg; have GE374 := GW374; replace HB := bst HB hb; clear hb hbox hg; obtain ⟨hcz12_0, hcz12_1, hfz12_0, hfz12_1⟩ := cl2 BK374) | ((with_reducible refine gate_callee (f := 77) rfl ?_); refine gl_ (some 15) Try.func77 #[.int .i64 a0, .agg #[.int .i64 ((rd_T27 l1 x9_1).f0), .string ((rd_T27 l1 x9_1).f1)]] rfl ?_; (with_reducible refine (impl_ValOk.calls a0 ((rd_T27 l1 x9_1).f0) ((rd_T27 l1 x9_1).f1) false _ A6.out).mono ?_); rintro e w13 ⟨rfl, hb⟩; refine ⟨_, rfl, ?_⟩; replace BK374 := Aside0.mk (blk_below (g := gb374) (o := .cells #[.int .i64 ((rd_T27 l1 x9_1).f0), .string ((rd_T27 l1 x9_1).f1)] 27 (0, 0)) (blk_later BK374.out) hb); replace HB := bst HB hb; (try clear hb)))
          go_ret
          exact fin_ (below_later HB.out)
      · rw [if_neg c3] at H
        have c3b0 := decide_eq_false c3
        clear c3
        by_cases c14 : (l1.length : Int) ≤ 2000
        · rw [if_pos c14] at H
          have c14b0 := decide_eq_true c14
          have c14b1 : decide (l1.length ≤ 2000) = true := decide_eq_true (by omega)
          clear c14
          replace H := bnd H
          obtain ⟨t376, A15, H⟩ := H
          obtain rfl := Option.some.inj H
          go_wp2_with (first | (go_at_call 76; (with_reducible refine (impl_TypeOk.calls a0 t376 _ A15.out).mono ?_); rintro e w' ⟨rfl, ⟨nd, rfl⟩⟩))
          go_ret
          exact fin_ (below_later HB.out)
        · rw [if_neg c14] at H
          have c14b0 := decide_eq_false c14
          have c14b1 : decide (l1.length ≤ 2000) = false := decide_eq_false (by omega)
          clear c14
          obtain rfl := Option.some.inj H
          go_wp2
          go_ret
          exact fin_ (below_later HB.out)

end Go.Proofs.Ytgiljoeekpfpmaa.PFnExactDictPack
