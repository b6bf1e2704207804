/- The machine's side of FnExactEncPack, written by wip/tools/hyb.py of this repo: each Go function as a plain Lean function, and the proof that the call comes to just its answer. No condition. -/
import Derived.Test.YtkocikdceojnmaaPFnExactEncPackx0
import Derived.Test.YtkocikdceojnmaaPFnExactEncPackx2
import Derived.Test.YtkocikdceojnmaaPFnExactEncPackx5
import Derived.Test.YtkocikdceojnmaaPFnExactEncPackx6
import Derived.Test.YtkocikdceojnmaaPFnExactEncPackx7
namespace Go.Proofs.Ytkocikdceojnmaa.PFnExactEncPack
open Go.RowKit Go.Proofs.YtkocikdceojnmaaW.PrintWords Go.Proofs.YtkocikdceojnmaaW.PrintLast Go.Proofs.YtkocikdceojnmaaW.PrintMore Go.Proofs.YtkocikdceojnmaaW.PrintMore2
attribute [local go_sem] max2_int min2_int max_two min_two max_three min_three max_four min_four   -- for this text's walks alone
set_option linter.unusedVariables false
set_option linter.unusedSimpArgs false

/-! ### spec_FrontPack: function 22 -/
def spec_FrontPack.l0 : Nat → List (S46) → List Int → List ByteArray → ByteArray → Int → Option (List Int × Bool)
  | 0, _, _, _, _, _ => none
  | k + 1, x0, x4, x5, x6, x7 => if x7 < (x0.length : Int) then (if 0 ≤ x7 then ((spec_Common.f k x6 ((rd_T46 x0 x7).f1)).bind fun t396 => (if x4.length < 17592186044416 then (if 0 ≤ t396 then (if t396 ≤ (((rd_T46 x0 x7).f1).size : Int) then (if x5.length < 8796093022208 then (spec_FrontPack.l0 k x0 (x4 ++ [t396]) (x5 ++ [((rd_T46 x0 x7).f1).extract (t396 : Int).toNat ((rd_T46 x0 x7).f1).size]) ((rd_T46 x0 x7).f1) (wrap64 (x7 + 1))) else (none)) else (none)) else (none)) else (none))) else (none)) else ((spec_DeltaPack.f k x4).bind fun bt405 => ((spec_l10Pack.f k x5).bind fun bt409 => (if bt405.2 = true then (if bt409.2 = true then (if bt405.1.length + bt409.1.length < 140737488355328 then (some ((bt405.1 ++ bt409.1), true)) else (none)) else (some ((([] : List Int)), false))) else (some ((([] : List Int)), false)))))
def spec_FrontPack.f (k : Nat) (l0 : List (S46)) : Option (List Int × Bool) := (spec_l6Vals.f k 6 l0).bind fun t385 => (if t385 = true then (spec_FrontPack.l0 k l0 (([] : List Int)) (([] : List ByteArray)) (⟨#[]⟩ : ByteArray) 0) else (some ((([] : List Int)), false)))
set_option maxHeartbeats 8000000 in
set_option maxRecDepth 100000 in
theorem spec_FrontPack.calls (k : Nat) (A0 : Option Addr) (c0 : Nat) (l0 : List (S46)) (r1 : List Int) (r2 : Bool) (w : World) (hr0 : Kd.C k46 w A0 l0.length l0) (hc0 : l0.length ≤ c0) (h : spec_FrontPack.f k l0 = some (r1, r2)) :
    Calls Try.prog 22 #[.slice A0 l0.length c0] w fun e w' => ∃ v0_ : Value, e = .returned (.tuple #[v0_, .bool r2]) ∧ Kd.R (Kd.int .u8) 5 w' w.heap.size (fun _ => True) v0_ r1 ∧ Below w.heap.size w w' := by
  have HR0 := Aside0.mk hr0
  have HC0 := Aside0.mk hc0
  clear hr0 hc0
  have HB := Aside0.mk (Below.refl w.heap.size w)
  have H : ((spec_l6Vals.f k 6 l0).bind fun t385 => (if t385 = true then (spec_FrontPack.l0 k l0 (([] : List Int)) (([] : List ByteArray)) (⟨#[]⟩ : ByteArray) 0) else (some ((([] : List Int)), false)))) = some (r1, r2) := h
  clear h
  replace H := bnd H
  obtain ⟨t385, A2, H⟩ := H
  by_cases c3 : t385 = true
  · subst c3
    replace H := ifp rfl H
    obtain ⟨y389, hy389⟩ : ∃ y_ : List Int, y_ = (([] : List Int)) := ⟨_, rfl⟩
    replace H : (spec_FrontPack.l0 k l0 y389 (([] : List ByteArray)) (⟨#[]⟩ : ByteArray) 0) = some (r1, r2) := by first | (rw [hy389]; with_reducible exact H) | (rw [hy389]; exact H) | exact H
    have Ny389 := Aside0.mk hy389
    clear hy389
    obtain ⟨y392, hy392⟩ : ∃ y_ : List ByteArray, y_ = (([] : List ByteArray)) := ⟨_, rfl⟩
    replace H : (spec_FrontPack.l0 k l0 y389 y392 (⟨#[]⟩ : ByteArray) 0) = some (r1, r2) := by first | (rw [hy392]; with_reducible exact H) | (rw [hy392]; exact H) | exact H
    have Ny392 := Aside0.mk hy392
    clear hy392
    have H' := Aside0.mk H
    clear H
    go_enter Try.func22, Try.ntmps22
    go_wp2_with (first | ((with_reducible refine gate_callee (f := 15) rfl ?_); refine gl_ (some 14) Try.func15 #[.int .i64 6, .slice A0 l0.length c0] rfl ?_; (with_reducible refine (spec_l6Vals.calls k 6 _ _ l0 true _ ?side1 ?side2 A2.out).mono ?_); (case side1 => exact C_later HR0.out); (case side2 => exact HC0.out); rintro e w4 ⟨rfl, hb⟩; refine ⟨_, rfl, ?_⟩; replace HB := bst HB hb; (try clear hb); (try clear hk)) | ((with_reducible refine gate_dst (N := 17) rfl ?_); refine Kd.R_lit (Kd.int .i64) _ 3 ?hg (N := 17) ?hd (xs := ([] : List Int)) (inner := []) (ok := fun _ => True) (okp := fun _ => True) ?hr ?hp (fun _ hk => hk) trivial (Below.refl _ _) (Nat.le_refl _) (by simp) ?_; (case hd => rfl); (case hg => rfl); (case hr => first | (go_simp; done) | (go_simp; rfl)); (case hp => exact (Reps.none _ _)); intro v390 w5 ho6 hb hg_ hnew_; clear hg_ hnew_; (first | rw [← Ny389.out] at ho6 | (simp only [Int.reduceToNat] at ho6; rw [← Ny389.out] at ho6)); have HO391 := Aside0.mk (Kd.R_lower ho6 (below_size (below_later HB.out))); replace HB := bst HB hb; clear hb ho6) | ((with_reducible refine gate_dst (N := 18) rfl ?_); refine Kd.R_lit Kd.string _ 9 ?hg (N := 18) ?hd (xs := ([] : List ByteArray)) (inner := []) (ok := fun _ => True) (okp := fun _ => True) ?hr ?hp (fun _ hk => hk) trivial (Below.refl _ _) (Nat.le_refl _) (by simp) ?_; (case hd => rfl); (case hg => rfl); (case hr => first | (go_simp; done) | (go_simp; rfl)); (case hp => exact (Reps.none _ _)); intro v393 w7 ho8 hb hg_ hnew_; clear hg_ hnew_; (first | rw [← Ny392.out] at ho8 | (simp only [Int.reduceToNat] at ho8; rw [← Ny392.out] at ho8)); have HO394 := Aside0.mk (Kd.R_lower ho8 (below_size (below_later HB.out))); replace HO391 := Aside0.mk (Kd.R_below (R_later HO391.out) hb); replace HB := bst HB hb; clear hb ho8))
    go_loopg [4, 5, 6, 7] k (fun kq v4 v5 v6 v7 w' => ∃ (x4_1 : List Int) (x5_1 : List ByteArray) (x6_1 : ByteArray) (x7_1 : Int), v6 = .string x6_1 ∧ v7 = .int .i64 x7_1 ∧ Aside0 (spec_FrontPack.l0 kq l0 x4_1 x5_1 x6_1 x7_1 = some (r1, r2)) ∧ Aside0 (kq ≤ k) ∧ Aside0 (Kd.R (Kd.int .i64) 3 w' w.heap.size (fun _ => True) v4 x4_1) ∧ Aside0 (Kd.R Kd.string 9 w' w.heap.size (fun _ => True) v5 x5_1) ∧ Aside0 (Below w.heap.size w w'))
    case atStart => exact ⟨(y389), (y392), ((⟨#[]⟩ : ByteArray)), (0), sr, sr, H', ⟨Nat.le_refl _⟩, ⟨R_later HO391.out⟩, ⟨R_later HO394.out⟩, ⟨below_later HB.out⟩⟩
    case round =>
      clear H'
      try clear c3
      obtain ⟨x4_1, x5_1, x6_1, x7_1, rfl, rfl, HA, HK1, HO_4, HO_5, HB⟩ := hrel
      cases gk with
      | zero => exact absurd HA.out (by simp [spec_FrontPack.l0])
      | succ k1 =>
        have H := HA.out
        clear HA
        simp only [spec_FrontPack.l0] at H
        by_cases c9 : x7_1 < (l0.length : Int)
        · rw [if_pos c9] at H
          have c9b0 := decide_eq_true c9
          clear c9
          replace H := ifd H
          obtain ⟨c10b0, H⟩ := H
          replace H := bnd H
          obtain ⟨t396, A11, H⟩ := H
          replace H := ifs H
          obtain ⟨c12, H⟩ := H
          have LMc12 := Aside0.mk c12
          clear c12
          obtain ⟨y397, hy397⟩ : ∃ y_ : List Int, y_ = (x4_1 ++ [t396]) := ⟨_, rfl⟩
          replace H : (if 0 ≤ t396 then (if t396 ≤ (((rd_T46 l0 x7_1).f1).size : Int) then (if x5_1.length < 8796093022208 then (spec_FrontPack.l0 k1 l0 y397 (x5_1 ++ [((rd_T46 l0 x7_1).f1).extract (t396 : Int).toNat ((rd_T46 l0 x7_1).f1).size]) ((rd_T46 l0 x7_1).f1) (wrap64 (x7_1 + 1))) else (none)) else (none)) else (none)) = some (r1, r2) := by first | (rw [hy397]; with_reducible exact H) | (rw [hy397]; exact H) | exact H
          have Ny397 := Aside0.mk hy397
          clear hy397
          replace H := ifs H
          obtain ⟨c13, H⟩ := H
          have c13b0 := eq_true c13
          have c13b1 := decide_eq_true c13
          clear c13
          replace H := ifs H
          obtain ⟨c14, H⟩ := H
          have c14b0 := eq_true c14
          have c14b1 := decide_eq_true c14
          clear c14
          replace H := ifs H
          obtain ⟨c15, H⟩ := H
          have LMc15 := Aside0.mk c15
          clear c15
          obtain ⟨y401, hy401⟩ : ∃ y_ : List ByteArray, y_ = (x5_1 ++ [((rd_T46 l0 x7_1).f1).extract (t396 : Int).toNat ((rd_T46 l0 x7_1).f1).size]) := ⟨_, rfl⟩
          replace H : (spec_FrontPack.l0 k1 l0 y397 y401 ((rd_T46 l0 x7_1).f1) (wrap64 (x7_1 + 1))) = some (r1, r2) := by first | (rw [hy401]; with_reducible exact H) | (rw [hy401]; exact H) | exact H
          have Ny401 := Aside0.mk hy401
          clear hy401
          have H' := Aside0.mk H
          clear H
          have p395 : 0 ≤ (x7_1 : Int) := dcd
          have q395 : x7_1 < (l0.length : Int) := dcd
          obtain ⟨ad395, e395, hx395_0, hx395_1⟩ := at_T46 HR0.out x7_1 p395 q395
          cases e395
          replace hx395_0 := crd HB hx395_0
          replace hx395_1 := crd HB hx395_1
          replace p395 := eq_true p395
          replace q395 := eq_true q395
          go_wp2_with (first | ((with_reducible refine gate_callee (f := 55) rfl ?_); refine gl_ (some 31) Try.func55 #[.string x6_1, .string ((rd_T46 l0 x7_1).f1)] rfl ?_; (with_reducible refine (spec_Common.calls k1 x6_1 ((rd_T46 l0 x7_1).f1) t396 _ A11.out).mono ?_); rintro e w' ⟨rfl, ⟨nd, rfl⟩⟩; refine ⟨_, rfl, ?_⟩) | ((with_reducible refine gate_builtin (b := .append) (xs := #[.tmp 32, .tmp 34]) rfl ?_); at_builtin; refine Kd.R_append (Kd.int .i64) (w0 := w) w.heap.size rfl (.tmp 32) (.tmp 34) 41 3 (.int .i64 0) 8 rfl Try.underlying41 info3 rfl (by decide) (by omega) u4 x4_1 t396 [.int .i64 t396] (fun _ => True) (fun _ => False) rfl rfl ?aP (fun _ hk => hk.elim) ?aF ?aO ?aB ?aS ?aL ?_; (case aP => exact rfl); (case aB => exact (below_later HB.out)); (case aF => exact (fun _ _ => trivial)); (case aO => exact (R_later HO_4.out)); (case aS => exact (below_size (below_later HB.out))); (case aL => have := LMc12.out; omega); intro v398 w16 ho hb hg hat; rw [← Ny397.out] at ho; have n0_ := Aside0.mk (Kd.R_over' (R_later HO_5.out) (Kd.R_typed (R_later HO_4.out)) (by decide) hg); have n1_ := Aside0.mk (hb); have n2_ := Aside0.mk (ho); clear HO_5; clear HB; clear HO_4; have HO_5 := n0_; have HB := n1_; have HO399 := n2_; clear n0_ n1_ n2_; clear ho hb hg hat; have p400 : 0 ≤ (x7_1 : Int) := dcd; have q400 : x7_1 < (l0.length : Int) := dcd; obtain ⟨ad400, e400, hx400_0, hx400_1⟩ := at_T46 HR0.out x7_1 p400 q400; obtain rfl : ad395 = ad400 := (by injection e400); replace hx400_0 := crd HB hx400_0; replace hx400_1 := crd HB hx400_1; replace p400 := eq_true p400; replace q400 := eq_true q400) | ((with_reducible refine gate_builtin (b := .append) (xs := #[.tmp 36, .tmp 44]) rfl ?_); at_builtin; refine Kd.R_append Kd.string (w0 := w) w.heap.size rfl (.tmp 36) (.tmp 44) 62 9 (.string ⟨#[]⟩) 16 rfl Try.underlying62 info9 rfl (by decide) (by omega) u5 x5_1 (((rd_T46 l0 x7_1).f1).extract (t396 : Int).toNat ((rd_T46 l0 x7_1).f1).size) [.string (((rd_T46 l0 x7_1).f1).extract (t396 : Int).toNat ((rd_T46 l0 x7_1).f1).size)] (fun _ => True) (fun _ => False) rfl rfl ?aP (fun _ hk => hk.elim) ?aF ?aO ?aB ?aS ?aL ?_; (case aP => exact rfl); (case aB => exact (below_later HB.out)); (case aF => exact (fun _ _ => trivial)); (case aO => exact (R_later HO_5.out)); (case aS => exact (below_size (below_later HB.out))); (case aL => have := LMc15.out; omega); intro v402 w17 ho hb hg hat; rw [← Ny401.out] at ho; have n0_ := Aside0.mk (Kd.R_over' (R_later HO399.out) (Kd.R_typed (R_later HO_5.out)) (by decide) hg); have n1_ := Aside0.mk (hb); have n2_ := Aside0.mk (ho); clear HO399; clear HB; clear HO_5; have HO399 := n0_; have HB := n1_; have HO403 := n2_; clear n0_ n1_ n2_; clear ho hb hg hat; have p404 : 0 ≤ (x7_1 : Int) := dcd; have q404 : x7_1 < (l0.length : Int) := dcd; obtain ⟨ad404, e404, hx404_0, hx404_1⟩ := at_T46 HR0.out x7_1 p404 q404; obtain rfl : ad395 = ad404 := (by injection e404); replace hx404_0 := crd HB hx404_0; replace hx404_1 := crd HB hx404_1; replace p404 := eq_true p404; replace q404 := eq_true q404))
          go_roundg k1
          case measure => have := HK1.out; omega
          case rel => exact ⟨(y397), (y401), ((rd_T46 l0 x7_1).f1), (wrap64 (x7_1 + 1)), sr, sr, H', ⟨by have := HK1.out; omega⟩, ⟨R_later HO399.out⟩, ⟨R_later HO403.out⟩, ⟨below_later HB.out⟩⟩
        · rw [if_neg c9] at H
          have c9b0 := decide_eq_false c9
          clear c9
          replace H := Option.bind_eq_some_iff.mp H
          obtain ⟨⟨t405, t406⟩, A180, H⟩ := H
          replace H : ((spec_l10Pack.f k1 x5_1).bind fun bt409 => (if t406 = true then (if bt409.2 = true then (if t405.length + bt409.1.length < 140737488355328 then (some ((t405 ++ bt409.1), true)) else (none)) else (some ((([] : List Int)), false))) else (some ((([] : List Int)), false)))) = some (r1, r2) := H
          have A18 := Aside0.mk A180
          clear A180
          replace H := Option.bind_eq_some_iff.mp H
          obtain ⟨⟨t409, t410⟩, A190, H⟩ := H
          replace H : (if t406 = true then (if t410 = true then (if t405.length + t409.length < 140737488355328 then (some ((t405 ++ t409), true)) else (none)) else (some ((([] : List Int)), false))) else (some ((([] : List Int)), false))) = some (r1, r2) := H
          have A19 := Aside0.mk A190
          clear A190
          by_cases c20 : t406 = true
          · subst c20
            replace H := ifp rfl H
            by_cases c21 : t410 = true
            · subst c21
              replace H := ifp rfl H
              replace H := ifs H
              obtain ⟨c22, H⟩ := H
              have LMc22 := Aside0.mk c22
              clear c22
              obtain ⟨y413, hy413⟩ : ∃ y_ : List Int, y_ = (t405 ++ t409) := ⟨_, rfl⟩
              replace H : (some (y413, true)) = some (r1, r2) := by first | (rw [hy413]; with_reducible exact H) | (rw [hy413]; exact H) | exact H
              have Ny413 := Aside0.mk hy413
              clear hy413
              simp only [Option.some.injEq, Prod.mk.injEq] at H
              obtain ⟨rfl, rfl⟩ := H
              obtain ⟨Ao23, co23, eo23⟩ := Kd.R_slice HO_4.out
              subst eo23
              go_wp2_with (first | ((with_reducible refine gate_callee (f := 20) rfl ?_); refine gl_ (some 53) Try.func20 #[.slice Ao23 x4_1.length co23] rfl ?_; (with_reducible refine (spec_DeltaPack.calls k1 _ _ x4_1 t405 true _ ?side1 ?side2 A18.out).mono ?_); (case side1 => repeat (first | exact (Kd.R_reads' HO_4.out).2.2 | (with_reducible refine Kd.C_alloc ?_ _) | (with_reducible refine Kd.C_drewN ?_ _) | (with_reducible refine Kd.C_drew ?_))); (case side2 => exact (Kd.R_reads' HO_4.out).2.1); rintro e w24 ⟨v407, rfl, ho0, hb⟩; refine ⟨_, rfl, ?_⟩; have HO408 := Aside0.mk (Kd.R_lower ho0 (below_size (below_later HB.out))); replace HO_4 := Aside0.mk (Kd.R_below (R_later HO_4.out) hb); replace HO_5 := Aside0.mk (Kd.R_below (R_later HO_5.out) hb); replace HB := bst HB hb; (try clear hb); (try clear hk); (try clear ho0); obtain ⟨Ao25, co25, eo25⟩ := Kd.R_slice HO_5.out; subst eo25) | ((with_reducible refine gate_callee (f := 53) rfl ?_); refine gl_ (some 58) Try.func53 #[.slice Ao25 x5_1.length co25] rfl ?_; (with_reducible refine (spec_l10Pack.calls k1 _ _ x5_1 t409 true _ ?side1 ?side2 A19.out).mono ?_); (case side1 => repeat (first | exact (Kd.R_reads' HO_5.out).2.2 | (with_reducible refine Kd.C_alloc ?_ _) | (with_reducible refine Kd.C_drewN ?_ _) | (with_reducible refine Kd.C_drew ?_))); (case side2 => exact (Kd.R_reads' HO_5.out).2.1); rintro e w26 ⟨v411, rfl, ho0, hb⟩; refine ⟨_, rfl, ?_⟩; have HO412 := Aside0.mk (Kd.R_lower (Kd.R_new' ho0 (Kd.R_lt (R_later HO408.out))) (below_size (below_later HB.out))); replace HO_4 := Aside0.mk (Kd.R_below (R_later HO_4.out) hb); replace HO_5 := Aside0.mk (Kd.R_below (R_later HO_5.out) hb); replace HO408 := Aside0.mk (Kd.R_elder' (R_later HO408.out) (Kd.R_base ho0) hb); replace HB := bst HB hb; (try clear hb); (try clear hk); (try clear ho0); obtain ⟨Ao28, co28, eo28⟩ := Kd.R_slice HO412.out; subst eo28) | ((with_reducible refine gate_builtin (b := .append) (xs := #[.tmp 68, .tmp 69]) rfl ?_); at_builtin; refine Kd.R_append_rows (Kd.int .u8) (w0 := w) w.heap.size rfl (.tmp 68) (.tmp 69) 24 5 (.int .u8 0) 1 rfl Try.underlying24 info5 rfl (by decide) (by omega) v407 t405 t409 _ _ _ (fun k_ => some k_ ≠ (.slice Ao28 t409.length co28 : Value).ownBlock) (fun _ => False) rfl rfl ?aO ?aR (fun _ _ h => h) (fun _ h => h.elim) ?aF ?aB ?aS ?aL ?_; (case aR => repeat (first | exact (Kd.R_reads' HO412.out).2.2 | (with_reducible refine Kd.C_alloc ?_ _) | (with_reducible refine Kd.C_drewN ?_ _) | (with_reducible refine Kd.C_drew ?_))); (case aB => exact (below_later HB.out)); (case aF => exact (fun k_ hk => Kd.fresh' (Kd.R_lt (R_later HO412.out)) k_ hk)); (case aO => exact (by (with_reducible repeat (first | apply Kd.R_alloc | apply Kd.R_drewN | apply Kd.R_drew)); exact Kd.R_mono HO408.out (fun _ hk => hk.2))); (case aS => exact (below_size (below_later HB.out))); (case aL => have := LMc22.out; omega); intro v414 w27 ho hb hg hat; rw [← Ny413.out] at ho; have n0_ := Aside0.mk (Kd.R_over' (R_later HO_4.out) (Kd.R_typed (R_later HO408.out)) (by decide) hg); have n1_ := Aside0.mk (Kd.R_over' (R_later HO_5.out) (Kd.R_typed (R_later HO408.out)) (by decide) hg); have n2_ := Aside0.mk (Kd.R_after (ok := (fun _ => True)) (R_later HO412.out) hg hat); have n3_ := Aside0.mk (hb); have n4_ := Aside0.mk (ho); clear HO_4; clear HO_5; clear HO412; clear HB; clear HO408; have HO_4 := n0_; have HO_5 := n1_; have HO412 := n2_; have HB := n3_; have HO415 := n4_; clear n0_ n1_ n2_ n3_ n4_; clear ho hb hg hat))
              go_ret2
              exact ⟨_, by first | rfl | (simp [errW_none, errW_some] <;> rfl) | (simp [*, errW_none, errW_some] <;> rfl), by (with_reducible repeat (first | apply Kd.R_alloc | apply Kd.R_drewN | apply Kd.R_drew)); exact Kd.R_mono HO415.out (fun _ hk => trivial), below_later HB.out⟩
            · replace c21 := Bool.eq_false_iff.mpr c21
              subst c21
              replace H := ifn Bool.false_ne_true H
              obtain ⟨y416, hy416⟩ : ∃ y_ : List Int, y_ = (([] : List Int)) := ⟨_, rfl⟩
              replace H : (some (y416, false)) = some (r1, r2) := by first | (rw [hy416]; with_reducible exact H) | (rw [hy416]; exact H) | exact H
              have Ny416 := Aside0.mk hy416
              clear hy416
              simp only [Option.some.injEq, Prod.mk.injEq] at H
              obtain ⟨rfl, rfl⟩ := H
              obtain ⟨Ao29, co29, eo29⟩ := Kd.R_slice HO_4.out
              subst eo29
              go_wp2_with (first | ((with_reducible refine gate_callee (f := 20) rfl ?_); refine gl_ (some 53) Try.func20 #[.slice Ao29 x4_1.length co29] rfl ?_; (with_reducible refine (spec_DeltaPack.calls k1 _ _ x4_1 t405 true _ ?side1 ?side2 A18.out).mono ?_); (case side1 => repeat (first | exact (Kd.R_reads' HO_4.out).2.2 | (with_reducible refine Kd.C_alloc ?_ _) | (with_reducible refine Kd.C_drewN ?_ _) | (with_reducible refine Kd.C_drew ?_))); (case side2 => exact (Kd.R_reads' HO_4.out).2.1); rintro e w30 ⟨v407, rfl, ho0, hb⟩; refine ⟨_, rfl, ?_⟩; have HO408 := Aside0.mk (Kd.R_lower ho0 (below_size (below_later HB.out))); replace HO_4 := Aside0.mk (Kd.R_below (R_later HO_4.out) hb); replace HO_5 := Aside0.mk (Kd.R_below (R_later HO_5.out) hb); replace HB := bst HB hb; (try clear hb); (try clear hk); (try clear ho0); obtain ⟨Ao31, co31, eo31⟩ := Kd.R_slice HO_5.out; subst eo31) | ((with_reducible refine gate_callee (f := 53) rfl ?_); refine gl_ (some 58) Try.func53 #[.slice Ao31 x5_1.length co31] rfl ?_; (with_reducible refine (spec_l10Pack.calls k1 _ _ x5_1 t409 false _ ?side1 ?side2 A19.out).mono ?_); (case side1 => repeat (first | exact (Kd.R_reads' HO_5.out).2.2 | (with_reducible refine Kd.C_alloc ?_ _) | (with_reducible refine Kd.C_drewN ?_ _) | (with_reducible refine Kd.C_drew ?_))); (case side2 => exact (Kd.R_reads' HO_5.out).2.1); rintro e w32 ⟨v411, rfl, ho0, hb⟩; refine ⟨_, rfl, ?_⟩; have HO412 := Aside0.mk (Kd.R_lower (Kd.R_new' ho0 (Kd.R_lt (R_later HO408.out))) (below_size (below_later HB.out))); replace HO_4 := Aside0.mk (Kd.R_below (R_later HO_4.out) hb); replace HO_5 := Aside0.mk (Kd.R_below (R_later HO_5.out) hb); replace HO408 := Aside0.mk (Kd.R_elder' (R_later HO408.out) (Kd.R_base ho0) hb); replace HB := bst HB hb; (try clear hb); (try clear hk); (try clear ho0)) | ((with_reducible refine gate_dst (N := 67) rfl ?_); refine Kd.R_lit (Kd.int .u8) _ 5 ?hg (N := 67) ?hd (xs := ([] : List Int)) (inner := []) (ok := fun _ => True) (okp := fun _ => True) ?hr ?hp (fun _ hk => hk) trivial (Below.refl _ _) (Nat.le_refl _) (by simp) ?_; (case hd => rfl); (case hg => rfl); (case hr => first | (go_simp; done) | (go_simp; rfl)); (case hp => exact (Reps.none _ _)); intro v417 w33 ho34 hb hg_ hnew_; clear hg_ hnew_; (first | rw [← Ny416.out] at ho34 | (simp only [Int.reduceToNat] at ho34; rw [← Ny416.out] at ho34)); have HO418 := Aside0.mk (Kd.R_lower (Kd.R_new' (Kd.R_new' ho34 (Kd.R_lt (R_later HO408.out))) (Kd.R_lt (R_later HO412.out))) (below_size (below_later HB.out))); replace HO_4 := Aside0.mk (Kd.R_below (R_later HO_4.out) hb); replace HO_5 := Aside0.mk (Kd.R_below (R_later HO_5.out) hb); replace HO408 := Aside0.mk (Kd.R_elder' (R_later HO408.out) (Kd.R_base ho34) hb); replace HO412 := Aside0.mk (Kd.R_elder' (R_later HO412.out) (Kd.R_base ho34) hb); replace HB := bst HB hb; clear hb ho34))
              go_ret2
              exact ⟨_, by first | rfl | (simp [errW_none, errW_some] <;> rfl) | (simp [*, errW_none, errW_some] <;> rfl), by (with_reducible repeat (first | apply Kd.R_alloc | apply Kd.R_drewN | apply Kd.R_drew)); exact Kd.R_mono HO418.out (fun _ hk => trivial), below_later HB.out⟩
          · replace c20 := Bool.eq_false_iff.mpr c20
            subst c20
            replace H := ifn Bool.false_ne_true H
            obtain ⟨y419, hy419⟩ : ∃ y_ : List Int, y_ = (([] : List Int)) := ⟨_, rfl⟩
            replace H : (some (y419, false)) = some (r1, r2) := by first | (rw [hy419]; with_reducible exact H) | (rw [hy419]; exact H) | exact H
            have Ny419 := Aside0.mk hy419
            clear hy419
            simp only [Option.some.injEq, Prod.mk.injEq] at H
            obtain ⟨rfl, rfl⟩ := H
            obtain ⟨Ao35, co35, eo35⟩ := Kd.R_slice HO_4.out
            subst eo35
            go_wp2_with (first | ((with_reducible refine gate_callee (f := 20) rfl ?_); refine gl_ (some 53) Try.func20 #[.slice Ao35 x4_1.length co35] rfl ?_; (with_reducible refine (spec_DeltaPack.calls k1 _ _ x4_1 t405 false _ ?side1 ?side2 A18.out).mono ?_); (case side1 => repeat (first | exact (Kd.R_reads' HO_4.out).2.2 | (with_reducible refine Kd.C_alloc ?_ _) | (with_reducible refine Kd.C_drewN ?_ _) | (with_reducible refine Kd.C_drew ?_))); (case side2 => exact (Kd.R_reads' HO_4.out).2.1); rintro e w36 ⟨v407, rfl, ho0, hb⟩; refine ⟨_, rfl, ?_⟩; have HO408 := Aside0.mk (Kd.R_lower ho0 (below_size (below_later HB.out))); replace HO_4 := Aside0.mk (Kd.R_below (R_later HO_4.out) hb); replace HO_5 := Aside0.mk (Kd.R_below (R_later HO_5.out) hb); replace HB := bst HB hb; (try clear hb); (try clear hk); (try clear ho0); obtain ⟨Ao37, co37, eo37⟩ := Kd.R_slice HO_5.out; subst eo37) | ((with_reducible refine gate_callee (f := 53) rfl ?_); refine gl_ (some 58) Try.func53 #[.slice Ao37 x5_1.length co37] rfl ?_; (with_reducible refine (spec_l10Pack.calls k1 _ _ x5_1 t409 t410 _ ?side1 ?side2 A19.out).mono ?_); (case side1 => repeat (first | exact (Kd.R_reads' HO_5.out).2.2 | (with_reducible refine Kd.C_alloc ?_ _) | (with_reducible refine Kd.C_drewN ?_ _) | (with_reducible refine Kd.C_drew ?_))); (case side2 => exact (Kd.R_reads' HO_5.out).2.1); rintro e w38 ⟨v411, rfl, ho0, hb⟩; refine ⟨_, rfl, ?_⟩; have HO412 := Aside0.mk (Kd.R_lower (Kd.R_new' ho0 (Kd.R_lt (R_later HO408.out))) (below_size (below_later HB.out))); replace HO_4 := Aside0.mk (Kd.R_below (R_later HO_4.out) hb); replace HO_5 := Aside0.mk (Kd.R_below (R_later HO_5.out) hb); replace HO408 := Aside0.mk (Kd.R_elder' (R_later HO408.out) (Kd.R_base ho0) hb); replace HB := bst HB hb; (try clear hb); (try clear hk); (try clear ho0)) | ((with_reducible refine gate_dst (N := 67) rfl ?_); refine Kd.R_lit (Kd.int .u8) _ 5 ?hg (N := 67) ?hd (xs := ([] : List Int)) (inner := []) (ok := fun _ => True) (okp := fun _ => True) ?hr ?hp (fun _ hk => hk) trivial (Below.refl _ _) (Nat.le_refl _) (by simp) ?_; (case hd => rfl); (case hg => rfl); (case hr => first | (go_simp; done) | (go_simp; rfl)); (case hp => exact (Reps.none _ _)); intro v420 w39 ho40 hb hg_ hnew_; clear hg_ hnew_; (first | rw [← Ny419.out] at ho40 | (simp only [Int.reduceToNat] at ho40; rw [← Ny419.out] at ho40)); have HO421 := Aside0.mk (Kd.R_lower (Kd.R_new' (Kd.R_new' ho40 (Kd.R_lt (R_later HO408.out))) (Kd.R_lt (R_later HO412.out))) (below_size (below_later HB.out))); replace HO_4 := Aside0.mk (Kd.R_below (R_later HO_4.out) hb); replace HO_5 := Aside0.mk (Kd.R_below (R_later HO_5.out) hb); replace HO408 := Aside0.mk (Kd.R_elder' (R_later HO408.out) (Kd.R_base ho40) hb); replace HO412 := Aside0.mk (Kd.R_elder' (R_later HO412.out) (Kd.R_base ho40) hb); replace HB := bst HB hb; clear hb ho40))
            go_ret2
            exact ⟨_, by first | rfl | (simp [errW_none, errW_some] <;> rfl) | (simp [*, errW_none, errW_some] <;> rfl), by (with_reducible repeat (first | apply Kd.R_alloc | apply Kd.R_drewN | apply Kd.R_drew)); exact Kd.R_mono HO421.out (fun _ hk => trivial), below_later HB.out⟩
  · replace c3 := Bool.eq_false_iff.mpr c3
    subst c3
    replace H := ifn Bool.false_ne_true H
    obtain ⟨y386, hy386⟩ : ∃ y_ : List Int, y_ = (([] : List Int)) := ⟨_, rfl⟩
    replace H : (some (y386, false)) = some (r1, r2) := by first | (rw [hy386]; with_reducible exact H) | (rw [hy386]; exact H) | exact H
    have Ny386 := Aside0.mk hy386
    clear hy386
    simp only [Option.some.injEq, Prod.mk.injEq] at H
    obtain ⟨rfl, rfl⟩ := H
    go_enter Try.func22, Try.ntmps22
    go_wp2_with (first | ((with_reducible refine gate_callee (f := 15) rfl ?_); refine gl_ (some 14) Try.func15 #[.int .i64 6, .slice A0 l0.length c0] rfl ?_; (with_reducible refine (spec_l6Vals.calls k 6 _ _ l0 false _ ?side1 ?side2 A2.out).mono ?_); (case side1 => exact C_later HR0.out); (case side2 => exact HC0.out); rintro e w41 ⟨rfl, hb⟩; refine ⟨_, rfl, ?_⟩; replace HB := bst HB hb; (try clear hb); (try clear hk)) | ((with_reducible refine gate_dst (N := 16) rfl ?_); refine Kd.R_lit (Kd.int .u8) _ 5 ?hg (N := 16) ?hd (xs := ([] : List Int)) (inner := []) (ok := fun _ => True) (okp := fun _ => True) ?hr ?hp (fun _ hk => hk) trivial (Below.refl _ _) (Nat.le_refl _) (by simp) ?_; (case hd => rfl); (case hg => rfl); (case hr => first | (go_simp; done) | (go_simp; rfl)); (case hp => exact (Reps.none _ _)); intro v387 w42 ho43 hb hg_ hnew_; clear hg_ hnew_; (first | rw [← Ny386.out] at ho43 | (simp only [Int.reduceToNat] at ho43; rw [← Ny386.out] at ho43)); have HO388 := Aside0.mk (Kd.R_lower ho43 (below_size (below_later HB.out))); replace HB := bst HB hb; clear hb ho43))
    go_ret2
    exact ⟨_, by first | rfl | (simp [errW_none, errW_some] <;> rfl) | (simp [*, errW_none, errW_some] <;> rfl), by (with_reducible repeat (first | apply Kd.R_alloc | apply Kd.R_drewN | apply Kd.R_drew)); exact HO388.out, below_later HB.out⟩

/-! ### spec_SplitPack: function 23 -/
mutual
def spec_SplitPack.j0 : Nat → List (S46) → Int → Bool → Option (List Int × Bool)
  | 0, _, _, _ => none
  | k + 1, x1, x6, x20 => if x20 = true then (some ((([] : List Int)), false)) else (if 0 ≤ (wrap64 (x6 * (x1.length : Int))) then (if (wrap64 (x6 * (x1.length : Int)) : Int).toNat ≤ 281474976710656 then (spec_SplitPack.l0 k x1 x6 (x1.length : Int) (List.replicate (wrap64 (x6 * (x1.length : Int)) : Int).toNat 0) 0) else (none)) else (none))
def spec_SplitPack.l0 : Nat → List (S46) → Int → Int → List Int → Int → Option (List Int × Bool)
  | 0, _, _, _, _, _ => none
  | k + 1, x1, x6, x7, x8, x9 => if x9 < x7 then (spec_SplitPack.l1 k x1 x6 x7 x8 x9 0) else (some (x8, true))
def spec_SplitPack.l1 : Nat → List (S46) → Int → Int → List Int → Int → Int → Option (List Int × Bool)
  | 0, _, _, _, _, _, _ => none
  | k + 1, x1, x6, x7, x8, x9, x10 => if x10 < x6 then (if 0 ≤ x9 then (if x9 < (x1.length : Int) then (if 0 ≤ (wrap64 (8 * x10)) then (if 0 ≤ (wrap64 ((wrap64 (x10 * x7)) + x9)) then (if (wrap64 ((wrap64 (x10 * x7)) + x9)) < (x8.length : Int) then (spec_SplitPack.l1 k x1 x6 x7 (x8.set ((wrap64 ((wrap64 (x10 * x7)) + x9)) : Int).toNat ((shr .i64 ((rd_T46 x1 x9).f0) (wrap64 (8 * x10))) % 256)) x9 (wrap64 (x10 + 1))) else (none)) else (none)) else (none)) else (none)) else (none)) else (spec_SplitPack.l0 k x1 x6 x7 x8 (wrap64 (x9 + 1)))
end
def spec_SplitPack.f (k : Nat) (a0 : Int) (l1 : List (S46)) : Option (List Int × Bool) := (spec_SplitWide.f a0).bind fun t422 => (if t422 = 0 then (spec_SplitPack.j0 k l1 t422 true) else ((spec_l6Vals.f k a0 l1).bind fun t423 => (spec_SplitPack.j0 k l1 t422 (!t423))))
set_option maxHeartbeats 8000000 in
set_option maxRecDepth 100000 in
theorem spec_SplitPack.calls (k : Nat) (a0 : Int) (A1 : Option Addr) (c1 : Nat) (l1 : List (S46)) (r1 : List Int) (r2 : Bool) (w : World) (hr1 : Kd.C k46 w A1 l1.length l1) (hc1 : l1.length ≤ c1) (h : spec_SplitPack.f k a0 l1 = some (r1, r2)) :
    Calls Try.prog 23 #[.int .i64 a0, .slice A1 l1.length c1] w fun e w' => ∃ v0_ : Value, e = .returned (.tuple #[v0_, .bool r2]) ∧ Kd.R (Kd.int .u8) 5 w' w.heap.size (fun _ => True) v0_ r1 ∧ Below w.heap.size w w' := by
  have HR1 := Aside0.mk hr1
  have HC1 := Aside0.mk hc1
  clear hr1 hc1
  have HB := Aside0.mk (Below.refl w.heap.size w)
  have H : ((spec_SplitWide.f a0).bind fun t422 => (if t422 = 0 then (spec_SplitPack.j0 k l1 t422 true) else ((spec_l6Vals.f k a0 l1).bind fun t423 => (spec_SplitPack.j0 k l1 t422 (!t423))))) = some (r1, r2) := h
  clear h
  replace H := bnd H
  obtain ⟨t422, A3, H⟩ := H
  have HC4 := Aside0.mk H
  clear H
  go_enter Try.func23, Try.ntmps23
  go_upto_region 2 with (first | ((with_reducible refine gate_callee (f := 40) rfl ?_); refine gl_ (some 12) Try.func40 #[.int .i64 a0] rfl ?_; (with_reducible refine (spec_SplitWide.calls a0 t422 _ A3.out).mono ?_); rintro e w' ⟨rfl, ⟨nd, rfl⟩⟩; refine ⟨_, rfl, ?_⟩))
  (try simp only [Act.put, List.setIfInBounds_toArray, List.set_cons_zero, List.set_cons_succ])
  go_cut [20] (fun v20 wc => ∃ (kq : Nat) (x20_3 : Bool), v20 = .bool x20_3 ∧ Aside0 (spec_SplitPack.j0 kq l1 t422 x20_3 = some (r1, r2)) ∧ Aside0 (kq ≤ k) ∧ Aside0 (Below w.heap.size w wc))
  case first =>
    have H := HC4.out
    clear HC4
    by_cases c5 : t422 = 0
    · rw [if_pos c5] at H
      have c5b0 : (t422 == 0) = true := beq_iff_eq.mpr c5
      have c5b1 : (t422 != 0) = false := bne_eq_false_iff_eq.mpr c5
      clear c5
      (first | rw [c5b0] | rw [c5b1] | (simp only [i64_w, i32_w]; rw [c5b0]) | skip)
      have H' := Aside0.mk H
      clear H
      go_wp2
      go_meet
      case rel => exact ⟨_, (true), sr, H', ⟨by first | omega | exact Nat.le_refl _⟩, ⟨below_later HB.out⟩⟩
    · rw [if_neg c5] at H
      have c5b0 : (t422 == 0) = false := beq_eq_false_iff_ne.mpr c5
      have c5b1 : (t422 != 0) = true := bne_iff_ne.mpr c5
      (first | rw [c5b0] | rw [c5b1] | (simp only [i64_w, i32_w]; rw [c5b0]) | skip)
      replace H := bnd H
      obtain ⟨t423, A6, H⟩ := H
      have H' := Aside0.mk H
      clear H
      go_wp2_with (first | (go_at_call 15; (with_reducible refine (spec_l6Vals.calls k a0 _ _ l1 t423 _ ?side1 ?side2 A6.out).mono ?_); (case side1 => repeat (first | exact (Kd.C_below HR1.out HB.out) | (with_reducible refine Kd.C_alloc ?_ _) | (with_reducible refine Kd.C_drewN ?_ _) | (with_reducible refine Kd.C_drew ?_))); (case side2 => exact HC1.out); rintro e w7 ⟨rfl, hb⟩; replace HB := bst HB hb; (try clear hb)))
      go_meet
      case rel => exact ⟨_, (!t423), sr, H', ⟨by first | omega | exact Nat.le_refl _⟩, ⟨below_later HB.out⟩⟩
  case rest =>
    clear HC4
    try clear c1
    obtain ⟨kq, x20_3, rfl, HA, HJ3, HB⟩ := hcut
    cases kq with
    | zero => exact absurd HA.out (by simp [spec_SplitPack.j0])
    | succ kj3 =>
      have H := HA.out
      clear HA
      simp only [spec_SplitPack.j0] at H
      by_cases c8 : x20_3 = true
      · subst c8
        replace H := ifp rfl H
        obtain ⟨y424, hy424⟩ : ∃ y_ : List Int, y_ = (([] : List Int)) := ⟨_, rfl⟩
        replace H : (some (y424, false)) = some (r1, r2) := by first | (rw [hy424]; with_reducible exact H) | (rw [hy424]; exact H) | exact H
        have Ny424 := Aside0.mk hy424
        clear hy424
        simp only [Option.some.injEq, Prod.mk.injEq] at H
        obtain ⟨rfl, rfl⟩ := H
        go_wp2_with (first | ((with_reducible refine gate_dst (N := 21) rfl ?_); refine Kd.R_lit (Kd.int .u8) _ 5 ?hg (N := 21) ?hd (xs := ([] : List Int)) (inner := []) (ok := fun _ => True) (okp := fun _ => True) ?hr ?hp (fun _ hk => hk) trivial (Below.refl _ _) (Nat.le_refl _) (by simp) ?_; (case hd => rfl); (case hg => rfl); (case hr => first | (go_simp; done) | (go_simp; rfl)); (case hp => exact (Reps.none _ _)); intro v425 w9 ho10 hb hg_ hnew_; clear hg_ hnew_; (first | rw [← Ny424.out] at ho10 | (simp only [Int.reduceToNat] at ho10; rw [← Ny424.out] at ho10)); have HO426 := Aside0.mk (Kd.R_lower ho10 (below_size (below_later HB.out))); replace HB := bst HB hb; clear hb ho10))
        go_ret2
        exact ⟨_, by first | rfl | (simp [errW_none, errW_some] <;> rfl) | (simp [*, errW_none, errW_some] <;> rfl), by (with_reducible repeat (first | apply Kd.R_alloc | apply Kd.R_drewN | apply Kd.R_drew)); exact HO426.out, below_later HB.out⟩
      · replace c8 := Bool.eq_false_iff.mpr c8
        subst c8
        replace H := ifn Bool.false_ne_true H
        obtain ⟨ji11, hji11⟩ : ∃ j_ : Int, (wrap64 (t422 * (l1.length : Int))) = j_ := ⟨_, rfl⟩
        replace H : (if 0 ≤ (ji11) then (if (ji11 : Int).toNat ≤ 281474976710656 then (spec_SplitPack.l0 kj3 l1 t422 (l1.length : Int) (List.replicate (ji11 : Int).toNat 0) 0) else (none)) else (none)) = some (r1, r2) := by first | (rw [hji11] at H; exact H) | (simp only [hji11] at H ⊢; exact H)
        have hji11w : (IntKind.i64.wrap (t422 * (l1.length : Int))) = ji11 := (i64_w _).trans hji11
        replace H := ifs H
        obtain ⟨c12, H⟩ := H
        have c12b0 := eq_true c12
        have c12b1 := decide_eq_true c12
        clear c12
        replace H := ifs H
        obtain ⟨c13, H⟩ := H
        have c13b0 := eq_true c13
        have c13b1 := decide_eq_true c13
        clear c13
        obtain ⟨y427, hy427⟩ : ∃ y_ : List Int, y_ = (List.replicate (ji11 : Int).toNat 0) := ⟨_, rfl⟩
        replace H : (spec_SplitPack.l0 kj3 l1 t422 (l1.length : Int) y427 0) = some (r1, r2) := by first | (rw [hy427]; with_reducible exact H) | (rw [hy427]; exact H) | exact H
        have Ny427 := Aside0.mk hy427
        clear hy427
        have H' := Aside0.mk H
        clear H
        go_wp2_with (first | ((with_reducible refine gate_dst (N := 27) rfl ?_); refine Kd.R_make (Kd.int .u8) _ 5 rfl (N := 27) rfl 24 _ _ rfl ji11 rfl rfl Try.underlying24 (.int .u8 0) 1 info5 rfl (by decide) (by omega) 0 (ok := fun _ => True) (okp := fun _ => True) rfl (fun _ hk => hk) trivial (dcd) (Nat.le_trans (Nat.mul_le_mul_right _ (dcd : ji11.toNat ≤ 281474976710656)) (by omega)) (Below.refl _ _) (Nat.le_refl _) ?_; intro v428 w14 ho15 hb hg_ hnew_; clear hg_ hnew_; (first | rw [← Ny427.out] at ho15 | (simp only [Int.reduceToNat] at ho15; rw [← Ny427.out] at ho15)); have HO429 := Aside0.mk (Kd.R_lower ho15 (below_size (below_later HB.out))); replace HB := bst HB hb; clear hb ho15))
        go_loopg [9] kj3 (fun kq v9 w' => ∃ (x8_2 : List Int) (x9_2 : Int), v9 = .int .i64 x9_2 ∧ Aside0 (spec_SplitPack.l0 kq l1 t422 (l1.length : Int) x8_2 x9_2 = some (r1, r2)) ∧ Aside0 (kq ≤ kj3) ∧ Aside0 (Kd.R (Kd.int .u8) 5 w' w.heap.size (fun _ => True) v428 x8_2) ∧ Aside0 (Below w.heap.size w w'))
        case atStart => exact ⟨(y427), (0), sr, H', ⟨Nat.le_refl _⟩, ⟨R_later HO429.out⟩, ⟨below_later HB.out⟩⟩
        case round =>
          clear H'
          try clear c1
          try clear c8
          try clear c12
          try clear c12b0
          try clear c12b1
          try clear c13
          try clear c13b0
          try clear c13b1
          obtain ⟨x8_2, x9_2, rfl, HA, HK2, HO_8, HB⟩ := hrel
          cases gk with
          | zero => exact absurd HA.out (by simp [spec_SplitPack.l0])
          | succ k2 =>
            have H := HA.out
            clear HA
            simp only [spec_SplitPack.l0] at H
            by_cases c16 : x9_2 < (l1.length : Int)
            · rw [if_pos c16] at H
              have c16b0 := decide_eq_true c16
              clear c16
              have H' := Aside0.mk H
              clear H
              go_wp2
              go_loopg [10] k2 (fun kq v10 w' => ∃ (x8_3 : List Int) (x10_3 : Int), v10 = .int .i64 x10_3 ∧ Aside0 (spec_SplitPack.l1 kq l1 t422 (l1.length : Int) x8_3 x9_2 x10_3 = some (r1, r2)) ∧ Aside0 (kq ≤ k2) ∧ Aside0 (Kd.R (Kd.int .u8) 5 w' w.heap.size (fun _ => True) v428 x8_3) ∧ Aside0 (Below w.heap.size w w'))
              case atStart => exact ⟨(x8_2), (0), sr, H', ⟨Nat.le_refl _⟩, ⟨R_later HO_8.out⟩, ⟨below_later HB.out⟩⟩
              case round =>
                clear H'
                try clear c1
                try clear c8
                try clear c12
                try clear c12b0
                try clear c12b1
                try clear c13
                try clear c13b0
                try clear c13b1
                try clear c16
                try clear c16b0
                obtain ⟨x8_3, x10_3, rfl, HA, HK3, HO_8, HB⟩ := hrel
                cases gk with
                | zero => exact absurd HA.out (by simp [spec_SplitPack.l1])
                | succ k3 =>
                  have H := HA.out
                  clear HA
                  simp only [spec_SplitPack.l1] at H
                  by_cases c17 : x10_3 < t422
                  · rw [if_pos c17] at H
                    have c17b0 := decide_eq_true c17
                    clear c17
                    replace H := ifd H
                    obtain ⟨c18b0, H⟩ := H
                    replace H := ifd H
                    obtain ⟨c19b0, H⟩ := H
                    obtain ⟨ji20, hji20⟩ : ∃ j_ : Int, (wrap64 (8 * x10_3)) = j_ := ⟨_, rfl⟩
                    replace H : (if 0 ≤ (ji20) then (if 0 ≤ (wrap64 ((wrap64 (x10_3 * (l1.length : Int))) + x9_2)) then (if (wrap64 ((wrap64 (x10_3 * (l1.length : Int))) + x9_2)) < (x8_3.length : Int) then (spec_SplitPack.l1 k3 l1 t422 (l1.length : Int) (x8_3.set ((wrap64 ((wrap64 (x10_3 * (l1.length : Int))) + x9_2)) : Int).toNat ((shr .i64 ((rd_T46 l1 x9_2).f0) (ji20)) % 256)) x9_2 (wrap64 (x10_3 + 1))) else (none)) else (none)) else (none)) = some (r1, r2) := by first | (rw [hji20] at H; exact H) | (simp only [hji20] at H ⊢; exact H)
                    have hji20w : (IntKind.i64.wrap (8 * x10_3)) = ji20 := (i64_w _).trans hji20
                    replace H := ifs H
                    obtain ⟨c21, H⟩ := H
                    have c21b0 := eq_true c21
                    have c21b1 := decide_eq_true c21
                    clear c21
                    obtain ⟨ji22, hji22⟩ : ∃ j_ : Int, (shr .i64 ((rd_T46 l1 x9_2).f0) (ji20)) = j_ := ⟨_, rfl⟩
                    replace H : (if 0 ≤ (wrap64 ((wrap64 (x10_3 * (l1.length : Int))) + x9_2)) then (if (wrap64 ((wrap64 (x10_3 * (l1.length : Int))) + x9_2)) < (x8_3.length : Int) then (spec_SplitPack.l1 k3 l1 t422 (l1.length : Int) (x8_3.set ((wrap64 ((wrap64 (x10_3 * (l1.length : Int))) + x9_2)) : Int).toNat ((ji22) % 256)) x9_2 (wrap64 (x10_3 + 1))) else (none)) else (none)) = some (r1, r2) := by first | (rw [hji22] at H; exact H) | (simp only [hji22] at H ⊢; exact H)
                    have hji22_ : (((rd_T46 l1 x9_2).f0) / 2 ^ min (ji20).toNat 64) = ji22 := hji22
                    have hji22z : (ji20) ≤ 64 → (((rd_T46 l1 x9_2).f0) / 2 ^ (ji20).toNat) = ji22 := shr_small hji22
                    obtain ⟨ji23, hji23⟩ : ∃ j_ : Int, (wrap64 ((wrap64 (x10_3 * (l1.length : Int))) + x9_2)) = j_ := ⟨_, rfl⟩
                    replace H : (if 0 ≤ (ji23) then (if (ji23) < (x8_3.length : Int) then (spec_SplitPack.l1 k3 l1 t422 (l1.length : Int) (x8_3.set ((ji23) : Int).toNat ((ji22) % 256)) x9_2 (wrap64 (x10_3 + 1))) else (none)) else (none)) = some (r1, r2) := by first | (rw [hji23] at H; exact H) | (simp only [hji23] at H ⊢; exact H)
                    have hji23w : (IntKind.i64.wrap ((wrap64 (x10_3 * (l1.length : Int))) + x9_2)) = ji23 := (i64_w _).trans hji23
                    replace H := ifd H
                    obtain ⟨c24b0, H⟩ := H
                    replace H := ifd H
                    obtain ⟨c25b0, H⟩ := H
                    obtain ⟨y431, hy431⟩ : ∃ y_ : List Int, y_ = (x8_3.set ((ji23) : Int).toNat ((ji22) % 256)) := ⟨_, rfl⟩
                    replace H : (spec_SplitPack.l1 k3 l1 t422 (l1.length : Int) y431 x9_2 (wrap64 (x10_3 + 1))) = some (r1, r2) := by first | (rw [hy431]; with_reducible exact H) | (rw [hy431]; exact H) | exact H
                    have Ny431 := Aside0.mk hy431
                    clear hy431
                    have H' := Aside0.mk H
                    clear H
                    have p430 : 0 ≤ (x9_2 : Int) := dcd
                    have q430 : x9_2 < (l1.length : Int) := dcd
                    obtain ⟨ad430, e430, hx430_0, hx430_1⟩ := at_T46 HR1.out x9_2 p430 q430
                    cases e430
                    replace hx430_0 := crd HB hx430_0
                    replace hx430_1 := crd HB hx430_1
                    replace p430 := eq_true p430
                    replace q430 := eq_true q430
                    have p26 : 0 ≤ ((ji23) : Int) := dcd
                    have q26 : ((ji23) : Int) < ((x8_3.length : Int) : Int) := dcd
                    obtain ⟨go26, co26, eo26, gb26, gl26, cl26, HG26⟩ := Kd.R_form HO_8.out (by omega)
                    (first | cases eo26 | (injection eo26 with ea_ en_ ec_; (first | subst ea_ | (injection ea_ with ea_; subst ea_)); subst ec_; clear en_))
                    have GB26 := Aside0.mk gb26
                    have GG26 := Aside0.mk HG26
                    clear gb26 gl26 HG26
                    obtain ⟨hx26_0, hf26_0⟩ := Kd.R_celln 0 HO_8.out ((ji23) : Int) p26 q26
                    replace p26 := eq_true p26
                    replace q26 := eq_true q26
                    have HP27 := Kd.R_putg HO_8.out ((ji23) : Int) ((ji22) % 256)
                    go_wp2_with (first | ((with_reducible refine gate_store (t := 5) (p := 53) rfl ?_); refine st_ 5 53 (wr.setCell ⟨go26, ((ji23) : Int).toNat, none⟩ (.int .u8 ((ji22) % 256))) ?_; intro w28 hw; have hg : wr.grownBy w28 (some go26) := (by rw [hw]; exact HP27.2); have hp_ : Kd.R (Kd.int .u8) 5 w28 w.heap.size (fun _ => True) (.slice (some ⟨go26, 0, none⟩) x8_3.length co26) y431 := (by rw [hw, Ny431.out]; exact HP27.1); clear HP27; replace HO_8 := Aside0.mk (hp_); replace HB := Aside0.mk ((by rw [hw]; exact below_set (HB.out) GB26.out : Below w.heap.size w w28)); clear hg hw hp_))
                    go_roundg k3
                    case measure => have := HJ3.out; have := HK2.out; have := HK3.out; omega
                    case rel => exact ⟨(y431), (wrap64 (x10_3 + 1)), sr, H', ⟨by have := HJ3.out; have := HK2.out; have := HK3.out; omega⟩, ⟨R_later HO_8.out⟩, ⟨below_later HB.out⟩⟩
                  · rw [if_neg c17] at H
                    have c17b0 := decide_eq_false c17
                    clear c17
                    have H' := Aside0.mk H
                    clear H
                    go_wp2
                    go_roundg k3
                    case measure => have := HJ3.out; have := HK2.out; have := HK3.out; omega
                    case rel => exact ⟨(x8_3), (wrap64 (x9_2 + 1)), sr, H', ⟨by have := HJ3.out; have := HK2.out; have := HK3.out; omega⟩, ⟨R_later HO_8.out⟩, ⟨below_later HB.out⟩⟩
            · rw [if_neg c16] at H
              have c16b0 := decide_eq_false c16
              clear c16
              simp only [Option.some.injEq, Prod.mk.injEq] at H
              obtain ⟨rfl, rfl⟩ := H
              go_wp2
              go_ret2
              exact ⟨_, by first | rfl | (simp [errW_none, errW_some] <;> rfl) | (simp only [← hji11]; first | rfl | (simp [errW_none, errW_some] <;> rfl)) | (simp [*, errW_none, errW_some] <;> rfl), by (with_reducible repeat (first | apply Kd.R_alloc | apply Kd.R_drewN | apply Kd.R_drew)); exact HO_8.out, below_later HB.out⟩
/-! ### spec_BitsWidth: function 56 -/
def spec_BitsWidth.l0 : Nat → Int → Int → Option (Int)
  | 0, _, _ => none
  | k + 1, x0, x3 => if x0 > 0 then (spec_BitsWidth.l0 k (wrap64 (Int.tdiv x0 2)) (wrap64 (x3 + 1))) else (if x3 > 62 then (some (-1)) else (some x3))
def spec_BitsWidth.f (k : Nat) (a0 : Int) : Option (Int) := if a0 < 0 then (some (-1)) else (spec_BitsWidth.l0 k a0 0)
set_option maxHeartbeats 8000000 in
set_option maxRecDepth 100000 in
theorem spec_BitsWidth.calls (k : Nat) (a0 : Int) (r : Int) (w : World) (h : spec_BitsWidth.f k a0 = some r) :
    Calls Try.prog 56 #[.int .i64 a0] w fun e w' => e = .returned (.int .i64 r) ∧ Drawn0 w w' := by
  have H : (if a0 < 0 then (some (-1)) else (spec_BitsWidth.l0 k a0 0)) = some r := h
  clear h
  by_cases c2 : a0 < 0
  · rw [if_pos c2] at H
    have c2b0 := decide_eq_true c2
    clear c2
    obtain rfl := Option.some.inj H
    go_enter Try.func56, Try.ntmps56
    go_wp2
    go_ret
    exact ⟨by first | rfl | (simp; done) | (simp [*]; done), by repeat (first | exact Drawn0.refl _ | apply Drawn0.step)⟩
  · rw [if_neg c2] at H
    have c2b0 := decide_eq_false c2
    clear c2
    have H' := Aside0.mk H
    clear H
    go_enter Try.func56, Try.ntmps56
    go_wp2
    go_loopg [0, 3] k (fun kq v0 v3 w' => ∃ (x0_1 : Int) (x3_1 : Int), v0 = .int .i64 x0_1 ∧ v3 = .int .i64 x3_1 ∧ Aside0 (spec_BitsWidth.l0 kq x0_1 x3_1 = some r) ∧ Aside0 (kq ≤ k) ∧ Drawn0 w w')
    case atStart => exact ⟨(a0), (0), sr, sr, H', ⟨Nat.le_refl _⟩, by repeat (first | exact Drawn0.refl _ | apply Drawn0.step)⟩
    case round =>
      clear H'
      try clear c2
      try clear c2b0
      obtain ⟨x0_1, x3_1, rfl, rfl, HA, HK1, ⟨m1, rfl⟩⟩ := hrel
      cases gk with
      | zero => exact absurd HA.out (by simp [spec_BitsWidth.l0])
      | succ k1 =>
        have H := HA.out
        clear HA
        simp only [spec_BitsWidth.l0] at H
        by_cases c3 : x0_1 > 0
        · rw [if_pos c3] at H
          have c3b0 : decide (0 < x0_1) = true := decide_eq_true c3
          clear c3
          have H' := Aside0.mk H
          clear H
          go_wp2
          go_roundg k1
          case measure => have := HK1.out; omega
          case rel => exact ⟨(wrap64 (Int.tdiv x0_1 2)), (wrap64 (x3_1 + 1)), sr, sr, H', ⟨by have := HK1.out; omega⟩, by repeat (first | exact Drawn0.refl _ | apply Drawn0.step)⟩
        · rw [if_neg c3] at H
          have c3b0 : decide (0 < x0_1) = false := decide_eq_false c3
          clear c3
          by_cases c4 : x3_1 > 62
          · rw [if_pos c4] at H
            have c4b0 : decide (62 < x3_1) = true := decide_eq_true c4
            clear c4
            obtain rfl := Option.some.inj H
            go_wp2
            go_ret
            exact ⟨by first | rfl | (simp; done) | (simp [*]; done), by repeat (first | exact Drawn0.refl _ | apply Drawn0.step)⟩
          · rw [if_neg c4] at H
            have c4b0 : decide (62 < x3_1) = false := decide_eq_false c4
            clear c4
            obtain rfl := Option.some.inj H
            go_wp2
            go_ret
            exact ⟨by first | rfl | (simp; done) | (simp [*]; done), by repeat (first | exact Drawn0.refl _ | apply Drawn0.step)⟩

/-! ### spec_PlacesPack: function 24 -/
def spec_PlacesPack.l0 : Nat → List Int → Int → Int → Option (List Int × Bool)
  | 0, _, _, _ => none
  | k + 1, x0, x1, x6 => if x6 < (x0.length : Int) then (if 0 ≤ x6 then ((spec_l1In.f (rd x0 x6) 0 (wrap64 (x1 - 1))).bind fun t437 => (if t437 = true then (spec_PlacesPack.l0 k x0 x1 (wrap64 (x6 + 1))) else (some ((([] : List Int)), false)))) else (none)) else ((spec_l1Max.f (wrap64 (x1 - 1)) 0).bind fun t441 => ((spec_BitsWidth.f k t441).bind fun t442 => ((spec_RunPack.f k x0 t442).bind fun bt443 => (if bt443.2 = true then ((some (([(t442) % 256] : List Int) : List Int)).bind fun y447 => (if y447.length + bt443.1.length < 140737488355328 then (some ((y447 ++ bt443.1), true)) else (none))) else (some ((([] : List Int)), false))))))
def spec_PlacesPack.f (k : Nat) (l0 : List Int) (a1 : Int) : Option (List Int × Bool) := (spec_l1In.f a1 0 2000).bind fun t432 => (if t432 = true then (spec_PlacesPack.l0 k l0 a1 0) else (some ((([] : List Int)), false)))
set_option maxHeartbeats 8000000 in
set_option maxRecDepth 100000 in
theorem spec_PlacesPack.calls (k : Nat) (A0 : Option Addr) (c0 : Nat) (l0 : List Int) (a1 : Int) (r1 : List Int) (r2 : Bool) (w : World) (hr0 : Kd.C (Kd.int .i64) w A0 l0.length l0) (hc0 : l0.length ≤ c0) (h : spec_PlacesPack.f k l0 a1 = some (r1, r2)) :
    Calls Try.prog 24 #[.slice A0 l0.length c0, .int .i64 a1] w fun e w' => ∃ v0_ : Value, e = .returned (.tuple #[v0_, .bool r2]) ∧ Kd.R (Kd.int .u8) 5 w' w.heap.size (fun _ => True) v0_ r1 ∧ Below w.heap.size w w' := by
  have HR0 := Aside0.mk hr0
  have HC0 := Aside0.mk hc0
  clear hr0 hc0
  have HB := Aside0.mk (Below.refl w.heap.size w)
  have H : ((spec_l1In.f a1 0 2000).bind fun t432 => (if t432 = true then (spec_PlacesPack.l0 k l0 a1 0) else (some ((([] : List Int)), false)))) = some (r1, r2) := h
  clear h
  replace H := bnd H
  obtain ⟨t432, A3, H⟩ := H
  by_cases c4 : t432 = true
  · subst c4
    replace H := ifp rfl H
    have H' := Aside0.mk H
    clear H
    go_enter Try.func24, Try.ntmps24
    go_wp2_with (first | ((with_reducible refine gate_callee (f := 48) rfl ?_); refine gl_ (some 11) Try.func48 #[.int .i64 a1, .int .i64 0, .int .i64 2000] rfl ?_; (with_reducible refine (spec_l1In.calls a1 0 2000 true _ A3.out).mono ?_); rintro e w' ⟨rfl, ⟨nd, rfl⟩⟩; refine ⟨_, rfl, ?_⟩))
    go_loopg [6] k (fun kq v6 w' => ∃ (x6_1 : Int), v6 = .int .i64 x6_1 ∧ Aside0 (spec_PlacesPack.l0 kq l0 a1 x6_1 = some (r1, r2)) ∧ Aside0 (kq ≤ k) ∧ Aside0 (Below w.heap.size w w'))
    case atStart => exact ⟨(0), sr, H', ⟨Nat.le_refl _⟩, ⟨below_later HB.out⟩⟩
    case round =>
      clear H'
      try clear c4
      obtain ⟨x6_1, rfl, HA, HK1, HB⟩ := hrel
      cases gk with
      | zero => exact absurd HA.out (by simp [spec_PlacesPack.l0])
      | succ k1 =>
        have H := HA.out
        clear HA
        simp only [spec_PlacesPack.l0] at H
        by_cases c5 : x6_1 < (l0.length : Int)
        · rw [if_pos c5] at H
          have c5b0 := decide_eq_true c5
          clear c5
          replace H := ifd H
          obtain ⟨c6b0, H⟩ := H
          replace H := bnd H
          obtain ⟨t437, A7, H⟩ := H
          by_cases c8 : t437 = true
          · subst c8
            replace H := ifp rfl H
            have H' := Aside0.mk H
            clear H
            have p436 : 0 ≤ (x6_1 : Int) := dcd
            have q436 : x6_1 < (l0.length : Int) := dcd
            obtain ⟨ad436, e436, hx436_0⟩ := Kd.at_int HR0.out x6_1 p436 q436
            cases e436
            replace hx436_0 := crd HB hx436_0
            replace p436 := eq_true p436
            replace q436 := eq_true q436
            go_wp2_with (first | ((with_reducible refine gate_callee (f := 48) rfl ?_); refine gl_ (some 26) Try.func48 #[.int .i64 (rd l0 x6_1), .int .i64 0, .int .i64 (wrap64 (a1 - 1))] rfl ?_; (with_reducible refine (spec_l1In.calls (rd l0 x6_1) 0 (wrap64 (a1 - 1)) true _ A7.out).mono ?_); rintro e w' ⟨rfl, ⟨nd, rfl⟩⟩; refine ⟨_, rfl, ?_⟩))
            go_roundg k1
            case measure => have := HK1.out; omega
            case rel => exact ⟨(wrap64 (x6_1 + 1)), sr, H', ⟨by have := HK1.out; omega⟩, ⟨below_later HB.out⟩⟩
          · replace c8 := Bool.eq_false_iff.mpr c8
            subst c8
            replace H := ifn Bool.false_ne_true H
            obtain ⟨y438, hy438⟩ : ∃ y_ : List Int, y_ = (([] : List Int)) := ⟨_, rfl⟩
            replace H : (some (y438, false)) = some (r1, r2) := by first | (rw [hy438]; with_reducible exact H) | (rw [hy438]; exact H) | exact H
            have Ny438 := Aside0.mk hy438
            clear hy438
            simp only [Option.some.injEq, Prod.mk.injEq] at H
            obtain ⟨rfl, rfl⟩ := H
            have p436 : 0 ≤ (x6_1 : Int) := dcd
            have q436 : x6_1 < (l0.length : Int) := dcd
            obtain ⟨ad436, e436, hx436_0⟩ := Kd.at_int HR0.out x6_1 p436 q436
            cases e436
            replace hx436_0 := crd HB hx436_0
            replace p436 := eq_true p436
            replace q436 := eq_true q436
            go_wp2_with (first | ((with_reducible refine gate_callee (f := 48) rfl ?_); refine gl_ (some 26) Try.func48 #[.int .i64 (rd l0 x6_1), .int .i64 0, .int .i64 (wrap64 (a1 - 1))] rfl ?_; (with_reducible refine (spec_l1In.calls (rd l0 x6_1) 0 (wrap64 (a1 - 1)) false _ A7.out).mono ?_); rintro e w' ⟨rfl, ⟨nd, rfl⟩⟩; refine ⟨_, rfl, ?_⟩) | ((with_reducible refine gate_dst (N := 28) rfl ?_); refine Kd.R_lit (Kd.int .u8) _ 5 ?hg (N := 28) ?hd (xs := ([] : List Int)) (inner := []) (ok := fun _ => True) (okp := fun _ => True) ?hr ?hp (fun _ hk => hk) trivial (Below.refl _ _) (Nat.le_refl _) (by simp) ?_; (case hd => rfl); (case hg => rfl); (case hr => first | (go_simp; done) | (go_simp; rfl)); (case hp => exact (Reps.none _ _)); intro v439 w9 ho10 hb hg_ hnew_; clear hg_ hnew_; (first | rw [← Ny438.out] at ho10 | (simp only [Int.reduceToNat] at ho10; rw [← Ny438.out] at ho10)); have HO440 := Aside0.mk (Kd.R_lower ho10 (below_size (below_later HB.out))); replace HB := bst HB hb; clear hb ho10))
            go_ret2
            exact ⟨_, by first | rfl | (simp [errW_none, errW_some] <;> rfl) | (simp [*, errW_none, errW_some] <;> rfl), by (with_reducible repeat (first | apply Kd.R_alloc | apply Kd.R_drewN | apply Kd.R_drew)); exact HO440.out, below_later HB.out⟩
        · rw [if_neg c5] at H
          have c5b0 := decide_eq_false c5
          clear c5
          replace H := bnd H
          obtain ⟨t441, A11, H⟩ := H
          replace H := bnd H
          obtain ⟨t442, A12, H⟩ := H
          replace H := Option.bind_eq_some_iff.mp H
          obtain ⟨⟨t443, t444⟩, A130, H⟩ := H
          replace H : (if t444 = true then ((some (([(t442) % 256] : List Int) : List Int)).bind fun y447 => (if y447.length + t443.length < 140737488355328 then (some ((y447 ++ t443), true)) else (none))) else (some ((([] : List Int)), false))) = some (r1, r2) := H
          have A13 := Aside0.mk A130
          clear A130
          by_cases c14 : t444 = true
          · subst c14
            replace H := ifp rfl H
            replace H := bsm H
            obtain ⟨y447, Ny447, H⟩ := H
            replace H := ifs H
            obtain ⟨c15, H⟩ := H
            have LMc15 := Aside0.mk c15
            clear c15
            obtain ⟨y450, hy450⟩ : ∃ y_ : List Int, y_ = (y447 ++ t443) := ⟨_, rfl⟩
            replace H : (some (y450, true)) = some (r1, r2) := by first | (rw [hy450]; with_reducible exact H) | (rw [hy450]; exact H) | exact H
            have Ny450 := Aside0.mk hy450
            clear hy450
            simp only [Option.some.injEq, Prod.mk.injEq] at H
            obtain ⟨rfl, rfl⟩ := H
            go_wp2_with (first | ((with_reducible refine gate_callee (f := 57) rfl ?_); refine gl_ (some 31) Try.func57 #[.int .i64 (wrap64 (a1 - 1)), .int .i64 0] rfl ?_; (with_reducible refine (spec_l1Max.calls (wrap64 (a1 - 1)) 0 t441 _ A11.out).mono ?_); rintro e w' ⟨rfl, ⟨nd, rfl⟩⟩; refine ⟨_, rfl, ?_⟩) | ((with_reducible refine gate_callee (f := 56) rfl ?_); refine gl_ (some 32) Try.func56 #[.int .i64 t441] rfl ?_; (with_reducible refine (spec_BitsWidth.calls k1 t441 t442 _ A12.out).mono ?_); rintro e w' ⟨rfl, ⟨nd, rfl⟩⟩; refine ⟨_, rfl, ?_⟩) | ((with_reducible refine gate_callee (f := 17) rfl ?_); refine gl_ (some 36) Try.func17 #[.slice A0 l0.length c0, .int .i64 t442] rfl ?_; (with_reducible refine (spec_RunPack.calls k1 _ _ l0 t442 t443 true _ ?side1 ?side2 A13.out).mono ?_); (case side1 => repeat (first | exact (Kd.C_below HR0.out (below_later HB.out)) | (with_reducible refine Kd.C_alloc ?_ _) | (with_reducible refine Kd.C_drewN ?_ _) | (with_reducible refine Kd.C_drew ?_))); (case side2 => exact HC0.out); rintro e w16 ⟨v445, rfl, ho0, hb⟩; refine ⟨_, rfl, ?_⟩; have HO446 := Aside0.mk (Kd.R_lower ho0 (below_size (below_later HB.out))); replace HB := bst HB hb; (try clear hb); (try clear hk); (try clear ho0)) | ((with_reducible refine gate_dst (N := 44) rfl ?_); refine Kd.R_lit (Kd.int .u8) _ 5 ?hg (N := 44) ?hd (xs := ([(t442) % 256] : List Int)) (inner := [.int .u8 ((t442) % 256)]) (ok := fun _ => True) (okp := fun _ => True) ?hr ?hp (fun _ hk => hk) trivial (Below.refl _ _) (Nat.le_refl _) (by simp) ?_; (case hd => rfl); (case hg => rfl); (case hr => first | (go_simp; done) | (go_simp; rfl)); (case hp => exact (Reps.one (show Kd.M (Kd.int .u8) _ _ _ ((t442) % 256) [.int .u8 ((t442) % 256)] from rfl) (Reps.none _ _))); intro v448 w17 ho18 hb hg_ hnew_; clear hg_ hnew_; (first | rw [← Ny447.out] at ho18 | (simp only [Int.reduceToNat] at ho18; rw [← Ny447.out] at ho18)); have HO449 := Aside0.mk (Kd.R_lower (Kd.R_new' ho18 (Kd.R_lt (R_later HO446.out))) (below_size (below_later HB.out))); replace HO446 := Aside0.mk (Kd.R_elder' (R_later HO446.out) (Kd.R_base ho18) hb); replace HB := bst HB hb; clear hb ho18; obtain ⟨Ao20, co20, eo20⟩ := Kd.R_slice HO446.out; subst eo20) | ((with_reducible refine gate_builtin (b := .append) (xs := #[.tmp 44, .tmp 45]) rfl ?_); at_builtin; refine Kd.R_append_rows (Kd.int .u8) (w0 := w) w.heap.size rfl (.tmp 44) (.tmp 45) 24 5 (.int .u8 0) 1 rfl Try.underlying24 info5 rfl (by decide) (by omega) v448 y447 t443 _ _ _ (fun k_ => some k_ ≠ (.slice Ao20 t443.length co20 : Value).ownBlock) (fun _ => False) rfl rfl ?aO ?aR (fun _ _ h => h) (fun _ h => h.elim) ?aF ?aB ?aS ?aL ?_; (case aR => repeat (first | exact (Kd.R_reads' HO446.out).2.2 | (with_reducible refine Kd.C_alloc ?_ _) | (with_reducible refine Kd.C_drewN ?_ _) | (with_reducible refine Kd.C_drew ?_))); (case aB => exact (below_later HB.out)); (case aF => exact (fun k_ hk => Kd.fresh' (Kd.R_lt (R_later HO446.out)) k_ hk)); (case aO => exact (by (with_reducible repeat (first | apply Kd.R_alloc | apply Kd.R_drewN | apply Kd.R_drew)); exact Kd.R_mono HO449.out (fun _ hk => hk.2))); (case aS => exact (below_size (below_later HB.out))); (case aL => have := LMc15.out; omega); intro v451 w19 ho hb hg hat; rw [← Ny450.out] at ho; have n0_ := Aside0.mk (Kd.R_after (ok := (fun _ => True)) (R_later HO446.out) hg hat); have n1_ := Aside0.mk (hb); have n2_ := Aside0.mk (ho); clear HO446; clear HB; clear HO449; have HO446 := n0_; have HB := n1_; have HO452 := n2_; clear n0_ n1_ n2_; clear ho hb hg hat))
            go_ret2
            exact ⟨_, by first | rfl | (simp [errW_none, errW_some] <;> rfl) | (simp [*, errW_none, errW_some] <;> rfl), by (with_reducible repeat (first | apply Kd.R_alloc | apply Kd.R_drewN | apply Kd.R_drew)); exact Kd.R_mono HO452.out (fun _ hk => trivial), below_later HB.out⟩
          · replace c14 := Bool.eq_false_iff.mpr c14
            subst c14
            replace H := ifn Bool.false_ne_true H
            obtain ⟨y453, hy453⟩ : ∃ y_ : List Int, y_ = (([] : List Int)) := ⟨_, rfl⟩
            replace H : (some (y453, false)) = some (r1, r2) := by first | (rw [hy453]; with_reducible exact H) | (rw [hy453]; exact H) | exact H
            have Ny453 := Aside0.mk hy453
            clear hy453
            simp only [Option.some.injEq, Prod.mk.injEq] at H
            obtain ⟨rfl, rfl⟩ := H
            go_wp2_with (first | ((with_reducible refine gate_callee (f := 57) rfl ?_); refine gl_ (some 31) Try.func57 #[.int .i64 (wrap64 (a1 - 1)), .int .i64 0] rfl ?_; (with_reducible refine (spec_l1Max.calls (wrap64 (a1 - 1)) 0 t441 _ A11.out).mono ?_); rintro e w' ⟨rfl, ⟨nd, rfl⟩⟩; refine ⟨_, rfl, ?_⟩) | ((with_reducible refine gate_callee (f := 56) rfl ?_); refine gl_ (some 32) Try.func56 #[.int .i64 t441] rfl ?_; (with_reducible refine (spec_BitsWidth.calls k1 t441 t442 _ A12.out).mono ?_); rintro e w' ⟨rfl, ⟨nd, rfl⟩⟩; refine ⟨_, rfl, ?_⟩) | ((with_reducible refine gate_callee (f := 17) rfl ?_); refine gl_ (some 36) Try.func17 #[.slice A0 l0.length c0, .int .i64 t442] rfl ?_; (with_reducible refine (spec_RunPack.calls k1 _ _ l0 t442 t443 false _ ?side1 ?side2 A13.out).mono ?_); (case side1 => repeat (first | exact (Kd.C_below HR0.out (below_later HB.out)) | (with_reducible refine Kd.C_alloc ?_ _) | (with_reducible refine Kd.C_drewN ?_ _) | (with_reducible refine Kd.C_drew ?_))); (case side2 => exact HC0.out); rintro e w21 ⟨v445, rfl, ho0, hb⟩; refine ⟨_, rfl, ?_⟩; have HO446 := Aside0.mk (Kd.R_lower ho0 (below_size (below_later HB.out))); replace HB := bst HB hb; (try clear hb); (try clear hk); (try clear ho0)) | ((with_reducible refine gate_dst (N := 41) rfl ?_); refine Kd.R_lit (Kd.int .u8) _ 5 ?hg (N := 41) ?hd (xs := ([] : List Int)) (inner := []) (ok := fun _ => True) (okp := fun _ => True) ?hr ?hp (fun _ hk => hk) trivial (Below.refl _ _) (Nat.le_refl _) (by simp) ?_; (case hd => rfl); (case hg => rfl); (case hr => first | (go_simp; done) | (go_simp; rfl)); (case hp => exact (Reps.none _ _)); intro v454 w22 ho23 hb hg_ hnew_; clear hg_ hnew_; (first | rw [← Ny453.out] at ho23 | (simp only [Int.reduceToNat] at ho23; rw [← Ny453.out] at ho23)); have HO455 := Aside0.mk (Kd.R_lower (Kd.R_new' ho23 (Kd.R_lt (R_later HO446.out))) (below_size (below_later HB.out))); replace HO446 := Aside0.mk (Kd.R_elder' (R_later HO446.out) (Kd.R_base ho23) hb); replace HB := bst HB hb; clear hb ho23))
            go_ret2
            exact ⟨_, by first | rfl | (simp [errW_none, errW_some] <;> rfl) | (simp [*, errW_none, errW_some] <;> rfl), by (with_reducible repeat (first | apply Kd.R_alloc | apply Kd.R_drewN | apply Kd.R_drew)); exact Kd.R_mono HO455.out (fun _ hk => trivial), below_later HB.out⟩
  · replace c4 := Bool.eq_false_iff.mpr c4
    subst c4
    replace H := ifn Bool.false_ne_true H
    obtain ⟨y433, hy433⟩ : ∃ y_ : List Int, y_ = (([] : List Int)) := ⟨_, rfl⟩
    replace H : (some (y433, false)) = some (r1, r2) := by first | (rw [hy433]; with_reducible exact H) | (rw [hy433]; exact H) | exact H
    have Ny433 := Aside0.mk hy433
    clear hy433
    simp only [Option.some.injEq, Prod.mk.injEq] at H
    obtain ⟨rfl, rfl⟩ := H
    go_enter Try.func24, Try.ntmps24
    go_wp2_with (first | ((with_reducible refine gate_callee (f := 48) rfl ?_); refine gl_ (some 11) Try.func48 #[.int .i64 a1, .int .i64 0, .int .i64 2000] rfl ?_; (with_reducible refine (spec_l1In.calls a1 0 2000 false _ A3.out).mono ?_); rintro e w' ⟨rfl, ⟨nd, rfl⟩⟩; refine ⟨_, rfl, ?_⟩) | ((with_reducible refine gate_dst (N := 13) rfl ?_); refine Kd.R_lit (Kd.int .u8) _ 5 ?hg (N := 13) ?hd (xs := ([] : List Int)) (inner := []) (ok := fun _ => True) (okp := fun _ => True) ?hr ?hp (fun _ hk => hk) trivial (Below.refl _ _) (Nat.le_refl _) (by simp) ?_; (case hd => rfl); (case hg => rfl); (case hr => first | (go_simp; done) | (go_simp; rfl)); (case hp => exact (Reps.none _ _)); intro v434 w24 ho25 hb hg_ hnew_; clear hg_ hnew_; (first | rw [← Ny433.out] at ho25 | (simp only [Int.reduceToNat] at ho25; rw [← Ny433.out] at ho25)); have HO435 := Aside0.mk (Kd.R_lower ho25 (below_size (below_later HB.out))); replace HB := bst HB hb; clear hb ho25))
    go_ret2
    exact ⟨_, by first | rfl | (simp [errW_none, errW_some] <;> rfl) | (simp [*, errW_none, errW_some] <;> rfl), by (with_reducible repeat (first | apply Kd.R_alloc | apply Kd.R_drewN | apply Kd.R_drew)); exact HO435.out, below_later HB.out⟩

end Go.Proofs.Ytkocikdceojnmaa.PFnExactEncPack
