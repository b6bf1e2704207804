/- The machine's side of FnExactStatsFrom, written by wip/tools/hyb.py of this repo: each Go function as a plain Lean function, and the proof that the call comes to just its answer. No condition. -/
import Derived.Test.YtgiljoeekpfpmaaPFnExactStatsFromx0
namespace Go.Proofs.Ytgiljoeekpfpmaa.PFnExactStatsFrom
open Go.RowKit Go.Proofs.YtgiljoeekpfpmaaW.PrintWords Go.Proofs.YtgiljoeekpfpmaaW.PrintLast Go.Proofs.YtgiljoeekpfpmaaW.PrintMore Go.Proofs.YtgiljoeekpfpmaaW.PrintMore2
attribute [local go_sem] max2_int min2_int max_two min_two max_three min_three max_four min_four   -- for this text's walks alone
set_option linter.unusedVariables false
set_option linter.unusedSimpArgs false

/-! ### laws_toLeaf: function 7 -/
def laws_toLeaf.f (a0_0 : Int) (a0_1 : Int) (a0_2 : Int) : Option (Int × Int × Int) := some (a0_0, a0_1, a0_2)
set_option maxHeartbeats 8000000 in
set_option maxRecDepth 100000 in
theorem laws_toLeaf.calls (a0_0 : Int) (a0_1 : Int) (a0_2 : Int) (r1 : Int) (r2 : Int) (r3 : Int) (w : World) (h : laws_toLeaf.f a0_0 a0_1 a0_2 = some (r1, r2, r3)) :
    Calls Try.prog 7 #[.agg #[.int .i64 a0_0, .int .i64 a0_1, .int .i64 a0_2]] w fun e w' => e = .returned (.agg #[.int .i64 r1, .int .i64 r2, .int .i64 r3]) ∧ Below w.heap.size w w' := by
  have hu23 := Try.underlying23
  have hu32 := Try.underlying32
  have HB := Aside0.mk (Below.refl w.heap.size w)
  have H : (some (a0_0, a0_1, a0_2)) = some (r1, r2, r3) := h
  clear h
  simp only [Option.some.injEq, Prod.mk.injEq] at H
  obtain ⟨rfl, rfl, rfl⟩ := H
  go_enter Try.func7, Try.ntmps7
  go_wp2_with (first | ((with_reducible refine gate_dst (N := 1) rfl ?_); refine bx_ 1 #[.int .i64 a0_0, .int .i64 a0_1, .int .i64 a0_2] 23 ?_; intro gb327 hg w2 hbox hb; have BK327 := Aside0.mk (hbox); have GW327 := gwe HB hg; have GE327 := GW327; replace HB := bst HB hb; clear hb hbox hg) | ((with_reducible refine gate_dst (N := 2) rfl ?_); refine bx_ 2 #[.int .i64 0, .int .i64 0, .int .i64 0] 32 ?_; intro gb328 hg w3 hbox hb; have BK328 := Aside0.mk (hbox); have GW328 := gwe HB hg; have GE328 := GW328; have NB327_328 := nbl BK327 hg; have NB328_327 := nbr (nbl BK327 hg); replace BK327 := bkb BK327 hb; replace HB := bst HB hb; clear hb hbox hg) | ((with_reducible refine gate_dst (N := 3) rfl ?_); refine bx_ 3 #[.int .i64 0, .int .i64 0, .int .i64 0] 32 ?_; intro gb329 hg w4 hbox hb; have BK329 := Aside0.mk (hbox); have GW329 := gwe HB hg; have GE329 := GW329; have NB327_329 := nbl BK327 hg; have NB329_327 := nbr (nbl BK327 hg); have NB328_329 := nbl BK328 hg; have NB329_328 := nbr (nbl BK328 hg); replace BK327 := bkb BK327 hb; replace BK328 := bkb BK328 hb; replace HB := bst HB hb; clear hb hbox hg; have hnb5 := NB327_328.out; have hnc5 := NB328_327.out; have hnb6 := NB327_329.out; have hnc6 := NB329_327.out; obtain ⟨hcz7_0, hcz7_1, hcz7_2, hfz7_0, hfz7_1, hfz7_2⟩ := cl3 BK327; have hnb8 := NB329_328.out; have hnc8 := NB328_329.out; obtain ⟨hcz9_0, hcz9_1, hcz9_2, hfz9_0, hfz9_1, hfz9_2⟩ := cl3 BK329; obtain ⟨hcz10_0, hcz10_1, hcz10_2, hfz10_0, hfz10_1, hfz10_2⟩ := cl3 BK328))
  refine bodyPost_ret (results_cell_row rfl _ _ gb328 32 #[.int .i64 a0_0, .int .i64 a0_1, .int .i64 a0_2] (0, 0) _ rfl (by (with_reducible repeat (first | refine blk_drewN ?_ _ | refine blk_drew ?_ | refine blk_alloc ?_ _)); refine blk_put (cs := #[.int .i64 a0_0, .int .i64 a0_1, .int .i64 0]) ?_ 2 _ rfl; (with_reducible repeat (first | refine blk_drewN ?_ _ | refine blk_drew ?_ | refine blk_alloc ?_ _)); refine blk_put (cs := #[.int .i64 a0_0, .int .i64 0, .int .i64 0]) ?_ 1 _ rfl; (with_reducible repeat (first | refine blk_drewN ?_ _ | refine blk_drew ?_ | refine blk_alloc ?_ _)); refine blk_put (cs := #[.int .i64 0, .int .i64 0, .int .i64 0]) ?_ 0 _ rfl; (with_reducible repeat (first | refine blk_drewN ?_ _ | refine blk_drew ?_ | refine blk_alloc ?_ _)); refine blk_far ?_ NB328_329.out _; (with_reducible repeat (first | refine blk_drewN ?_ _ | refine blk_drew ?_ | refine blk_alloc ?_ _)); refine blk_far ?_ NB328_329.out _; (with_reducible repeat (first | refine blk_drewN ?_ _ | refine blk_drew ?_ | refine blk_alloc ?_ _)); refine blk_far ?_ NB328_329.out _; (with_reducible repeat (first | refine blk_drewN ?_ _ | refine blk_drew ?_ | refine blk_alloc ?_ _)); exact BK328.out) Try.underlying32 rfl (by kernel_rfl)) rfl ?_
  exact fin_ (below_later HB.out)

/-! ### laws_toNode: function 26 -/
def laws_toNode.f (a0_0 : Int) (a0_1 : Int) (a0_2 : Int) (a0_3 : ByteArray) (a0_4 : Int) : Option (Int × Int × Int × ByteArray × Int) := some (a0_0, a0_1, a0_2, a0_3, a0_4)
set_option maxHeartbeats 8000000 in
set_option maxRecDepth 100000 in
theorem laws_toNode.calls (a0_0 : Int) (a0_1 : Int) (a0_2 : Int) (a0_3 : ByteArray) (a0_4 : Int) (r1 : Int) (r2 : Int) (r3 : Int) (r4 : ByteArray) (r5 : Int) (w : World) (h : laws_toNode.f a0_0 a0_1 a0_2 a0_3 a0_4 = some (r1, r2, r3, r4, r5)) :
    Calls Try.prog 26 #[.agg #[.int .i64 a0_0, .int .i64 a0_1, .int .i64 a0_2, .string a0_3, .int .i64 a0_4]] w fun e w' => e = .returned (.agg #[.int .i64 r1, .int .i64 r2, .int .i64 r3, .string r4, .int .i64 r5]) ∧ Below w.heap.size w w' := by
  have hu53 := Try.underlying53
  have hu57 := Try.underlying57
  have HB := Aside0.mk (Below.refl w.heap.size w)
  have H : (some (a0_0, a0_1, a0_2, a0_3, a0_4)) = some (r1, r2, r3, r4, r5) := h
  clear h
  simp only [Option.some.injEq, Prod.mk.injEq] at H
  obtain ⟨rfl, rfl, rfl, rfl, rfl⟩ := H
  go_enter Try.func26, Try.ntmps26
  go_wp2_with (first | ((with_reducible refine gate_dst (N := 1) rfl ?_); refine bx_ 1 #[.int .i64 a0_0, .int .i64 a0_1, .int .i64 a0_2, .string a0_3, .int .i64 a0_4] 53 ?_; intro gb330 hg w2 hbox hb; have BK330 := Aside0.mk (hbox); have GW330 := gwe HB hg; have GE330 := GW330; replace HB := bst HB hb; clear hb hbox hg) | ((with_reducible refine gate_dst (N := 2) rfl ?_); refine bx_ 2 #[.int .i64 0, .int .i64 0, .int .i64 0, .string (⟨#[]⟩ : ByteArray), .int .i64 0] 57 ?_; intro gb331 hg w3 hbox hb; have BK331 := Aside0.mk (hbox); have GW331 := gwe HB hg; have GE331 := GW331; have NB330_331 := nbl BK330 hg; have NB331_330 := nbr (nbl BK330 hg); replace BK330 := bkb BK330 hb; replace HB := bst HB hb; clear hb hbox hg) | ((with_reducible refine gate_dst (N := 3) rfl ?_); refine bx_ 3 #[.int .i64 0, .int .i64 0, .int .i64 0, .string (⟨#[]⟩ : ByteArray), .int .i64 0] 57 ?_; intro gb332 hg w4 hbox hb; have BK332 := Aside0.mk (hbox); have GW332 := gwe HB hg; have GE332 := GW332; have NB330_332 := nbl BK330 hg; have NB332_330 := nbr (nbl BK330 hg); have NB331_332 := nbl BK331 hg; have NB332_331 := nbr (nbl BK331 hg); replace BK330 := bkb BK330 hb; replace BK331 := bkb BK331 hb; replace HB := bst HB hb; clear hb hbox hg; have hnb5 := NB330_331.out; have hnc5 := NB331_330.out; have hnb6 := NB330_332.out; have hnc6 := NB332_330.out; obtain ⟨hcz7_0, hcz7_1, hcz7_2, hcz7_3, hcz7_4, hfz7_0, hfz7_1, hfz7_2, hfz7_3, hfz7_4⟩ := cl5 BK330; have hnb8 := NB332_331.out; have hnc8 := NB331_332.out; obtain ⟨hcz9_0, hcz9_1, hcz9_2, hcz9_3, hcz9_4, hfz9_0, hfz9_1, hfz9_2, hfz9_3, hfz9_4⟩ := cl5 BK332; obtain ⟨hcz10_0, hcz10_1, hcz10_2, hcz10_3, hcz10_4, hfz10_0, hfz10_1, hfz10_2, hfz10_3, hfz10_4⟩ := cl5 BK331))
  refine bodyPost_ret (results_cell_row rfl _ _ gb331 57 #[.int .i64 a0_0, .int .i64 a0_1, .int .i64 a0_2, .string a0_3, .int .i64 a0_4] (0, 0) _ rfl (by (with_reducible repeat (first | refine blk_drewN ?_ _ | refine blk_drew ?_ | refine blk_alloc ?_ _)); refine blk_put (cs := #[.int .i64 a0_0, .int .i64 a0_1, .int .i64 a0_2, .string a0_3, .int .i64 0]) ?_ 4 _ rfl; (with_reducible repeat (first | refine blk_drewN ?_ _ | refine blk_drew ?_ | refine blk_alloc ?_ _)); refine blk_put (cs := #[.int .i64 a0_0, .int .i64 a0_1, .int .i64 a0_2, .string (⟨#[]⟩ : ByteArray), .int .i64 0]) ?_ 3 _ rfl; (with_reducible repeat (first | refine blk_drewN ?_ _ | refine blk_drew ?_ | refine blk_alloc ?_ _)); refine blk_put (cs := #[.int .i64 a0_0, .int .i64 a0_1, .int .i64 0, .string (⟨#[]⟩ : ByteArray), .int .i64 0]) ?_ 2 _ rfl; (with_reducible repeat (first | refine blk_drewN ?_ _ | refine blk_drew ?_ | refine blk_alloc ?_ _)); refine blk_put (cs := #[.int .i64 a0_0, .int .i64 0, .int .i64 0, .string (⟨#[]⟩ : ByteArray), .int .i64 0]) ?_ 1 _ rfl; (with_reducible repeat (first | refine blk_drewN ?_ _ | refine blk_drew ?_ | refine blk_alloc ?_ _)); refine blk_put (cs := #[.int .i64 0, .int .i64 0, .int .i64 0, .string (⟨#[]⟩ : ByteArray), .int .i64 0]) ?_ 0 _ rfl; (with_reducible repeat (first | refine blk_drewN ?_ _ | refine blk_drew ?_ | refine blk_alloc ?_ _)); refine blk_far ?_ NB331_332.out _; (with_reducible repeat (first | refine blk_drewN ?_ _ | refine blk_drew ?_ | refine blk_alloc ?_ _)); refine blk_far ?_ NB331_332.out _; (with_reducible repeat (first | refine blk_drewN ?_ _ | refine blk_drew ?_ | refine blk_alloc ?_ _)); refine blk_far ?_ NB331_332.out _; (with_reducible repeat (first | refine blk_drewN ?_ _ | refine blk_drew ?_ | refine blk_alloc ?_ _)); refine blk_far ?_ NB331_332.out _; (with_reducible repeat (first | refine blk_drewN ?_ _ | refine blk_drew ?_ | refine blk_alloc ?_ _)); refine blk_far ?_ NB331_332.out _; (with_reducible repeat (first | refine blk_drewN ?_ _ | refine blk_drew ?_ | refine blk_alloc ?_ _)); exact BK331.out) Try.underlying57 rfl (by kernel_rfl)) rfl ?_
  exact fin_ (below_later HB.out)

/-! ### laws_toNodeS: function 8 -/
def laws_toNodeS.l0 : Nat → List (S53) → List (S57) → Int → Option ((List (S57)))
  | 0, _, _, _ => none
  | k + 1, x0, x3, x4 => if x4 < (x0.length : Int) then (if 0 ≤ x4 then ((laws_toNode.f ((rd_T53 x0 x4).f0) ((rd_T53 x0 x4).f1) ((rd_T53 x0 x4).f2) ((rd_T53 x0 x4).f3) ((rd_T53 x0 x4).f4)).bind fun bt337 => (if x4 < (x3.length : Int) then (laws_toNodeS.l0 k x0 (x3.set (x4 : Int).toNat (⟨bt337.1, bt337.2.1, bt337.2.2.1, bt337.2.2.2.1, bt337.2.2.2.2⟩ : S57)) (wrap64 (x4 + 1))) else (none))) else (none)) else (some x3)
def laws_toNodeS.f (k : Nat) (l0 : List (S53)) : Option ((List (S57))) := if 0 ≤ (l0.length : Int) then (if ((l0.length : Int) : Int).toNat ≤ 5864062014805 then (laws_toNodeS.l0 k l0 (List.replicate ((l0.length : Int) : Int).toNat z57) 0) else (none)) else (none)
set_option maxHeartbeats 8000000 in
set_option maxRecDepth 100000 in
theorem laws_toNodeS.calls (k : Nat) (A0 : Option Addr) (c0 : Nat) (l0 : List (S53)) (r : List (S57)) (w : World) (hr0 : Kd.C k53 w A0 l0.length l0) (hc0 : l0.length ≤ c0) (h : laws_toNodeS.f k l0 = some r) :
    Calls Try.prog 8 #[.slice A0 l0.length c0] w fun e w' => ∃ v0_ : Value, e = .returned (v0_) ∧ Kd.R k57 57 w' w.heap.size (fun _ => True) v0_ r ∧ Below w.heap.size w w' := by
  have hu53 := Try.underlying53
  have hu57 := Try.underlying57
  have HR0 := Aside0.mk hr0
  have HC0 := Aside0.mk hc0
  clear hr0 hc0
  have HB := Aside0.mk (Below.refl w.heap.size w)
  have H : (if 0 ≤ (l0.length : Int) then (if ((l0.length : Int) : Int).toNat ≤ 5864062014805 then (laws_toNodeS.l0 k l0 (List.replicate ((l0.length : Int) : Int).toNat z57) 0) else (none)) else (none)) = some r := h
  clear h
  replace H := ifs H
  obtain ⟨c2, H⟩ := H
  have c2b0 := eq_true c2
  have c2b1 := decide_eq_true c2
  clear c2
  replace H := ifs H
  obtain ⟨c3, H⟩ := H
  have c3b0 := eq_true c3
  have c3b1 := decide_eq_true c3
  clear c3
  obtain ⟨y333, hy333⟩ : ∃ y_ : List (S57), y_ = (List.replicate ((l0.length : Int) : Int).toNat z57) := ⟨_, rfl⟩
  replace H : (laws_toNodeS.l0 k l0 y333 0) = some r := by first | (rw [hy333]; with_reducible exact H) | (rw [hy333]; exact H) | exact H
  have Ny333 := Aside0.mk hy333
  clear hy333
  have H' := Aside0.mk H
  clear H
  go_enter Try.func8, Try.ntmps8
  go_wp2_with (first | ((with_reducible refine gate_dst (N := 7) rfl ?_); refine Kd.R_make k57 _ 57 rfl (N := 7) rfl 34 _ _ rfl (l0.length : Int) rfl rfl Try.underlying34 (.agg #[(.int .i64 0), (.int .i64 0), (.int .i64 0), (.string ⟨#[]⟩), (.int .i64 0)]) 48 info57 rfl (by decide) (by omega) z57 (ok := fun _ => True) (okp := fun _ => True) (k57_mkM _ _ _ z57 ) (fun _ hk => hk) trivial (dcd) (Nat.le_trans (Nat.mul_le_mul_right _ (dcd : (l0.length : Int).toNat ≤ 5864062014805)) (by omega)) (Below.refl _ _) (Nat.le_refl _) ?_; intro v334 w4 ho5 hb hg_ hnew_; clear hg_ hnew_; (first | rw [← Ny333.out] at ho5 | (simp only [Int.reduceToNat] at ho5; rw [← Ny333.out] at ho5)); have HO335 := Aside0.mk (Kd.R_lower ho5 (below_size (below_later HB.out))); replace HB := bst HB hb; clear hb ho5))
  go_loopg [4] k (fun kq v4 w' => ∃ (x3_1 : List (S57)) (x4_1 : Int), v4 = .int .i64 x4_1 ∧ Aside0 (laws_toNodeS.l0 kq l0 x3_1 x4_1 = some r) ∧ Aside0 (kq ≤ k) ∧ Aside0 (Kd.R k57 57 w' w.heap.size (fun _ => True) v334 x3_1) ∧ Aside0 (Below w.heap.size w w'))
  case atStart => exact ⟨(y333), (0), sr, H', ⟨Nat.le_refl _⟩, ⟨R_later HO335.out⟩, ⟨below_later HB.out⟩⟩
  case round =>
    clear H'
    try clear c2
    try clear c2b0
    try clear c2b1
    try clear c3
    try clear c3b0
    try clear c3b1
    obtain ⟨x3_1, x4_1, rfl, HA, HK1, HO_3, HB⟩ := hrel
    cases gk with
    | zero => exact absurd HA.out (by simp [laws_toNodeS.l0])
    | succ k1 =>
      have H := HA.out
      clear HA
      simp only [laws_toNodeS.l0] at H
      by_cases c6 : x4_1 < (l0.length : Int)
      · rw [if_pos c6] at H
        have c6b0 := decide_eq_true c6
        clear c6
        replace H := ifd H
        obtain ⟨c7b0, H⟩ := H
        replace H := Option.bind_eq_some_iff.mp H
        obtain ⟨⟨t337, t338, t339, t340, t341⟩, A80, H⟩ := H
        replace H : (if x4_1 < (x3_1.length : Int) then (laws_toNodeS.l0 k1 l0 (x3_1.set (x4_1 : Int).toNat (⟨t337, t338, t339, t340, t341⟩ : S57)) (wrap64 (x4_1 + 1))) else (none)) = some r := H
        have A8 := Aside0.mk A80
        clear A80
        replace H := ifd H
        obtain ⟨c9b0, H⟩ := H
        obtain ⟨y342, hy342⟩ : ∃ y_ : List (S57), y_ = (x3_1.set (x4_1 : Int).toNat (⟨t337, t338, t339, t340, t341⟩ : S57)) := ⟨_, rfl⟩
        replace H : (laws_toNodeS.l0 k1 l0 y342 (wrap64 (x4_1 + 1))) = some r := by first | (rw [hy342]; with_reducible exact H) | (rw [hy342]; exact H) | exact H
        have Ny342 := Aside0.mk hy342
        clear hy342
        have H' := Aside0.mk H
        clear H
        have p336 : 0 ≤ (x4_1 : Int) := dcd
        have q336 : x4_1 < (l0.length : Int) := dcd
        obtain ⟨ad336, e336, hx336_0, hx336_1, hx336_2, hx336_3, hx336_4⟩ := at_T53 HR0.out x4_1 p336 q336
        cases e336
        replace hx336_0 := crd HB hx336_0
        replace hx336_1 := crd HB hx336_1
        replace hx336_2 := crd HB hx336_2
        replace hx336_3 := crd HB hx336_3
        replace hx336_4 := crd HB hx336_4
        replace p336 := eq_true p336
        replace q336 := eq_true q336
        go_wp2_with (first | ((with_reducible refine gate_callee (f := 26) rfl ?_); refine gl_ (some 20) Try.func26 #[.agg #[.int .i64 ((rd_T53 l0 x4_1).f0), .int .i64 ((rd_T53 l0 x4_1).f1), .int .i64 ((rd_T53 l0 x4_1).f2), .string ((rd_T53 l0 x4_1).f3), .int .i64 ((rd_T53 l0 x4_1).f4)]] rfl ?_; (with_reducible refine (laws_toNode.calls ((rd_T53 l0 x4_1).f0) ((rd_T53 l0 x4_1).f1) ((rd_T53 l0 x4_1).f2) ((rd_T53 l0 x4_1).f3) ((rd_T53 l0 x4_1).f4) t337 t338 t339 t340 t341 _ A8.out).mono ?_); rintro e w11 ⟨rfl, hb⟩; refine ⟨_, rfl, ?_⟩; replace HO_3 := Aside0.mk (Kd.R_below (R_later HO_3.out) hb); replace HB := bst HB hb; (try clear hb); (try clear hk); have p10 : 0 ≤ (x4_1 : Int) := dcd; have q10 : (x4_1 : Int) < ((x3_1.length : Int) : Int) := dcd; obtain ⟨go10, co10, eo10, gb10, gl10, cl10, HG10⟩ := Kd.R_form HO_3.out (by omega); (first | cases eo10 | (injection eo10 with ea_ en_ ec_; (first | subst ea_ | (injection ea_ with ea_; subst ea_)); subst ec_; clear en_)); have GB10 := Aside0.mk gb10; have GG10 := Aside0.mk HG10; clear gb10 gl10 HG10; obtain ⟨ce10, hcl10, hM10, hcc10, hfr10⟩ := Kd.R_elem HO_3.out z57 (x4_1 : Int) p10 q10; obtain rfl := k57_openM hM10; have hx10_0 : w11.cell? ⟨go10, (x4_1 : Int).toNat * 5, none⟩ = some (.int .i64 ((rd_T57 x3_1 x4_1).f0)) := hcc10 0 _ rfl; have hx10_1 : w11.cell? ⟨go10, (x4_1 : Int).toNat * 5 + 1, none⟩ = some (.int .i64 ((rd_T57 x3_1 x4_1).f1)) := hcc10 1 _ rfl; have hx10_2 : w11.cell? ⟨go10, (x4_1 : Int).toNat * 5 + 2, none⟩ = some (.int .i64 ((rd_T57 x3_1 x4_1).f2)) := hcc10 2 _ rfl; have hx10_3 : w11.cell? ⟨go10, (x4_1 : Int).toNat * 5 + 3, none⟩ = some (.string ((rd_T57 x3_1 x4_1).f3)) := hcc10 3 _ rfl; have hx10_4 : w11.cell? ⟨go10, (x4_1 : Int).toNat * 5 + 4, none⟩ = some (.int .i64 ((rd_T57 x3_1 x4_1).f4)) := hcc10 4 _ rfl; have hf10_0 : w11.frozen? ⟨go10, (x4_1 : Int).toNat * 5, none⟩ = false := hfr10 0; have hf10_1 : w11.frozen? ⟨go10, (x4_1 : Int).toNat * 5 + 1, none⟩ = false := hfr10 1; have hf10_2 : w11.frozen? ⟨go10, (x4_1 : Int).toNat * 5 + 2, none⟩ = false := hfr10 2; have hf10_3 : w11.frozen? ⟨go10, (x4_1 : Int).toNat * 5 + 3, none⟩ = false := hfr10 3; have hf10_4 : w11.frozen? ⟨go10, (x4_1 : Int).toNat * 5 + 4, none⟩ = false := hfr10 4; clear hcl10 hcc10 hfr10 hM10; replace p10 := eq_true p10; replace q10 := eq_true q10; have HX12 := Aside0.mk (show Kd.R k57 57 w11 w.heap.size (fun _ => True) (.slice (some ⟨go10, 0, none⟩) x3_1.length co10) x3_1 from (R_later HO_3.out)); obtain ⟨ce12, hcl12, hM12, hcc12, hfr12⟩ := Kd.R_elem HX12.out z57 (x4_1 : Int) (dcd) (by have h_ : (x4_1 : Int) < ((x3_1.length : Int) : Int) := dcd; first | exact h_ | (have e_ := (Kd.R_reads' HO_3.out).1; omega) | simpa using h_); obtain rfl := k57_openM hM12; have HP12 := Kd.R_seg HX12.out (x4_1 : Int) (dcd) (by have h_ : (x4_1 : Int) < ((x3_1.length : Int) : Int) := dcd; first | exact h_ | (have e_ := (Kd.R_reads' HO_3.out).1; omega) | simpa using h_) (seg := [.int .i64 t337, .int .i64 t338, .int .i64 t339, .string t340, .int .i64 t341]) (j := 0) hcl12 hcc12 (show 5 ≤ 5 from by decide) (x' := (⟨t337, t338, t339, t340, t341⟩ : S57)) (k57_mkM _ _ _ (⟨t337, t338, t339, t340, t341⟩ : S57) ) (fun _ hk => hk); have hx12_0 := hcc12 0 _ rfl; (try simp only [show (k57).sz = 5 from rfl, Nat.mul_one, Nat.add_zero] at hx12_0); have hf12_0 := hfr12 0; (try simp only [show (k57).sz = 5 from rfl, Nat.mul_one, Nat.add_zero] at hf12_0); have hx12_1 := hcc12 1 _ rfl; (try simp only [show (k57).sz = 5 from rfl, Nat.mul_one, Nat.add_zero] at hx12_1); have hf12_1 := hfr12 1; (try simp only [show (k57).sz = 5 from rfl, Nat.mul_one, Nat.add_zero] at hf12_1); have hx12_2 := hcc12 2 _ rfl; (try simp only [show (k57).sz = 5 from rfl, Nat.mul_one, Nat.add_zero] at hx12_2); have hf12_2 := hfr12 2; (try simp only [show (k57).sz = 5 from rfl, Nat.mul_one, Nat.add_zero] at hf12_2); have hx12_3 := hcc12 3 _ rfl; (try simp only [show (k57).sz = 5 from rfl, Nat.mul_one, Nat.add_zero] at hx12_3); have hf12_3 := hfr12 3; (try simp only [show (k57).sz = 5 from rfl, Nat.mul_one, Nat.add_zero] at hf12_3); have hx12_4 := hcc12 4 _ rfl; (try simp only [show (k57).sz = 5 from rfl, Nat.mul_one, Nat.add_zero] at hx12_4); have hf12_4 := hfr12 4; (try simp only [show (k57).sz = 5 from rfl, Nat.mul_one, Nat.add_zero] at hf12_4); clear hcl12 hcc12 hfr12 hM12) | ((with_reducible refine gate_store (t := 57) (p := 21) rfl ?_); refine st_ 57 21 (((((w11.setCell ⟨go10, (x4_1 : Int).toNat * 5, none⟩ (.int .i64 t337)).setCell ⟨go10, (x4_1 : Int).toNat * 5 + 1, none⟩ (.int .i64 t338)).setCell ⟨go10, (x4_1 : Int).toNat * 5 + 2, none⟩ (.int .i64 t339)).setCell ⟨go10, (x4_1 : Int).toNat * 5 + 3, none⟩ (.string t340)).setCell ⟨go10, (x4_1 : Int).toNat * 5 + 4, none⟩ (.int .i64 t341)) ?_; intro w13 hw; have hg : w11.grownBy w13 (some go10) := (by rw [hw]; exact HP12.2); have hp_ : Kd.R k57 57 w13 w.heap.size (fun _ => True) (.slice (some ⟨go10, 0, none⟩) x3_1.length co10) y342 := (by rw [hw, Ny342.out]; exact HP12.1); clear HP12; replace HO_3 := Aside0.mk (hp_); replace HB := Aside0.mk ((by rw [hw]; exact below_set (below_set (below_set (below_set (below_set (HB.out) GB10.out) GB10.out) GB10.out) GB10.out) GB10.out : Below w.heap.size w w13)); clear hg hw hp_))
        go_roundg k1
        case measure => have := HK1.out; omega
        case rel => exact ⟨(y342), (wrap64 (x4_1 + 1)), sr, H', ⟨by have := HK1.out; omega⟩, ⟨R_later HO_3.out⟩, ⟨below_later HB.out⟩⟩
      · rw [if_neg c6] at H
        have c6b0 := decide_eq_false c6
        clear c6
        obtain rfl := Option.some.inj H
        go_wp2
        go_ret
        exact ⟨_, by first | rfl | (simp [errW_none, errW_some] <;> rfl) | (simp [*, errW_none, errW_some] <;> rfl), by (with_reducible repeat (first | apply Kd.R_alloc | apply Kd.R_drewN | apply Kd.R_drew)); exact HO_3.out, below_later HB.out⟩
/-! ### impl_within: function 48 -/
def impl_within.f (a0 : Int) (a1 : Int) (a2 : Int) : Option (Bool) := if a0 ≥ a1 then (some (decide (a0 ≤ a2))) else (some false)
set_option maxHeartbeats 8000000 in
set_option maxRecDepth 100000 in
theorem impl_within.calls (a0 : Int) (a1 : Int) (a2 : Int) (r : Bool) (w : World) (h : impl_within.f a0 a1 a2 = some r) :
    Calls Try.prog 48 #[.int .i64 a0, .int .i64 a1, .int .i64 a2] w fun e w' => e = .returned (.bool r) ∧ Drawn0 w w' := by
  have H : (if a0 ≥ a1 then (some (decide (a0 ≤ a2))) else (some false)) = some r := h
  clear h
  by_cases c4 : a0 ≥ a1
  · rw [if_pos c4] at H
    have c4b0 : decide (a1 ≤ a0) = true := decide_eq_true c4
    clear c4
    obtain rfl := Option.some.inj H
    go_enter Try.func48, Try.ntmps48
    go_wp2
    go_ret
    exact ⟨by first | rfl | (simp; done) | (simp [*]; done), by repeat (first | exact Drawn0.refl _ | apply Drawn0.step)⟩
  · rw [if_neg c4] at H
    have c4b0 : decide (a1 ≤ a0) = false := decide_eq_false c4
    clear c4
    obtain rfl := Option.some.inj H
    go_enter Try.func48, Try.ntmps48
    go_wp2
    go_ret
    exact ⟨by first | rfl | (simp; done) | (simp [*]; done), by repeat (first | exact Drawn0.refl _ | apply Drawn0.step)⟩

/-! ### impl_isInt32: function 67 -/
def impl_isInt32.f (a0 : Int) : Option (Bool) := (impl_within.f a0 (-2147483648) 2147483647).bind fun t343 => (some t343)
set_option maxHeartbeats 8000000 in
set_option maxRecDepth 100000 in
theorem impl_isInt32.calls (a0 : Int) (r : Bool) (w : World) (h : impl_isInt32.f a0 = some r) :
    Calls Try.prog 67 #[.int .i64 a0] w fun e w' => e = .returned (.bool r) ∧ Drawn0 w w' := by
  have H : ((impl_within.f a0 (-2147483648) 2147483647).bind fun t343 => (some t343)) = some r := h
  clear h
  replace H := bnd H
  obtain ⟨t343, A2, H⟩ := H
  obtain rfl := Option.some.inj H
  go_enter Try.func67, Try.ntmps67
  go_wp2_with (first | ((with_reducible refine gate_callee (f := 48) rfl ?_); refine gl_ (some 4) Try.func48 #[.int .i64 a0, .int .i64 (-2147483648), .int .i64 2147483647] rfl ?_; (with_reducible refine (impl_within.calls a0 (-2147483648) 2147483647 t343 _ A2.out).mono ?_); rintro e w' ⟨rfl, ⟨nd, rfl⟩⟩; refine ⟨_, rfl, ?_⟩))
  go_ret
  exact ⟨by first | rfl | (simp; done) | (simp [*]; done), by repeat (first | exact Drawn0.refl _ | apply Drawn0.step)⟩

/-! ### impl_isType: function 91 -/
def impl_isType.j0 : Nat → Bool → Int → Bool → Option (Bool)
  | 0, _, _, _ => none
  | k + 1, x1, x5, x6 => if x6 = true then (some (!x1)) else (if x5 = 5 then (some true) else (if x5 = 6 then (some true) else (if x5 = 8 then (some true) else (if x5 = 9 then (some true) else (if x5 = 12 then (some true) else (some false))))))
def impl_isType.f (k : Nat) (a0 : Int) (a1 : Bool) : Option (Bool) := if a0 = 1 then (impl_isType.j0 k a1 a0 (a0 == 1)) else (impl_isType.j0 k a1 a0 (a0 == 2))
set_option maxHeartbeats 8000000 in
set_option maxRecDepth 100000 in
theorem impl_isType.calls (k : Nat) (a0 : Int) (a1 : Bool) (r : Bool) (w : World) (h : impl_isType.f k a0 a1 = some r) :
    Calls Try.prog 91 #[.int .i64 a0, .bool a1] w fun e w' => e = .returned (.bool r) ∧ Drawn0 w w' := by
  have H : (if a0 = 1 then (impl_isType.j0 k a1 a0 (a0 == 1)) else (impl_isType.j0 k a1 a0 (a0 == 2))) = some r := h
  clear h
  have HC3 := Aside0.mk H
  clear H
  go_enter Try.func91, Try.ntmps91
  go_upto_if 6 with (fail)
  go_cut [6] (fun v6 wc => ∃ (kq : Nat) (x6_2 : Bool), v6 = .bool x6_2 ∧ Aside0 (impl_isType.j0 kq a1 a0 x6_2 = some r) ∧ Aside0 (kq ≤ k) ∧ Drawn0 w wc)
  case first =>
    have H := HC3.out
    clear HC3
    by_cases c4 : a0 = 1
    · rw [if_pos c4] at H
      have c4b0 : (a0 == 1) = true := beq_iff_eq.mpr c4
      have c4b1 : (a0 != 1) = false := bne_eq_false_iff_eq.mpr c4
      clear c4
      (first | rw [c4b0] | rw [c4b1] | (simp only [i64_w, i32_w]; rw [c4b0]) | skip)
      have H' := Aside0.mk H
      clear H
      go_wp2
      go_meet
      case rel => exact ⟨_, ((a0 == 1)), sr, H', ⟨by first | omega | exact Nat.le_refl _⟩, by repeat (first | exact Drawn0.refl _ | apply Drawn0.step)⟩
    · rw [if_neg c4] at H
      have c4b0 : (a0 == 1) = false := beq_eq_false_iff_ne.mpr c4
      have c4b1 : (a0 != 1) = true := bne_iff_ne.mpr c4
      (first | rw [c4b0] | rw [c4b1] | (simp only [i64_w, i32_w]; rw [c4b0]) | skip)
      have H' := Aside0.mk H
      clear H
      go_wp2
      go_meet
      case rel => exact ⟨_, ((a0 == 2)), sr, H', ⟨by first | omega | exact Nat.le_refl _⟩, by repeat (first | exact Drawn0.refl _ | apply Drawn0.step)⟩
  case rest =>
    clear HC3
    obtain ⟨kq, x6_2, rfl, HA, HJ2, ⟨mc2, rfl⟩⟩ := hcut
    cases kq with
    | zero => exact absurd HA.out (by simp [impl_isType.j0])
    | succ kj2 =>
      have H := HA.out
      clear HA
      simp only [impl_isType.j0] at H
      by_cases c5 : x6_2 = true
      · subst c5
        replace H := ifp rfl H
        obtain rfl := Option.some.inj H
        go_wp2
        go_ret
        exact ⟨by first | rfl | (simp; done) | (simp [*]; done), by repeat (first | exact Drawn0.refl _ | apply Drawn0.step)⟩
      · replace c5 := Bool.eq_false_iff.mpr c5
        subst c5
        replace H := ifn Bool.false_ne_true H
        by_cases c6 : a0 = 5
        · rw [if_pos c6] at H
          have c6b0 : (a0 == 5) = true := beq_iff_eq.mpr c6
          have c6b1 : (a0 != 5) = false := bne_eq_false_iff_eq.mpr c6
          clear c6
          obtain rfl := Option.some.inj H
          go_wp2
          go_ret
          exact ⟨by first | rfl | (simp; done) | (simp [*]; done), by repeat (first | exact Drawn0.refl _ | apply Drawn0.step)⟩
        · rw [if_neg c6] at H
          have c6b0 : (a0 == 5) = false := beq_eq_false_iff_ne.mpr c6
          have c6b1 : (a0 != 5) = true := bne_iff_ne.mpr c6
          by_cases c7 : a0 = 6
          · rw [if_pos c7] at H
            have c7b0 : (a0 == 6) = true := beq_iff_eq.mpr c7
            have c7b1 : (a0 != 6) = false := bne_eq_false_iff_eq.mpr c7
            clear c7
            obtain rfl := Option.some.inj H
            go_wp2
            go_ret
            exact ⟨by first | rfl | (simp; done) | (simp [*]; done), by repeat (first | exact Drawn0.refl _ | apply Drawn0.step)⟩
          · rw [if_neg c7] at H
            have c7b0 : (a0 == 6) = false := beq_eq_false_iff_ne.mpr c7
            have c7b1 : (a0 != 6) = true := bne_iff_ne.mpr c7
            by_cases c8 : a0 = 8
            · rw [if_pos c8] at H
              have c8b0 : (a0 == 8) = true := beq_iff_eq.mpr c8
              have c8b1 : (a0 != 8) = false := bne_eq_false_iff_eq.mpr c8
              clear c8
              obtain rfl := Option.some.inj H
              go_wp2
              go_ret
              exact ⟨by first | rfl | (simp; done) | (simp [*]; done), by repeat (first | exact Drawn0.refl _ | apply Drawn0.step)⟩
            · rw [if_neg c8] at H
              have c8b0 : (a0 == 8) = false := beq_eq_false_iff_ne.mpr c8
              have c8b1 : (a0 != 8) = true := bne_iff_ne.mpr c8
              by_cases c9 : a0 = 9
              · rw [if_pos c9] at H
                have c9b0 : (a0 == 9) = true := beq_iff_eq.mpr c9
                have c9b1 : (a0 != 9) = false := bne_eq_false_iff_eq.mpr c9
                clear c9
                obtain rfl := Option.some.inj H
                go_wp2
                go_ret
                exact ⟨by first | rfl | (simp; done) | (simp [*]; done), by repeat (first | exact Drawn0.refl _ | apply Drawn0.step)⟩
              · rw [if_neg c9] at H
                have c9b0 : (a0 == 9) = false := beq_eq_false_iff_ne.mpr c9
                have c9b1 : (a0 != 9) = true := bne_iff_ne.mpr c9
                by_cases c10 : a0 = 12
                · rw [if_pos c10] at H
                  have c10b0 : (a0 == 12) = true := beq_iff_eq.mpr c10
                  have c10b1 : (a0 != 12) = false := bne_eq_false_iff_eq.mpr c10
                  clear c10
                  obtain rfl := Option.some.inj H
                  go_wp2
                  go_ret
                  exact ⟨by first | rfl | (simp; done) | (simp [*]; done), by repeat (first | exact Drawn0.refl _ | apply Drawn0.step)⟩
                · rw [if_neg c10] at H
                  have c10b0 : (a0 == 12) = false := beq_eq_false_iff_ne.mpr c10
                  have c10b1 : (a0 != 12) = true := bne_iff_ne.mpr c10
                  obtain rfl := Option.some.inj H
                  go_wp2
                  go_ret
                  exact ⟨by first | rfl | (simp; done) | (simp [*]; done), by repeat (first | exact Drawn0.refl _ | apply Drawn0.step)⟩

/-! ### impl_nodeOk: function 75 -/
def impl_nodeOk.f (k : Nat) (a0_0 : Int) (a0_1 : Int) (a0_2 : Int) (a0_3 : ByteArray) (a0_4 : Int) : Option (Bool) := if a0_0 = 5 then ((impl_isInt32.f a0_2).bind fun t345 => (if t345 = true then (if a0_3.toList = ([] : List UInt8) then (some (a0_4 == 0)) else (some false)) else (some false))) else (if a0_0 = 6 then (if a0_3.toList = ([] : List UInt8) then (some (a0_4 == 0)) else (some false)) else (if a0_0 = 8 then (if a0_2 = 0 then (if (a0_3.size : Int) ≤ 300 then (some (a0_4 == 0)) else (some false)) else (some false)) else (if a0_0 = 9 then (if a0_3.toList = ([] : List UInt8) then (if a0_4 ≥ 0 then (if a0_4 = 0 then (if a0_2 = 0 then (some true) else (if a0_4 > 0 then ((impl_isType.f k a0_2 true).bind fun t346 => (some t346)) else (some false))) else (if a0_4 > 0 then ((impl_isType.f k a0_2 true).bind fun t347 => (some t347)) else (some false))) else (some false)) else (some false)) else (if a0_0 = 12 then (if a0_2 = 0 then (if a0_3.toList = ([] : List UInt8) then (some (decide (a0_4 ≥ 0))) else (some false)) else (some false)) else ((impl_isType.f k a0_0 false).bind fun t348 => (if t348 = true then (if a0_2 = 0 then (if a0_3.toList = ([] : List UInt8) then (some (a0_4 == 0)) else (some false)) else (some false)) else (some false)))))))
set_option maxHeartbeats 8000000 in
set_option maxRecDepth 100000 in
theorem impl_nodeOk.calls (k : Nat) (a0_0 : Int) (a0_1 : Int) (a0_2 : Int) (a0_3 : ByteArray) (a0_4 : Int) (r : Bool) (w : World) (h : impl_nodeOk.f k a0_0 a0_1 a0_2 a0_3 a0_4 = some r) :
    Calls Try.prog 75 #[.agg #[.int .i64 a0_0, .int .i64 a0_1, .int .i64 a0_2, .string a0_3, .int .i64 a0_4]] w fun e w' => e = .returned (.bool r) ∧ Below w.heap.size w w' := by
  have hu57 := Try.underlying57
  have HB := Aside0.mk (Below.refl w.heap.size w)
  have H : (if a0_0 = 5 then ((impl_isInt32.f a0_2).bind fun t345 => (if t345 = true then (if a0_3.toList = ([] : List UInt8) then (some (a0_4 == 0)) else (some false)) else (some false))) else (if a0_0 = 6 then (if a0_3.toList = ([] : List UInt8) then (some (a0_4 == 0)) else (some false)) else (if a0_0 = 8 then (if a0_2 = 0 then (if (a0_3.size : Int) ≤ 300 then (some (a0_4 == 0)) else (some false)) else (some false)) else (if a0_0 = 9 then (if a0_3.toList = ([] : List UInt8) then (if a0_4 ≥ 0 then (if a0_4 = 0 then (if a0_2 = 0 then (some true) else (if a0_4 > 0 then ((impl_isType.f k a0_2 true).bind fun t346 => (some t346)) else (some false))) else (if a0_4 > 0 then ((impl_isType.f k a0_2 true).bind fun t347 => (some t347)) else (some false))) else (some false)) else (some false)) else (if a0_0 = 12 then (if a0_2 = 0 then (if a0_3.toList = ([] : List UInt8) then (some (decide (a0_4 ≥ 0))) else (some false)) else (some false)) else ((impl_isType.f k a0_0 false).bind fun t348 => (if t348 = true then (if a0_2 = 0 then (if a0_3.toList = ([] : List UInt8) then (some (a0_4 == 0)) else (some false)) else (some false)) else (some false)))))))) = some r := h
  clear h
  by_cases c2 : a0_0 = 5
  · rw [if_pos c2] at H
    have c2b0 : (a0_0 == 5) = true := beq_iff_eq.mpr c2
    have c2b1 : (a0_0 != 5) = false := bne_eq_false_iff_eq.mpr c2
    clear c2
    replace H := bnd H
    obtain ⟨t345, A3, H⟩ := H
    by_cases c4 : t345 = true
    · subst c4
      replace H := ifp rfl H
      by_cases c5 : a0_3.toList = ([] : List UInt8)
      · rw [if_pos c5] at H
        have c5b0 : (a0_3.toList == ([] : List UInt8)) = true := beq_iff_eq.mpr c5
        have c5b1 : (a0_3.toList != ([] : List UInt8)) = false := bne_eq_false_iff_eq.mpr c5
        clear c5
        obtain rfl := Option.some.inj H
        go_enter Try.func75, Try.ntmps75
        go_wp2_with (first | ((with_reducible refine gate_dst (N := 1) rfl ?_); (try (refine gate_guard (by rfl) ?_; dsimp only)); refine bx_ 1 #[.int .i64 a0_0, .int .i64 a0_1, .int .i64 a0_2, .string a0_3, .int .i64 a0_4] 57 ?_; intro gb344 hg w6 hbox hb; have BK344 := Aside0.mk (hbox); have GW344 := gwe HB hg; have GE344 := GW344; replace HB := bst HB hb; clear hb hbox hg; obtain ⟨hcz7_0, hcz7_1, hcz7_2, hcz7_3, hcz7_4, hfz7_0, hfz7_1, hfz7_2, hfz7_3, hfz7_4⟩ := cl5 BK344) | ((with_reducible refine gate_callee (f := 67) rfl ?_); refine gl_ (some 9) Try.func67 #[.int .i64 a0_2] rfl ?_; (with_reducible refine (impl_isInt32.calls a0_2 true _ A3.out).mono ?_); rintro e w' ⟨rfl, ⟨nd, rfl⟩⟩; refine ⟨_, rfl, ?_⟩))
        go_ret
        exact fin_ (below_later HB.out)
      · rw [if_neg c5] at H
        have c5b0 : (a0_3.toList == ([] : List UInt8)) = false := beq_eq_false_iff_ne.mpr c5
        have c5b1 : (a0_3.toList != ([] : List UInt8)) = true := bne_iff_ne.mpr c5
        obtain rfl := Option.some.inj H
        go_enter Try.func75, Try.ntmps75
        go_wp2_with (first | ((with_reducible refine gate_dst (N := 1) rfl ?_); (try (refine gate_guard (by rfl) ?_; dsimp only)); refine bx_ 1 #[.int .i64 a0_0, .int .i64 a0_1, .int .i64 a0_2, .string a0_3, .int .i64 a0_4] 57 ?_; intro gb344 hg w8 hbox hb; have BK344 := Aside0.mk (hbox); have GW344 := gwe HB hg; have GE344 := GW344; replace HB := bst HB hb; clear hb hbox hg; obtain ⟨hcz9_0, hcz9_1, hcz9_2, hcz9_3, hcz9_4, hfz9_0, hfz9_1, hfz9_2, hfz9_3, hfz9_4⟩ := cl5 BK344) | ((with_reducible refine gate_callee (f := 67) rfl ?_); refine gl_ (some 9) Try.func67 #[.int .i64 a0_2] rfl ?_; (with_reducible refine (impl_isInt32.calls a0_2 true _ A3.out).mono ?_); rintro e w' ⟨rfl, ⟨nd, rfl⟩⟩; refine ⟨_, rfl, ?_⟩))
        go_ret
        exact fin_ (below_later HB.out)
    · replace c4 := Bool.eq_false_iff.mpr c4
      subst c4
      replace H := ifn Bool.false_ne_true H
      obtain rfl := Option.some.inj H
      go_enter Try.func75, Try.ntmps75
      go_wp2_with (first | ((with_reducible refine gate_dst (N := 1) rfl ?_); (try (refine gate_guard (by rfl) ?_; dsimp only)); refine bx_ 1 #[.int .i64 a0_0, .int .i64 a0_1, .int .i64 a0_2, .string a0_3, .int .i64 a0_4] 57 ?_; intro gb344 hg w10 hbox hb; have BK344 := Aside0.mk (hbox); have GW344 := gwe HB hg; have GE344 := GW344; replace HB := bst HB hb; clear hb hbox hg; obtain ⟨hcz11_0, hcz11_1, hcz11_2, hcz11_3, hcz11_4, hfz11_0, hfz11_1, hfz11_2, hfz11_3, hfz11_4⟩ := cl5 BK344) | ((with_reducible refine gate_callee (f := 67) rfl ?_); refine gl_ (some 9) Try.func67 #[.int .i64 a0_2] rfl ?_; (with_reducible refine (impl_isInt32.calls a0_2 false _ A3.out).mono ?_); rintro e w' ⟨rfl, ⟨nd, rfl⟩⟩; refine ⟨_, rfl, ?_⟩))
      go_ret
      exact fin_ (below_later HB.out)
  · rw [if_neg c2] at H
    have c2b0 : (a0_0 == 5) = false := beq_eq_false_iff_ne.mpr c2
    have c2b1 : (a0_0 != 5) = true := bne_iff_ne.mpr c2
    by_cases c12 : a0_0 = 6
    · rw [if_pos c12] at H
      have c12b0 : (a0_0 == 6) = true := beq_iff_eq.mpr c12
      have c12b1 : (a0_0 != 6) = false := bne_eq_false_iff_eq.mpr c12
      clear c12
      by_cases c13 : a0_3.toList = ([] : List UInt8)
      · rw [if_pos c13] at H
        have c13b0 : (a0_3.toList == ([] : List UInt8)) = true := beq_iff_eq.mpr c13
        have c13b1 : (a0_3.toList != ([] : List UInt8)) = false := bne_eq_false_iff_eq.mpr c13
        clear c13
        obtain rfl := Option.some.inj H
        go_enter Try.func75, Try.ntmps75
        go_wp2_with (first | ((with_reducible refine gate_dst (N := 1) rfl ?_); (try (refine gate_guard (by rfl) ?_; dsimp only)); refine bx_ 1 #[.int .i64 a0_0, .int .i64 a0_1, .int .i64 a0_2, .string a0_3, .int .i64 a0_4] 57 ?_; intro gb344 hg w14 hbox hb; have BK344 := Aside0.mk (hbox); have GW344 := gwe HB hg; have GE344 := GW344; replace HB := bst HB hb; clear hb hbox hg; obtain ⟨hcz15_0, hcz15_1, hcz15_2, hcz15_3, hcz15_4, hfz15_0, hfz15_1, hfz15_2, hfz15_3, hfz15_4⟩ := cl5 BK344))
        go_ret
        exact fin_ (below_later HB.out)
      · rw [if_neg c13] at H
        have c13b0 : (a0_3.toList == ([] : List UInt8)) = false := beq_eq_false_iff_ne.mpr c13
        have c13b1 : (a0_3.toList != ([] : List UInt8)) = true := bne_iff_ne.mpr c13
        obtain rfl := Option.some.inj H
        go_enter Try.func75, Try.ntmps75
        go_wp2_with (first | ((with_reducible refine gate_dst (N := 1) rfl ?_); (try (refine gate_guard (by rfl) ?_; dsimp only)); refine bx_ 1 #[.int .i64 a0_0, .int .i64 a0_1, .int .i64 a0_2, .string a0_3, .int .i64 a0_4] 57 ?_; intro gb344 hg w16 hbox hb; have BK344 := Aside0.mk (hbox); have GW344 := gwe HB hg; have GE344 := GW344; replace HB := bst HB hb; clear hb hbox hg; obtain ⟨hcz17_0, hcz17_1, hcz17_2, hcz17_3, hcz17_4, hfz17_0, hfz17_1, hfz17_2, hfz17_3, hfz17_4⟩ := cl5 BK344))
        go_ret
        exact fin_ (below_later HB.out)
    · rw [if_neg c12] at H
      have c12b0 : (a0_0 == 6) = false := beq_eq_false_iff_ne.mpr c12
      have c12b1 : (a0_0 != 6) = true := bne_iff_ne.mpr c12
      by_cases c18 : a0_0 = 8
      · rw [if_pos c18] at H
        have c18b0 : (a0_0 == 8) = true := beq_iff_eq.mpr c18
        have c18b1 : (a0_0 != 8) = false := bne_eq_false_iff_eq.mpr c18
        clear c18
        by_cases c19 : a0_2 = 0
        · rw [if_pos c19] at H
          have c19b0 : (a0_2 == 0) = true := beq_iff_eq.mpr c19
          have c19b1 : (a0_2 != 0) = false := bne_eq_false_iff_eq.mpr c19
          clear c19
          by_cases c20 : (a0_3.size : Int) ≤ 300
          · rw [if_pos c20] at H
            have c20b0 := decide_eq_true c20
            have c20b1 : decide (a0_3.size ≤ 300) = true := decide_eq_true (by omega)
            clear c20
            obtain rfl := Option.some.inj H
            go_enter Try.func75, Try.ntmps75
            go_wp2_with (first | ((with_reducible refine gate_dst (N := 1) rfl ?_); (try (refine gate_guard (by rfl) ?_; dsimp only)); refine bx_ 1 #[.int .i64 a0_0, .int .i64 a0_1, .int .i64 a0_2, .string a0_3, .int .i64 a0_4] 57 ?_; intro gb344 hg w21 hbox hb; have BK344 := Aside0.mk (hbox); have GW344 := gwe HB hg; have GE344 := GW344; replace HB := bst HB hb; clear hb hbox hg; obtain ⟨hcz22_0, hcz22_1, hcz22_2, hcz22_3, hcz22_4, hfz22_0, hfz22_1, hfz22_2, hfz22_3, hfz22_4⟩ := cl5 BK344))
            go_ret
            exact fin_ (below_later HB.out)
          · rw [if_neg c20] at H
            have c20b0 := decide_eq_false c20
            have c20b1 : decide (a0_3.size ≤ 300) = false := decide_eq_false (by omega)
            clear c20
            obtain rfl := Option.some.inj H
            go_enter Try.func75, Try.ntmps75
            go_wp2_with (first | ((with_reducible refine gate_dst (N := 1) rfl ?_); (try (refine gate_guard (by rfl) ?_; dsimp only)); refine bx_ 1 #[.int .i64 a0_0, .int .i64 a0_1, .int .i64 a0_2, .string a0_3, .int .i64 a0_4] 57 ?_; intro gb344 hg w23 hbox hb; have BK344 := Aside0.mk (hbox); have GW344 := gwe HB hg; have GE344 := GW344; replace HB := bst HB hb; clear hb hbox hg; obtain ⟨hcz24_0, hcz24_1, hcz24_2, hcz24_3, hcz24_4, hfz24_0, hfz24_1, hfz24_2, hfz24_3, hfz24_4⟩ := cl5 BK344))
            go_ret
            exact fin_ (below_later HB.out)
        · rw [if_neg c19] at H
          have c19b0 : (a0_2 == 0) = false := beq_eq_false_iff_ne.mpr c19
          have c19b1 : (a0_2 != 0) = true := bne_iff_ne.mpr c19
          obtain rfl := Option.some.inj H
          go_enter Try.func75, Try.ntmps75
          go_wp2_with (first | ((with_reducible refine gate_dst (N := 1) rfl ?_); (try (refine gate_guard (by rfl) ?_; dsimp only)); refine bx_ 1 #[.int .i64 a0_0, .int .i64 a0_1, .int .i64 a0_2, .string a0_3, .int .i64 a0_4] 57 ?_; intro gb344 hg w25 hbox hb; have BK344 := Aside0.mk (hbox); have GW344 := gwe HB hg; have GE344 := GW344; replace HB := bst HB hb; clear hb hbox hg; obtain ⟨hcz26_0, hcz26_1, hcz26_2, hcz26_3, hcz26_4, hfz26_0, hfz26_1, hfz26_2, hfz26_3, hfz26_4⟩ := cl5 BK344))
          go_ret
          exact fin_ (below_later HB.out)
      · rw [if_neg c18] at H
        have c18b0 : (a0_0 == 8) = false := beq_eq_false_iff_ne.mpr c18
        have c18b1 : (a0_0 != 8) = true := bne_iff_ne.mpr c18
        by_cases c27 : a0_0 = 9
        · rw [if_pos c27] at H
          have c27b0 : (a0_0 == 9) = true := beq_iff_eq.mpr c27
          have c27b1 : (a0_0 != 9) = false := bne_eq_false_iff_eq.mpr c27
          clear c27
          by_cases c28 : a0_3.toList = ([] : List UInt8)
          · rw [if_pos c28] at H
            have c28b0 : (a0_3.toList == ([] : List UInt8)) = true := beq_iff_eq.mpr c28
            have c28b1 : (a0_3.toList != ([] : List UInt8)) = false := bne_eq_false_iff_eq.mpr c28
            clear c28
            by_cases c29 : a0_4 ≥ 0
            · rw [if_pos c29] at H
              have c29b0 : decide (0 ≤ a0_4) = true := decide_eq_true c29
              clear c29
              by_cases c30 : a0_4 = 0
              · rw [if_pos c30] at H
                have c30b0 : (a0_4 == 0) = true := beq_iff_eq.mpr c30
                have c30b1 : (a0_4 != 0) = false := bne_eq_false_iff_eq.mpr c30
                clear c30
                by_cases c31 : a0_2 = 0
                · rw [if_pos c31] at H
                  have c31b0 : (a0_2 == 0) = true := beq_iff_eq.mpr c31
                  have c31b1 : (a0_2 != 0) = false := bne_eq_false_iff_eq.mpr c31
                  clear c31
                  obtain rfl := Option.some.inj H
                  go_enter Try.func75, Try.ntmps75
                  go_wp2_with (first | ((with_reducible refine gate_dst (N := 1) rfl ?_); (try (refine gate_guard (by rfl) ?_; dsimp only)); refine bx_ 1 #[.int .i64 a0_0, .int .i64 a0_1, .int .i64 a0_2, .string a0_3, .int .i64 a0_4] 57 ?_; intro gb344 hg w32 hbox hb; have BK344 := Aside0.mk (hbox); have GW344 := gwe HB hg; have GE344 := GW344; replace HB := bst HB hb; clear hb hbox hg; obtain ⟨hcz33_0, hcz33_1, hcz33_2, hcz33_3, hcz33_4, hfz33_0, hfz33_1, hfz33_2, hfz33_3, hfz33_4⟩ := cl5 BK344))
                  go_ret
                  exact fin_ (below_later HB.out)
                · rw [if_neg c31] at H
                  have c31b0 : (a0_2 == 0) = false := beq_eq_false_iff_ne.mpr c31
                  have c31b1 : (a0_2 != 0) = true := bne_iff_ne.mpr c31
                  by_cases c34 : a0_4 > 0
                  · rw [if_pos c34] at H
                    have c34b0 : decide (0 < a0_4) = true := decide_eq_true c34
                    clear c34
                    replace H := bnd H
                    obtain ⟨t346, A35, H⟩ := H
                    obtain rfl := Option.some.inj H
                    go_enter Try.func75, Try.ntmps75
                    go_wp2_with (first | ((with_reducible refine gate_dst (N := 1) rfl ?_); (try (refine gate_guard (by rfl) ?_; dsimp only)); refine bx_ 1 #[.int .i64 a0_0, .int .i64 a0_1, .int .i64 a0_2, .string a0_3, .int .i64 a0_4] 57 ?_; intro gb344 hg w36 hbox hb; have BK344 := Aside0.mk (hbox); have GW344 := gwe HB hg; have GE344 := GW344; replace HB := bst HB hb; clear hb hbox hg; obtain ⟨hcz37_0, hcz37_1, hcz37_2, hcz37_3, hcz37_4, hfz37_0, hfz37_1, hfz37_2, hfz37_3, hfz37_4⟩ := cl5 BK344) | (go_at_call 91; (with_reducible refine (impl_isType.calls k a0_2 true t346 _ A35.out).mono ?_); rintro e w' ⟨rfl, ⟨nd, rfl⟩⟩))
                    go_ret
                    exact fin_ (below_later HB.out)
                  · rw [if_neg c34] at H
                    have c34b0 : decide (0 < a0_4) = false := decide_eq_false c34
                    clear c34
                    obtain rfl := Option.some.inj H
                    go_enter Try.func75, Try.ntmps75
                    go_wp2_with (first | ((with_reducible refine gate_dst (N := 1) rfl ?_); (try (refine gate_guard (by rfl) ?_; dsimp only)); refine bx_ 1 #[.int .i64 a0_0, .int .i64 a0_1, .int .i64 a0_2, .string a0_3, .int .i64 a0_4] 57 ?_; intro gb344 hg w38 hbox hb; have BK344 := Aside0.mk (hbox); have GW344 := gwe HB hg; have GE344 := GW344; replace HB := bst HB hb; clear hb hbox hg; obtain ⟨hcz39_0, hcz39_1, hcz39_2, hcz39_3, hcz39_4, hfz39_0, hfz39_1, hfz39_2, hfz39_3, hfz39_4⟩ := cl5 BK344))
                    go_ret
                    exact fin_ (below_later HB.out)
              · rw [if_neg c30] at H
                have c30b0 : (a0_4 == 0) = false := beq_eq_false_iff_ne.mpr c30
                have c30b1 : (a0_4 != 0) = true := bne_iff_ne.mpr c30
                by_cases c40 : a0_4 > 0
                · rw [if_pos c40] at H
                  have c40b0 : decide (0 < a0_4) = true := decide_eq_true c40
                  clear c40
                  replace H := bnd H
                  obtain ⟨t347, A41, H⟩ := H
                  obtain rfl := Option.some.inj H
                  go_enter Try.func75, Try.ntmps75
                  go_wp2_with (first | ((with_reducible refine gate_dst (N := 1) rfl ?_); (try (refine gate_guard (by rfl) ?_; dsimp only)); refine bx_ 1 #[.int .i64 a0_0, .int .i64 a0_1, .int .i64 a0_2, .string a0_3, .int .i64 a0_4] 57 ?_; intro gb344 hg w42 hbox hb; have BK344 := Aside0.mk (hbox); have GW344 := gwe HB hg; have GE344 := GW344; replace HB := bst HB hb; clear hb hbox hg; obtain ⟨hcz43_0, hcz43_1, hcz43_2, hcz43_3, hcz43_4, hfz43_0, hfz43_1, hfz43_2, hfz43_3, hfz43_4⟩ := cl5 BK344) | (go_at_call 91; (with_reducible refine (impl_isType.calls k a0_2 true t347 _ A41.out).mono ?_); rintro e w' ⟨rfl, ⟨nd, rfl⟩⟩))
                  go_ret
                  exact fin_ (below_later HB.out)
                · rw [if_neg c40] at H
                  have c40b0 : decide (0 < a0_4) = false := decide_eq_false c40
                  clear c40
                  obtain rfl := Option.some.inj H
                  go_enter Try.func75, Try.ntmps75
                  go_wp2_with (first | ((with_reducible refine gate_dst (N := 1) rfl ?_); (try (refine gate_guard (by rfl) ?_; dsimp only)); refine bx_ 1 #[.int .i64 a0_0, .int .i64 a0_1, .int .i64 a0_2, .string a0_3, .int .i64 a0_4] 57 ?_; intro gb344 hg w44 hbox hb; have BK344 := Aside0.mk (hbox); have GW344 := gwe HB hg; have GE344 := GW344; replace HB := bst HB hb; clear hb hbox hg; obtain ⟨hcz45_0, hcz45_1, hcz45_2, hcz45_3, hcz45_4, hfz45_0, hfz45_1, hfz45_2, hfz45_3, hfz45_4⟩ := cl5 BK344))
                  go_ret
                  exact fin_ (below_later HB.out)
            · rw [if_neg c29] at H
              have c29b0 : decide (0 ≤ a0_4) = false := decide_eq_false c29
              clear c29
              obtain rfl := Option.some.inj H
              go_enter Try.func75, Try.ntmps75
              go_wp2_with (first | ((with_reducible refine gate_dst (N := 1) rfl ?_); (try (refine gate_guard (by rfl) ?_; dsimp only)); refine bx_ 1 #[.int .i64 a0_0, .int .i64 a0_1, .int .i64 a0_2, .string a0_3, .int .i64 a0_4] 57 ?_; intro gb344 hg w46 hbox hb; have BK344 := Aside0.mk (hbox); have GW344 := gwe HB hg; have GE344 := GW344; replace HB := bst HB hb; clear hb hbox hg; obtain ⟨hcz47_0, hcz47_1, hcz47_2, hcz47_3, hcz47_4, hfz47_0, hfz47_1, hfz47_2, hfz47_3, hfz47_4⟩ := cl5 BK344))
              go_ret
              exact fin_ (below_later HB.out)
          · rw [if_neg c28] at H
            have c28b0 : (a0_3.toList == ([] : List UInt8)) = false := beq_eq_false_iff_ne.mpr c28
            have c28b1 : (a0_3.toList != ([] : List UInt8)) = true := bne_iff_ne.mpr c28
            obtain rfl := Option.some.inj H
            go_enter Try.func75, Try.ntmps75
            go_wp2_with (first | ((with_reducible refine gate_dst (N := 1) rfl ?_); (try (refine gate_guard (by rfl) ?_; dsimp only)); refine bx_ 1 #[.int .i64 a0_0, .int .i64 a0_1, .int .i64 a0_2, .string a0_3, .int .i64 a0_4] 57 ?_; intro gb344 hg w48 hbox hb; have BK344 := Aside0.mk (hbox); have GW344 := gwe HB hg; have GE344 := GW344; replace HB := bst HB hb; clear hb hbox hg; obtain ⟨hcz49_0, hcz49_1, hcz49_2, hcz49_3, hcz49_4, hfz49_0, hfz49_1, hfz49_2, hfz49_3, hfz49_4⟩ := cl5 BK344))
            go_ret
            exact fin_ (below_later HB.out)
        · rw [if_neg c27] at H
          have c27b0 : (a0_0 == 9) = false := beq_eq_false_iff_ne.mpr c27
          have c27b1 : (a0_0 != 9) = true := bne_iff_ne.mpr c27
          by_cases c50 : a0_0 = 12
          · rw [if_pos c50] at H
            have c50b0 : (a0_0 == 12) = true := beq_iff_eq.mpr c50
            have c50b1 : (a0_0 != 12) = false := bne_eq_false_iff_eq.mpr c50
            clear c50
            by_cases c51 : a0_2 = 0
            · rw [if_pos c51] at H
              have c51b0 : (a0_2 == 0) = true := beq_iff_eq.mpr c51
              have c51b1 : (a0_2 != 0) = false := bne_eq_false_iff_eq.mpr c51
              clear c51
              by_cases c52 : a0_3.toList = ([] : List UInt8)
              · rw [if_pos c52] at H
                have c52b0 : (a0_3.toList == ([] : List UInt8)) = true := beq_iff_eq.mpr c52
                have c52b1 : (a0_3.toList != ([] : List UInt8)) = false := bne_eq_false_iff_eq.mpr c52
                clear c52
                obtain rfl := Option.some.inj H
                go_enter Try.func75, Try.ntmps75
                go_wp2_with (first | ((with_reducible refine gate_dst (N := 1) rfl ?_); (try (refine gate_guard (by rfl) ?_; dsimp only)); refine bx_ 1 #[.int .i64 a0_0, .int .i64 a0_1, .int .i64 a0_2, .string a0_3, .int .i64 a0_4] 57 ?_; intro gb344 hg w53 hbox hb; have BK344 := Aside0.mk (hbox); have GW344 := gwe HB hg; have GE344 := GW344; replace HB := bst HB hb; clear hb hbox hg; obtain ⟨hcz54_0, hcz54_1, hcz54_2, hcz54_3, hcz54_4, hfz54_0, hfz54_1, hfz54_2, hfz54_3, hfz54_4⟩ := cl5 BK344))
                go_ret
                exact fin_ (below_later HB.out)
              · rw [if_neg c52] at H
                have c52b0 : (a0_3.toList == ([] : List UInt8)) = false := beq_eq_false_iff_ne.mpr c52
                have c52b1 : (a0_3.toList != ([] : List UInt8)) = true := bne_iff_ne.mpr c52
                obtain rfl := Option.some.inj H
                go_enter Try.func75, Try.ntmps75
                go_wp2_with (first | ((with_reducible refine gate_dst (N := 1) rfl ?_); (try (refine gate_guard (by rfl) ?_; dsimp only)); refine bx_ 1 #[.int .i64 a0_0, .int .i64 a0_1, .int .i64 a0_2, .string a0_3, .int .i64 a0_4] 57 ?_; intro gb344 hg w55 hbox hb; have BK344 := Aside0.mk (hbox); have GW344 := gwe HB hg; have GE344 := GW344; replace HB := bst HB hb; clear hb hbox hg; obtain ⟨hcz56_0, hcz56_1, hcz56_2, hcz56_3, hcz56_4, hfz56_0, hfz56_1, hfz56_2, hfz56_3, hfz56_4⟩ := cl5 BK344))
                go_ret
                exact fin_ (below_later HB.out)
            · rw [if_neg c51] at H
              have c51b0 : (a0_2 == 0) = false := beq_eq_false_iff_ne.mpr c51
              have c51b1 : (a0_2 != 0) = true := bne_iff_ne.mpr c51
              obtain rfl := Option.some.inj H
              go_enter Try.func75, Try.ntmps75
              go_wp2_with (first | ((with_reducible refine gate_dst (N := 1) rfl ?_); (try (refine gate_guard (by rfl) ?_; dsimp only)); refine bx_ 1 #[.int .i64 a0_0, .int .i64 a0_1, .int .i64 a0_2, .string a0_3, .int .i64 a0_4] 57 ?_; intro gb344 hg w57 hbox hb; have BK344 := Aside0.mk (hbox); have GW344 := gwe HB hg; have GE344 := GW344; replace HB := bst HB hb; clear hb hbox hg; obtain ⟨hcz58_0, hcz58_1, hcz58_2, hcz58_3, hcz58_4, hfz58_0, hfz58_1, hfz58_2, hfz58_3, hfz58_4⟩ := cl5 BK344))
              go_ret
              exact fin_ (below_later HB.out)
          · rw [if_neg c50] at H
            have c50b0 : (a0_0 == 12) = false := beq_eq_false_iff_ne.mpr c50
            have c50b1 : (a0_0 != 12) = true := bne_iff_ne.mpr c50
            replace H := bnd H
            obtain ⟨t348, A59, H⟩ := H
            by_cases c60 : t348 = true
            · subst c60
              replace H := ifp rfl H
              by_cases c61 : a0_2 = 0
              · rw [if_pos c61] at H
                have c61b0 : (a0_2 == 0) = true := beq_iff_eq.mpr c61
                have c61b1 : (a0_2 != 0) = false := bne_eq_false_iff_eq.mpr c61
                clear c61
                by_cases c62 : a0_3.toList = ([] : List UInt8)
                · rw [if_pos c62] at H
                  have c62b0 : (a0_3.toList == ([] : List UInt8)) = true := beq_iff_eq.mpr c62
                  have c62b1 : (a0_3.toList != ([] : List UInt8)) = false := bne_eq_false_iff_eq.mpr c62
                  clear c62
                  obtain rfl := Option.some.inj H
                  go_enter Try.func75, Try.ntmps75
                  go_wp2_with (first | ((with_reducible refine gate_dst (N := 1) rfl ?_); (try (refine gate_guard (by rfl) ?_; dsimp only)); refine bx_ 1 #[.int .i64 a0_0, .int .i64 a0_1, .int .i64 a0_2, .string a0_3, .int .i64 a0_4] 57 ?_; intro gb344 hg w63 hbox hb; have BK344 := Aside0.mk (hbox); have GW344 := gwe HB hg; have GE344 := GW344; replace HB := bst HB hb; clear hb hbox hg; obtain ⟨hcz64_0, hcz64_1, hcz64_2, hcz64_3, hcz64_4, hfz64_0, hfz64_1, hfz64_2, hfz64_3, hfz64_4⟩ := cl5 BK344) | ((with_reducible refine gate_callee (f := 91) rfl ?_); refine gl_ (some 93) Try.func91 #[.int .i64 a0_0, .bool false] rfl ?_; (with_reducible refine (impl_isType.calls k a0_0 false true _ A59.out).mono ?_); rintro e w' ⟨rfl, ⟨nd, rfl⟩⟩; refine ⟨_, rfl, ?_⟩))
                  go_ret
                  exact fin_ (below_later HB.out)
                · rw [if_neg c62] at H
                  have c62b0 : (a0_3.toList == ([] : List UInt8)) = false := beq_eq_false_iff_ne.mpr c62
                  have c62b1 : (a0_3.toList != ([] : List UInt8)) = true := bne_iff_ne.mpr c62
                  obtain rfl := Option.some.inj H
                  go_enter Try.func75, Try.ntmps75
                  go_wp2_with (first | ((with_reducible refine gate_dst (N := 1) rfl ?_); (try (refine gate_guard (by rfl) ?_; dsimp only)); refine bx_ 1 #[.int .i64 a0_0, .int .i64 a0_1, .int .i64 a0_2, .string a0_3, .int .i64 a0_4] 57 ?_; intro gb344 hg w65 hbox hb; have BK344 := Aside0.mk (hbox); have GW344 := gwe HB hg; have GE344 := GW344; replace HB := bst HB hb; clear hb hbox hg; obtain ⟨hcz66_0, hcz66_1, hcz66_2, hcz66_3, hcz66_4, hfz66_0, hfz66_1, hfz66_2, hfz66_3, hfz66_4⟩ := cl5 BK344) | ((with_reducible refine gate_callee (f := 91) rfl ?_); refine gl_ (some 93) Try.func91 #[.int .i64 a0_0, .bool false] rfl ?_; (with_reducible refine (impl_isType.calls k a0_0 false true _ A59.out).mono ?_); rintro e w' ⟨rfl, ⟨nd, rfl⟩⟩; refine ⟨_, rfl, ?_⟩))
                  go_ret
                  exact fin_ (below_later HB.out)
              · rw [if_neg c61] at H
                have c61b0 : (a0_2 == 0) = false := beq_eq_false_iff_ne.mpr c61
                have c61b1 : (a0_2 != 0) = true := bne_iff_ne.mpr c61
                obtain rfl := Option.some.inj H
                go_enter Try.func75, Try.ntmps75
                go_wp2_with (first | ((with_reducible refine gate_dst (N := 1) rfl ?_); (try (refine gate_guard (by rfl) ?_; dsimp only)); refine bx_ 1 #[.int .i64 a0_0, .int .i64 a0_1, .int .i64 a0_2, .string a0_3, .int .i64 a0_4] 57 ?_; intro gb344 hg w67 hbox hb; have BK344 := Aside0.mk (hbox); have GW344 := gwe HB hg; have GE344 := GW344; replace HB := bst HB hb; clear hb hbox hg; obtain ⟨hcz68_0, hcz68_1, hcz68_2, hcz68_3, hcz68_4, hfz68_0, hfz68_1, hfz68_2, hfz68_3, hfz68_4⟩ := cl5 BK344) | ((with_reducible refine gate_callee (f := 91) rfl ?_); refine gl_ (some 93) Try.func91 #[.int .i64 a0_0, .bool false] rfl ?_; (with_reducible refine (impl_isType.calls k a0_0 false true _ A59.out).mono ?_); rintro e w' ⟨rfl, ⟨nd, rfl⟩⟩; refine ⟨_, rfl, ?_⟩))
                go_ret
                exact fin_ (below_later HB.out)
            · replace c60 := Bool.eq_false_iff.mpr c60
              subst c60
              replace H := ifn Bool.false_ne_true H
              obtain rfl := Option.some.inj H
              go_enter Try.func75, Try.ntmps75
              go_wp2_with (first | ((with_reducible refine gate_dst (N := 1) rfl ?_); (try (refine gate_guard (by rfl) ?_; dsimp only)); refine bx_ 1 #[.int .i64 a0_0, .int .i64 a0_1, .int .i64 a0_2, .string a0_3, .int .i64 a0_4] 57 ?_; intro gb344 hg w69 hbox hb; have BK344 := Aside0.mk (hbox); have GW344 := gwe HB hg; have GE344 := GW344; replace HB := bst HB hb; clear hb hbox hg; obtain ⟨hcz70_0, hcz70_1, hcz70_2, hcz70_3, hcz70_4, hfz70_0, hfz70_1, hfz70_2, hfz70_3, hfz70_4⟩ := cl5 BK344) | ((with_reducible refine gate_callee (f := 91) rfl ?_); refine gl_ (some 93) Try.func91 #[.int .i64 a0_0, .bool false] rfl ?_; (with_reducible refine (impl_isType.calls k a0_0 false false _ A59.out).mono ?_); rintro e w' ⟨rfl, ⟨nd, rfl⟩⟩; refine ⟨_, rfl, ?_⟩))
              go_ret
              exact fin_ (below_later HB.out)

-- NOT PRINTED: function 49 (impl_tree_measure)

end Go.Proofs.Ytgiljoeekpfpmaa.PFnExactStatsFrom
