/- The machine's side of FnExactStatsFrom, written by wip/tools/hyb.py of this repo: each Go function as a plain Lean function, and the proof that the call comes to just its answer. No condition. -/
import Derived.Test.YtgiljoeekpfpmaaPFnExactStatsFromx0
import Derived.Test.YtgiljoeekpfpmaaPFnExactStatsFromx9
import Derived.Test.YtgiljoeekpfpmaaPFnExactStatsFromx10
import Derived.Test.YtgiljoeekpfpmaaPFnExactStatsFromx13
namespace Go.Proofs.Ytgiljoeekpfpmaa.PFnExactStatsFrom
open Go.RowKit Go.Proofs.YtgiljoeekpfpmaaW.PrintWords Go.Proofs.YtgiljoeekpfpmaaW.PrintLast Go.Proofs.YtgiljoeekpfpmaaW.PrintMore Go.Proofs.YtgiljoeekpfpmaaW.PrintMore2
attribute [local go_sem] max2_int min2_int max_two min_two max_three min_three max_four min_four   -- for this text's walks alone
set_option linter.unusedVariables false
set_option linter.unusedSimpArgs false

/-! ### impl_tree_stats: function 28 -/
mutual
def impl_tree_stats.j0 : Nat → Int → Int → Bool → List (S57) → List Int → Int → Int → Int → Option (Int × Bool × Int × ByteArray × Int × ByteArray × Bool)
  | 0, _, _, _, _, _, _, _, _ => none
  | k + 1, x2, x8, x31, x1000, x1001, x521000, x521001, x521002 => if x31 = true then (some (0, false, 0, (⟨#[]⟩ : ByteArray), 0, (⟨#[]⟩ : ByteArray), false)) else ((impl_tree_find.f k x1000 x1001 x2 5).bind fun t526 => (if t526 ≥ 0 then (impl_tree_stats.j1 k x2 true x1000 x1001 x521000 x521001 x521002 x8 false 0 (⟨#[]⟩ : ByteArray) 0 (⟨#[]⟩ : ByteArray)) else ((impl_tree_find.f k x1000 x1001 x2 6).bind fun t527 => (impl_tree_stats.j1 k x2 (decide (t527 ≥ 0)) x1000 x1001 x521000 x521001 x521002 x8 false 0 (⟨#[]⟩ : ByteArray) 0 (⟨#[]⟩ : ByteArray)))))
def impl_tree_stats.j1 : Nat → Int → Bool → List (S57) → List Int → Int → Int → Int → Int → Bool → Int → ByteArray → Int → ByteArray → Option (Int × Bool × Int × ByteArray × Int × ByteArray × Bool)
  | 0, _, _, _, _, _, _, _, _, _, _, _, _, _ => none
  | k + 1, x2, x44, x1000, x1001, x521000, x521001, x521002, x526000, x526001, x526002, x526003, x526004, x526005 => if x44 = true then ((impl_tree_part.f k x1000 x1001 x2 5 8).bind fun bt528 => ((impl_tree_part.f k x1000 x1001 x2 6 8).bind fun bt535 => ((impl_valueOf.f k x521000 bt528.2.2.2.1).bind fun bt542 => ((impl_valueOf.f k x521000 bt535.2.2.2.1).bind fun bt546 => (if bt528.2.2.2.2.2 = true then (if bt535.2.2.2.2.2 = true then (if bt542.2.2 = true then (impl_tree_stats.j2 k (!bt546.2.2) x521000 x521001 x521002 x526000 x526001 x526002 x526003 x526004 x526005 bt542.1 bt542.2.1 bt546.1 bt546.2.1) else (impl_tree_stats.j2 k true x521000 x521001 x521002 x526000 x526001 x526002 x526003 x526004 x526005 bt542.1 bt542.2.1 bt546.1 bt546.2.1)) else (impl_tree_stats.j2 k true x521000 x521001 x521002 x526000 x526001 x526002 x526003 x526004 x526005 bt542.1 bt542.2.1 bt546.1 bt546.2.1)) else (impl_tree_stats.j2 k true x521000 x521001 x521002 x526000 x526001 x526002 x526003 x526004 x526005 bt542.1 bt542.2.1 bt546.1 bt546.2.1)))))) else ((impl_statsOk.f k x521000 x521001 x521002 x526000 x526001 x526002 x526003 x526004 x526005).bind fun t551 => (if t551 = true then (some (x526000, x526001, x526002, x526003, x526004, x526005, true)) else (some (0, false, 0, (⟨#[]⟩ : ByteArray), 0, (⟨#[]⟩ : ByteArray), false))))
def impl_tree_stats.j2 : Nat → Bool → Int → Int → Int → Int → Bool → Int → ByteArray → Int → ByteArray → Int → ByteArray → Int → ByteArray → Option (Int × Bool × Int × ByteArray × Int × ByteArray × Bool)
  | 0, _, _, _, _, _, _, _, _, _, _, _, _, _, _ => none
  | k + 1, x86, x521000, x521001, x521002, x526000, x526001, x526002, x526003, x526004, x526005, x546000, x546001, x550000, x550001 => if x86 = true then (some (0, false, 0, (⟨#[]⟩ : ByteArray), 0, (⟨#[]⟩ : ByteArray), false)) else ((impl_statsOk.f k x521000 x521001 x521002 x526000 true x550000 x550001 x546000 x546001).bind fun t550 => (if t550 = true then (some (x526000, true, x550000, x550001, x546000, x546001, true)) else (some (0, false, 0, (⟨#[]⟩ : ByteArray), 0, (⟨#[]⟩ : ByteArray), false))))
end
def impl_tree_stats.f (k : Nat) (s0_0 : List (S57)) (s0_1 : List Int) (a1_0 : Int) (a1_1 : Int) (a1_2 : Int) (a2 : Int) : Option (Int × Bool × Int × ByteArray × Int × ByteArray × Bool) := (impl_tree_num.f k s0_0 s0_1 a2 3).bind fun bt522 => (if bt522.2 = true then ((impl_LeafOk.f a1_0 a1_1 a1_2).bind fun t524 => (impl_tree_stats.j0 k a2 bt522.1 (!t524) s0_0 s0_1 a1_0 a1_1 a1_2)) else (impl_tree_stats.j0 k a2 bt522.1 true s0_0 s0_1 a1_0 a1_1 a1_2))
def impl_tree_stats.T12 : Bool × List (List Nat × List Nat) := (true, [([], []), ([], []), ([], []), ([2], [2]), ([0, 2, 3], []), ([4, 0, 3, 0, 2, 3], [0, 4]), ([0, 1, 2, 3, 4, 5], []), ([6, 1, 5, 0, 1, 2, 3, 4, 5], [1, 6])])
def impl_tree_stats.B12 : List Nat := [0, 0, 0, 4, 13, 29, 63, 127]
theorem impl_tree_stats.tab12 : rtab .any (opsOf Try.f28 12) = impl_tree_stats.T12 := by kernel_rfl
theorem impl_tree_stats.bits12 : waitsOk impl_tree_stats.T12.2 impl_tree_stats.B12 = true := by kernel_rfl
set_option maxHeartbeats 8000000 in
set_option maxRecDepth 100000 in
theorem impl_tree_stats.calls (k : Nat) (g : Nat) (s0_0 : List (S57)) (s0_1 : List Int) (a1_0 : Int) (a1_1 : Int) (a1_2 : Int) (a2 : Int) (r1 : Int) (r2 : Bool) (r3 : Int) (r4 : ByteArray) (r5 : Int) (r6 : ByteArray) (r7 : Bool) (w0 w : World) (hI : IsS85 w0 w g s0_0 s0_1) (hB : Below w0.heap.size w0 w) (h : impl_tree_stats.f k s0_0 s0_1 a1_0 a1_1 a1_2 a2 = some (r1, r2, r3, r4, r5, r6, r7)) :
    Calls Try.prog 28 #[.pointer (some ⟨g, 0, none⟩), .agg #[.int .i64 a1_0, .int .i64 a1_1, .int .i64 a1_2], .int .i64 a2] w fun e w' => e = .returned (.tuple #[.agg #[.int .i64 r1, .bool r2, .int .i64 r3, .string r4, .int .i64 r5, .string r6], .bool r7]) ∧ IsS85 w0 w' g s0_0 s0_1 ∧ Below w0.heap.size w0 w' ∧ KeepBut w w' g none := by
  have hu32 := Try.underlying32
  have hu29 := Try.underlying29
  have hu57 := Try.underlying57
  have hu27 := Try.underlying27
  have HI0 := Aside0.mk hI
  have HK := Aside0.mk (KeepBut.refl w g none)
  have HL := Aside0.mk hB.size
  clear hI
  have HW0 := Aside0.mk hB.size
  have HB := Aside0.mk hB
  clear hB
  have H : ((impl_tree_num.f k s0_0 s0_1 a2 3).bind fun bt522 => (if bt522.2 = true then ((impl_LeafOk.f a1_0 a1_1 a1_2).bind fun t524 => (impl_tree_stats.j0 k a2 bt522.1 (!t524) s0_0 s0_1 a1_0 a1_1 a1_2)) else (impl_tree_stats.j0 k a2 bt522.1 true s0_0 s0_1 a1_0 a1_1 a1_2))) = some (r1, r2, r3, r4, r5, r6, r7) := h
  clear h
  replace H := Option.bind_eq_some_iff.mp H
  obtain ⟨⟨t522, t523⟩, A40, H⟩ := H
  replace H : (if t523 = true then ((impl_LeafOk.f a1_0 a1_1 a1_2).bind fun t524 => (impl_tree_stats.j0 k a2 t522 (!t524) s0_0 s0_1 a1_0 a1_1 a1_2)) else (impl_tree_stats.j0 k a2 t522 true s0_0 s0_1 a1_0 a1_1 a1_2)) = some (r1, r2, r3, r4, r5, r6, r7) := H
  have A4 := Aside0.mk A40
  clear A40
  have HC5 := Aside0.mk H
  clear H
  go_enter Try.func28, Try.ntmps28
  go_upto_region 2 with (first | ((with_reducible refine gate_dst (N := 4) rfl ?_); refine bx_ 4 #[.int .i64 a1_0, .int .i64 a1_1, .int .i64 a1_2] 32 ?_; intro gb520 hg w6 hbox hb; have BK520 := Aside0.mk (hbox); have GW520 := Aside0.mk ((by rw [hg]; exact (keep_size (w := w) (g := g) (row := none) (by repeat (first | (with_reducible first | exact HK.out | apply KeepBut.set_ | apply keep_drewN | apply keep_drew | apply keep_alloc) | exact HK.out))) : w.heap.size ≤ gb520)); have GE520 := Aside0.mk ((Nat.le_trans HW0.out (by rw [hg]; exact (keep_size (w := w) (g := g) (row := none) (by repeat (first | (with_reducible first | exact HK.out | apply KeepBut.set_ | apply keep_drewN | apply keep_drew | apply keep_alloc) | exact HK.out))) : w.heap.size ≤ gb520) : w0.heap.size ≤ gb520)); have NB0_520 := Aside0.mk ((by rw [hg]; exact Nat.ne_of_lt (IsS85.lt (show IsS85 w0 _ g s0_0 s0_1 from by repeat (first | (with_reducible first | exact HI0.out | apply IsS85.alloc | apply IsS85.drewN | apply IsS85.drew) | exact HI0.out))) : g ≠ gb520)); have NB520_0 := Aside0.mk ((by rw [hg]; exact Nat.ne_of_gt (IsS85.lt (show IsS85 w0 _ g s0_0 s0_1 from by repeat (first | (with_reducible first | exact HI0.out | apply IsS85.alloc | apply IsS85.drewN | apply IsS85.drew) | exact HI0.out))) : gb520 ≠ g)); replace HK := Aside0.mk (KeepBut.trans (by repeat (first | (with_reducible first | exact HK.out | apply KeepBut.set_ | apply keep_drewN | apply keep_drew | apply keep_alloc) | exact HK.out)) (KeepBut.of_below hb g none) (.inl rfl)); replace HB := Aside0.mk (below_step (by repeat (first | (with_reducible first | exact HB.out | apply below_alloc | apply pw_below_drewN | apply below_drew1 | refine below_set ?_ (IsS85.ge HI0.out)) | exact HB.out)) hb); replace HI0 := Aside0.mk (IsS85.below (by repeat (first | (with_reducible first | exact HI0.out | apply IsS85.alloc | apply IsS85.drewN | apply IsS85.drew) | exact HI0.out)) hb); clear hb hbox hg) | ((with_reducible refine gate_dst (N := 6) rfl ?_); refine bx_ 6 #[.int .i64 0, .bool false, .int .i64 0, .string (⟨#[]⟩ : ByteArray), .int .i64 0, .string (⟨#[]⟩ : ByteArray)] 29 ?_; intro gb521 hg w7 hbox hb; have BK521 := Aside0.mk (hbox); have GW521 := Aside0.mk ((by rw [hg]; exact (keep_size (w := w) (g := g) (row := none) (keep_later HK.out)) : w.heap.size ≤ gb521)); have GE521 := Aside0.mk ((Nat.le_trans HW0.out (by rw [hg]; exact (keep_size (w := w) (g := g) (row := none) (keep_later HK.out)) : w.heap.size ≤ gb521) : w0.heap.size ≤ gb521)); have NB520_521 := nbl BK520 hg; have NB521_520 := nbr (nbl BK520 hg); have NB0_521 := Aside0.mk ((by rw [hg]; exact Nat.ne_of_lt (IsS85.lt (show IsS85 w0 _ g s0_0 s0_1 from by repeat (first | (with_reducible first | exact HI0.out | apply IsS85.alloc | apply IsS85.drewN | apply IsS85.drew | refine IsS85.far ?_ (Aside0.out (by with_reducible assumption)) _) | exact HI0.out))) : g ≠ gb521)); have NB521_0 := Aside0.mk ((by rw [hg]; exact Nat.ne_of_gt (IsS85.lt (show IsS85 w0 _ g s0_0 s0_1 from by repeat (first | (with_reducible first | exact HI0.out | apply IsS85.alloc | apply IsS85.drewN | apply IsS85.drew | refine IsS85.far ?_ (Aside0.out (by with_reducible assumption)) _) | exact HI0.out))) : gb521 ≠ g)); replace BK520 := bkb BK520 hb; replace HK := Aside0.mk (KeepBut.trans (keep_later HK.out) (KeepBut.of_below hb g none) (.inl rfl)); replace HB := Aside0.mk (below_step (by repeat (first | (with_reducible first | exact HB.out | apply below_alloc | apply pw_below_drewN | apply below_drew1 | refine below_set ?_ (IsS85.ge HI0.out) | refine below_set ?_ GE520.out) | exact HB.out)) hb); replace HI0 := Aside0.mk (IsS85.below (by repeat (first | (with_reducible first | exact HI0.out | apply IsS85.alloc | apply IsS85.drewN | apply IsS85.drew | refine IsS85.far ?_ (Aside0.out (by with_reducible assumption)) _) | exact HI0.out)) hb); clear hb hbox hg) | ((with_reducible refine gate_callee (f := 50) rfl ?_); refine gl_ (some 22) Try.func50 #[.pointer (some ⟨g, 0, none⟩), .int .i64 a2, .int .i64 3] rfl ?_; (with_reducible refine (impl_tree_num.calls k g s0_0 s0_1 a2 3 t522 t523 w0 _ ?side1 ?side2 A4.out).mono ?_); (case side1 => repeat (first | (with_reducible first | exact HI0.out | apply IsS85.alloc | apply IsS85.drewN | apply IsS85.drew | refine IsS85.far ?_ (Aside0.out (by with_reducible assumption)) _) | exact HI0.out)); (case side2 => repeat (first | (with_reducible first | exact HB.out | apply below_alloc | apply pw_below_drewN | apply below_drew1 | refine below_set ?_ (IsS85.ge HI0.out) | refine below_set ?_ GE520.out | refine below_set ?_ GE521.out) | exact HB.out)); rintro e w8 ⟨rfl, hi, hb, hk⟩; refine ⟨_, rfl, ?_⟩; replace BK520 := Aside0.mk (KeepBut.blk hk (g' := gb520) (o := .cells #[.int .i64 a1_0, .int .i64 a1_1, .int .i64 a1_2] 32 (0, 0)) (blk_later BK520.out) NB520_0.out (by simp)); replace BK521 := Aside0.mk (KeepBut.blk hk (g' := gb521) (o := .cells #[.int .i64 0, .bool false, .int .i64 0, .string (⟨#[]⟩ : ByteArray), .int .i64 0, .string (⟨#[]⟩ : ByteArray)] 29 (0, 0)) (blk_later BK521.out) NB521_0.out (by simp)); replace HK := Aside0.mk (KeepBut.trans (keep_later HK.out) hk (.inl rfl)); replace HB := Aside0.mk (hb); replace HI0 := Aside0.mk (hi); (try clear hb); (try clear hk); (try clear hi)))
  (try simp only [Act.put, List.setIfInBounds_toArray, List.set_cons_zero, List.set_cons_succ])
  go_cut [31] (fun v31 wc => ∃ (kq : Nat) (x31_4 : Bool), v31 = .bool x31_4 ∧ Aside0 (impl_tree_stats.j0 kq a2 t522 x31_4 s0_0 s0_1 a1_0 a1_1 a1_2 = some (r1, r2, r3, r4, r5, r6, r7)) ∧ Aside0 (kq ≤ k) ∧ Aside0 (wc.heap[gb520]? = some (.cells #[.int .i64 a1_0, .int .i64 a1_1, .int .i64 a1_2] 32 (0, 0))) ∧ Aside0 (wc.heap[gb521]? = some (.cells #[.int .i64 0, .bool false, .int .i64 0, .string (⟨#[]⟩ : ByteArray), .int .i64 0, .string (⟨#[]⟩ : ByteArray)] 29 (0, 0))) ∧ Aside0 (IsS85 w0 wc g s0_0 s0_1) ∧ Aside0 (KeepBut w wc g none) ∧ Aside0 (Below w0.heap.size w0 wc))
  case first =>
    have H := HC5.out
    clear HC5
    by_cases c9 : t523 = true
    · subst c9
      replace H := ifp rfl H
      replace H := bnd H
      obtain ⟨t524, A10, H⟩ := H
      have H' := Aside0.mk H
      clear H
      have hnb11 := NB520_521.out
      have hnc11 := NB521_520.out
      have hnb12 := NB520_0.out
      have hnc12 := NB0_520.out
      obtain ⟨hcz13_0, hcz13_1, hcz13_2, hfz13_0, hfz13_1, hfz13_2⟩ := cl3 BK520
      go_wp2_with (first | (go_at_call 51; (with_reducible refine (impl_LeafOk.calls a1_0 a1_1 a1_2 t524 _ A10.out).mono ?_); rintro e w14 ⟨rfl, hb⟩; replace BK520 := bkb BK520 hb; replace BK521 := bkb BK521 hb; replace HK := Aside0.mk (KeepBut.trans (keep_later HK.out) (KeepBut.of_below hb g none) (.inl rfl)); replace HB := Aside0.mk (below_step (by repeat (first | (with_reducible first | exact HB.out | apply below_alloc | apply pw_below_drewN | apply below_drew1 | refine below_set ?_ (IsS85.ge HI0.out) | refine below_set ?_ GE520.out | refine below_set ?_ GE521.out) | exact HB.out)) hb); replace HI0 := Aside0.mk (IsS85.below (by repeat (first | (with_reducible first | exact HI0.out | apply IsS85.alloc | apply IsS85.drewN | apply IsS85.drew | refine IsS85.far ?_ (Aside0.out (by with_reducible assumption)) _) | exact HI0.out)) hb); (try clear hb)))
      go_meet
      case rel => exact ⟨_, (!t524), sr, H', ⟨by first | omega | exact Nat.le_refl _⟩, ⟨blk_later BK520.out⟩, ⟨blk_later BK521.out⟩, ⟨by repeat (first | (with_reducible first | exact HI0.out | apply IsS85.alloc | apply IsS85.drewN | apply IsS85.drew | refine IsS85.far ?_ (Aside0.out (by with_reducible assumption)) _) | exact HI0.out)⟩, ⟨keep_later HK.out⟩, ⟨by repeat (first | (with_reducible first | exact HB.out | apply below_alloc | apply pw_below_drewN | apply below_drew1 | refine below_set ?_ (IsS85.ge HI0.out) | refine below_set ?_ GE520.out | refine below_set ?_ GE521.out) | exact HB.out)⟩⟩
    · replace c9 := Bool.eq_false_iff.mpr c9
      subst c9
      replace H := ifn Bool.false_ne_true H
      have H' := Aside0.mk H
      clear H
      go_wp2
      go_meet
      case rel => exact ⟨_, (true), sr, H', ⟨by first | omega | exact Nat.le_refl _⟩, ⟨blk_later BK520.out⟩, ⟨blk_later BK521.out⟩, ⟨by repeat (first | (with_reducible first | exact HI0.out | apply IsS85.alloc | apply IsS85.drewN | apply IsS85.drew | refine IsS85.far ?_ (Aside0.out (by with_reducible assumption)) _) | exact HI0.out)⟩, ⟨keep_later HK.out⟩, ⟨by repeat (first | (with_reducible first | exact HB.out | apply below_alloc | apply pw_below_drewN | apply below_drew1 | refine below_set ?_ (IsS85.ge HI0.out) | refine below_set ?_ GE520.out | refine below_set ?_ GE521.out) | exact HB.out)⟩⟩
  case rest =>
    clear HC5
    obtain ⟨kq, x31_4, rfl, HA, HJ4, BK520, BK521, HI0, HK, HB⟩ := hcut
    cases kq with
    | zero => exact absurd HA.out (by simp [impl_tree_stats.j0])
    | succ kj4 =>
      have H := HA.out
      clear HA
      simp only [impl_tree_stats.j0] at H
      by_cases c15 : x31_4 = true
      · subst c15
        replace H := ifp rfl H
        simp only [Option.some.injEq, Prod.mk.injEq] at H
        obtain ⟨rfl, rfl, rfl, rfl, rfl, rfl, rfl⟩ := H
        have hnb16 := NB521_520.out
        have hnc16 := NB520_521.out
        have hnb17 := NB521_0.out
        have hnc17 := NB0_521.out
        obtain ⟨hcz18_0, hcz18_1, hcz18_2, hcz18_3, hcz18_4, hcz18_5, hfz18_0, hfz18_1, hfz18_2, hfz18_3, hfz18_4, hfz18_5⟩ := cl6 BK521
        go_wp2
        refine bodyPost_ret (results_ct rfl _ _ gb521 29 #[.int .i64 0, .bool false, .int .i64 0, .string (⟨#[]⟩ : ByteArray), .int .i64 0, .string (⟨#[]⟩ : ByteArray)] (0, 0) _ rfl (by (with_reducible repeat (first | refine blk_drewN ?_ _ | refine blk_drew ?_ | refine blk_alloc ?_ _)); refine blk_put (cs := #[.int .i64 0, .bool false, .int .i64 0, .string (⟨#[]⟩ : ByteArray), .int .i64 0, .string (⟨#[]⟩ : ByteArray)]) ?_ 5 _ rfl; (with_reducible repeat (first | refine blk_drewN ?_ _ | refine blk_drew ?_ | refine blk_alloc ?_ _)); refine blk_put (cs := #[.int .i64 0, .bool false, .int .i64 0, .string (⟨#[]⟩ : ByteArray), .int .i64 0, .string (⟨#[]⟩ : ByteArray)]) ?_ 4 _ rfl; (with_reducible repeat (first | refine blk_drewN ?_ _ | refine blk_drew ?_ | refine blk_alloc ?_ _)); refine blk_put (cs := #[.int .i64 0, .bool false, .int .i64 0, .string (⟨#[]⟩ : ByteArray), .int .i64 0, .string (⟨#[]⟩ : ByteArray)]) ?_ 3 _ rfl; (with_reducible repeat (first | refine blk_drewN ?_ _ | refine blk_drew ?_ | refine blk_alloc ?_ _)); refine blk_put (cs := #[.int .i64 0, .bool false, .int .i64 0, .string (⟨#[]⟩ : ByteArray), .int .i64 0, .string (⟨#[]⟩ : ByteArray)]) ?_ 2 _ rfl; (with_reducible repeat (first | refine blk_drewN ?_ _ | refine blk_drew ?_ | refine blk_alloc ?_ _)); refine blk_put (cs := #[.int .i64 0, .bool false, .int .i64 0, .string (⟨#[]⟩ : ByteArray), .int .i64 0, .string (⟨#[]⟩ : ByteArray)]) ?_ 1 _ rfl; (with_reducible repeat (first | refine blk_drewN ?_ _ | refine blk_drew ?_ | refine blk_alloc ?_ _)); refine blk_put (cs := #[.int .i64 0, .bool false, .int .i64 0, .string (⟨#[]⟩ : ByteArray), .int .i64 0, .string (⟨#[]⟩ : ByteArray)]) ?_ 0 _ rfl; (with_reducible repeat (first | refine blk_drewN ?_ _ | refine blk_drew ?_ | refine blk_alloc ?_ _)); exact BK521.out) Try.underlying29 rfl (by kernel_rfl)) rfl ?_
        exact ⟨by first | rfl | (simp [errW_none, errW_some] <;> rfl) | (simp [*, errW_none, errW_some] <;> rfl), by repeat (first | (with_reducible first | exact HI0.out | apply IsS85.alloc | apply IsS85.drewN | apply IsS85.drew | refine IsS85.far ?_ (Aside0.out (by with_reducible assumption)) _) | exact HI0.out), by repeat (first | (with_reducible first | exact HB.out | apply below_alloc | apply pw_below_drewN | apply below_drew1 | refine below_set ?_ (IsS85.ge HI0.out) | refine below_set ?_ GE520.out | refine below_set ?_ GE521.out) | exact HB.out), keep_later HK.out⟩
      · replace c15 := Bool.eq_false_iff.mpr c15
        subst c15
        replace H := ifn Bool.false_ne_true H
        have HC19 := Aside0.mk H
        clear H
        go_upto_region 5 with (first | ((with_reducible refine gate_dst (N := 10) rfl ?_); refine bx_ 10 #[.int .i64 0, .bool false, .int .i64 0, .string (⟨#[]⟩ : ByteArray), .int .i64 0, .string (⟨#[]⟩ : ByteArray)] 29 ?_; intro gb525 hg w20 hbox hb; have BK525 := Aside0.mk (hbox); have GW525 := Aside0.mk ((by rw [hg]; exact (keep_size (w := w) (g := g) (row := none) (keep_later HK.out)) : w.heap.size ≤ gb525)); have GE525 := Aside0.mk ((Nat.le_trans HW0.out (by rw [hg]; exact (keep_size (w := w) (g := g) (row := none) (keep_later HK.out)) : w.heap.size ≤ gb525) : w0.heap.size ≤ gb525)); have NB520_525 := nbl BK520 hg; have NB525_520 := nbr (nbl BK520 hg); have NB521_525 := nbl BK521 hg; have NB525_521 := nbr (nbl BK521 hg); have NB0_525 := Aside0.mk ((by rw [hg]; exact Nat.ne_of_lt (IsS85.lt (show IsS85 w0 _ g s0_0 s0_1 from by repeat (first | (with_reducible first | exact HI0.out | apply IsS85.alloc | apply IsS85.drewN | apply IsS85.drew | refine IsS85.far ?_ (Aside0.out (by with_reducible assumption)) _) | exact HI0.out))) : g ≠ gb525)); have NB525_0 := Aside0.mk ((by rw [hg]; exact Nat.ne_of_gt (IsS85.lt (show IsS85 w0 _ g s0_0 s0_1 from by repeat (first | (with_reducible first | exact HI0.out | apply IsS85.alloc | apply IsS85.drewN | apply IsS85.drew | refine IsS85.far ?_ (Aside0.out (by with_reducible assumption)) _) | exact HI0.out))) : gb525 ≠ g)); replace BK520 := bkb BK520 hb; replace BK521 := bkb BK521 hb; replace HK := Aside0.mk (KeepBut.trans (keep_later HK.out) (KeepBut.of_below hb g none) (.inl rfl)); replace HB := Aside0.mk (below_step (by repeat (first | (with_reducible first | exact HB.out | apply below_alloc | apply pw_below_drewN | apply below_drew1 | refine below_set ?_ (IsS85.ge HI0.out) | refine below_set ?_ GE520.out | refine below_set ?_ GE521.out) | exact HB.out)) hb); replace HI0 := Aside0.mk (IsS85.below (by repeat (first | (with_reducible first | exact HI0.out | apply IsS85.alloc | apply IsS85.drewN | apply IsS85.drew | refine IsS85.far ?_ (Aside0.out (by with_reducible assumption)) _) | exact HI0.out)) hb); clear hb hbox hg; have hnb21 := NB525_520.out; have hnc21 := NB520_525.out; have hnb22 := NB525_521.out; have hnc22 := NB521_525.out; have hnb23 := NB525_0.out; have hnc23 := NB0_525.out; obtain ⟨hcz24_0, hcz24_1, hcz24_2, hcz24_3, hcz24_4, hcz24_5, hfz24_0, hfz24_1, hfz24_2, hfz24_3, hfz24_4, hfz24_5⟩ := cl6 BK525))
        (try simp only [Act.put, List.setIfInBounds_toArray, List.set_cons_zero, List.set_cons_succ])
        go_cut [44] (fun v44 wc => ∃ (kq : Nat) (x44_18 : Bool), v44 = .bool x44_18 ∧ Aside0 (impl_tree_stats.j1 kq a2 x44_18 s0_0 s0_1 a1_0 a1_1 a1_2 t522 false 0 (⟨#[]⟩ : ByteArray) 0 (⟨#[]⟩ : ByteArray) = some (r1, r2, r3, r4, r5, r6, r7)) ∧ Aside0 (kq ≤ kj4) ∧ Aside0 (wc.heap[gb520]? = some (.cells #[.int .i64 a1_0, .int .i64 a1_1, .int .i64 a1_2] 32 (0, 0))) ∧ Aside0 (wc.heap[gb521]? = some (.cells #[.int .i64 0, .bool false, .int .i64 0, .string (⟨#[]⟩ : ByteArray), .int .i64 0, .string (⟨#[]⟩ : ByteArray)] 29 (0, 0))) ∧ Aside0 (wc.heap[gb525]? = some (.cells #[.int .i64 t522, .bool false, .int .i64 0, .string (⟨#[]⟩ : ByteArray), .int .i64 0, .string (⟨#[]⟩ : ByteArray)] 29 (0, 0))) ∧ Aside0 (IsS85 w0 wc g s0_0 s0_1) ∧ Aside0 (KeepBut w wc g none) ∧ Aside0 (Below w0.heap.size w0 wc))
        case first =>
          have H := HC19.out
          clear HC19
          replace H := bnd H
          obtain ⟨t526, A25, H⟩ := H
          by_cases c26 : t526 ≥ 0
          · rw [if_pos c26] at H
            have c26b0 : decide (0 ≤ t526) = true := decide_eq_true c26
            clear c26
            (first | rw [c26b0] | (simp only [i64_w, i32_w]; rw [c26b0]) | skip)
            have H' := Aside0.mk H
            clear H
            go_wp2_with (first | ((with_reducible refine gate_callee (f := 52) rfl ?_); refine gl_ (some 37) Try.func52 #[.pointer (some ⟨g, 0, none⟩), .int .i64 a2, .int .i64 5] rfl ?_; (with_reducible refine (impl_tree_find.calls kj4 g s0_0 s0_1 a2 5 t526 w0 _ ?side1 ?side2 A25.out).mono ?_); (case side1 => repeat (first | (with_reducible first | exact HI0.out | apply IsS85.alloc | apply IsS85.drewN | apply IsS85.drew | refine IsS85.far ?_ (Aside0.out (by with_reducible assumption)) _) | exact HI0.out)); (case side2 => repeat (first | (with_reducible first | exact HB.out | apply below_alloc | apply pw_below_drewN | apply below_drew1 | refine below_set ?_ (IsS85.ge HI0.out) | refine below_set ?_ GE520.out | refine below_set ?_ GE521.out | refine below_set ?_ GE525.out) | exact HB.out)); rintro e w27 ⟨rfl, hi, hb, hk⟩; refine ⟨_, rfl, ?_⟩; replace BK520 := Aside0.mk (KeepBut.blk hk (g' := gb520) (o := .cells #[.int .i64 a1_0, .int .i64 a1_1, .int .i64 a1_2] 32 (0, 0)) (blk_later BK520.out) NB520_0.out (by simp)); replace BK521 := Aside0.mk (KeepBut.blk hk (g' := gb521) (o := .cells #[.int .i64 0, .bool false, .int .i64 0, .string (⟨#[]⟩ : ByteArray), .int .i64 0, .string (⟨#[]⟩ : ByteArray)] 29 (0, 0)) (blk_later BK521.out) NB521_0.out (by simp)); replace BK525 := Aside0.mk (KeepBut.blk hk (g' := gb525) (o := .cells #[.int .i64 t522, .bool false, .int .i64 0, .string (⟨#[]⟩ : ByteArray), .int .i64 0, .string (⟨#[]⟩ : ByteArray)] 29 (0, 0)) (blk_later BK525.out) NB525_0.out (by simp)); replace HK := Aside0.mk (KeepBut.trans (keep_later HK.out) hk (.inl rfl)); replace HB := Aside0.mk (hb); replace HI0 := Aside0.mk (hi); (try clear hb); (try clear hk); (try clear hi)))
            go_meet
            case rel => exact ⟨_, (true), sr, H', ⟨by have := HJ4.out; first | omega | exact Nat.le_refl _⟩, ⟨blk_later BK520.out⟩, ⟨blk_later BK521.out⟩, ⟨blk_later BK525.out⟩, ⟨by repeat (first | (with_reducible first | exact HI0.out | apply IsS85.alloc | apply IsS85.drewN | apply IsS85.drew | refine IsS85.far ?_ (Aside0.out (by with_reducible assumption)) _) | exact HI0.out)⟩, ⟨keep_later HK.out⟩, ⟨by repeat (first | (with_reducible first | exact HB.out | apply below_alloc | apply pw_below_drewN | apply below_drew1 | refine below_set ?_ (IsS85.ge HI0.out) | refine below_set ?_ GE520.out | refine below_set ?_ GE521.out | refine below_set ?_ GE525.out) | exact HB.out)⟩⟩
          · rw [if_neg c26] at H
            have c26b0 : decide (0 ≤ t526) = false := decide_eq_false c26
            clear c26
            (first | rw [c26b0] | (simp only [i64_w, i32_w]; rw [c26b0]) | skip)
            replace H := bnd H
            obtain ⟨t527, A28, H⟩ := H
            have H' := Aside0.mk H
            clear H
            go_wp2_with (first | ((with_reducible refine gate_callee (f := 52) rfl ?_); refine gl_ (some 37) Try.func52 #[.pointer (some ⟨g, 0, none⟩), .int .i64 a2, .int .i64 5] rfl ?_; (with_reducible refine (impl_tree_find.calls kj4 g s0_0 s0_1 a2 5 t526 w0 _ ?side1 ?side2 A25.out).mono ?_); (case side1 => repeat (first | (with_reducible first | exact HI0.out | apply IsS85.alloc | apply IsS85.drewN | apply IsS85.drew | refine IsS85.far ?_ (Aside0.out (by with_reducible assumption)) _) | exact HI0.out)); (case side2 => repeat (first | (with_reducible first | exact HB.out | apply below_alloc | apply pw_below_drewN | apply below_drew1 | refine below_set ?_ (IsS85.ge HI0.out) | refine below_set ?_ GE520.out | refine below_set ?_ GE521.out | refine below_set ?_ GE525.out) | exact HB.out)); rintro e w29 ⟨rfl, hi, hb, hk⟩; refine ⟨_, rfl, ?_⟩; replace BK520 := Aside0.mk (KeepBut.blk hk (g' := gb520) (o := .cells #[.int .i64 a1_0, .int .i64 a1_1, .int .i64 a1_2] 32 (0, 0)) (blk_later BK520.out) NB520_0.out (by simp)); replace BK521 := Aside0.mk (KeepBut.blk hk (g' := gb521) (o := .cells #[.int .i64 0, .bool false, .int .i64 0, .string (⟨#[]⟩ : ByteArray), .int .i64 0, .string (⟨#[]⟩ : ByteArray)] 29 (0, 0)) (blk_later BK521.out) NB521_0.out (by simp)); replace BK525 := Aside0.mk (KeepBut.blk hk (g' := gb525) (o := .cells #[.int .i64 t522, .bool false, .int .i64 0, .string (⟨#[]⟩ : ByteArray), .int .i64 0, .string (⟨#[]⟩ : ByteArray)] 29 (0, 0)) (blk_later BK525.out) NB525_0.out (by simp)); replace HK := Aside0.mk (KeepBut.trans (keep_later HK.out) hk (.inl rfl)); replace HB := Aside0.mk (hb); replace HI0 := Aside0.mk (hi); (try clear hb); (try clear hk); (try clear hi)) | (go_at_call 52; (with_reducible refine (impl_tree_find.calls kj4 g s0_0 s0_1 a2 6 t527 w0 _ ?side1 ?side2 A28.out).mono ?_); (case side1 => repeat (first | (with_reducible first | exact HI0.out | apply IsS85.alloc | apply IsS85.drewN | apply IsS85.drew | refine IsS85.far ?_ (Aside0.out (by with_reducible assumption)) _) | exact HI0.out)); (case side2 => repeat (first | (with_reducible first | exact HB.out | apply below_alloc | apply pw_below_drewN | apply below_drew1 | refine below_set ?_ (IsS85.ge HI0.out) | refine below_set ?_ GE520.out | refine below_set ?_ GE521.out | refine below_set ?_ GE525.out) | exact HB.out)); rintro e w30 ⟨rfl, hi, hb, hk⟩; replace BK520 := Aside0.mk (KeepBut.blk hk (g' := gb520) (o := .cells #[.int .i64 a1_0, .int .i64 a1_1, .int .i64 a1_2] 32 (0, 0)) (blk_later BK520.out) NB520_0.out (by simp)); replace BK521 := Aside0.mk (KeepBut.blk hk (g' := gb521) (o := .cells #[.int .i64 0, .bool false, .int .i64 0, .string (⟨#[]⟩ : ByteArray), .int .i64 0, .string (⟨#[]⟩ : ByteArray)] 29 (0, 0)) (blk_later BK521.out) NB521_0.out (by simp)); replace BK525 := Aside0.mk (KeepBut.blk hk (g' := gb525) (o := .cells #[.int .i64 t522, .bool false, .int .i64 0, .string (⟨#[]⟩ : ByteArray), .int .i64 0, .string (⟨#[]⟩ : ByteArray)] 29 (0, 0)) (blk_later BK525.out) NB525_0.out (by simp)); replace HK := Aside0.mk (KeepBut.trans (keep_later HK.out) hk (.inl rfl)); replace HB := Aside0.mk (hb); replace HI0 := Aside0.mk (hi); (try clear hb); (try clear hk); (try clear hi)))
            go_meet
            case rel => exact ⟨_, (decide (t527 ≥ 0)), sr, H', ⟨by have := HJ4.out; first | omega | exact Nat.le_refl _⟩, ⟨blk_later BK520.out⟩, ⟨blk_later BK521.out⟩, ⟨blk_later BK525.out⟩, ⟨by repeat (first | (with_reducible first | exact HI0.out | apply IsS85.alloc | apply IsS85.drewN | apply IsS85.drew | refine IsS85.far ?_ (Aside0.out (by with_reducible assumption)) _) | exact HI0.out)⟩, ⟨keep_later HK.out⟩, ⟨by repeat (first | (with_reducible first | exact HB.out | apply below_alloc | apply pw_below_drewN | apply below_drew1 | refine below_set ?_ (IsS85.ge HI0.out) | refine below_set ?_ GE520.out | refine below_set ?_ GE521.out | refine below_set ?_ GE525.out) | exact HB.out)⟩⟩
        case rest =>
          clear HC19
          try clear c15
          try clear hcz24_0
          try clear hcz24_1
          try clear hcz24_2
          try clear hcz24_3
          try clear hcz24_4
          try clear hcz24_5
          try clear hfz24_0
          try clear hfz24_1
          try clear hfz24_2
          try clear hfz24_3
          try clear hfz24_4
          try clear hfz24_5
          obtain ⟨kq, x44_18, rfl, HA, HJ18, BK520, BK521, BK525, HI0, HK, HB⟩ := hcut
          cases kq with
          | zero => exact absurd HA.out (by simp [impl_tree_stats.j1])
          | succ kj18 =>
            have H := HA.out
            clear HA
            simp only [impl_tree_stats.j1] at H
            by_cases c31 : x44_18 = true
            · subst c31
              replace H := ifp rfl H
              replace H := Option.bind_eq_some_iff.mp H
              obtain ⟨⟨t528, t529, t530, t531, t532, t533⟩, A320, H⟩ := H
              replace H : ((impl_tree_part.f kj18 s0_0 s0_1 a2 6 8).bind fun bt535 => ((impl_valueOf.f kj18 a1_0 t531).bind fun bt542 => ((impl_valueOf.f kj18 a1_0 bt535.2.2.2.1).bind fun bt546 => (if t533 = true then (if bt535.2.2.2.2.2 = true then (if bt542.2.2 = true then (impl_tree_stats.j2 kj18 (!bt546.2.2) a1_0 a1_1 a1_2 t522 false 0 (⟨#[]⟩ : ByteArray) 0 (⟨#[]⟩ : ByteArray) bt542.1 bt542.2.1 bt546.1 bt546.2.1) else (impl_tree_stats.j2 kj18 true a1_0 a1_1 a1_2 t522 false 0 (⟨#[]⟩ : ByteArray) 0 (⟨#[]⟩ : ByteArray) bt542.1 bt542.2.1 bt546.1 bt546.2.1)) else (impl_tree_stats.j2 kj18 true a1_0 a1_1 a1_2 t522 false 0 (⟨#[]⟩ : ByteArray) 0 (⟨#[]⟩ : ByteArray) bt542.1 bt542.2.1 bt546.1 bt546.2.1)) else (impl_tree_stats.j2 kj18 true a1_0 a1_1 a1_2 t522 false 0 (⟨#[]⟩ : ByteArray) 0 (⟨#[]⟩ : ByteArray) bt542.1 bt542.2.1 bt546.1 bt546.2.1))))) = some (r1, r2, r3, r4, r5, r6, r7) := H
              have A32 := Aside0.mk A320
              clear A320
              replace H := Option.bind_eq_some_iff.mp H
              obtain ⟨⟨t535, t536, t537, t538, t539, t540⟩, A330, H⟩ := H
              replace H : ((impl_valueOf.f kj18 a1_0 t531).bind fun bt542 => ((impl_valueOf.f kj18 a1_0 t538).bind fun bt546 => (if t533 = true then (if t540 = true then (if bt542.2.2 = true then (impl_tree_stats.j2 kj18 (!bt546.2.2) a1_0 a1_1 a1_2 t522 false 0 (⟨#[]⟩ : ByteArray) 0 (⟨#[]⟩ : ByteArray) bt542.1 bt542.2.1 bt546.1 bt546.2.1) else (impl_tree_stats.j2 kj18 true a1_0 a1_1 a1_2 t522 false 0 (⟨#[]⟩ : ByteArray) 0 (⟨#[]⟩ : ByteArray) bt542.1 bt542.2.1 bt546.1 bt546.2.1)) else (impl_tree_stats.j2 kj18 true a1_0 a1_1 a1_2 t522 false 0 (⟨#[]⟩ : ByteArray) 0 (⟨#[]⟩ : ByteArray) bt542.1 bt542.2.1 bt546.1 bt546.2.1)) else (impl_tree_stats.j2 kj18 true a1_0 a1_1 a1_2 t522 false 0 (⟨#[]⟩ : ByteArray) 0 (⟨#[]⟩ : ByteArray) bt542.1 bt542.2.1 bt546.1 bt546.2.1)))) = some (r1, r2, r3, r4, r5, r6, r7) := H
              have A33 := Aside0.mk A330
              clear A330
              replace H := Option.bind_eq_some_iff.mp H
              obtain ⟨⟨t542, t543, t544⟩, A340, H⟩ := H
              replace H : ((impl_valueOf.f kj18 a1_0 t538).bind fun bt546 => (if t533 = true then (if t540 = true then (if t544 = true then (impl_tree_stats.j2 kj18 (!bt546.2.2) a1_0 a1_1 a1_2 t522 false 0 (⟨#[]⟩ : ByteArray) 0 (⟨#[]⟩ : ByteArray) t542 t543 bt546.1 bt546.2.1) else (impl_tree_stats.j2 kj18 true a1_0 a1_1 a1_2 t522 false 0 (⟨#[]⟩ : ByteArray) 0 (⟨#[]⟩ : ByteArray) t542 t543 bt546.1 bt546.2.1)) else (impl_tree_stats.j2 kj18 true a1_0 a1_1 a1_2 t522 false 0 (⟨#[]⟩ : ByteArray) 0 (⟨#[]⟩ : ByteArray) t542 t543 bt546.1 bt546.2.1)) else (impl_tree_stats.j2 kj18 true a1_0 a1_1 a1_2 t522 false 0 (⟨#[]⟩ : ByteArray) 0 (⟨#[]⟩ : ByteArray) t542 t543 bt546.1 bt546.2.1))) = some (r1, r2, r3, r4, r5, r6, r7) := H
              have A34 := Aside0.mk A340
              clear A340
              replace H := Option.bind_eq_some_iff.mp H
              obtain ⟨⟨t546, t547, t548⟩, A350, H⟩ := H
              replace H : (if t533 = true then (if t540 = true then (if t544 = true then (impl_tree_stats.j2 kj18 (!t548) a1_0 a1_1 a1_2 t522 false 0 (⟨#[]⟩ : ByteArray) 0 (⟨#[]⟩ : ByteArray) t542 t543 t546 t547) else (impl_tree_stats.j2 kj18 true a1_0 a1_1 a1_2 t522 false 0 (⟨#[]⟩ : ByteArray) 0 (⟨#[]⟩ : ByteArray) t542 t543 t546 t547)) else (impl_tree_stats.j2 kj18 true a1_0 a1_1 a1_2 t522 false 0 (⟨#[]⟩ : ByteArray) 0 (⟨#[]⟩ : ByteArray) t542 t543 t546 t547)) else (impl_tree_stats.j2 kj18 true a1_0 a1_1 a1_2 t522 false 0 (⟨#[]⟩ : ByteArray) 0 (⟨#[]⟩ : ByteArray) t542 t543 t546 t547)) = some (r1, r2, r3, r4, r5, r6, r7) := H
              have A35 := Aside0.mk A350
              clear A350
              have HC36 := Aside0.mk H
              clear H
              go_upto_region 10 with (first | ((with_reducible refine gate_callee (f := 53) rfl ?_); refine gl_ (some 48) Try.func53 #[.pointer (some ⟨g, 0, none⟩), .int .i64 a2, .int .i64 5, .int .i64 8] rfl ?_; (with_reducible refine (impl_tree_part.calls kj18 g s0_0 s0_1 a2 5 8 t528 t529 t530 t531 t532 t533 w0 _ ?side1 ?side2 A32.out).mono ?_); (case side1 => repeat (first | (with_reducible first | exact HI0.out | apply IsS85.alloc | apply IsS85.drewN | apply IsS85.drew | refine IsS85.far ?_ (Aside0.out (by with_reducible assumption)) _) | exact HI0.out)); (case side2 => repeat (first | (with_reducible first | exact HB.out | apply below_alloc | apply pw_below_drewN | apply below_drew1 | refine below_set ?_ (IsS85.ge HI0.out) | refine below_set ?_ GE520.out | refine below_set ?_ GE521.out | refine below_set ?_ GE525.out) | exact HB.out)); rintro e w37 ⟨rfl, hi, hb, hk⟩; refine ⟨_, rfl, ?_⟩; replace BK520 := Aside0.mk (KeepBut.blk hk (g' := gb520) (o := .cells #[.int .i64 a1_0, .int .i64 a1_1, .int .i64 a1_2] 32 (0, 0)) (blk_later BK520.out) NB520_0.out (by simp)); replace BK521 := Aside0.mk (KeepBut.blk hk (g' := gb521) (o := .cells #[.int .i64 0, .bool false, .int .i64 0, .string (⟨#[]⟩ : ByteArray), .int .i64 0, .string (⟨#[]⟩ : ByteArray)] 29 (0, 0)) (blk_later BK521.out) NB521_0.out (by simp)); replace BK525 := Aside0.mk (KeepBut.blk hk (g' := gb525) (o := .cells #[.int .i64 t522, .bool false, .int .i64 0, .string (⟨#[]⟩ : ByteArray), .int .i64 0, .string (⟨#[]⟩ : ByteArray)] 29 (0, 0)) (blk_later BK525.out) NB525_0.out (by simp)); replace HK := Aside0.mk (KeepBut.trans (keep_later HK.out) hk (.inl rfl)); replace HB := Aside0.mk (hb); replace HI0 := Aside0.mk (hi); (try clear hb); (try clear hk); (try clear hi)) | ((with_reducible refine gate_dst (N := 11) rfl ?_); refine bx_ 11 #[.int .i64 0, .int .i64 0, .int .i64 0, .string (⟨#[]⟩ : ByteArray), .int .i64 0] 57 ?_; intro gb534 hg w38 hbox hb; have BK534 := Aside0.mk (hbox); have GW534 := Aside0.mk ((by rw [hg]; exact (keep_size (w := w) (g := g) (row := none) (keep_later HK.out)) : w.heap.size ≤ gb534)); have GE534 := Aside0.mk ((Nat.le_trans HW0.out (by rw [hg]; exact (keep_size (w := w) (g := g) (row := none) (keep_later HK.out)) : w.heap.size ≤ gb534) : w0.heap.size ≤ gb534)); have NB520_534 := nbl BK520 hg; have NB534_520 := nbr (nbl BK520 hg); have NB521_534 := nbl BK521 hg; have NB534_521 := nbr (nbl BK521 hg); have NB525_534 := nbl BK525 hg; have NB534_525 := nbr (nbl BK525 hg); have NB0_534 := Aside0.mk ((by rw [hg]; exact Nat.ne_of_lt (IsS85.lt (show IsS85 w0 _ g s0_0 s0_1 from by repeat (first | (with_reducible first | exact HI0.out | apply IsS85.alloc | apply IsS85.drewN | apply IsS85.drew | refine IsS85.far ?_ (Aside0.out (by with_reducible assumption)) _) | exact HI0.out))) : g ≠ gb534)); have NB534_0 := Aside0.mk ((by rw [hg]; exact Nat.ne_of_gt (IsS85.lt (show IsS85 w0 _ g s0_0 s0_1 from by repeat (first | (with_reducible first | exact HI0.out | apply IsS85.alloc | apply IsS85.drewN | apply IsS85.drew | refine IsS85.far ?_ (Aside0.out (by with_reducible assumption)) _) | exact HI0.out))) : gb534 ≠ g)); replace BK520 := bkb BK520 hb; replace BK521 := bkb BK521 hb; replace BK525 := bkb BK525 hb; replace HK := Aside0.mk (KeepBut.trans (keep_later HK.out) (KeepBut.of_below hb g none) (.inl rfl)); replace HB := Aside0.mk (below_step (by repeat (first | (with_reducible first | exact HB.out | apply below_alloc | apply pw_below_drewN | apply below_drew1 | refine below_set ?_ (IsS85.ge HI0.out) | refine below_set ?_ GE520.out | refine below_set ?_ GE521.out | refine below_set ?_ GE525.out) | exact HB.out)) hb); replace HI0 := Aside0.mk (IsS85.below (by repeat (first | (with_reducible first | exact HI0.out | apply IsS85.alloc | apply IsS85.drewN | apply IsS85.drew | refine IsS85.far ?_ (Aside0.out (by with_reducible assumption)) _) | exact HI0.out)) hb); clear hb hbox hg; have hnb39 := NB534_520.out; have hnc39 := NB520_534.out; have hnb40 := NB534_521.out; have hnc40 := NB521_534.out; have hnb41 := NB534_525.out; have hnc41 := NB525_534.out; have hnb42 := NB534_0.out; have hnc42 := NB0_534.out; obtain ⟨hcz43_0, hcz43_1, hcz43_2, hcz43_3, hcz43_4, hfz43_0, hfz43_1, hfz43_2, hfz43_3, hfz43_4⟩ := cl5 BK534) | ((with_reducible refine gate_callee (f := 53) rfl ?_); refine gl_ (some 54) Try.func53 #[.pointer (some ⟨g, 0, none⟩), .int .i64 a2, .int .i64 6, .int .i64 8] rfl ?_; (with_reducible refine (impl_tree_part.calls kj18 g s0_0 s0_1 a2 6 8 t535 t536 t537 t538 t539 t540 w0 _ ?side1 ?side2 A33.out).mono ?_); (case side1 => repeat (first | (with_reducible first | exact HI0.out | apply IsS85.alloc | apply IsS85.drewN | apply IsS85.drew | refine IsS85.far ?_ (Aside0.out (by with_reducible assumption)) _) | exact HI0.out)); (case side2 => repeat (first | (with_reducible first | exact HB.out | apply below_alloc | apply pw_below_drewN | apply below_drew1 | refine below_set ?_ (IsS85.ge HI0.out) | refine below_set ?_ GE520.out | refine below_set ?_ GE521.out | refine below_set ?_ GE525.out | refine below_set ?_ GE534.out) | exact HB.out)); rintro e w44 ⟨rfl, hi, hb, hk⟩; refine ⟨_, rfl, ?_⟩; replace BK520 := Aside0.mk (KeepBut.blk hk (g' := gb520) (o := .cells #[.int .i64 a1_0, .int .i64 a1_1, .int .i64 a1_2] 32 (0, 0)) (blk_later BK520.out) NB520_0.out (by simp)); replace BK521 := Aside0.mk (KeepBut.blk hk (g' := gb521) (o := .cells #[.int .i64 0, .bool false, .int .i64 0, .string (⟨#[]⟩ : ByteArray), .int .i64 0, .string (⟨#[]⟩ : ByteArray)] 29 (0, 0)) (blk_later BK521.out) NB521_0.out (by simp)); replace BK525 := Aside0.mk (KeepBut.blk hk (g' := gb525) (o := .cells #[.int .i64 t522, .bool false, .int .i64 0, .string (⟨#[]⟩ : ByteArray), .int .i64 0, .string (⟨#[]⟩ : ByteArray)] 29 (0, 0)) (blk_later BK525.out) NB525_0.out (by simp)); replace BK534 := Aside0.mk (KeepBut.blk hk (g' := gb534) (o := .cells #[.int .i64 t528, .int .i64 t529, .int .i64 t530, .string t531, .int .i64 t532] 57 (0, 0)) (blk_later BK534.out) NB534_0.out (by simp)); replace HK := Aside0.mk (KeepBut.trans (keep_later HK.out) hk (.inl rfl)); replace HB := Aside0.mk (hb); replace HI0 := Aside0.mk (hi); (try clear hb); (try clear hk); (try clear hi)) | ((with_reducible refine gate_dst (N := 13) rfl ?_); refine bx_ 13 #[.int .i64 0, .int .i64 0, .int .i64 0, .string (⟨#[]⟩ : ByteArray), .int .i64 0] 57 ?_; intro gb541 hg w45 hbox hb; have BK541 := Aside0.mk (hbox); have GW541 := Aside0.mk ((by rw [hg]; exact (keep_size (w := w) (g := g) (row := none) (keep_later HK.out)) : w.heap.size ≤ gb541)); have GE541 := Aside0.mk ((Nat.le_trans HW0.out (by rw [hg]; exact (keep_size (w := w) (g := g) (row := none) (keep_later HK.out)) : w.heap.size ≤ gb541) : w0.heap.size ≤ gb541)); have NB520_541 := nbl BK520 hg; have NB541_520 := nbr (nbl BK520 hg); have NB521_541 := nbl BK521 hg; have NB541_521 := nbr (nbl BK521 hg); have NB525_541 := nbl BK525 hg; have NB541_525 := nbr (nbl BK525 hg); have NB534_541 := nbl BK534 hg; have NB541_534 := nbr (nbl BK534 hg); have NB0_541 := Aside0.mk ((by rw [hg]; exact Nat.ne_of_lt (IsS85.lt (show IsS85 w0 _ g s0_0 s0_1 from by repeat (first | (with_reducible first | exact HI0.out | apply IsS85.alloc | apply IsS85.drewN | apply IsS85.drew | refine IsS85.far ?_ (Aside0.out (by with_reducible assumption)) _) | exact HI0.out))) : g ≠ gb541)); have NB541_0 := Aside0.mk ((by rw [hg]; exact Nat.ne_of_gt (IsS85.lt (show IsS85 w0 _ g s0_0 s0_1 from by repeat (first | (with_reducible first | exact HI0.out | apply IsS85.alloc | apply IsS85.drewN | apply IsS85.drew | refine IsS85.far ?_ (Aside0.out (by with_reducible assumption)) _) | exact HI0.out))) : gb541 ≠ g)); replace BK520 := bkb BK520 hb; replace BK521 := bkb BK521 hb; replace BK525 := bkb BK525 hb; replace BK534 := bkb BK534 hb; replace HK := Aside0.mk (KeepBut.trans (keep_later HK.out) (KeepBut.of_below hb g none) (.inl rfl)); replace HB := Aside0.mk (below_step (by repeat (first | (with_reducible first | exact HB.out | apply below_alloc | apply pw_below_drewN | apply below_drew1 | refine below_set ?_ (IsS85.ge HI0.out) | refine below_set ?_ GE520.out | refine below_set ?_ GE521.out | refine below_set ?_ GE525.out | refine below_set ?_ GE534.out) | exact HB.out)) hb); replace HI0 := Aside0.mk (IsS85.below (by repeat (first | (with_reducible first | exact HI0.out | apply IsS85.alloc | apply IsS85.drewN | apply IsS85.drew | refine IsS85.far ?_ (Aside0.out (by with_reducible assumption)) _) | exact HI0.out)) hb); clear hb hbox hg; have hnb46 := NB541_520.out; have hnc46 := NB520_541.out; have hnb47 := NB541_521.out; have hnc47 := NB521_541.out; have hnb48 := NB541_525.out; have hnc48 := NB525_541.out; have hnb49 := NB541_534.out; have hnc49 := NB534_541.out; have hnb50 := NB541_0.out; have hnc50 := NB0_541.out; obtain ⟨hcz51_0, hcz51_1, hcz51_2, hcz51_3, hcz51_4, hfz51_0, hfz51_1, hfz51_2, hfz51_3, hfz51_4⟩ := cl5 BK541; have hnb52 := NB520_521.out; have hnc52 := NB521_520.out; have hnb53 := NB520_525.out; have hnc53 := NB525_520.out; have hnb54 := NB520_0.out; have hnc54 := NB0_520.out; obtain ⟨hcz55_0, hcz55_1, hcz55_2, hfz55_0, hfz55_1, hfz55_2⟩ := cl3 BK520; obtain ⟨hcz56_0, hcz56_1, hcz56_2, hcz56_3, hcz56_4, hfz56_0, hfz56_1, hfz56_2, hfz56_3, hfz56_4⟩ := cl5 BK534) | ((with_reducible refine gate_callee (f := 54) rfl ?_); refine gl_ (some 62) Try.func54 #[.int .i64 a1_0, .string t531] rfl ?_; (with_reducible refine (impl_valueOf.calls kj18 a1_0 t531 t542 t543 t544 _ A34.out).mono ?_); rintro e w57 ⟨rfl, hb⟩; refine ⟨_, rfl, ?_⟩; replace BK520 := bkb BK520 hb; replace BK521 := bkb BK521 hb; replace BK525 := bkb BK525 hb; replace BK534 := bkb BK534 hb; replace BK541 := Aside0.mk (blk_below (g := gb541) (o := .cells #[.int .i64 t535, .int .i64 t536, .int .i64 t537, .string t538, .int .i64 t539] 57 (0, 0)) (blk_later BK541.out) hb); replace HK := Aside0.mk (KeepBut.trans (keep_later HK.out) (KeepBut.of_below hb g none) (.inl rfl)); replace HB := Aside0.mk (below_step (by repeat (first | (with_reducible first | exact HB.out | apply below_alloc | apply pw_below_drewN | apply below_drew1 | refine below_set ?_ (IsS85.ge HI0.out) | refine below_set ?_ GE520.out | refine below_set ?_ GE521.out | refine below_set ?_ GE525.out | refine below_set ?_ GE534.out | refine below_set ?_ GE541.out) | exact HB.out)) hb); replace HI0 := Aside0.mk (IsS85.below (show IsS85 w0 (((((w45.setCell ⟨gb541, 0, none⟩ (.int .i64 t535)).setCell ⟨gb541, 1, none⟩ (.int .i64 t536)).setCell ⟨gb541, 2, none⟩ (.int .i64 t537)).setCell ⟨gb541, 3, none⟩ (.string t538)).setCell ⟨gb541, 4, none⟩ (.int .i64 t539)) g s0_0 s0_1 from by repeat (first | (with_reducible first | exact HI0.out | apply IsS85.alloc | apply IsS85.drewN | apply IsS85.drew | refine IsS85.far ?_ (Aside0.out (by with_reducible assumption)) _) | exact HI0.out)) hb); (try clear hb); (try clear hk); (try clear hi)) | ((with_reducible refine gate_dst (N := 15) rfl ?_); refine bx_ 15 #[.int .i64 0, .string (⟨#[]⟩ : ByteArray)] 27 ?_; intro gb545 hg w58 hbox hb; have BK545 := Aside0.mk (hbox); have GW545 := Aside0.mk ((by rw [hg]; exact (keep_size (w := w) (g := g) (row := none) (keep_later HK.out)) : w.heap.size ≤ gb545)); have GE545 := Aside0.mk ((Nat.le_trans HW0.out (by rw [hg]; exact (keep_size (w := w) (g := g) (row := none) (keep_later HK.out)) : w.heap.size ≤ gb545) : w0.heap.size ≤ gb545)); have NB520_545 := nbl BK520 hg; have NB545_520 := nbr (nbl BK520 hg); have NB521_545 := nbl BK521 hg; have NB545_521 := nbr (nbl BK521 hg); have NB525_545 := nbl BK525 hg; have NB545_525 := nbr (nbl BK525 hg); have NB534_545 := nbl BK534 hg; have NB545_534 := nbr (nbl BK534 hg); have NB541_545 := nbl BK541 hg; have NB545_541 := nbr (nbl BK541 hg); have NB0_545 := Aside0.mk ((by rw [hg]; exact Nat.ne_of_lt (IsS85.lt (show IsS85 w0 _ g s0_0 s0_1 from by repeat (first | (with_reducible first | exact HI0.out | apply IsS85.alloc | apply IsS85.drewN | apply IsS85.drew | refine IsS85.far ?_ (Aside0.out (by with_reducible assumption)) _) | exact HI0.out))) : g ≠ gb545)); have NB545_0 := Aside0.mk ((by rw [hg]; exact Nat.ne_of_gt (IsS85.lt (show IsS85 w0 _ g s0_0 s0_1 from by repeat (first | (with_reducible first | exact HI0.out | apply IsS85.alloc | apply IsS85.drewN | apply IsS85.drew | refine IsS85.far ?_ (Aside0.out (by with_reducible assumption)) _) | exact HI0.out))) : gb545 ≠ g)); replace BK520 := bkb BK520 hb; replace BK521 := bkb BK521 hb; replace BK525 := bkb BK525 hb; replace BK534 := bkb BK534 hb; replace BK541 := bkb BK541 hb; replace HK := Aside0.mk (KeepBut.trans (keep_later HK.out) (KeepBut.of_below hb g none) (.inl rfl)); replace HB := Aside0.mk (below_step (by repeat (first | (with_reducible first | exact HB.out | apply below_alloc | apply pw_below_drewN | apply below_drew1 | refine below_set ?_ (IsS85.ge HI0.out) | refine below_set ?_ GE520.out | refine below_set ?_ GE521.out | refine below_set ?_ GE525.out | refine below_set ?_ GE534.out | refine below_set ?_ GE541.out) | exact HB.out)) hb); replace HI0 := Aside0.mk (IsS85.below (by repeat (first | (with_reducible first | exact HI0.out | apply IsS85.alloc | apply IsS85.drewN | apply IsS85.drew | refine IsS85.far ?_ (Aside0.out (by with_reducible assumption)) _) | exact HI0.out)) hb); clear hb hbox hg; have hnb59 := NB545_520.out; have hnc59 := NB520_545.out; have hnb60 := NB545_521.out; have hnc60 := NB521_545.out; have hnb61 := NB545_525.out; have hnc61 := NB525_545.out; have hnb62 := NB545_534.out; have hnc62 := NB534_545.out; have hnb63 := NB545_541.out; have hnc63 := NB541_545.out; have hnb64 := NB545_0.out; have hnc64 := NB0_545.out; obtain ⟨hcz65_0, hcz65_1, hfz65_0, hfz65_1⟩ := cl2 BK545; obtain ⟨hcz66_0, hcz66_1, hcz66_2, hfz66_0, hfz66_1, hfz66_2⟩ := cl3 BK520; obtain ⟨hcz67_0, hcz67_1, hcz67_2, hcz67_3, hcz67_4, hfz67_0, hfz67_1, hfz67_2, hfz67_3, hfz67_4⟩ := cl5 BK541) | ((with_reducible refine gate_callee (f := 54) rfl ?_); refine gl_ (some 70) Try.func54 #[.int .i64 a1_0, .string t538] rfl ?_; (with_reducible refine (impl_valueOf.calls kj18 a1_0 t538 t546 t547 t548 _ A35.out).mono ?_); rintro e w68 ⟨rfl, hb⟩; refine ⟨_, rfl, ?_⟩; replace BK520 := bkb BK520 hb; replace BK521 := bkb BK521 hb; replace BK525 := bkb BK525 hb; replace BK534 := bkb BK534 hb; replace BK541 := bkb BK541 hb; replace BK545 := Aside0.mk (blk_below (g := gb545) (o := .cells #[.int .i64 t542, .string t543] 27 (0, 0)) (blk_later BK545.out) hb); replace HK := Aside0.mk (KeepBut.trans (keep_later HK.out) (KeepBut.of_below hb g none) (.inl rfl)); replace HB := Aside0.mk (below_step (by repeat (first | (with_reducible first | exact HB.out | apply below_alloc | apply pw_below_drewN | apply below_drew1 | refine below_set ?_ (IsS85.ge HI0.out) | refine below_set ?_ GE520.out | refine below_set ?_ GE521.out | refine below_set ?_ GE525.out | refine below_set ?_ GE534.out | refine below_set ?_ GE541.out | refine below_set ?_ GE545.out) | exact HB.out)) hb); replace HI0 := Aside0.mk (IsS85.below (show IsS85 w0 ((w58.setCell ⟨gb545, 0, none⟩ (.int .i64 t542)).setCell ⟨gb545, 1, none⟩ (.string t543)) g s0_0 s0_1 from by repeat (first | (with_reducible first | exact HI0.out | apply IsS85.alloc | apply IsS85.drewN | apply IsS85.drew | refine IsS85.far ?_ (Aside0.out (by with_reducible assumption)) _) | exact HI0.out)) hb); (try clear hb); (try clear hk); (try clear hi)) | ((with_reducible refine gate_dst (N := 17) rfl ?_); refine bx_ 17 #[.int .i64 0, .string (⟨#[]⟩ : ByteArray)] 27 ?_; intro gb549 hg w69 hbox hb; have BK549 := Aside0.mk (hbox); have GW549 := Aside0.mk ((by rw [hg]; exact (keep_size (w := w) (g := g) (row := none) (keep_later HK.out)) : w.heap.size ≤ gb549)); have GE549 := Aside0.mk ((Nat.le_trans HW0.out (by rw [hg]; exact (keep_size (w := w) (g := g) (row := none) (keep_later HK.out)) : w.heap.size ≤ gb549) : w0.heap.size ≤ gb549)); have NB520_549 := nbl BK520 hg; have NB549_520 := nbr (nbl BK520 hg); have NB521_549 := nbl BK521 hg; have NB549_521 := nbr (nbl BK521 hg); have NB525_549 := nbl BK525 hg; have NB549_525 := nbr (nbl BK525 hg); have NB534_549 := nbl BK534 hg; have NB549_534 := nbr (nbl BK534 hg); have NB541_549 := nbl BK541 hg; have NB549_541 := nbr (nbl BK541 hg); have NB545_549 := nbl BK545 hg; have NB549_545 := nbr (nbl BK545 hg); have NB0_549 := Aside0.mk ((by rw [hg]; exact Nat.ne_of_lt (IsS85.lt (show IsS85 w0 _ g s0_0 s0_1 from by repeat (first | (with_reducible first | exact HI0.out | apply IsS85.alloc | apply IsS85.drewN | apply IsS85.drew | refine IsS85.far ?_ (Aside0.out (by with_reducible assumption)) _) | exact HI0.out))) : g ≠ gb549)); have NB549_0 := Aside0.mk ((by rw [hg]; exact Nat.ne_of_gt (IsS85.lt (show IsS85 w0 _ g s0_0 s0_1 from by repeat (first | (with_reducible first | exact HI0.out | apply IsS85.alloc | apply IsS85.drewN | apply IsS85.drew | refine IsS85.far ?_ (Aside0.out (by with_reducible assumption)) _) | exact HI0.out))) : gb549 ≠ g)); replace BK520 := bkb BK520 hb; replace BK521 := bkb BK521 hb; replace BK525 := bkb BK525 hb; replace BK534 := bkb BK534 hb; replace BK541 := bkb BK541 hb; replace BK545 := bkb BK545 hb; replace HK := Aside0.mk (KeepBut.trans (keep_later HK.out) (KeepBut.of_below hb g none) (.inl rfl)); replace HB := Aside0.mk (below_step (by repeat (first | (with_reducible first | exact HB.out | apply below_alloc | apply pw_below_drewN | apply below_drew1 | refine below_set ?_ (IsS85.ge HI0.out) | refine below_set ?_ GE520.out | refine below_set ?_ GE521.out | refine below_set ?_ GE525.out | refine below_set ?_ GE534.out | refine below_set ?_ GE541.out | refine below_set ?_ GE545.out) | exact HB.out)) hb); replace HI0 := Aside0.mk (IsS85.below (by repeat (first | (with_reducible first | exact HI0.out | apply IsS85.alloc | apply IsS85.drewN | apply IsS85.drew | refine IsS85.far ?_ (Aside0.out (by with_reducible assumption)) _) | exact HI0.out)) hb); clear hb hbox hg; have hnb70 := NB549_520.out; have hnc70 := NB520_549.out; have hnb71 := NB549_521.out; have hnc71 := NB521_549.out; have hnb72 := NB549_525.out; have hnc72 := NB525_549.out; have hnb73 := NB549_534.out; have hnc73 := NB534_549.out; have hnb74 := NB549_541.out; have hnc74 := NB541_549.out; have hnb75 := NB549_545.out; have hnc75 := NB545_549.out; have hnb76 := NB549_0.out; have hnc76 := NB0_549.out; obtain ⟨hcz77_0, hcz77_1, hfz77_0, hfz77_1⟩ := cl2 BK549))
              (try simp only [Act.put, List.setIfInBounds_toArray, List.set_cons_zero, List.set_cons_succ])
              go_cut [86] (fun v86 wc => ∃ (kq : Nat) (x86_35 : Bool), v86 = .bool x86_35 ∧ Aside0 (impl_tree_stats.j2 kq x86_35 a1_0 a1_1 a1_2 t522 false 0 (⟨#[]⟩ : ByteArray) 0 (⟨#[]⟩ : ByteArray) t542 t543 t546 t547 = some (r1, r2, r3, r4, r5, r6, r7)) ∧ Aside0 (kq ≤ kj18) ∧ Aside0 (wc.heap[gb520]? = some (.cells #[.int .i64 a1_0, .int .i64 a1_1, .int .i64 a1_2] 32 (0, 0))) ∧ Aside0 (wc.heap[gb521]? = some (.cells #[.int .i64 0, .bool false, .int .i64 0, .string (⟨#[]⟩ : ByteArray), .int .i64 0, .string (⟨#[]⟩ : ByteArray)] 29 (0, 0))) ∧ Aside0 (wc.heap[gb525]? = some (.cells #[.int .i64 t522, .bool false, .int .i64 0, .string (⟨#[]⟩ : ByteArray), .int .i64 0, .string (⟨#[]⟩ : ByteArray)] 29 (0, 0))) ∧ Aside0 (wc.heap[gb534]? = some (.cells #[.int .i64 t528, .int .i64 t529, .int .i64 t530, .string t531, .int .i64 t532] 57 (0, 0))) ∧ Aside0 (wc.heap[gb541]? = some (.cells #[.int .i64 t535, .int .i64 t536, .int .i64 t537, .string t538, .int .i64 t539] 57 (0, 0))) ∧ Aside0 (wc.heap[gb545]? = some (.cells #[.int .i64 t542, .string t543] 27 (0, 0))) ∧ Aside0 (wc.heap[gb549]? = some (.cells #[.int .i64 t546, .string t547] 27 (0, 0))) ∧ Aside0 (IsS85 w0 wc g s0_0 s0_1) ∧ Aside0 (KeepBut w wc g none) ∧ Aside0 (Below w0.heap.size w0 wc))
              case first =>
                have H := HC36.out
                clear HC36
                by_cases c78 : t533 = true
                · subst c78
                  replace H := ifp rfl H
                  by_cases c79 : t540 = true
                  · subst c79
                    replace H := ifp rfl H
                    by_cases c80 : t544 = true
                    · subst c80
                      replace H := ifp rfl H
                      have H' := Aside0.mk H
                      clear H
                      go_wp2
                      go_meet
                      case rel => exact ⟨_, (!t548), sr, H', ⟨by have := HJ4.out; have := HJ18.out; first | omega | exact Nat.le_refl _⟩, ⟨blk_later BK520.out⟩, ⟨blk_later BK521.out⟩, ⟨blk_later BK525.out⟩, ⟨blk_later BK534.out⟩, ⟨blk_later BK541.out⟩, ⟨blk_later BK545.out⟩, ⟨blk_later BK549.out⟩, ⟨by repeat (first | (with_reducible first | exact HI0.out | apply IsS85.alloc | apply IsS85.drewN | apply IsS85.drew | refine IsS85.far ?_ (Aside0.out (by with_reducible assumption)) _) | exact HI0.out)⟩, ⟨keep_later HK.out⟩, ⟨by repeat (first | (with_reducible first | exact HB.out | apply below_alloc | apply pw_below_drewN | apply below_drew1 | refine below_set ?_ (IsS85.ge HI0.out) | refine below_set ?_ GE520.out | refine below_set ?_ GE521.out | refine below_set ?_ GE525.out | refine below_set ?_ GE534.out | refine below_set ?_ GE541.out | refine below_set ?_ GE545.out | refine below_set ?_ GE549.out) | exact HB.out)⟩⟩
                    · replace c80 := Bool.eq_false_iff.mpr c80
                      subst c80
                      replace H := ifn Bool.false_ne_true H
                      have H' := Aside0.mk H
                      clear H
                      go_wp2
                      go_meet
                      case rel => exact ⟨_, (true), sr, H', ⟨by have := HJ4.out; have := HJ18.out; first | omega | exact Nat.le_refl _⟩, ⟨blk_later BK520.out⟩, ⟨blk_later BK521.out⟩, ⟨blk_later BK525.out⟩, ⟨blk_later BK534.out⟩, ⟨blk_later BK541.out⟩, ⟨blk_later BK545.out⟩, ⟨blk_later BK549.out⟩, ⟨by repeat (first | (with_reducible first | exact HI0.out | apply IsS85.alloc | apply IsS85.drewN | apply IsS85.drew | refine IsS85.far ?_ (Aside0.out (by with_reducible assumption)) _) | exact HI0.out)⟩, ⟨keep_later HK.out⟩, ⟨by repeat (first | (with_reducible first | exact HB.out | apply below_alloc | apply pw_below_drewN | apply below_drew1 | refine below_set ?_ (IsS85.ge HI0.out) | refine below_set ?_ GE520.out | refine below_set ?_ GE521.out | refine below_set ?_ GE525.out | refine below_set ?_ GE534.out | refine below_set ?_ GE541.out | refine below_set ?_ GE545.out | refine below_set ?_ GE549.out) | exact HB.out)⟩⟩
                  · replace c79 := Bool.eq_false_iff.mpr c79
                    subst c79
                    replace H := ifn Bool.false_ne_true H
                    have H' := Aside0.mk H
                    clear H
                    go_wp2
                    go_meet
                    case rel => exact ⟨_, (true), sr, H', ⟨by have := HJ4.out; have := HJ18.out; first | omega | exact Nat.le_refl _⟩, ⟨blk_later BK520.out⟩, ⟨blk_later BK521.out⟩, ⟨blk_later BK525.out⟩, ⟨blk_later BK534.out⟩, ⟨blk_later BK541.out⟩, ⟨blk_later BK545.out⟩, ⟨blk_later BK549.out⟩, ⟨by repeat (first | (with_reducible first | exact HI0.out | apply IsS85.alloc | apply IsS85.drewN | apply IsS85.drew | refine IsS85.far ?_ (Aside0.out (by with_reducible assumption)) _) | exact HI0.out)⟩, ⟨keep_later HK.out⟩, ⟨by repeat (first | (with_reducible first | exact HB.out | apply below_alloc | apply pw_below_drewN | apply below_drew1 | refine below_set ?_ (IsS85.ge HI0.out) | refine below_set ?_ GE520.out | refine below_set ?_ GE521.out | refine below_set ?_ GE525.out | refine below_set ?_ GE534.out | refine below_set ?_ GE541.out | refine below_set ?_ GE545.out | refine below_set ?_ GE549.out) | exact HB.out)⟩⟩
                · replace c78 := Bool.eq_false_iff.mpr c78
                  subst c78
                  replace H := ifn Bool.false_ne_true H
                  have H' := Aside0.mk H
                  clear H
                  go_wp2
                  go_meet
                  case rel => exact ⟨_, (true), sr, H', ⟨by have := HJ4.out; have := HJ18.out; first | omega | exact Nat.le_refl _⟩, ⟨blk_later BK520.out⟩, ⟨blk_later BK521.out⟩, ⟨blk_later BK525.out⟩, ⟨blk_later BK534.out⟩, ⟨blk_later BK541.out⟩, ⟨blk_later BK545.out⟩, ⟨blk_later BK549.out⟩, ⟨by repeat (first | (with_reducible first | exact HI0.out | apply IsS85.alloc | apply IsS85.drewN | apply IsS85.drew | refine IsS85.far ?_ (Aside0.out (by with_reducible assumption)) _) | exact HI0.out)⟩, ⟨keep_later HK.out⟩, ⟨by repeat (first | (with_reducible first | exact HB.out | apply below_alloc | apply pw_below_drewN | apply below_drew1 | refine below_set ?_ (IsS85.ge HI0.out) | refine below_set ?_ GE520.out | refine below_set ?_ GE521.out | refine below_set ?_ GE525.out | refine below_set ?_ GE534.out | refine below_set ?_ GE541.out | refine below_set ?_ GE545.out | refine below_set ?_ GE549.out) | exact HB.out)⟩⟩
              case rest =>
                clear HC36
                try clear c15
                try clear c31
                try clear hcz24_0
                try clear hcz24_1
                try clear hcz24_2
                try clear hcz24_3
                try clear hcz24_4
                try clear hcz24_5
                try clear hcz43_0
                try clear hcz43_1
                try clear hcz43_2
                try clear hcz43_3
                try clear hcz43_4
                try clear hcz51_0
                try clear hcz51_1
                try clear hcz51_2
                try clear hcz51_3
                try clear hcz51_4
                try clear hcz55_0
                try clear hcz55_1
                try clear hcz55_2
                try clear hcz56_0
                try clear hcz56_1
                try clear hcz56_2
                try clear hcz56_3
                try clear hcz56_4
                try clear hcz65_0
                try clear hcz65_1
                try clear hcz66_0
                try clear hcz66_1
                try clear hcz66_2
                try clear hcz67_0
                try clear hcz67_1
                try clear hcz67_2
                try clear hcz67_3
                try clear hcz67_4
                try clear hcz77_0
                try clear hcz77_1
                try clear hfz24_0
                try clear hfz24_1
                try clear hfz24_2
                try clear hfz24_3
                try clear hfz24_4
                try clear hfz24_5
                try clear hfz43_0
                try clear hfz43_1
                try clear hfz43_2
                try clear hfz43_3
                try clear hfz43_4
                try clear hfz51_0
                try clear hfz51_1
                try clear hfz51_2
                try clear hfz51_3
                try clear hfz51_4
                try clear hfz55_0
                try clear hfz55_1
                try clear hfz55_2
                try clear hfz56_0
                try clear hfz56_1
                try clear hfz56_2
                try clear hfz56_3
                try clear hfz56_4
                try clear hfz65_0
                try clear hfz65_1
                try clear hfz66_0
                try clear hfz66_1
                try clear hfz66_2
                try clear hfz67_0
                try clear hfz67_1
                try clear hfz67_2
                try clear hfz67_3
                try clear hfz67_4
                try clear hfz77_0
                try clear hfz77_1
                obtain ⟨kq, x86_35, rfl, HA, HJ35, BK520, BK521, BK525, BK534, BK541, BK545, BK549, HI0, HK, HB⟩ := hcut
                cases kq with
                | zero => exact absurd HA.out (by simp [impl_tree_stats.j2])
                | succ kj35 =>
                  have H := HA.out
                  clear HA
                  simp only [impl_tree_stats.j2] at H
                  by_cases c81 : x86_35 = true
                  · subst c81
                    replace H := ifp rfl H
                    simp only [Option.some.injEq, Prod.mk.injEq] at H
                    obtain ⟨rfl, rfl, rfl, rfl, rfl, rfl, rfl⟩ := H
                    have hnb82 := NB521_520.out
                    have hnc82 := NB520_521.out
                    have hnb83 := NB521_525.out
                    have hnc83 := NB525_521.out
                    have hnb84 := NB521_534.out
                    have hnc84 := NB534_521.out
                    have hnb85 := NB521_541.out
                    have hnc85 := NB541_521.out
                    have hnb86 := NB521_545.out
                    have hnc86 := NB545_521.out
                    have hnb87 := NB521_549.out
                    have hnc87 := NB549_521.out
                    have hnb88 := NB521_0.out
                    have hnc88 := NB0_521.out
                    obtain ⟨hcz89_0, hcz89_1, hcz89_2, hcz89_3, hcz89_4, hcz89_5, hfz89_0, hfz89_1, hfz89_2, hfz89_3, hfz89_4, hfz89_5⟩ := cl6 BK521
                    go_wp2
                    refine bodyPost_ret (results_ct rfl _ _ gb521 29 #[.int .i64 0, .bool false, .int .i64 0, .string (⟨#[]⟩ : ByteArray), .int .i64 0, .string (⟨#[]⟩ : ByteArray)] (0, 0) _ rfl (by (with_reducible repeat (first | refine blk_drewN ?_ _ | refine blk_drew ?_ | refine blk_alloc ?_ _)); refine blk_put (cs := #[.int .i64 0, .bool false, .int .i64 0, .string (⟨#[]⟩ : ByteArray), .int .i64 0, .string (⟨#[]⟩ : ByteArray)]) ?_ 5 _ rfl; (with_reducible repeat (first | refine blk_drewN ?_ _ | refine blk_drew ?_ | refine blk_alloc ?_ _)); refine blk_put (cs := #[.int .i64 0, .bool false, .int .i64 0, .string (⟨#[]⟩ : ByteArray), .int .i64 0, .string (⟨#[]⟩ : ByteArray)]) ?_ 4 _ rfl; (with_reducible repeat (first | refine blk_drewN ?_ _ | refine blk_drew ?_ | refine blk_alloc ?_ _)); refine blk_put (cs := #[.int .i64 0, .bool false, .int .i64 0, .string (⟨#[]⟩ : ByteArray), .int .i64 0, .string (⟨#[]⟩ : ByteArray)]) ?_ 3 _ rfl; (with_reducible repeat (first | refine blk_drewN ?_ _ | refine blk_drew ?_ | refine blk_alloc ?_ _)); refine blk_put (cs := #[.int .i64 0, .bool false, .int .i64 0, .string (⟨#[]⟩ : ByteArray), .int .i64 0, .string (⟨#[]⟩ : ByteArray)]) ?_ 2 _ rfl; (with_reducible repeat (first | refine blk_drewN ?_ _ | refine blk_drew ?_ | refine blk_alloc ?_ _)); refine blk_put (cs := #[.int .i64 0, .bool false, .int .i64 0, .string (⟨#[]⟩ : ByteArray), .int .i64 0, .string (⟨#[]⟩ : ByteArray)]) ?_ 1 _ rfl; (with_reducible repeat (first | refine blk_drewN ?_ _ | refine blk_drew ?_ | refine blk_alloc ?_ _)); refine blk_put (cs := #[.int .i64 0, .bool false, .int .i64 0, .string (⟨#[]⟩ : ByteArray), .int .i64 0, .string (⟨#[]⟩ : ByteArray)]) ?_ 0 _ rfl; (with_reducible repeat (first | refine blk_drewN ?_ _ | refine blk_drew ?_ | refine blk_alloc ?_ _)); exact BK521.out) Try.underlying29 rfl (by kernel_rfl)) rfl ?_
                    exact ⟨by first | rfl | (simp [errW_none, errW_some] <;> rfl) | (simp [*, errW_none, errW_some] <;> rfl), by repeat (first | (with_reducible first | exact HI0.out | apply IsS85.alloc | apply IsS85.drewN | apply IsS85.drew | refine IsS85.far ?_ (Aside0.out (by with_reducible assumption)) _) | exact HI0.out), by repeat (first | (with_reducible first | exact HB.out | apply below_alloc | apply pw_below_drewN | apply below_drew1 | refine below_set ?_ (IsS85.ge HI0.out) | refine below_set ?_ GE520.out | refine below_set ?_ GE521.out | refine below_set ?_ GE525.out | refine below_set ?_ GE534.out | refine below_set ?_ GE541.out | refine below_set ?_ GE545.out | refine below_set ?_ GE549.out) | exact HB.out), keep_later HK.out⟩
                  · replace c81 := Bool.eq_false_iff.mpr c81
                    subst c81
                    replace H := ifn Bool.false_ne_true H
                    replace H := bnd H
                    obtain ⟨t550, A90, H⟩ := H
                    by_cases c91 : t550 = true
                    · subst c91
                      replace H := ifp rfl H
                      simp only [Option.some.injEq, Prod.mk.injEq] at H
                      obtain ⟨rfl, rfl, rfl, rfl, rfl, rfl, rfl⟩ := H
                      try go_wp2
                      have n0_ := Aside0.mk (blk_drew BK520.out)
                      have n1_ := Aside0.mk (blk_drew BK521.out)
                      have n2_ := Aside0.mk (blk_drew BK525.out)
                      have n3_ := Aside0.mk (blk_drew BK534.out)
                      have n4_ := Aside0.mk (blk_drew BK541.out)
                      have n5_ := Aside0.mk (blk_drew BK545.out)
                      have n6_ := Aside0.mk (blk_drew BK549.out)
                      have n7_ := Aside0.mk (IsS85.drew HI0.out)
                      have n8_ := Aside0.mk (keep_drew HK.out)
                      have n9_ := Aside0.mk (below_drew1 HB.out)
                      clear BK520
                      clear BK521
                      clear BK525
                      clear BK534
                      clear BK541
                      clear BK545
                      clear BK549
                      clear HI0
                      clear HK
                      clear HB
                      have BK520 := n0_
                      have BK521 := n1_
                      have BK525 := n2_
                      have BK534 := n3_
                      have BK541 := n4_
                      have BK545 := n5_
                      have BK549 := n6_
                      have HI0 := n7_
                      have HK := n8_
                      have HB := n9_
                      clear n0_ n1_ n2_ n3_ n4_ n5_ n6_ n7_ n8_ n9_
                      refine start_ (n := 8) (S := fun w' => w'.cell? ⟨gb545, 0, none⟩ = some (.int .i64 t542) ∧ w'.cell? ⟨gb545, 1, none⟩ = some (.string t543) ∧ w'.cell? ⟨gb549, 0, none⟩ = some (.int .i64 t546) ∧ w'.cell? ⟨gb549, 1, none⟩ = some (.string t547)) (ds := []) #[false, false, false, false, false, false, false, false] (by kernel_rfl) rfl rfl ⟨(blk_cell BK545.out 0).trans rfl, (blk_cell BK545.out 1).trans rfl, (blk_cell BK549.out 0).trans rfl, (blk_cell BK549.out 1).trans rfl⟩ (fun hHeld => ?_); refine with_tabW impl_tree_stats.tab12 impl_tree_stats.bits12 (fun HT_ HW_ => ?_)
                      generalize wc.drew = w92 at BK520 BK521 BK525 BK534 BK541 BK545 BK549 HI0 HK HB hHeld ⊢
                      refine pure_ (i := 2) (N := some 90) (v := ?_) (a' := ?_) #[false, false, true, false, false, false, false, false] rfl rfl (any_of HT_.out (by kernel_rfl)) (fun _ _ _ h => h) (Or.inl ⟨by rfl, ?_⟩) ?_ ?_
                      rotate_left
                      · intro w'
                        go_simp
                        with_reducible rfl
                      rotate_left
                      · simp only [Act.put, List.setIfInBounds_toArray, List.set_cons_zero, List.set_cons_succ, i64_w, i32_w]
                        rfl
                      refine take_ (i := 0) (N := some 88) (v := ?_) (a' := ?_) #[true, false, true, false, false, false, false, false] rfl rfl (take_ofW HT_.out HW_.out (by kernel_rfl)) (fun _ _ _ h => h) (Or.inl ⟨by rfl, ?_⟩) hHeld ?_ ?_
                      rotate_left
                      · rintro w' ⟨s0, s1, s2, s3⟩
                        go_simp
                        with_reducible rfl
                      rotate_left
                      · simp only [Act.put, List.setIfInBounds_toArray, List.set_cons_zero, List.set_cons_succ, i64_w, i32_w]
                        rfl
                      refine take_ (i := 1) (N := some 89) (v := ?_) (a' := ?_) #[true, true, true, false, false, false, false, false] rfl rfl (take_ofW HT_.out HW_.out (by kernel_rfl)) (fun _ _ _ h => h) (Or.inl ⟨by rfl, ?_⟩) hHeld ?_ ?_
                      rotate_left
                      · rintro w' ⟨s0, s1, s2, s3⟩
                        go_simp
                        with_reducible rfl
                      rotate_left
                      · simp only [Act.put, List.setIfInBounds_toArray, List.set_cons_zero, List.set_cons_succ, i64_w, i32_w]
                        rfl
                      refine one_ (i := 3) (N := none) #[true, true, true, true, false, false, false, false] rfl rfl (one_of HT_.out (by kernel_rfl)) (by decide) (fun K hK => ?_)
                      have hs93 : w92.cell? ⟨gb525, 1, none⟩ = some (.bool false) := (blk_cell BK525.out 1).trans rfl
                      have hfs93 := blk_frozen BK525.out 1
                      have hns93_0 := NB520_525.out
                      have hns93_1 := NB521_525.out
                      have hns93_3 := NB534_525.out
                      have hns93_4 := NB541_525.out
                      have hns93_5 := NB545_525.out
                      have hns93_6 := NB549_525.out
                      have hms93_0 := NB525_520.out
                      have hms93_1 := NB525_521.out
                      have hms93_3 := NB525_534.out
                      have hms93_4 := NB525_541.out
                      have hms93_5 := NB525_545.out
                      have hms93_6 := NB525_549.out
                      refine skip_ (w1 := ?_) (by rfl) rfl ?_ ?_
                      rotate_left
                      · go_simp
                        rfl
                      refine hK.out _ _ ⟨((cell_far (p := ⟨gb525, _, none⟩) NB545_525.out _).trans (hHeld.1)), ((cell_far (p := ⟨gb525, _, none⟩) NB545_525.out _).trans (hHeld.2.1)), ((cell_far (p := ⟨gb525, _, none⟩) NB549_525.out _).trans (hHeld.2.2.1)), ((cell_far (p := ⟨gb525, _, none⟩) NB549_525.out _).trans (hHeld.2.2.2))⟩ (fun hHeld => ?_)
                      clear hK K
                      refine pure_ (i := 4) (N := some 91) (v := ?_) (a' := ?_) #[true, true, true, true, true, false, false, false] rfl rfl (any_of HT_.out (by kernel_rfl)) (fun _ _ _ h => h) (Or.inl ⟨by rfl, ?_⟩) ?_ ?_
                      rotate_left
                      · intro w'
                        go_simp
                        with_reducible rfl
                      rotate_left
                      · simp only [Act.put, List.setIfInBounds_toArray, List.set_cons_zero, List.set_cons_succ, i64_w, i32_w]
                        rfl
                      refine one_ (i := 5) (N := none) #[true, true, true, true, true, true, false, false] rfl rfl (one_of HT_.out (by kernel_rfl)) (by decide) (fun K hK => ?_)
                      have hs94 : w92.cell? ⟨gb525, 4, none⟩ = some (.int .i64 0) := (blk_cell BK525.out 4).trans rfl
                      have hfs94 := blk_frozen BK525.out 4
                      have hns94_0 := NB520_525.out
                      have hns94_1 := NB521_525.out
                      have hns94_3 := NB534_525.out
                      have hns94_4 := NB541_525.out
                      have hns94_5 := NB545_525.out
                      have hns94_6 := NB549_525.out
                      have hms94_0 := NB525_520.out
                      have hms94_1 := NB525_521.out
                      have hms94_3 := NB525_534.out
                      have hms94_4 := NB525_541.out
                      have hms94_5 := NB525_545.out
                      have hms94_6 := NB525_549.out
                      have hs95 : w92.cell? ⟨gb525, 5, none⟩ = some (.string (⟨#[]⟩ : ByteArray)) := (blk_cell BK525.out 5).trans rfl
                      have hfs95 := blk_frozen BK525.out 5
                      have hns95_0 := NB520_525.out
                      have hns95_1 := NB521_525.out
                      have hns95_3 := NB534_525.out
                      have hns95_4 := NB541_525.out
                      have hns95_5 := NB545_525.out
                      have hns95_6 := NB549_525.out
                      have hms95_0 := NB525_520.out
                      have hms95_1 := NB525_521.out
                      have hms95_3 := NB525_534.out
                      have hms95_4 := NB525_541.out
                      have hms95_5 := NB525_545.out
                      have hms95_6 := NB525_549.out
                      refine skip_ (w1 := ?_) (by rfl) rfl ?_ ?_
                      rotate_left
                      · go_simp
                        rfl
                      refine hK.out _ _ ⟨((cell_far (p := ⟨gb525, _, none⟩) NB545_525.out _).trans (((cell_far (p := ⟨gb525, _, none⟩) NB545_525.out _).trans (hHeld.1)))), ((cell_far (p := ⟨gb525, _, none⟩) NB545_525.out _).trans (((cell_far (p := ⟨gb525, _, none⟩) NB545_525.out _).trans (hHeld.2.1)))), ((cell_far (p := ⟨gb525, _, none⟩) NB549_525.out _).trans (((cell_far (p := ⟨gb525, _, none⟩) NB549_525.out _).trans (hHeld.2.2.1)))), ((cell_far (p := ⟨gb525, _, none⟩) NB549_525.out _).trans (((cell_far (p := ⟨gb525, _, none⟩) NB549_525.out _).trans (hHeld.2.2.2))))⟩ (fun hHeld => ?_)
                      clear hK K
                      refine pure_ (i := 6) (N := some 92) (v := ?_) (a' := ?_) #[true, true, true, true, true, true, true, false] rfl rfl (any_of HT_.out (by kernel_rfl)) (fun _ _ _ h => h) (Or.inl ⟨by rfl, ?_⟩) ?_ ?_
                      rotate_left
                      · intro w'
                        go_simp
                        with_reducible rfl
                      rotate_left
                      · simp only [Act.put, List.setIfInBounds_toArray, List.set_cons_zero, List.set_cons_succ, i64_w, i32_w]
                        rfl
                      refine one_ (i := 7) (N := none) #[true, true, true, true, true, true, true, true] rfl rfl (one_of HT_.out (by kernel_rfl)) (by decide) (fun K hK => ?_)
                      have hs96 : w92.cell? ⟨gb525, 2, none⟩ = some (.int .i64 0) := (blk_cell BK525.out 2).trans rfl
                      have hfs96 := blk_frozen BK525.out 2
                      have hns96_0 := NB520_525.out
                      have hns96_1 := NB521_525.out
                      have hns96_3 := NB534_525.out
                      have hns96_4 := NB541_525.out
                      have hns96_5 := NB545_525.out
                      have hns96_6 := NB549_525.out
                      have hms96_0 := NB525_520.out
                      have hms96_1 := NB525_521.out
                      have hms96_3 := NB525_534.out
                      have hms96_4 := NB525_541.out
                      have hms96_5 := NB525_545.out
                      have hms96_6 := NB525_549.out
                      have hs97 : w92.cell? ⟨gb525, 3, none⟩ = some (.string (⟨#[]⟩ : ByteArray)) := (blk_cell BK525.out 3).trans rfl
                      have hfs97 := blk_frozen BK525.out 3
                      have hns97_0 := NB520_525.out
                      have hns97_1 := NB521_525.out
                      have hns97_3 := NB534_525.out
                      have hns97_4 := NB541_525.out
                      have hns97_5 := NB545_525.out
                      have hns97_6 := NB549_525.out
                      have hms97_0 := NB525_520.out
                      have hms97_1 := NB525_521.out
                      have hms97_3 := NB525_534.out
                      have hms97_4 := NB525_541.out
                      have hms97_5 := NB525_545.out
                      have hms97_6 := NB525_549.out
                      refine skip_ (w1 := ?_) (by rfl) rfl ?_ ?_
                      rotate_left
                      · go_simp
                        rfl
                      refine hK.out _ _ ⟨((cell_far (p := ⟨gb525, _, none⟩) NB545_525.out _).trans (((cell_far (p := ⟨gb525, _, none⟩) NB545_525.out _).trans (hHeld.1)))), ((cell_far (p := ⟨gb525, _, none⟩) NB545_525.out _).trans (((cell_far (p := ⟨gb525, _, none⟩) NB545_525.out _).trans (hHeld.2.1)))), ((cell_far (p := ⟨gb525, _, none⟩) NB549_525.out _).trans (((cell_far (p := ⟨gb525, _, none⟩) NB549_525.out _).trans (hHeld.2.2.1)))), ((cell_far (p := ⟨gb525, _, none⟩) NB549_525.out _).trans (((cell_far (p := ⟨gb525, _, none⟩) NB549_525.out _).trans (hHeld.2.2.2))))⟩ (fun hHeld => ?_)
                      clear hK K
                      refine done_ (done_of HT_.out (by kernel_rfl)) ?_
                      have hnb98 := NB520_521.out
                      have hnc98 := NB521_520.out
                      have hnb99 := NB520_525.out
                      have hnc99 := NB525_520.out
                      have hnb100 := NB520_534.out
                      have hnc100 := NB534_520.out
                      have hnb101 := NB520_541.out
                      have hnc101 := NB541_520.out
                      have hnb102 := NB520_545.out
                      have hnc102 := NB545_520.out
                      have hnb103 := NB520_549.out
                      have hnc103 := NB549_520.out
                      have hnb104 := NB520_0.out
                      have hnc104 := NB0_520.out
                      obtain ⟨hcz105_0, hcz105_1, hcz105_2, hfz105_0, hfz105_1, hfz105_2⟩ := cl3 BK520
                      have hnb106 := NB525_521.out
                      have hnc106 := NB521_525.out
                      have hnb107 := NB525_534.out
                      have hnc107 := NB534_525.out
                      have hnb108 := NB525_541.out
                      have hnc108 := NB541_525.out
                      have hnb109 := NB525_545.out
                      have hnc109 := NB545_525.out
                      have hnb110 := NB525_549.out
                      have hnc110 := NB549_525.out
                      have hnb111 := NB525_0.out
                      have hnc111 := NB0_525.out
                      obtain ⟨hcz112_0, hcz112_1, hcz112_2, hcz112_3, hcz112_4, hcz112_5, hfz112_0, hfz112_1, hfz112_2, hfz112_3, hfz112_4, hfz112_5⟩ := cl6 BK525
                      try go_wp2_with (first | ((with_reducible refine gate_callee (f := 55) rfl ?_); refine gl_ (some 95) Try.func55 #[.agg #[.int .i64 a1_0, .int .i64 a1_1, .int .i64 a1_2], .agg #[.int .i64 t522, .bool true, .int .i64 t546, .string t547, .int .i64 t542, .string t543]] rfl ?_; (with_reducible refine (impl_statsOk.calls kj35 a1_0 a1_1 a1_2 t522 true t546 t547 t542 t543 true _ A90.out).mono ?_); rintro e w113 ⟨rfl, hb⟩; refine ⟨_, rfl, ?_⟩; replace BK520 := bkb BK520 hb; replace BK521 := bkb BK521 hb; replace BK525 := Aside0.mk (blk_below (g := gb525) (o := .cells #[.int .i64 t522, .bool true, .int .i64 t546, .string t547, .int .i64 t542, .string t543] 29 (0, 0)) (blk_later BK525.out) hb); replace BK534 := bkb BK534 hb; replace BK541 := bkb BK541 hb; replace BK545 := bkb BK545 hb; replace BK549 := bkb BK549 hb; replace HK := Aside0.mk (KeepBut.trans (keep_later HK.out) (KeepBut.of_below hb g none) (.inl rfl)); replace HB := Aside0.mk (below_step (by repeat (first | (with_reducible first | exact HB.out | apply below_alloc | apply pw_below_drewN | apply below_drew1 | refine below_set ?_ (IsS85.ge HI0.out) | refine below_set ?_ GE520.out | refine below_set ?_ GE521.out | refine below_set ?_ GE525.out | refine below_set ?_ GE534.out | refine below_set ?_ GE541.out | refine below_set ?_ GE545.out | refine below_set ?_ GE549.out) | exact HB.out)) hb); replace HI0 := Aside0.mk (IsS85.below (show IsS85 w0 (((((w92.setCell ⟨gb525, 1, none⟩ (.bool true)).setCell ⟨gb525, 4, none⟩ (.int .i64 t542)).setCell ⟨gb525, 5, none⟩ (.string t543)).setCell ⟨gb525, 2, none⟩ (.int .i64 t546)).setCell ⟨gb525, 3, none⟩ (.string t547)) g s0_0 s0_1 from by repeat (first | (with_reducible first | exact HI0.out | apply IsS85.alloc | apply IsS85.drewN | apply IsS85.drew | refine IsS85.far ?_ (Aside0.out (by with_reducible assumption)) _) | exact HI0.out)) hb); (try clear hb); obtain ⟨hcz114_0, hcz114_1, hcz114_2, hcz114_3, hcz114_4, hcz114_5, hfz114_0, hfz114_1, hfz114_2, hfz114_3, hfz114_4, hfz114_5⟩ := cl6 BK525; have hnb115 := NB521_534.out; have hnc115 := NB534_521.out; have hnb116 := NB521_541.out; have hnc116 := NB541_521.out; have hnb117 := NB521_545.out; have hnc117 := NB545_521.out; have hnb118 := NB521_549.out; have hnc118 := NB549_521.out; have hnb119 := NB521_0.out; have hnc119 := NB0_521.out; obtain ⟨hcz120_0, hcz120_1, hcz120_2, hcz120_3, hcz120_4, hcz120_5, hfz120_0, hfz120_1, hfz120_2, hfz120_3, hfz120_4, hfz120_5⟩ := cl6 BK521))
                      refine bodyPost_ret (results_ct rfl _ _ gb521 29 #[.int .i64 t522, .bool true, .int .i64 t546, .string t547, .int .i64 t542, .string t543] (0, 0) _ rfl (by (with_reducible repeat (first | refine blk_drewN ?_ _ | refine blk_drew ?_ | refine blk_alloc ?_ _)); refine blk_put (cs := #[.int .i64 t522, .bool true, .int .i64 t546, .string t547, .int .i64 t542, .string (⟨#[]⟩ : ByteArray)]) ?_ 5 _ rfl; (with_reducible repeat (first | refine blk_drewN ?_ _ | refine blk_drew ?_ | refine blk_alloc ?_ _)); refine blk_put (cs := #[.int .i64 t522, .bool true, .int .i64 t546, .string t547, .int .i64 0, .string (⟨#[]⟩ : ByteArray)]) ?_ 4 _ rfl; (with_reducible repeat (first | refine blk_drewN ?_ _ | refine blk_drew ?_ | refine blk_alloc ?_ _)); refine blk_put (cs := #[.int .i64 t522, .bool true, .int .i64 t546, .string (⟨#[]⟩ : ByteArray), .int .i64 0, .string (⟨#[]⟩ : ByteArray)]) ?_ 3 _ rfl; (with_reducible repeat (first | refine blk_drewN ?_ _ | refine blk_drew ?_ | refine blk_alloc ?_ _)); refine blk_put (cs := #[.int .i64 t522, .bool true, .int .i64 0, .string (⟨#[]⟩ : ByteArray), .int .i64 0, .string (⟨#[]⟩ : ByteArray)]) ?_ 2 _ rfl; (with_reducible repeat (first | refine blk_drewN ?_ _ | refine blk_drew ?_ | refine blk_alloc ?_ _)); refine blk_put (cs := #[.int .i64 t522, .bool false, .int .i64 0, .string (⟨#[]⟩ : ByteArray), .int .i64 0, .string (⟨#[]⟩ : ByteArray)]) ?_ 1 _ rfl; (with_reducible repeat (first | refine blk_drewN ?_ _ | refine blk_drew ?_ | refine blk_alloc ?_ _)); refine blk_put (cs := #[.int .i64 0, .bool false, .int .i64 0, .string (⟨#[]⟩ : ByteArray), .int .i64 0, .string (⟨#[]⟩ : ByteArray)]) ?_ 0 _ rfl; (with_reducible repeat (first | refine blk_drewN ?_ _ | refine blk_drew ?_ | refine blk_alloc ?_ _)); exact BK521.out) Try.underlying29 rfl (by kernel_rfl)) rfl ?_
                      exact ⟨by first | rfl | (simp [errW_none, errW_some] <;> rfl) | (simp [*, errW_none, errW_some] <;> rfl), by repeat (first | (with_reducible first | exact HI0.out | apply IsS85.alloc | apply IsS85.drewN | apply IsS85.drew | refine IsS85.far ?_ (Aside0.out (by with_reducible assumption)) _) | exact HI0.out), by repeat (first | (with_reducible first | exact HB.out | apply below_alloc | apply pw_below_drewN | apply below_drew1 | refine below_set ?_ (IsS85.ge HI0.out) | refine below_set ?_ GE520.out | refine below_set ?_ GE521.out | refine below_set ?_ GE525.out | refine below_set ?_ GE534.out | refine below_set ?_ GE541.out | refine below_set ?_ GE545.out | refine below_set ?_ GE549.out) | exact HB.out), keep_later HK.out⟩
                    · replace c91 := Bool.eq_false_iff.mpr c91
                      subst c91
                      replace H := ifn Bool.false_ne_true H
                      simp only [Option.some.injEq, Prod.mk.injEq] at H
                      obtain ⟨rfl, rfl, rfl, rfl, rfl, rfl, rfl⟩ := H
                      try go_wp2
                      have n0_ := Aside0.mk (blk_drew BK520.out)
                      have n1_ := Aside0.mk (blk_drew BK521.out)
                      have n2_ := Aside0.mk (blk_drew BK525.out)
                      have n3_ := Aside0.mk (blk_drew BK534.out)
                      have n4_ := Aside0.mk (blk_drew BK541.out)
                      have n5_ := Aside0.mk (blk_drew BK545.out)
                      have n6_ := Aside0.mk (blk_drew BK549.out)
                      have n7_ := Aside0.mk (IsS85.drew HI0.out)
                      have n8_ := Aside0.mk (keep_drew HK.out)
                      have n9_ := Aside0.mk (below_drew1 HB.out)
                      clear BK520
                      clear BK521
                      clear BK525
                      clear BK534
                      clear BK541
                      clear BK545
                      clear BK549
                      clear HI0
                      clear HK
                      clear HB
                      have BK520 := n0_
                      have BK521 := n1_
                      have BK525 := n2_
                      have BK534 := n3_
                      have BK541 := n4_
                      have BK545 := n5_
                      have BK549 := n6_
                      have HI0 := n7_
                      have HK := n8_
                      have HB := n9_
                      clear n0_ n1_ n2_ n3_ n4_ n5_ n6_ n7_ n8_ n9_
                      refine start_ (n := 8) (S := fun w' => w'.cell? ⟨gb545, 0, none⟩ = some (.int .i64 t542) ∧ w'.cell? ⟨gb545, 1, none⟩ = some (.string t543) ∧ w'.cell? ⟨gb549, 0, none⟩ = some (.int .i64 t546) ∧ w'.cell? ⟨gb549, 1, none⟩ = some (.string t547)) (ds := []) #[false, false, false, false, false, false, false, false] (by kernel_rfl) rfl rfl ⟨(blk_cell BK545.out 0).trans rfl, (blk_cell BK545.out 1).trans rfl, (blk_cell BK549.out 0).trans rfl, (blk_cell BK549.out 1).trans rfl⟩ (fun hHeld => ?_); refine with_tabW impl_tree_stats.tab12 impl_tree_stats.bits12 (fun HT_ HW_ => ?_)
                      generalize wc.drew = w121 at BK520 BK521 BK525 BK534 BK541 BK545 BK549 HI0 HK HB hHeld ⊢
                      refine pure_ (i := 2) (N := some 90) (v := ?_) (a' := ?_) #[false, false, true, false, false, false, false, false] rfl rfl (any_of HT_.out (by kernel_rfl)) (fun _ _ _ h => h) (Or.inl ⟨by rfl, ?_⟩) ?_ ?_
                      rotate_left
                      · intro w'
                        go_simp
                        with_reducible rfl
                      rotate_left
                      · simp only [Act.put, List.setIfInBounds_toArray, List.set_cons_zero, List.set_cons_succ, i64_w, i32_w]
                        rfl
                      refine take_ (i := 0) (N := some 88) (v := ?_) (a' := ?_) #[true, false, true, false, false, false, false, false] rfl rfl (take_ofW HT_.out HW_.out (by kernel_rfl)) (fun _ _ _ h => h) (Or.inl ⟨by rfl, ?_⟩) hHeld ?_ ?_
                      rotate_left
                      · rintro w' ⟨s0, s1, s2, s3⟩
                        go_simp
                        with_reducible rfl
                      rotate_left
                      · simp only [Act.put, List.setIfInBounds_toArray, List.set_cons_zero, List.set_cons_succ, i64_w, i32_w]
                        rfl
                      refine take_ (i := 1) (N := some 89) (v := ?_) (a' := ?_) #[true, true, true, false, false, false, false, false] rfl rfl (take_ofW HT_.out HW_.out (by kernel_rfl)) (fun _ _ _ h => h) (Or.inl ⟨by rfl, ?_⟩) hHeld ?_ ?_
                      rotate_left
                      · rintro w' ⟨s0, s1, s2, s3⟩
                        go_simp
                        with_reducible rfl
                      rotate_left
                      · simp only [Act.put, List.setIfInBounds_toArray, List.set_cons_zero, List.set_cons_succ, i64_w, i32_w]
                        rfl
                      refine one_ (i := 3) (N := none) #[true, true, true, true, false, false, false, false] rfl rfl (one_of HT_.out (by kernel_rfl)) (by decide) (fun K hK => ?_)
                      have hs122 : w121.cell? ⟨gb525, 1, none⟩ = some (.bool false) := (blk_cell BK525.out 1).trans rfl
                      have hfs122 := blk_frozen BK525.out 1
                      have hns122_0 := NB520_525.out
                      have hns122_1 := NB521_525.out
                      have hns122_3 := NB534_525.out
                      have hns122_4 := NB541_525.out
                      have hns122_5 := NB545_525.out
                      have hns122_6 := NB549_525.out
                      have hms122_0 := NB525_520.out
                      have hms122_1 := NB525_521.out
                      have hms122_3 := NB525_534.out
                      have hms122_4 := NB525_541.out
                      have hms122_5 := NB525_545.out
                      have hms122_6 := NB525_549.out
                      refine skip_ (w1 := ?_) (by rfl) rfl ?_ ?_
                      rotate_left
                      · go_simp
                        rfl
                      refine hK.out _ _ ⟨((cell_far (p := ⟨gb525, _, none⟩) NB545_525.out _).trans (hHeld.1)), ((cell_far (p := ⟨gb525, _, none⟩) NB545_525.out _).trans (hHeld.2.1)), ((cell_far (p := ⟨gb525, _, none⟩) NB549_525.out _).trans (hHeld.2.2.1)), ((cell_far (p := ⟨gb525, _, none⟩) NB549_525.out _).trans (hHeld.2.2.2))⟩ (fun hHeld => ?_)
                      clear hK K
                      refine pure_ (i := 4) (N := some 91) (v := ?_) (a' := ?_) #[true, true, true, true, true, false, false, false] rfl rfl (any_of HT_.out (by kernel_rfl)) (fun _ _ _ h => h) (Or.inl ⟨by rfl, ?_⟩) ?_ ?_
                      rotate_left
                      · intro w'
                        go_simp
                        with_reducible rfl
                      rotate_left
                      · simp only [Act.put, List.setIfInBounds_toArray, List.set_cons_zero, List.set_cons_succ, i64_w, i32_w]
                        rfl
                      refine one_ (i := 5) (N := none) #[true, true, true, true, true, true, false, false] rfl rfl (one_of HT_.out (by kernel_rfl)) (by decide) (fun K hK => ?_)
                      have hs123 : w121.cell? ⟨gb525, 4, none⟩ = some (.int .i64 0) := (blk_cell BK525.out 4).trans rfl
                      have hfs123 := blk_frozen BK525.out 4
                      have hns123_0 := NB520_525.out
                      have hns123_1 := NB521_525.out
                      have hns123_3 := NB534_525.out
                      have hns123_4 := NB541_525.out
                      have hns123_5 := NB545_525.out
                      have hns123_6 := NB549_525.out
                      have hms123_0 := NB525_520.out
                      have hms123_1 := NB525_521.out
                      have hms123_3 := NB525_534.out
                      have hms123_4 := NB525_541.out
                      have hms123_5 := NB525_545.out
                      have hms123_6 := NB525_549.out
                      have hs124 : w121.cell? ⟨gb525, 5, none⟩ = some (.string (⟨#[]⟩ : ByteArray)) := (blk_cell BK525.out 5).trans rfl
                      have hfs124 := blk_frozen BK525.out 5
                      have hns124_0 := NB520_525.out
                      have hns124_1 := NB521_525.out
                      have hns124_3 := NB534_525.out
                      have hns124_4 := NB541_525.out
                      have hns124_5 := NB545_525.out
                      have hns124_6 := NB549_525.out
                      have hms124_0 := NB525_520.out
                      have hms124_1 := NB525_521.out
                      have hms124_3 := NB525_534.out
                      have hms124_4 := NB525_541.out
                      have hms124_5 := NB525_545.out
                      have hms124_6 := NB525_549.out
                      refine skip_ (w1 := ?_) (by rfl) rfl ?_ ?_
                      rotate_left
                      · go_simp
                        rfl
                      refine hK.out _ _ ⟨((cell_far (p := ⟨gb525, _, none⟩) NB545_525.out _).trans (((cell_far (p := ⟨gb525, _, none⟩) NB545_525.out _).trans (hHeld.1)))), ((cell_far (p := ⟨gb525, _, none⟩) NB545_525.out _).trans (((cell_far (p := ⟨gb525, _, none⟩) NB545_525.out _).trans (hHeld.2.1)))), ((cell_far (p := ⟨gb525, _, none⟩) NB549_525.out _).trans (((cell_far (p := ⟨gb525, _, none⟩) NB549_525.out _).trans (hHeld.2.2.1)))), ((cell_far (p := ⟨gb525, _, none⟩) NB549_525.out _).trans (((cell_far (p := ⟨gb525, _, none⟩) NB549_525.out _).trans (hHeld.2.2.2))))⟩ (fun hHeld => ?_)
                      clear hK K
                      refine pure_ (i := 6) (N := some 92) (v := ?_) (a' := ?_) #[true, true, true, true, true, true, true, false] rfl rfl (any_of HT_.out (by kernel_rfl)) (fun _ _ _ h => h) (Or.inl ⟨by rfl, ?_⟩) ?_ ?_
                      rotate_left
                      · intro w'
                        go_simp
                        with_reducible rfl
                      rotate_left
                      · simp only [Act.put, List.setIfInBounds_toArray, List.set_cons_zero, List.set_cons_succ, i64_w, i32_w]
                        rfl
                      refine one_ (i := 7) (N := none) #[true, true, true, true, true, true, true, true] rfl rfl (one_of HT_.out (by kernel_rfl)) (by decide) (fun K hK => ?_)
                      have hs125 : w121.cell? ⟨gb525, 2, none⟩ = some (.int .i64 0) := (blk_cell BK525.out 2).trans rfl
                      have hfs125 := blk_frozen BK525.out 2
                      have hns125_0 := NB520_525.out
                      have hns125_1 := NB521_525.out
                      have hns125_3 := NB534_525.out
                      have hns125_4 := NB541_525.out
                      have hns125_5 := NB545_525.out
                      have hns125_6 := NB549_525.out
                      have hms125_0 := NB525_520.out
                      have hms125_1 := NB525_521.out
                      have hms125_3 := NB525_534.out
                      have hms125_4 := NB525_541.out
                      have hms125_5 := NB525_545.out
                      have hms125_6 := NB525_549.out
                      have hs126 : w121.cell? ⟨gb525, 3, none⟩ = some (.string (⟨#[]⟩ : ByteArray)) := (blk_cell BK525.out 3).trans rfl
                      have hfs126 := blk_frozen BK525.out 3
                      have hns126_0 := NB520_525.out
                      have hns126_1 := NB521_525.out
                      have hns126_3 := NB534_525.out
                      have hns126_4 := NB541_525.out
                      have hns126_5 := NB545_525.out
                      have hns126_6 := NB549_525.out
                      have hms126_0 := NB525_520.out
                      have hms126_1 := NB525_521.out
                      have hms126_3 := NB525_534.out
                      have hms126_4 := NB525_541.out
                      have hms126_5 := NB525_545.out
                      have hms126_6 := NB525_549.out
                      refine skip_ (w1 := ?_) (by rfl) rfl ?_ ?_
                      rotate_left
                      · go_simp
                        rfl
                      refine hK.out _ _ ⟨((cell_far (p := ⟨gb525, _, none⟩) NB545_525.out _).trans (((cell_far (p := ⟨gb525, _, none⟩) NB545_525.out _).trans (hHeld.1)))), ((cell_far (p := ⟨gb525, _, none⟩) NB545_525.out _).trans (((cell_far (p := ⟨gb525, _, none⟩) NB545_525.out _).trans (hHeld.2.1)))), ((cell_far (p := ⟨gb525, _, none⟩) NB549_525.out _).trans (((cell_far (p := ⟨gb525, _, none⟩) NB549_525.out _).trans (hHeld.2.2.1)))), ((cell_far (p := ⟨gb525, _, none⟩) NB549_525.out _).trans (((cell_far (p := ⟨gb525, _, none⟩) NB549_525.out _).trans (hHeld.2.2.2))))⟩ (fun hHeld => ?_)
                      clear hK K
                      refine done_ (done_of HT_.out (by kernel_rfl)) ?_
                      have hnb127 := NB520_521.out
                      have hnc127 := NB521_520.out
                      have hnb128 := NB520_525.out
                      have hnc128 := NB525_520.out
                      have hnb129 := NB520_534.out
                      have hnc129 := NB534_520.out
                      have hnb130 := NB520_541.out
                      have hnc130 := NB541_520.out
                      have hnb131 := NB520_545.out
                      have hnc131 := NB545_520.out
                      have hnb132 := NB520_549.out
                      have hnc132 := NB549_520.out
                      have hnb133 := NB520_0.out
                      have hnc133 := NB0_520.out
                      obtain ⟨hcz134_0, hcz134_1, hcz134_2, hfz134_0, hfz134_1, hfz134_2⟩ := cl3 BK520
                      have hnb135 := NB525_521.out
                      have hnc135 := NB521_525.out
                      have hnb136 := NB525_534.out
                      have hnc136 := NB534_525.out
                      have hnb137 := NB525_541.out
                      have hnc137 := NB541_525.out
                      have hnb138 := NB525_545.out
                      have hnc138 := NB545_525.out
                      have hnb139 := NB525_549.out
                      have hnc139 := NB549_525.out
                      have hnb140 := NB525_0.out
                      have hnc140 := NB0_525.out
                      obtain ⟨hcz141_0, hcz141_1, hcz141_2, hcz141_3, hcz141_4, hcz141_5, hfz141_0, hfz141_1, hfz141_2, hfz141_3, hfz141_4, hfz141_5⟩ := cl6 BK525
                      try go_wp2_with (first | ((with_reducible refine gate_callee (f := 55) rfl ?_); refine gl_ (some 95) Try.func55 #[.agg #[.int .i64 a1_0, .int .i64 a1_1, .int .i64 a1_2], .agg #[.int .i64 t522, .bool true, .int .i64 t546, .string t547, .int .i64 t542, .string t543]] rfl ?_; (with_reducible refine (impl_statsOk.calls kj35 a1_0 a1_1 a1_2 t522 true t546 t547 t542 t543 false _ A90.out).mono ?_); rintro e w142 ⟨rfl, hb⟩; refine ⟨_, rfl, ?_⟩; replace BK520 := bkb BK520 hb; replace BK521 := bkb BK521 hb; replace BK525 := Aside0.mk (blk_below (g := gb525) (o := .cells #[.int .i64 t522, .bool true, .int .i64 t546, .string t547, .int .i64 t542, .string t543] 29 (0, 0)) (blk_later BK525.out) hb); replace BK534 := bkb BK534 hb; replace BK541 := bkb BK541 hb; replace BK545 := bkb BK545 hb; replace BK549 := bkb BK549 hb; replace HK := Aside0.mk (KeepBut.trans (keep_later HK.out) (KeepBut.of_below hb g none) (.inl rfl)); replace HB := Aside0.mk (below_step (by repeat (first | (with_reducible first | exact HB.out | apply below_alloc | apply pw_below_drewN | apply below_drew1 | refine below_set ?_ (IsS85.ge HI0.out) | refine below_set ?_ GE520.out | refine below_set ?_ GE521.out | refine below_set ?_ GE525.out | refine below_set ?_ GE534.out | refine below_set ?_ GE541.out | refine below_set ?_ GE545.out | refine below_set ?_ GE549.out) | exact HB.out)) hb); replace HI0 := Aside0.mk (IsS85.below (show IsS85 w0 (((((w121.setCell ⟨gb525, 1, none⟩ (.bool true)).setCell ⟨gb525, 4, none⟩ (.int .i64 t542)).setCell ⟨gb525, 5, none⟩ (.string t543)).setCell ⟨gb525, 2, none⟩ (.int .i64 t546)).setCell ⟨gb525, 3, none⟩ (.string t547)) g s0_0 s0_1 from by repeat (first | (with_reducible first | exact HI0.out | apply IsS85.alloc | apply IsS85.drewN | apply IsS85.drew | refine IsS85.far ?_ (Aside0.out (by with_reducible assumption)) _) | exact HI0.out)) hb); (try clear hb); have hnb143 := NB521_534.out; have hnc143 := NB534_521.out; have hnb144 := NB521_541.out; have hnc144 := NB541_521.out; have hnb145 := NB521_545.out; have hnc145 := NB545_521.out; have hnb146 := NB521_549.out; have hnc146 := NB549_521.out; have hnb147 := NB521_0.out; have hnc147 := NB0_521.out; obtain ⟨hcz148_0, hcz148_1, hcz148_2, hcz148_3, hcz148_4, hcz148_5, hfz148_0, hfz148_1, hfz148_2, hfz148_3, hfz148_4, hfz148_5⟩ := cl6 BK521))
                      refine bodyPost_ret (results_ct rfl _ _ gb521 29 #[.int .i64 0, .bool false, .int .i64 0, .string (⟨#[]⟩ : ByteArray), .int .i64 0, .string (⟨#[]⟩ : ByteArray)] (0, 0) _ rfl (by (with_reducible repeat (first | refine blk_drewN ?_ _ | refine blk_drew ?_ | refine blk_alloc ?_ _)); refine blk_put (cs := #[.int .i64 0, .bool false, .int .i64 0, .string (⟨#[]⟩ : ByteArray), .int .i64 0, .string (⟨#[]⟩ : ByteArray)]) ?_ 5 _ rfl; (with_reducible repeat (first | refine blk_drewN ?_ _ | refine blk_drew ?_ | refine blk_alloc ?_ _)); refine blk_put (cs := #[.int .i64 0, .bool false, .int .i64 0, .string (⟨#[]⟩ : ByteArray), .int .i64 0, .string (⟨#[]⟩ : ByteArray)]) ?_ 4 _ rfl; (with_reducible repeat (first | refine blk_drewN ?_ _ | refine blk_drew ?_ | refine blk_alloc ?_ _)); refine blk_put (cs := #[.int .i64 0, .bool false, .int .i64 0, .string (⟨#[]⟩ : ByteArray), .int .i64 0, .string (⟨#[]⟩ : ByteArray)]) ?_ 3 _ rfl; (with_reducible repeat (first | refine blk_drewN ?_ _ | refine blk_drew ?_ | refine blk_alloc ?_ _)); refine blk_put (cs := #[.int .i64 0, .bool false, .int .i64 0, .string (⟨#[]⟩ : ByteArray), .int .i64 0, .string (⟨#[]⟩ : ByteArray)]) ?_ 2 _ rfl; (with_reducible repeat (first | refine blk_drewN ?_ _ | refine blk_drew ?_ | refine blk_alloc ?_ _)); refine blk_put (cs := #[.int .i64 0, .bool false, .int .i64 0, .string (⟨#[]⟩ : ByteArray), .int .i64 0, .string (⟨#[]⟩ : ByteArray)]) ?_ 1 _ rfl; (with_reducible repeat (first | refine blk_drewN ?_ _ | refine blk_drew ?_ | refine blk_alloc ?_ _)); refine blk_put (cs := #[.int .i64 0, .bool false, .int .i64 0, .string (⟨#[]⟩ : ByteArray), .int .i64 0, .string (⟨#[]⟩ : ByteArray)]) ?_ 0 _ rfl; (with_reducible repeat (first | refine blk_drewN ?_ _ | refine blk_drew ?_ | refine blk_alloc ?_ _)); exact BK521.out) Try.underlying29 rfl (by kernel_rfl)) rfl ?_
                      exact ⟨by first | rfl | (simp [errW_none, errW_some] <;> rfl) | (simp [*, errW_none, errW_some] <;> rfl), by repeat (first | (with_reducible first | exact HI0.out | apply IsS85.alloc | apply IsS85.drewN | apply IsS85.drew | refine IsS85.far ?_ (Aside0.out (by with_reducible assumption)) _) | exact HI0.out), by repeat (first | (with_reducible first | exact HB.out | apply below_alloc | apply pw_below_drewN | apply below_drew1 | refine below_set ?_ (IsS85.ge HI0.out) | refine below_set ?_ GE520.out | refine below_set ?_ GE521.out | refine below_set ?_ GE525.out | refine below_set ?_ GE534.out | refine below_set ?_ GE541.out | refine below_set ?_ GE545.out | refine below_set ?_ GE549.out) | exact HB.out), keep_later HK.out⟩
            · replace c31 := Bool.eq_false_iff.mpr c31
              subst c31
              replace H := ifn Bool.false_ne_true H
              replace H := bnd H
              obtain ⟨t551, A149, H⟩ := H
              by_cases c150 : t551 = true
              · subst c150
                replace H := ifp rfl H
                simp only [Option.some.injEq, Prod.mk.injEq] at H
                obtain ⟨rfl, rfl, rfl, rfl, rfl, rfl, rfl⟩ := H
                have hnb151 := NB520_521.out
                have hnc151 := NB521_520.out
                have hnb152 := NB520_525.out
                have hnc152 := NB525_520.out
                have hnb153 := NB520_0.out
                have hnc153 := NB0_520.out
                obtain ⟨hcz154_0, hcz154_1, hcz154_2, hfz154_0, hfz154_1, hfz154_2⟩ := cl3 BK520
                have hnb155 := NB525_521.out
                have hnc155 := NB521_525.out
                have hnb156 := NB525_0.out
                have hnc156 := NB0_525.out
                obtain ⟨hcz157_0, hcz157_1, hcz157_2, hcz157_3, hcz157_4, hcz157_5, hfz157_0, hfz157_1, hfz157_2, hfz157_3, hfz157_4, hfz157_5⟩ := cl6 BK525
                go_wp2_with (first | ((with_reducible refine gate_callee (f := 55) rfl ?_); refine gl_ (some 95) Try.func55 #[.agg #[.int .i64 a1_0, .int .i64 a1_1, .int .i64 a1_2], .agg #[.int .i64 t522, .bool false, .int .i64 0, .string (⟨#[]⟩ : ByteArray), .int .i64 0, .string (⟨#[]⟩ : ByteArray)]] rfl ?_; (with_reducible refine (impl_statsOk.calls kj18 a1_0 a1_1 a1_2 t522 false 0 (⟨#[]⟩ : ByteArray) 0 (⟨#[]⟩ : ByteArray) true _ A149.out).mono ?_); rintro e w158 ⟨rfl, hb⟩; refine ⟨_, rfl, ?_⟩; replace BK520 := bkb BK520 hb; replace BK521 := bkb BK521 hb; replace BK525 := bkb BK525 hb; replace HK := Aside0.mk (KeepBut.trans (keep_later HK.out) (KeepBut.of_below hb g none) (.inl rfl)); replace HB := Aside0.mk (below_step (by repeat (first | (with_reducible first | exact HB.out | apply below_alloc | apply pw_below_drewN | apply below_drew1 | refine below_set ?_ (IsS85.ge HI0.out) | refine below_set ?_ GE520.out | refine below_set ?_ GE521.out | refine below_set ?_ GE525.out) | exact HB.out)) hb); replace HI0 := Aside0.mk (IsS85.below (by repeat (first | (with_reducible first | exact HI0.out | apply IsS85.alloc | apply IsS85.drewN | apply IsS85.drew | refine IsS85.far ?_ (Aside0.out (by with_reducible assumption)) _) | exact HI0.out)) hb); (try clear hb); obtain ⟨hcz159_0, hcz159_1, hcz159_2, hcz159_3, hcz159_4, hcz159_5, hfz159_0, hfz159_1, hfz159_2, hfz159_3, hfz159_4, hfz159_5⟩ := cl6 BK525; have hnb160 := NB521_0.out; have hnc160 := NB0_521.out; obtain ⟨hcz161_0, hcz161_1, hcz161_2, hcz161_3, hcz161_4, hcz161_5, hfz161_0, hfz161_1, hfz161_2, hfz161_3, hfz161_4, hfz161_5⟩ := cl6 BK521))
                refine bodyPost_ret (results_ct rfl _ _ gb521 29 #[.int .i64 t522, .bool false, .int .i64 0, .string (⟨#[]⟩ : ByteArray), .int .i64 0, .string (⟨#[]⟩ : ByteArray)] (0, 0) _ rfl (by (with_reducible repeat (first | refine blk_drewN ?_ _ | refine blk_drew ?_ | refine blk_alloc ?_ _)); refine blk_put (cs := #[.int .i64 t522, .bool false, .int .i64 0, .string (⟨#[]⟩ : ByteArray), .int .i64 0, .string (⟨#[]⟩ : ByteArray)]) ?_ 5 _ rfl; (with_reducible repeat (first | refine blk_drewN ?_ _ | refine blk_drew ?_ | refine blk_alloc ?_ _)); refine blk_put (cs := #[.int .i64 t522, .bool false, .int .i64 0, .string (⟨#[]⟩ : ByteArray), .int .i64 0, .string (⟨#[]⟩ : ByteArray)]) ?_ 4 _ rfl; (with_reducible repeat (first | refine blk_drewN ?_ _ | refine blk_drew ?_ | refine blk_alloc ?_ _)); refine blk_put (cs := #[.int .i64 t522, .bool false, .int .i64 0, .string (⟨#[]⟩ : ByteArray), .int .i64 0, .string (⟨#[]⟩ : ByteArray)]) ?_ 3 _ rfl; (with_reducible repeat (first | refine blk_drewN ?_ _ | refine blk_drew ?_ | refine blk_alloc ?_ _)); refine blk_put (cs := #[.int .i64 t522, .bool false, .int .i64 0, .string (⟨#[]⟩ : ByteArray), .int .i64 0, .string (⟨#[]⟩ : ByteArray)]) ?_ 2 _ rfl; (with_reducible repeat (first | refine blk_drewN ?_ _ | refine blk_drew ?_ | refine blk_alloc ?_ _)); refine blk_put (cs := #[.int .i64 t522, .bool false, .int .i64 0, .string (⟨#[]⟩ : ByteArray), .int .i64 0, .string (⟨#[]⟩ : ByteArray)]) ?_ 1 _ rfl; (with_reducible repeat (first | refine blk_drewN ?_ _ | refine blk_drew ?_ | refine blk_alloc ?_ _)); refine blk_put (cs := #[.int .i64 0, .bool false, .int .i64 0, .string (⟨#[]⟩ : ByteArray), .int .i64 0, .string (⟨#[]⟩ : ByteArray)]) ?_ 0 _ rfl; (with_reducible repeat (first | refine blk_drewN ?_ _ | refine blk_drew ?_ | refine blk_alloc ?_ _)); exact BK521.out) Try.underlying29 rfl (by kernel_rfl)) rfl ?_
                exact ⟨by first | rfl | (simp [errW_none, errW_some] <;> rfl) | (simp [*, errW_none, errW_some] <;> rfl), by repeat (first | (with_reducible first | exact HI0.out | apply IsS85.alloc | apply IsS85.drewN | apply IsS85.drew | refine IsS85.far ?_ (Aside0.out (by with_reducible assumption)) _) | exact HI0.out), by repeat (first | (with_reducible first | exact HB.out | apply below_alloc | apply pw_below_drewN | apply below_drew1 | refine below_set ?_ (IsS85.ge HI0.out) | refine below_set ?_ GE520.out | refine below_set ?_ GE521.out | refine below_set ?_ GE525.out) | exact HB.out), keep_later HK.out⟩
              · replace c150 := Bool.eq_false_iff.mpr c150
                subst c150
                replace H := ifn Bool.false_ne_true H
                simp only [Option.some.injEq, Prod.mk.injEq] at H
                obtain ⟨rfl, rfl, rfl, rfl, rfl, rfl, rfl⟩ := H
                have hnb162 := NB520_521.out
                have hnc162 := NB521_520.out
                have hnb163 := NB520_525.out
                have hnc163 := NB525_520.out
                have hnb164 := NB520_0.out
                have hnc164 := NB0_520.out
                obtain ⟨hcz165_0, hcz165_1, hcz165_2, hfz165_0, hfz165_1, hfz165_2⟩ := cl3 BK520
                have hnb166 := NB525_521.out
                have hnc166 := NB521_525.out
                have hnb167 := NB525_0.out
                have hnc167 := NB0_525.out
                obtain ⟨hcz168_0, hcz168_1, hcz168_2, hcz168_3, hcz168_4, hcz168_5, hfz168_0, hfz168_1, hfz168_2, hfz168_3, hfz168_4, hfz168_5⟩ := cl6 BK525
                go_wp2_with (first | ((with_reducible refine gate_callee (f := 55) rfl ?_); refine gl_ (some 95) Try.func55 #[.agg #[.int .i64 a1_0, .int .i64 a1_1, .int .i64 a1_2], .agg #[.int .i64 t522, .bool false, .int .i64 0, .string (⟨#[]⟩ : ByteArray), .int .i64 0, .string (⟨#[]⟩ : ByteArray)]] rfl ?_; (with_reducible refine (impl_statsOk.calls kj18 a1_0 a1_1 a1_2 t522 false 0 (⟨#[]⟩ : ByteArray) 0 (⟨#[]⟩ : ByteArray) false _ A149.out).mono ?_); rintro e w169 ⟨rfl, hb⟩; refine ⟨_, rfl, ?_⟩; replace BK520 := bkb BK520 hb; replace BK521 := bkb BK521 hb; replace BK525 := bkb BK525 hb; replace HK := Aside0.mk (KeepBut.trans (keep_later HK.out) (KeepBut.of_below hb g none) (.inl rfl)); replace HB := Aside0.mk (below_step (by repeat (first | (with_reducible first | exact HB.out | apply below_alloc | apply pw_below_drewN | apply below_drew1 | refine below_set ?_ (IsS85.ge HI0.out) | refine below_set ?_ GE520.out | refine below_set ?_ GE521.out | refine below_set ?_ GE525.out) | exact HB.out)) hb); replace HI0 := Aside0.mk (IsS85.below (by repeat (first | (with_reducible first | exact HI0.out | apply IsS85.alloc | apply IsS85.drewN | apply IsS85.drew | refine IsS85.far ?_ (Aside0.out (by with_reducible assumption)) _) | exact HI0.out)) hb); (try clear hb); have hnb170 := NB521_0.out; have hnc170 := NB0_521.out; obtain ⟨hcz171_0, hcz171_1, hcz171_2, hcz171_3, hcz171_4, hcz171_5, hfz171_0, hfz171_1, hfz171_2, hfz171_3, hfz171_4, hfz171_5⟩ := cl6 BK521))
                refine bodyPost_ret (results_ct rfl _ _ gb521 29 #[.int .i64 0, .bool false, .int .i64 0, .string (⟨#[]⟩ : ByteArray), .int .i64 0, .string (⟨#[]⟩ : ByteArray)] (0, 0) _ rfl (by (with_reducible repeat (first | refine blk_drewN ?_ _ | refine blk_drew ?_ | refine blk_alloc ?_ _)); refine blk_put (cs := #[.int .i64 0, .bool false, .int .i64 0, .string (⟨#[]⟩ : ByteArray), .int .i64 0, .string (⟨#[]⟩ : ByteArray)]) ?_ 5 _ rfl; (with_reducible repeat (first | refine blk_drewN ?_ _ | refine blk_drew ?_ | refine blk_alloc ?_ _)); refine blk_put (cs := #[.int .i64 0, .bool false, .int .i64 0, .string (⟨#[]⟩ : ByteArray), .int .i64 0, .string (⟨#[]⟩ : ByteArray)]) ?_ 4 _ rfl; (with_reducible repeat (first | refine blk_drewN ?_ _ | refine blk_drew ?_ | refine blk_alloc ?_ _)); refine blk_put (cs := #[.int .i64 0, .bool false, .int .i64 0, .string (⟨#[]⟩ : ByteArray), .int .i64 0, .string (⟨#[]⟩ : ByteArray)]) ?_ 3 _ rfl; (with_reducible repeat (first | refine blk_drewN ?_ _ | refine blk_drew ?_ | refine blk_alloc ?_ _)); refine blk_put (cs := #[.int .i64 0, .bool false, .int .i64 0, .string (⟨#[]⟩ : ByteArray), .int .i64 0, .string (⟨#[]⟩ : ByteArray)]) ?_ 2 _ rfl; (with_reducible repeat (first | refine blk_drewN ?_ _ | refine blk_drew ?_ | refine blk_alloc ?_ _)); refine blk_put (cs := #[.int .i64 0, .bool false, .int .i64 0, .string (⟨#[]⟩ : ByteArray), .int .i64 0, .string (⟨#[]⟩ : ByteArray)]) ?_ 1 _ rfl; (with_reducible repeat (first | refine blk_drewN ?_ _ | refine blk_drew ?_ | refine blk_alloc ?_ _)); refine blk_put (cs := #[.int .i64 0, .bool false, .int .i64 0, .string (⟨#[]⟩ : ByteArray), .int .i64 0, .string (⟨#[]⟩ : ByteArray)]) ?_ 0 _ rfl; (with_reducible repeat (first | refine blk_drewN ?_ _ | refine blk_drew ?_ | refine blk_alloc ?_ _)); exact BK521.out) Try.underlying29 rfl (by kernel_rfl)) rfl ?_
                exact ⟨by first | rfl | (simp [errW_none, errW_some] <;> rfl) | (simp [*, errW_none, errW_some] <;> rfl), by repeat (first | (with_reducible first | exact HI0.out | apply IsS85.alloc | apply IsS85.drewN | apply IsS85.drew | refine IsS85.far ?_ (Aside0.out (by with_reducible assumption)) _) | exact HI0.out), by repeat (first | (with_reducible first | exact HB.out | apply below_alloc | apply pw_below_drewN | apply below_drew1 | refine below_set ?_ (IsS85.ge HI0.out) | refine below_set ?_ GE520.out | refine below_set ?_ GE521.out | refine below_set ?_ GE525.out) | exact HB.out), keep_later HK.out⟩

/-! ### impl_StatsFrom: function 9 -/
def impl_StatsFrom.f (k : Nat) (a0_0 : Int) (a0_1 : Int) (a0_2 : Int) (l1 : List (S57)) (a2 : Int) : Option (Int × Bool × Int × ByteArray × Int × ByteArray × Bool) := (impl_treeOf.f k l1).bind fun bt554 => (if bt554.2 = true then ((impl_tree_stats.f k l1 bt554.1 a0_0 a0_1 a0_2 a2).bind fun bt558 => (some (bt558.1, bt558.2.1, bt558.2.2.1, bt558.2.2.2.1, bt558.2.2.2.2.1, bt558.2.2.2.2.2.1, bt558.2.2.2.2.2.2))) else (some (0, false, 0, (⟨#[]⟩ : ByteArray), 0, (⟨#[]⟩ : ByteArray), false)))
set_option maxHeartbeats 8000000 in
set_option maxRecDepth 100000 in
theorem impl_StatsFrom.calls (k : Nat) (a0_0 : Int) (a0_1 : Int) (a0_2 : Int) (A1 : Option Addr) (c1 : Nat) (l1 : List (S57)) (a2 : Int) (r1 : Int) (r2 : Bool) (r3 : Int) (r4 : ByteArray) (r5 : Int) (r6 : ByteArray) (r7 : Bool) (w : World) (hr1 : Kd.C k57 w A1 l1.length l1) (hc1 : l1.length ≤ c1) (h : impl_StatsFrom.f k a0_0 a0_1 a0_2 l1 a2 = some (r1, r2, r3, r4, r5, r6, r7)) :
    Calls Try.prog 9 #[.agg #[.int .i64 a0_0, .int .i64 a0_1, .int .i64 a0_2], .slice A1 l1.length c1, .int .i64 a2] w fun e w' => e = .returned (.tuple #[.agg #[.int .i64 r1, .bool r2, .int .i64 r3, .string r4, .int .i64 r5, .string r6], .bool r7]) ∧ Below w.heap.size w w' := by
  have hu32 := Try.underlying32
  have hu29 := Try.underlying29
  have HR1 := Aside0.mk hr1
  have HC1 := Aside0.mk hc1
  clear hr1 hc1
  have HB := Aside0.mk (Below.refl w.heap.size w)
  have H : ((impl_treeOf.f k l1).bind fun bt554 => (if bt554.2 = true then ((impl_tree_stats.f k l1 bt554.1 a0_0 a0_1 a0_2 a2).bind fun bt558 => (some (bt558.1, bt558.2.1, bt558.2.2.1, bt558.2.2.2.1, bt558.2.2.2.2.1, bt558.2.2.2.2.2.1, bt558.2.2.2.2.2.2))) else (some (0, false, 0, (⟨#[]⟩ : ByteArray), 0, (⟨#[]⟩ : ByteArray), false)))) = some (r1, r2, r3, r4, r5, r6, r7) := h
  clear h
  replace H := Option.bind_eq_some_iff.mp H
  obtain ⟨⟨t555, t557⟩, A40, H⟩ := H
  replace H : (if t557 = true then ((impl_tree_stats.f k l1 t555 a0_0 a0_1 a0_2 a2).bind fun bt558 => (some (bt558.1, bt558.2.1, bt558.2.2.1, bt558.2.2.2.1, bt558.2.2.2.2.1, bt558.2.2.2.2.2.1, bt558.2.2.2.2.2.2))) else (some (0, false, 0, (⟨#[]⟩ : ByteArray), 0, (⟨#[]⟩ : ByteArray), false))) = some (r1, r2, r3, r4, r5, r6, r7) := H
  have A4 := Aside0.mk A40
  clear A40
  by_cases c5 : t557 = true
  · subst c5
    replace H := ifp rfl H
    replace H := Option.bind_eq_some_iff.mp H
    obtain ⟨⟨t558, t559, t560, t561, t562, t563, t564⟩, A60, H⟩ := H
    replace H : (some (t558, t559, t560, t561, t562, t563, t564)) = some (r1, r2, r3, r4, r5, r6, r7) := H
    have A6 := Aside0.mk A60
    clear A60
    simp only [Option.some.injEq, Prod.mk.injEq] at H
    obtain ⟨rfl, rfl, rfl, rfl, rfl, rfl, rfl⟩ := H
    go_enter Try.func9, Try.ntmps9
    go_wp2_with (first | ((with_reducible refine gate_dst (N := 3) rfl ?_); refine bx_ 3 #[.int .i64 a0_0, .int .i64 a0_1, .int .i64 a0_2] 32 ?_; intro gb552 hg w7 hbox hb; have BK552 := Aside0.mk (hbox); have GW552 := gwe HB hg; have GE552 := GW552; replace HB := bst HB hb; clear hb hbox hg) | ((with_reducible refine gate_dst (N := 6) rfl ?_); refine bx_ 6 #[.int .i64 0, .bool false, .int .i64 0, .string (⟨#[]⟩ : ByteArray), .int .i64 0, .string (⟨#[]⟩ : ByteArray)] 29 ?_; intro gb553 hg w8 hbox hb; have BK553 := Aside0.mk (hbox); have GW553 := gwe HB hg; have GE553 := GW553; have NB552_553 := nbl BK552 hg; have NB553_552 := nbr (nbl BK552 hg); replace BK552 := bkb BK552 hb; replace HB := bst HB hb; clear hb hbox hg) | ((with_reducible refine gate_callee (f := 27) rfl ?_); refine gl_ (some 12) Try.func27 #[.slice A1 l1.length c1] rfl ?_; (with_reducible refine (impl_treeOf.calls k _ _ l1 t555 true _ ?side1 ?side2 A4.out).mono ?_); (case side1 => exact C_later (Kd.C_below HR1.out HB.out)); (case side2 => exact HC1.out); rintro e w9 ⟨p_, rfl, hp_⟩; obtain ⟨hb2, _, hp2_⟩ := hp_; obtain ⟨g556, wz, rfl, hi, hbz, hz⟩ := hp2_ rfl; have HZ := Aside0.mk hbz; have HS := Aside0.mk (Nat.le_trans (below_size (below_later HB.out)) hz); have hb := below_step (below_later HB.out) hb2; clear hp2_ hbz hz; refine ⟨_, rfl, ?_⟩; have HI556 := Aside0.mk (hi); have NB556_552 := Aside0.mk (IsS85.ne_blk hi (blk_below (blk_later BK552.out) hb2) (by decide)); have NB552_556 := Aside0.mk (Ne.symm (IsS85.ne_blk hi (blk_below (blk_later BK552.out) hb2) (by decide))); have NB556_553 := Aside0.mk (IsS85.ne_blk hi (blk_below (g := gb553) (o := .cells #[.int .i64 0, .bool false, .int .i64 0, .string (⟨#[]⟩ : ByteArray), .int .i64 0, .string (⟨#[]⟩ : ByteArray)] 29 (0, 0)) (blk_later BK553.out) hb2) (by decide)); have NB553_556 := Aside0.mk (Ne.symm (IsS85.ne_blk hi (blk_below (g := gb553) (o := .cells #[.int .i64 0, .bool false, .int .i64 0, .string (⟨#[]⟩ : ByteArray), .int .i64 0, .string (⟨#[]⟩ : ByteArray)] 29 (0, 0)) (blk_later BK553.out) hb2) (by decide))); replace BK552 := Aside0.mk (blk_below (blk_later BK552.out) hb2); replace BK553 := Aside0.mk (blk_below (g := gb553) (o := .cells #[.int .i64 0, .bool false, .int .i64 0, .string (⟨#[]⟩ : ByteArray), .int .i64 0, .string (⟨#[]⟩ : ByteArray)] 29 (0, 0)) (blk_later BK553.out) hb2); replace HB := Aside0.mk (hb); (try clear hb); (try clear hb2); (try clear hk); (try clear hi); have hnb10 := NB552_553.out; have hnc10 := NB553_552.out; have hnb11 := NB552_556.out; have hnc11 := NB556_552.out; obtain ⟨hcz12_0, hcz12_1, hcz12_2, hfz12_0, hfz12_1, hfz12_2⟩ := cl3 BK552) | ((with_reducible refine gate_callee (f := 28) rfl ?_); refine gl_ (some 21) Try.func28 #[.pointer (some ⟨g556, 0, none⟩), .agg #[.int .i64 a0_0, .int .i64 a0_1, .int .i64 a0_2], .int .i64 a2] rfl ?_; (with_reducible refine (impl_tree_stats.calls k g556 l1 t555 a0_0 a0_1 a0_2 a2 t558 t559 t560 t561 t562 t563 t564 wz _ ?side1 ?side2 A6.out).mono ?_); (case side1 => repeat (first | (with_reducible first | exact HI556.out | apply IsS85.alloc | apply IsS85.drewN | apply IsS85.drew | refine IsS85.far ?_ (Aside0.out (by with_reducible assumption)) _) | exact HI556.out)); (case side2 => exact below_later HZ.out); rintro e w13 ⟨rfl, hi, hbz, hk⟩; have hb := below_via HB.out HZ.out hbz HS.out HS.out; replace HZ := Aside0.mk hbz; clear hbz; refine ⟨_, rfl, ?_⟩; replace BK552 := Aside0.mk (KeepBut.blk hk (g' := gb552) (o := .cells #[.int .i64 a0_0, .int .i64 a0_1, .int .i64 a0_2] 32 (0, 0)) (blk_later BK552.out) NB552_556.out (by simp)); replace BK553 := Aside0.mk (KeepBut.blk hk (g' := gb553) (o := .cells #[.int .i64 0, .bool false, .int .i64 0, .string (⟨#[]⟩ : ByteArray), .int .i64 0, .string (⟨#[]⟩ : ByteArray)] 29 (0, 0)) (blk_later BK553.out) NB553_556.out (by simp)); replace HB := Aside0.mk (hb); replace HI556 := Aside0.mk (hi); (try clear hb); (try clear hb2); (try clear hk); (try clear hi); have hnb14 := NB553_556.out; have hnc14 := NB556_553.out; obtain ⟨hcz15_0, hcz15_1, hcz15_2, hcz15_3, hcz15_4, hcz15_5, hfz15_0, hfz15_1, hfz15_2, hfz15_3, hfz15_4, hfz15_5⟩ := cl6 BK553))
    refine bodyPost_ret (results_ct rfl _ _ gb553 29 #[.int .i64 t558, .bool t559, .int .i64 t560, .string t561, .int .i64 t562, .string t563] (0, 0) _ rfl (by (with_reducible repeat (first | refine blk_drewN ?_ _ | refine blk_drew ?_ | refine blk_alloc ?_ _)); refine blk_put (cs := #[.int .i64 t558, .bool t559, .int .i64 t560, .string t561, .int .i64 t562, .string (⟨#[]⟩ : ByteArray)]) ?_ 5 _ rfl; (with_reducible repeat (first | refine blk_drewN ?_ _ | refine blk_drew ?_ | refine blk_alloc ?_ _)); refine blk_put (cs := #[.int .i64 t558, .bool t559, .int .i64 t560, .string t561, .int .i64 0, .string (⟨#[]⟩ : ByteArray)]) ?_ 4 _ rfl; (with_reducible repeat (first | refine blk_drewN ?_ _ | refine blk_drew ?_ | refine blk_alloc ?_ _)); refine blk_put (cs := #[.int .i64 t558, .bool t559, .int .i64 t560, .string (⟨#[]⟩ : ByteArray), .int .i64 0, .string (⟨#[]⟩ : ByteArray)]) ?_ 3 _ rfl; (with_reducible repeat (first | refine blk_drewN ?_ _ | refine blk_drew ?_ | refine blk_alloc ?_ _)); refine blk_put (cs := #[.int .i64 t558, .bool t559, .int .i64 0, .string (⟨#[]⟩ : ByteArray), .int .i64 0, .string (⟨#[]⟩ : ByteArray)]) ?_ 2 _ rfl; (with_reducible repeat (first | refine blk_drewN ?_ _ | refine blk_drew ?_ | refine blk_alloc ?_ _)); refine blk_put (cs := #[.int .i64 t558, .bool false, .int .i64 0, .string (⟨#[]⟩ : ByteArray), .int .i64 0, .string (⟨#[]⟩ : ByteArray)]) ?_ 1 _ rfl; (with_reducible repeat (first | refine blk_drewN ?_ _ | refine blk_drew ?_ | refine blk_alloc ?_ _)); refine blk_put (cs := #[.int .i64 0, .bool false, .int .i64 0, .string (⟨#[]⟩ : ByteArray), .int .i64 0, .string (⟨#[]⟩ : ByteArray)]) ?_ 0 _ rfl; (with_reducible repeat (first | refine blk_drewN ?_ _ | refine blk_drew ?_ | refine blk_alloc ?_ _)); exact BK553.out) Try.underlying29 rfl (by kernel_rfl)) rfl ?_
    exact ⟨by first | rfl | (simp [errW_none, errW_some] <;> rfl) | (simp [*, errW_none, errW_some] <;> rfl), by repeat (first | (with_reducible first | exact HB.out | apply below_alloc | apply pw_below_drewN | apply below_drew1 | refine below_set ?_ (IsS85.ge HI556.out) | refine below_set ?_ GE552.out | refine below_set ?_ GE553.out) | exact HB.out)⟩
  · replace c5 := Bool.eq_false_iff.mpr c5
    subst c5
    replace H := ifn Bool.false_ne_true H
    simp only [Option.some.injEq, Prod.mk.injEq] at H
    obtain ⟨rfl, rfl, rfl, rfl, rfl, rfl, rfl⟩ := H
    go_enter Try.func9, Try.ntmps9
    go_wp2_with (first | ((with_reducible refine gate_dst (N := 3) rfl ?_); refine bx_ 3 #[.int .i64 a0_0, .int .i64 a0_1, .int .i64 a0_2] 32 ?_; intro gb552 hg w16 hbox hb; have BK552 := Aside0.mk (hbox); have GW552 := gwe HB hg; have GE552 := GW552; replace HB := bst HB hb; clear hb hbox hg) | ((with_reducible refine gate_dst (N := 6) rfl ?_); refine bx_ 6 #[.int .i64 0, .bool false, .int .i64 0, .string (⟨#[]⟩ : ByteArray), .int .i64 0, .string (⟨#[]⟩ : ByteArray)] 29 ?_; intro gb553 hg w17 hbox hb; have BK553 := Aside0.mk (hbox); have GW553 := gwe HB hg; have GE553 := GW553; have NB552_553 := nbl BK552 hg; have NB553_552 := nbr (nbl BK552 hg); replace BK552 := bkb BK552 hb; replace HB := bst HB hb; clear hb hbox hg) | ((with_reducible refine gate_callee (f := 27) rfl ?_); refine gl_ (some 12) Try.func27 #[.slice A1 l1.length c1] rfl ?_; (with_reducible refine (impl_treeOf.calls k _ _ l1 t555 false _ ?side1 ?side2 A4.out).mono ?_); (case side1 => exact C_later (Kd.C_below HR1.out HB.out)); (case side2 => exact HC1.out); rintro e w18 ⟨p_, rfl, hp_⟩; obtain ⟨hb2, hp1_, _⟩ := hp_; obtain rfl := hp1_ rfl; have hb := below_step (below_later HB.out) hb2; clear hp1_; refine ⟨_, rfl, ?_⟩; replace BK552 := Aside0.mk (blk_below (blk_later BK552.out) hb2); replace BK553 := Aside0.mk (blk_below (g := gb553) (o := .cells #[.int .i64 0, .bool false, .int .i64 0, .string (⟨#[]⟩ : ByteArray), .int .i64 0, .string (⟨#[]⟩ : ByteArray)] 29 (0, 0)) (blk_later BK553.out) hb2); replace HB := Aside0.mk (hb); (try clear hb); (try clear hb2); have hnb19 := NB553_552.out; have hnc19 := NB552_553.out; obtain ⟨hcz21_0, hcz21_1, hcz21_2, hcz21_3, hcz21_4, hcz21_5, hfz21_0, hfz21_1, hfz21_2, hfz21_3, hfz21_4, hfz21_5⟩ := cl6 BK553))
    refine bodyPost_ret (results_ct rfl _ _ gb553 29 #[.int .i64 0, .bool false, .int .i64 0, .string (⟨#[]⟩ : ByteArray), .int .i64 0, .string (⟨#[]⟩ : ByteArray)] (0, 0) _ rfl (by (with_reducible repeat (first | refine blk_drewN ?_ _ | refine blk_drew ?_ | refine blk_alloc ?_ _)); refine blk_put (cs := #[.int .i64 0, .bool false, .int .i64 0, .string (⟨#[]⟩ : ByteArray), .int .i64 0, .string (⟨#[]⟩ : ByteArray)]) ?_ 5 _ rfl; (with_reducible repeat (first | refine blk_drewN ?_ _ | refine blk_drew ?_ | refine blk_alloc ?_ _)); refine blk_put (cs := #[.int .i64 0, .bool false, .int .i64 0, .string (⟨#[]⟩ : ByteArray), .int .i64 0, .string (⟨#[]⟩ : ByteArray)]) ?_ 4 _ rfl; (with_reducible repeat (first | refine blk_drewN ?_ _ | refine blk_drew ?_ | refine blk_alloc ?_ _)); refine blk_put (cs := #[.int .i64 0, .bool false, .int .i64 0, .string (⟨#[]⟩ : ByteArray), .int .i64 0, .string (⟨#[]⟩ : ByteArray)]) ?_ 3 _ rfl; (with_reducible repeat (first | refine blk_drewN ?_ _ | refine blk_drew ?_ | refine blk_alloc ?_ _)); refine blk_put (cs := #[.int .i64 0, .bool false, .int .i64 0, .string (⟨#[]⟩ : ByteArray), .int .i64 0, .string (⟨#[]⟩ : ByteArray)]) ?_ 2 _ rfl; (with_reducible repeat (first | refine blk_drewN ?_ _ | refine blk_drew ?_ | refine blk_alloc ?_ _)); refine blk_put (cs := #[.int .i64 0, .bool false, .int .i64 0, .string (⟨#[]⟩ : ByteArray), .int .i64 0, .string (⟨#[]⟩ : ByteArray)]) ?_ 1 _ rfl; (with_reducible repeat (first | refine blk_drewN ?_ _ | refine blk_drew ?_ | refine blk_alloc ?_ _)); refine blk_put (cs := #[.int .i64 0, .bool false, .int .i64 0, .string (⟨#[]⟩ : ByteArray), .int .i64 0, .string (⟨#[]⟩ : ByteArray)]) ?_ 0 _ rfl; (with_reducible repeat (first | refine blk_drewN ?_ _ | refine blk_drew ?_ | refine blk_alloc ?_ _)); exact BK553.out) Try.underlying29 rfl (by kernel_rfl)) rfl ?_
    exact ⟨by first | rfl | (simp [errW_none, errW_some] <;> rfl) | (simp [*, errW_none, errW_some] <;> rfl), by repeat (first | (with_reducible first | exact HB.out | apply below_alloc | apply pw_below_drewN | apply below_drew1 | refine below_set ?_ (IsS85.ge HI556.out) | refine below_set ?_ GE552.out | refine below_set ?_ GE553.out) | exact HB.out)⟩

/-! ### laws_eqVal: function 29 -/
def laws_eqVal.f (a0_0 : Int) (a0_1 : ByteArray) (a1_0 : Int) (a1_1 : ByteArray) : Option (Bool) := if a0_0 = a1_0 then (if a0_1.toList = a1_1.toList then (some true) else (some false)) else (some false)
set_option maxHeartbeats 8000000 in
set_option maxRecDepth 100000 in
theorem laws_eqVal.calls (a0_0 : Int) (a0_1 : ByteArray) (a1_0 : Int) (a1_1 : ByteArray) (r : Bool) (w : World) (h : laws_eqVal.f a0_0 a0_1 a1_0 a1_1 = some true) :
    Calls Try.prog 29 #[.agg #[.int .i64 a0_0, .string a0_1], .agg #[.int .i64 a1_0, .string a1_1]] w fun e w' => e = .returned (.bool true) ∧ Below w.heap.size w w' := by
  have hu27 := Try.underlying27
  have HB := Aside0.mk (Below.refl w.heap.size w)
  have H : (if a0_0 = a1_0 then (if a0_1.toList = a1_1.toList then (some true) else (some false)) else (some false)) = some true := h
  clear h
  by_cases c3 : a0_0 = a1_0
  · rw [if_pos c3] at H
    have c3b0 : (a0_0 == a1_0) = true := beq_iff_eq.mpr c3
    have c3b1 : (a0_0 != a1_0) = false := bne_eq_false_iff_eq.mpr c3
    clear c3
    by_cases c4 : a0_1.toList = a1_1.toList
    · rw [if_pos c4] at H
      have c4b0 : (a0_1.toList == a1_1.toList) = true := beq_iff_eq.mpr c4
      have c4b1 : (a0_1.toList != a1_1.toList) = false := bne_eq_false_iff_eq.mpr c4
      clear c4
      clear H
      go_enter Try.func29, Try.ntmps29
      go_wp2_with (first | ((with_reducible refine gate_dst (N := 2) rfl ?_); refine bx_ 2 #[.int .i64 a0_0, .string a0_1] 27 ?_; intro gb565 hg w5 hbox hb; have BK565 := Aside0.mk (hbox); have GW565 := gwe HB hg; have GE565 := GW565; replace HB := bst HB hb; clear hb hbox hg) | ((with_reducible refine gate_dst (N := 3) rfl ?_); refine bx_ 3 #[.int .i64 a1_0, .string a1_1] 27 ?_; intro gb566 hg w6 hbox hb; have BK566 := Aside0.mk (hbox); have GW566 := gwe HB hg; have GE566 := GW566; have NB565_566 := nbl BK565 hg; have NB566_565 := nbr (nbl BK565 hg); replace BK565 := bkb BK565 hb; replace HB := bst HB hb; clear hb hbox hg; have hnb7 := NB565_566.out; have hnc7 := NB566_565.out; obtain ⟨hcz8_0, hcz8_1, hfz8_0, hfz8_1⟩ := cl2 BK565; obtain ⟨hcz9_0, hcz9_1, hfz9_0, hfz9_1⟩ := cl2 BK566))
      go_ret
      exact fin_ (below_later HB.out)
    · rw [if_neg c4] at H
      cases H
  · rw [if_neg c3] at H
    cases H
/-! ### laws_eqStats: function 10 -/
def laws_eqStats.f (a0_0 : Int) (a0_1 : Bool) (a0_2 : Int) (a0_3 : ByteArray) (a0_4 : Int) (a0_5 : ByteArray) (a1_0 : Int) (a1_1 : Bool) (a1_2 : Int) (a1_3 : ByteArray) (a1_4 : Int) (a1_5 : ByteArray) : Option (Bool) := if a0_0 = a1_0 then (if (a0_1 != a1_1) = true then (some false) else ((laws_eqVal.f a0_2 a0_3 a1_2 a1_3).bind fun t569 => (if t569 = true then ((laws_eqVal.f a0_4 a0_5 a1_4 a1_5).bind fun t570 => (if t570 = true then (some true) else (some false))) else (some false)))) else (some false)
set_option maxHeartbeats 8000000 in
set_option maxRecDepth 100000 in
theorem laws_eqStats.calls (a0_0 : Int) (a0_1 : Bool) (a0_2 : Int) (a0_3 : ByteArray) (a0_4 : Int) (a0_5 : ByteArray) (a1_0 : Int) (a1_1 : Bool) (a1_2 : Int) (a1_3 : ByteArray) (a1_4 : Int) (a1_5 : ByteArray) (r : Bool) (w : World) (h : laws_eqStats.f a0_0 a0_1 a0_2 a0_3 a0_4 a0_5 a1_0 a1_1 a1_2 a1_3 a1_4 a1_5 = some true) :
    Calls Try.prog 10 #[.agg #[.int .i64 a0_0, .bool a0_1, .int .i64 a0_2, .string a0_3, .int .i64 a0_4, .string a0_5], .agg #[.int .i64 a1_0, .bool a1_1, .int .i64 a1_2, .string a1_3, .int .i64 a1_4, .string a1_5]] w fun e w' => e = .returned (.bool true) ∧ Below w.heap.size w w' := by
  have hu29 := Try.underlying29
  have hu27 := Try.underlying27
  have HB := Aside0.mk (Below.refl w.heap.size w)
  have H : (if a0_0 = a1_0 then (if (a0_1 != a1_1) = true then (some false) else ((laws_eqVal.f a0_2 a0_3 a1_2 a1_3).bind fun t569 => (if t569 = true then ((laws_eqVal.f a0_4 a0_5 a1_4 a1_5).bind fun t570 => (if t570 = true then (some true) else (some false))) else (some false)))) else (some false)) = some true := h
  clear h
  by_cases c3 : a0_0 = a1_0
  · rw [if_pos c3] at H
    have c3b0 : (a0_0 == a1_0) = true := beq_iff_eq.mpr c3
    have c3b1 : (a0_0 != a1_0) = false := bne_eq_false_iff_eq.mpr c3
    clear c3
    by_cases c4 : (a0_1 != a1_1) = true
    · rw [if_pos c4] at H
      cases H
    · rw [if_neg c4] at H
      have c4b0 : (a0_1 != a1_1) = false := by simpa using c4
      (try (have c4b1 : decide (a0_1 = a1_1) = true := by simpa using c4))
      (try (have c4b2 : (a0_1 == a1_1) = true := by simpa using c4))
      clear c4
      replace H := bnd H
      obtain ⟨t569, A10, H⟩ := H
      by_cases c11 : t569 = true
      · subst c11
        replace H := ifp rfl H
        replace H := bnd H
        obtain ⟨t570, A12, H⟩ := H
        by_cases c13 : t570 = true
        · subst c13
          replace H := ifp rfl H
          clear H
          go_enter Try.func10, Try.ntmps10
          go_wp2_with (first | ((with_reducible refine gate_dst (N := 2) rfl ?_); refine bx_ 2 #[.int .i64 a0_0, .bool a0_1, .int .i64 a0_2, .string a0_3, .int .i64 a0_4, .string a0_5] 29 ?_; intro gb567 hg w14 hbox hb; have BK567 := Aside0.mk (hbox); have GW567 := gwe HB hg; have GE567 := GW567; replace HB := bst HB hb; clear hb hbox hg) | ((with_reducible refine gate_dst (N := 3) rfl ?_); refine bx_ 3 #[.int .i64 a1_0, .bool a1_1, .int .i64 a1_2, .string a1_3, .int .i64 a1_4, .string a1_5] 29 ?_; intro gb568 hg w15 hbox hb; have BK568 := Aside0.mk (hbox); have GW568 := gwe HB hg; have GE568 := GW568; have NB567_568 := nbl BK567 hg; have NB568_567 := nbr (nbl BK567 hg); replace BK567 := bkb BK567 hb; replace HB := bst HB hb; clear hb hbox hg; have hnb16 := NB567_568.out; have hnc16 := NB568_567.out; obtain ⟨hcz17_0, hcz17_1, hcz17_2, hcz17_3, hcz17_4, hcz17_5, hfz17_0, hfz17_1, hfz17_2, hfz17_3, hfz17_4, hfz17_5⟩ := cl6 BK567; obtain ⟨hcz18_0, hcz18_1, hcz18_2, hcz18_3, hcz18_4, hcz18_5, hfz18_0, hfz18_1, hfz18_2, hfz18_3, hfz18_4, hfz18_5⟩ := cl6 BK568) | ((with_reducible refine gate_callee (f := 29) rfl ?_); refine gl_ (some 19) Try.func29 #[.agg #[.int .i64 a0_2, .string a0_3], .agg #[.int .i64 a1_2, .string a1_3]] rfl ?_; (with_reducible refine (laws_eqVal.calls a0_2 a0_3 a1_2 a1_3 true _ A10.out).mono ?_); rintro e w19 ⟨rfl, hb⟩; refine ⟨_, rfl, ?_⟩; replace BK567 := bkb BK567 hb; replace BK568 := bkb BK568 hb; replace HB := bst HB hb; (try clear hb); obtain ⟨hcz20_0, hcz20_1, hcz20_2, hcz20_3, hcz20_4, hcz20_5, hfz20_0, hfz20_1, hfz20_2, hfz20_3, hfz20_4, hfz20_5⟩ := cl6 BK567; obtain ⟨hcz21_0, hcz21_1, hcz21_2, hcz21_3, hcz21_4, hcz21_5, hfz21_0, hfz21_1, hfz21_2, hfz21_3, hfz21_4, hfz21_5⟩ := cl6 BK568) | ((with_reducible refine gate_callee (f := 29) rfl ?_); refine gl_ (some 25) Try.func29 #[.agg #[.int .i64 a0_4, .string a0_5], .agg #[.int .i64 a1_4, .string a1_5]] rfl ?_; (with_reducible refine (laws_eqVal.calls a0_4 a0_5 a1_4 a1_5 true _ A12.out).mono ?_); rintro e w22 ⟨rfl, hb⟩; refine ⟨_, rfl, ?_⟩; replace BK567 := bkb BK567 hb; replace BK568 := bkb BK568 hb; replace HB := bst HB hb; (try clear hb)))
          go_ret
          exact fin_ (below_later HB.out)
        · replace c13 := Bool.eq_false_iff.mpr c13
          subst c13
          have H1 : (some false) = some true := by rw [if_neg (show ¬ (false = true) by decide)] at H; exact H
          cases H1
      · replace c11 := Bool.eq_false_iff.mpr c11
        subst c11
        have H1 : (some false) = some true := by rw [if_neg (show ¬ (false = true) by decide)] at H; exact H
        cases H1
  · rw [if_neg c3] at H
    cases H
end Go.Proofs.Ytgiljoeekpfpmaa.PFnExactStatsFrom
