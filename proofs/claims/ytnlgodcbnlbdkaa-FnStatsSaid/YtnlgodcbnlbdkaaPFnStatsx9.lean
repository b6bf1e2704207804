/- The machine's side of FnStats: each Go function, and what its call comes to. No condition. -/
import Derived.Test.YtnlgodcbnlbdkaaPFnStatsx0
import Derived.Test.YtnlgodcbnlbdkaaPFnStatsx3
import Derived.Test.YtnlgodcbnlbdkaaPFnStatsx4
import Derived.Test.YtnlgodcbnlbdkaaPFnStatsx5
import Derived.Test.YtnlgodcbnlbdkaaPFnStatsx6
import Derived.Test.YtnlgodcbnlbdkaaPFnStatsx7
import Derived.Test.YtnlgodcbnlbdkaaPFnStatsx8
namespace Go.Proofs.Ytnlgodcbnlbdkaa.PFnStats
open Go.RowKit Go.Proofs.YtnlgodcbnlbdkaaW.PrintWords Go.Proofs.YtnlgodcbnlbdkaaW.PrintLast Go.Proofs.YtnlgodcbnlbdkaaW.PrintMore Go.Proofs.YtnlgodcbnlbdkaaW.PrintMore2
attribute [local go_sem] max2_int min2_int max_two min_two max_three min_three max_four min_four
set_option linter.unusedVariables false
set_option linter.unusedSimpArgs false
set_option maxHeartbeats 8000000
set_option maxRecDepth 100000

/-! ### spec_l15Draw: function 12 -/
/-! The columns that are being filled: a row of rows of the call's own. -/
abbrev TT := List (List S36)
def CS (w0 w : World) (ok : Nat → Prop) (v : Value) (L : TT) : Prop := Kd.S (Kd.slice 36 k36) 26 w w0.heap.size ok v L
theorem dbl {w w' : World} (h : Drawn0 w w') : Below w.heap.size w w' := by
 obtain ⟨n, rfl⟩ := h
 exact pw_below_drewN (Below.refl _ _) n
section
variable {w0 w w1 : World} {ok ok' : Nat → Prop} {v : Value} {L : TT}
theorem CS.below (h : CS w0 w ok v L) (hb : Below w.heap.size w w1) : CS w0 w1 ok v L := Kd.S_below h hb
theorem CS.drew (h : CS w0 w ok v L) : CS w0 w.drew ok v L := Kd.S_drew h
theorem CS.widen (h : CS w0 w ok v L) (hk : ∀ k, ok k → ok' k) : CS w0 w ok' v L := Kd.S_mono h hk
theorem CS.young (h : CS w0 w ok v L) : CS w0 w (fun k => k < w.heap.size) v L := Kd.S_mono (Kd.S_bound h) (fun k hk => hk.2.2.1)
theorem CS.open (h : CS w0 w ok v L) (hok : ∀ k, w.heap.size ≤ k → ok k) (i : Int) (h0 : 0 ≤ i) (h1 : i < L.length) :
    ∃ (g cap : Nat) (ve : Value) (okr : Nat → Prop), v = .slice (some ⟨g, 0, none⟩) L.length cap ∧ w0.heap.size ≤ g ∧ w.cell? ⟨g, i.toNat, none⟩ = some ve ∧ w.frozen? ⟨g, i.toNat, none⟩ = false ∧
      Kd.R k36 36 w w0.heap.size okr ve (L.getD i.toNat []) ∧ (∀ k, w.heap.size ≤ k → okr k) ∧ (∀ k, okr k → ok k) ∧ g < w.heap.size ∧ some g ≠ ve.ownBlock ∧
      ∀ (w1 : World) (v1 : Value) (r : List S36), Kd.R k36 36 w1 w0.heap.size okr v1 r → w.drew.grownBy w1 ve.ownBlock → CS w0 (w1.setCell ⟨g, i.toNat, none⟩ v1) ok v (L.set i.toNat r) := by
 obtain ⟨g, cap, rfl, hg, hgl, cells, hc⟩ := Kd.S_form h (by omega)
 have hS : Kd.S (Kd.slice 36 k36) 26 w w0.heap.size (fun k => ok k ∧ ¬ w.heap.size ≤ k) (.slice (some ⟨g, 0, none⟩) L.length cap) L := Kd.S_mono (Kd.S_bound h) (fun k hk => ⟨hk.1, by have := hk.2.2.1; omega⟩)
 obtain ⟨oki, ce, hcl, hM, hcc, hfr, hoki, hH⟩ := Kd.S_elem hS [] i h0 (by omega)
 obtain ⟨ve, rfl, hR⟩ := hM
 have e1 : i.toNat * (Kd.slice 36 k36).sz + 0 = i.toNat := by show i.toNat * 1 + 0 = _; omega
 have hx := hcc 0 ve rfl
 have hf := hfr 0
 rw [e1] at hx hf
 have hvb : ∀ k, ve.ownBlock = some k → oki k := fun k hk => (Kd.R_bound hR).1 k hk |>.1
 refine ⟨g, cap, ve, fun k => oki k ∨ w.heap.size ≤ k, rfl, hg, hx, hf, Kd.R_mono hR (fun k hk => .inl hk), fun k hk => .inr hk, fun k hk => hk.elim (fun h => (hoki k h).1.1) (fun h => hok k h), hgl, fun he => (hoki g (hvb g he.symm)).2 rfl, fun w1 v1 r hr hgr => ?_⟩
 have hgr2 : w.grownBy w1 ve.ownBlock := ⟨hgr.os, hgr.tape, hgr.output, hgr.size, hgr.block⟩
 have hH1 := Kd.H_grown hH hgr2 (fun k hk => hvb k hk)
 have hs := (Kd.S_seg (okg := fun k => w.heap.size ≤ k) (okp := fun k => oki k ∨ w.heap.size ≤ k) (seg := [v1]) (j := 0) hH1 h0 (by omega) (by show 0 + 1 ≤ 1; omega) (x' := r) ⟨v1, rfl, hr⟩ (fun k hk => hk) (fun k hk => ⟨hok k hk, by omega⟩)).1
 rw [e1] at hs
 exact hs
end
def spec_l14Null.l0 : Nat → List S94 → Int → S36 → TT → Int → Option TT
  | 0, _, _, _, _, _ => none
  | k + 1, s, at_, t, L, i => (spec_l5After.f k s at_).bind fun a => (spec_l14Leaf.f k s a).bind fun m => if i < m then (if 0 ≤ i ∧ i < (L.length : Int) ∧ (L.getD i.toNat []).length < 3518437208883 then spec_l14Null.l0 k s at_ t (L.set i.toNat (L.getD i.toNat [] ++ [t])) (wrap64 (i + 1)) else none) else some L
def spec_l14Null.f (k : Nat) (s : List S94) (at_ : Int) (t : S36) (L : TT) : Option TT := (spec_l14Leaf.f k s at_).bind fun i => spec_l14Null.l0 k s at_ t L i
theorem spec_l14Null.calls {k : Nat} {w0 w : World} {A : Option Addr} {c : Nat} {s : List S94} {at_ : Int} {t : S36} {v : Value} (L L' : TT) (hB : Below w0.heap.size w0 w) (hs : Kd.C k94 w0 A s.length s) (hc : s.length ≤ c) (hS : CS w0 w (fun _ => True) v L) (h : spec_l14Null.f k s at_ t L = some L') :
    Calls Try.prog 82 #[.slice A s.length c, .int .i64 at_, .agg #[.int .i64 t.f0, .int .i64 t.f1, .int .i64 t.f2.f0, .string t.f2.f1], v] w fun e w' => e = .returned v ∧ CS w0 w' (fun _ => True) v L' ∧ Below w0.heap.size w0 w' := by
 have hu35 := Try.underlying36
 have HS := am hs
 have HC := am hc
 have HL0 := am hS
 have HB := am hB
 clear hs hc hS hB
 unfold spec_l14Null.f at h
 obtain ⟨i0, hi0, h⟩ := Option.bind_eq_some_iff.mp h
 have H1 := am hi0
 have H' := am h
 clear hi0 h
 go_enter Try.func82, Try.ntmps82
 go_wp2_with (first | ((with_reducible refine gd 6 rfl ?_); refine bx_ 6 #[.int .i64 t.f0, .int .i64 t.f1, .int .i64 t.f2.f0, .string t.f2.f1] 36 ?_; intro g6 hg v6 hbox hb; have K6 := am hbox; have HL := am ((HL0.out.young.below hb).widen (ok' := fun k => k ≠ g6) (fun k hk => by rw [hg]; exact Nat.ne_of_lt hk)); replace HB := am (below_then HB.out HB.out.size hb); clear HL0 hb hbox hg) | (go_at_call 65; (refine (spec_l14Leaf.calls (C_later (Kd.C_below HS.out HB.out)) HC.out H1.out).mono ?_); rintro e w2 ⟨rfl, hd⟩; have hb := dbl hd; replace HL := am (HL.out.below hb); replace K6 := am (blk_below K6.out hb); replace HB := am (below_then HB.out HB.out.size hb); clear hb hd))
 go_loopg [9] k (fun kq v9 w' => ∃ (i : Int) (L1 : TT), v9 = .int .i64 i ∧ Aside0 (spec_l14Null.l0 kq s at_ t L1 i = some L') ∧ Aside0 (kq ≤ k) ∧ Aside0 (CS w0 w' (fun k => k ≠ g6) v L1) ∧ Aside0 (w'.heap[g6]? = some (.cells #[.int .i64 t.f0, .int .i64 t.f1, .int .i64 t.f2.f0, .string t.f2.f1] 36 (0, 0))) ∧ Aside0 (Below w0.heap.size w0 w'))
 case atStart => exact ⟨i0, L, rfl, H', ⟨Nat.le_refl _⟩, HL, K6, HB⟩
 clear H' HL K6 HB
 obtain ⟨i, L1, rfl, HA, HK, HL, K6, HB⟩ := hrel
 cases gk with
 | zero => exact absurd HA.out (by simp [spec_l14Null.l0])
 | succ k1 => ?_
 have h := HA.out
 clear HA
 simp only [spec_l14Null.l0] at h
 obtain ⟨a, ha, h⟩ := Option.bind_eq_some_iff.mp h
 obtain ⟨m, hm, h⟩ := Option.bind_eq_some_iff.mp h
 have H2 := am ha
 have H3 := am hm
 clear ha hm
 by_cases c1 : i < m
 rotate_left
 · rw [if_neg c1] at h
   simp only [Option.some.injEq] at h
   subst h
   have b1 := decide_eq_false c1
   go_wp2_with (first | (go_at_call 67; (refine (spec_l5After.calls k1 A c s at_ a _ (Kd.C_below HS.out HB.out) HC.out H2.out).mono ?_); rintro e w2 ⟨rfl, hd⟩; have hb := dbl hd; replace HL := am (HL.out.below hb); replace K6 := am (blk_below K6.out hb); replace HB := am (below_then HB.out HB.out.size hb); clear hb hd) | (go_at_call 65; (refine (spec_l14Leaf.calls (Kd.C_below HS.out HB.out) HC.out H3.out).mono ?_); rintro e w3 ⟨rfl, hd⟩; have hb := dbl hd; replace HL := am (HL.out.below hb); replace K6 := am (blk_below K6.out hb); replace HB := am (below_then HB.out HB.out.size hb); clear hb hd))
   all_goals go_ret
   all_goals exact ⟨rfl, HL.out.widen (fun _ _ => trivial), HB.out⟩
 rw [if_pos c1] at h
 obtain ⟨⟨h0, h1, h2⟩, h⟩ := ifs h
 have H' := am h
 have b1 := decide_eq_true c1
 clear h c1
 go_upto_region 4 with (first | (go_at_call 67; (refine (spec_l5After.calls k1 A c s at_ a _ (Kd.C_below HS.out HB.out) HC.out H2.out).mono ?_); rintro e w2 ⟨rfl, hd⟩; have hb := dbl hd; replace HL := am (HL.out.below hb); replace K6 := am (blk_below K6.out hb); replace HB := am (below_then HB.out HB.out.size hb); clear hb hd) | (go_at_call 65; (refine (spec_l14Leaf.calls (Kd.C_below HS.out HB.out) HC.out H3.out).mono ?_); rintro e w3 ⟨rfl, hd⟩; have hb := dbl hd; replace HL := am (HL.out.below hb); replace K6 := am (blk_below K6.out hb); replace HB := am (below_then HB.out HB.out.size hb); clear hb hd))
 obtain ⟨g, cap, ve, okr, rfl, hg, hx, hf, hR, hfr, hko, hgl, hne, hput⟩ := HL.out.open (fun k hk he => by have := blk_lt K6.out; omega) i h0 h1
 obtain ⟨row, hrow⟩ : ∃ row, row = L1.getD i.toNat [] := ⟨_, rfl⟩
 rw [← hrow] at hR h2
 rw [← hrow] at H'
 have HRW := am hrow
 clear hrow
 obtain ⟨A2, c2, rfl⟩ := Kd.R_slice hR
 have hn6 : some g6 ≠ (Value.slice A2 row.length c2).ownBlock := fun he => hko g6 ((Kd.R_bound hR).1 g6 he.symm).1 rfl
 have hg6 : g6 ≠ g := fun he => Kd.S_away HL.out (g := g6) (fun _ h_ => h_) (by subst he; rfl)
 have HG6 := am hg6
 clear hg6
 have HR := am hR
 have HF := am hfr
 have HP := am hput
 have HX := am hx
 have HG := am hg
 have HN := am h2
 have HN6 := am hn6
 have HNE := am hne
 have HF2 := am hf
 have HGL := am hgl
 have q0 := eq_true h0
 have q1 := eq_true h1
 obtain ⟨x0, x1, x2, x3, y0, y1, y2, y3⟩ := cl4 K6
 have hxa := fun o_ : Obj => pw_cell_below (below_alloc (Below.refl _ _) o_) hx
 clear hR hfr hput hn6 hne hgl h2 hko h0 h1 hg
 go_region_law (((rw [show ∀ o_ : Obj, (w3.alloc o_).drew = w3.drew.alloc o_ from fun _ => rfl]); (refine Kd.R_append_step k36 (w0 := w0) w0.heap.size (by rfl) (.tmp 27) (.tmp 29) 26 36 (.agg #[.int .i64 0, .int .i64 0, .int .i64 0, .string ⟨#[]⟩]) 40 rfl Try.underlying26 info36 rfl (by decide) (by omega) (.slice A2 row.length c2) row t [.int .i64 t.f0, .int .i64 t.f1, .int .i64 t.f2.f0, .string t.f2.f1] okr (fun _ => False) (by rfl) (by rfl) (k36_mkM _ _ _ t) (fun _ hk => hk.elim) HF.out (Kd.R_drew HR.out) (below_drew1 HB.out) (below_drew1 HB.out).size (by have := HN.out; omega) ?_); intro v3 w5 ho hb hg; intro hat; have HQ := am (HP.out w5 v3 _ ho hg); have z0 := (hg.cell_far ⟨g, i.toNat, none⟩ HGL.out HNE.out).trans HX.out; have z1 := (hg.frozen_far ⟨g, i.toNat, none⟩ HGL.out HNE.out).trans HF2.out; have K7 := am (blk_grown (blk_drew K6.out) hg HN6.out); have HB5 := am hb; obtain ⟨A3, c3, rfl⟩ := Kd.R_slice ho; clear ho hb hg hat))
 all_goals
  go_wp2
  go_roundg k1
  case measure => have := HK.out; omega
  rw [List.length_append] at HQ
  exact ⟨wrap64 (i + 1), _, rfl, H', ⟨by have := HK.out; omega⟩, HQ, ⟨blk_far K7.out HG6.out _⟩, ⟨HB5.out.setCell HG.out _⟩⟩
mutual
def spec_l14Part.l0 : Nat → List S94 → Int → List S30 → Int → Int → Int → Int → TT → Int → Int → Option (TT × Int)
  | 0, _, _, _, _, _, _, _, _, _, _ => none
  | k + 1, s, at_, vals, pos, rep, dfn, reps, L, n, i => if i < n then ((spec_l14Content.f k s at_ vals pos rep (wrap64 (dfn + 1)) reps L).bind fun q => spec_l14Part.l0 k s at_ vals q.2 reps dfn reps q.1 n (wrap64 (i + 1))) else some (L, pos)
def spec_l14Part.f : Nat → List S94 → Int → List S30 → Int → Int → Int → Int → TT → Option (TT × Int)
  | 0, _, _, _, _, _, _, _, _ => none
  | k + 1, s, at_, vals, pos, rep, dfn, reps, L => if 0 ≤ at_ ∧ at_ < (s.length : Int) then (if (rd_T94 s at_).f2 = 0 then spec_l14Content.f k s at_ vals pos rep dfn reps L else if 0 ≤ pos ∧ pos < (vals.length : Int) then (if (rd_T30 vals pos).f0 = 0 then ((spec_l14Null.f k s at_ ⟨rep, dfn, z30⟩ L).bind fun L1 => some (L1, wrap64 (pos + 1))) else spec_l14Part.l0 k s at_ vals (wrap64 (pos + 1)) rep dfn (if (rd_T94 s at_).f2 = 2 then wrap64 (reps + 1) else reps) L (rd_T30 vals pos).f0 0) else none) else none
def spec_l14Content.l0 : Nat → List S94 → Int → List S30 → Int → Int → Int → Int → Int → TT → Int → Option (TT × Int)
  | 0, _, _, _, _, _, _, _, _, _, _ => none
  | k + 1, s, at_, vals, pos, rep, dfn, reps, p, L, i => if 0 ≤ at_ ∧ at_ < (s.length : Int) then (if i < (rd_T94 s at_).f3 then ((spec_l14Part.f k s p vals pos rep dfn reps L).bind fun q => (spec_l5After.f k s p).bind fun p1 => spec_l14Content.l0 k s at_ vals q.2 rep dfn reps p1 q.1 (wrap64 (i + 1))) else some (L, pos)) else none
def spec_l14Content.f : Nat → List S94 → Int → List S30 → Int → Int → Int → Int → TT → Option (TT × Int)
  | 0, _, _, _, _, _, _, _, _ => none
  | k + 1, s, at_, vals, pos, rep, dfn, reps, L => if 0 ≤ at_ ∧ at_ < (s.length : Int) then (if (rd_T94 s at_).f1 = 7 then spec_l14Content.l0 k s at_ vals pos rep dfn reps (wrap64 (at_ + 1)) L 0 else (spec_l14Leaf.f k s at_).bind fun i => if 0 ≤ i ∧ i < (L.length : Int) ∧ (L.getD i.toNat []).length < 3518437208883 ∧ 0 ≤ pos ∧ pos < (vals.length : Int) then some (L.set i.toNat (L.getD i.toNat [] ++ [⟨rep, dfn, rd_T30 vals pos⟩]), wrap64 (pos + 1)) else none) else none
end
def CtOk (k : Nat) : Prop := ∀ (w0 w : World) (A : Option Addr) (c : Nat) (s : List S94) (at_ : Int) (A2 : Option Addr) (c2 : Nat) (vals : List S30) (pos rep dfn reps : Int) (v : Value) (L L' : TT) (p' : Int), Below w0.heap.size w0 w → Kd.C k94 w0 A s.length s → s.length ≤ c → Kd.C k30 w0 A2 vals.length vals → vals.length ≤ c2 → CS w0 w (fun _ => True) v L → spec_l14Content.f k s at_ vals pos rep dfn reps L = some (L', p') →
    Calls Try.prog 51 #[.slice A s.length c, .int .i64 at_, .slice A2 vals.length c2, .int .i64 pos, .int .i64 rep, .int .i64 dfn, .int .i64 reps, v] w fun e w' => e = .returned (.tuple #[v, .int .i64 p']) ∧ CS w0 w' (fun _ => True) v L' ∧ Below w0.heap.size w0 w'
def PtOk (k : Nat) : Prop := ∀ (w0 w : World) (A : Option Addr) (c : Nat) (s : List S94) (at_ : Int) (A2 : Option Addr) (c2 : Nat) (vals : List S30) (pos rep dfn reps : Int) (v : Value) (L L' : TT) (p' : Int), Below w0.heap.size w0 w → Kd.C k94 w0 A s.length s → s.length ≤ c → Kd.C k30 w0 A2 vals.length vals → vals.length ≤ c2 → CS w0 w (fun _ => True) v L → spec_l14Part.f k s at_ vals pos rep dfn reps L = some (L', p') →
    Calls Try.prog 66 #[.slice A s.length c, .int .i64 at_, .slice A2 vals.length c2, .int .i64 pos, .int .i64 rep, .int .i64 dfn, .int .i64 reps, v] w fun e w' => e = .returned (.tuple #[v, .int .i64 p']) ∧ CS w0 w' (fun _ => True) v L' ∧ Below w0.heap.size w0 w'
theorem spec_l14Content.calls_ {k : Nat} (ih : ∀ j, j < k → PtOk j) : CtOk k := by
 intro w0 w A c s at_ A2 c2 vals pos rep dfn reps v L L' p' hB hs hc hv hcv hS h
 cases k with
 | zero => exact absurd h (by simp [spec_l14Content.f])
 | succ k =>
 simp only [spec_l14Content.f] at h
 have hu35 := Try.underlying36
 have HS := am hs
 have HC := am hc
 have HV := am hv
 have HCV := am hcv
 have HL := am hS
 have HB := am hB
 clear hs hc hv hcv hS hB
 obtain ⟨⟨c0, c1⟩, h⟩ := ifs h
 obtain ⟨ad, rfl, hx0, hx1, hx2, hx3⟩ := at_T94 HS.out at_ c0 c1
 have hq0 := eq_true c0
 have hq1 := eq_true c1
 by_cases c7 : (rd_T94 s at_).f1 = 7
 · rw [if_pos c7] at h
   have b7 : ((rd_T94 s at_).f1 != 7) = false := bne_eq_false_iff_eq.mpr c7
   have H' := am h
   replace hx1 := crd HB hx1
   clear h c7 hx0 hx2 c0 c1
   go_enter Try.func51, Try.ntmps51
   go_wp2
   clear hx1
   go_loopg [3, 7, 19, 20] k (fun kq v3 v7 v19 v20 w' => ∃ (q3 q19 q20 : Int) (L1 : TT), v3 = .int .i64 q3 ∧ v = v7 ∧ v19 = .int .i64 q19 ∧ v20 = .int .i64 q20 ∧ Aside0 (spec_l14Content.l0 kq s at_ vals q3 rep dfn reps q19 L1 q20 = some (L', p')) ∧ Aside0 (kq ≤ k) ∧ Aside0 (CS w0 w' (fun _ => True) v L1) ∧ Aside0 (Below w0.heap.size w0 w'))
   case atStart => exact ⟨_, _, _, L, rfl, rfl, rfl, rfl, H', ⟨Nat.le_refl _⟩, HL, HB⟩
   clear H' HL HB
   obtain ⟨q3, q19, q20, L1, rfl, rfl, rfl, rfl, HA, HK, HL, HB⟩ := hrel
   cases gk with
   | zero => exact absurd HA.out (by simp [spec_l14Content.l0])
   | succ k1 => ?_
   have h := HA.out
   clear HA
   simp only [spec_l14Content.l0] at h
   obtain ⟨_, h⟩ := ifs h
   replace hx3 := crd HB hx3
   by_cases c3 : q20 < (rd_T94 s at_).f3
   rotate_left
   · rw [if_neg c3] at h
     have b3 := decide_eq_false c3
     clear c3
     obtain ⟨rfl, rfl⟩ := Prod.mk.inj (Option.some.inj h)
     go_wp2
     go_ret2
     exact ⟨rfl, HL.out, HB.out⟩
   rw [if_pos c3] at h
   have b3 := decide_eq_true c3
   clear c3
   obtain ⟨⟨L2, q4⟩, hq, h⟩ := Option.bind_eq_some_iff.mp h
   obtain ⟨q5, hq5, h⟩ := Option.bind_eq_some_iff.mp h
   have HQ := am hq
   have HQ5 := am hq5
   have H' := am h
   clear hq hq5 h
   go_wp2_with (first | (go_at_call 66; (refine (ih k1 (by have := HK.out; omega) w0 _ (some ad) c s q19 A2 c2 vals q3 rep dfn reps v L1 L2 q4 HB.out HS.out HC.out HV.out HCV.out HL.out HQ.out).mono ?_); clear HL HB; rintro e w2 ⟨rfl, hl, hb⟩; have HL := am hl; have HB := am hb; clear hl hb) | (go_at_call 67; (refine (spec_l5After.calls k1 (some ad) c s q19 q5 _ (Kd.C_below HS.out HB.out) HC.out HQ5.out).mono ?_); rintro e w3 ⟨rfl, hd⟩; have hb := dbl hd; replace HL := am (HL.out.below hb); replace HB := am (below_then HB.out HB.out.size hb); clear hb hd))
   go_roundg k1
   case measure => have := HK.out; omega
   case rel => exact ⟨_, _, _, L2, rfl, rfl, rfl, rfl, H', ⟨by have := HK.out; omega⟩, HL, HB⟩
 rw [if_neg c7] at h
 have b7 : ((rd_T94 s at_).f1 != 7) = true := bne_iff_ne.mpr c7
 obtain ⟨i, hi, h⟩ := Option.bind_eq_some_iff.mp h
 have HI := am hi
 obtain ⟨⟨h0, h1, h2, h3, h4⟩, h⟩ := ifs h
 obtain ⟨hL', hp'⟩ := Prod.mk.inj (Option.some.inj h)
 subst hp'
 have H' := am hL'
 replace hx1 := crd HB hx1
 clear h c7 hx0 hx2 hx3 c0 c1 hi hL'
 go_enter Try.func51, Try.ntmps51
 go_upto_region 3 with (first | (go_at_call 65; (refine (spec_l14Leaf.calls (Kd.C_below HS.out HB.out) HC.out HI.out).mono ?_); rintro e w2 ⟨rfl, hd⟩; have hb := dbl hd; replace HL := am (HL.out.below hb); replace HB := am (below_then HB.out HB.out.size hb); clear hb hd))
 obtain ⟨ad2, rfl, hy0, hy1⟩ := at_T30 HV.out pos h3 h4
 replace hy0 := crd HB hy0
 replace hy1 := crd HB hy1
 obtain ⟨g, cap, ve, okr, rfl, hg, hx, hf, hR, hfr, hko, hgl, hne, hput⟩ := HL.out.open (fun k hk => trivial) i h0 h1
 obtain ⟨row, hrow⟩ : ∃ row, row = L.getD i.toNat [] := ⟨_, rfl⟩
 rw [← hrow] at hR h2
 rw [← hrow] at H'
 clear hrow
 obtain ⟨A3, c3, rfl⟩ := Kd.R_slice hR
 have HR := am hR
 have HF := am hfr
 have HP := am hput
 have HX := am hx
 have HG := am hg
 have HN := am h2
 have HNE := am hne
 have HF2 := am hf
 have HGL := am hgl
 have q0 := eq_true h0
 have q1 := eq_true h1
 have q3 := eq_true h3
 have q4 := eq_true h4
 have hxa := fun o_ : Obj => pw_cell_below (below_alloc (Below.refl _ _) o_) hx
 have hya := fun o_ : Obj => pw_cell_below (below_alloc (Below.refl _ _) o_) hy0
 have hza := fun o_ : Obj => pw_cell_below (below_alloc (Below.refl _ _) o_) hy1
 clear hR hfr hput hne hgl h2 hko h0 h1 h3 h4 hg
 go_region_law (((rw [show ∀ o_ : Obj, (w2.alloc o_).drew = w2.drew.alloc o_ from fun _ => rfl]); (refine Kd.R_append_step k36 (w0 := w0) w0.heap.size (by rfl) (.tmp 35) (.tmp 43) 26 36 (.agg #[.int .i64 0, .int .i64 0, .int .i64 0, .string ⟨#[]⟩]) 40 rfl Try.underlying26 info36 rfl (by decide) (by omega) (.slice A3 row.length c3) row ⟨rep, dfn, rd_T30 vals pos⟩ [.int .i64 rep, .int .i64 dfn, .int .i64 (rd_T30 vals pos).f0, .string (rd_T30 vals pos).f1] okr (fun _ => False) (by rfl) (by rfl) (k36_mkM _ _ _ ⟨rep, dfn, rd_T30 vals pos⟩) (fun _ hk => hk.elim) HF.out (Kd.R_drew HR.out) (below_drew1 HB.out) (below_drew1 HB.out).size (by have := HN.out; omega) ?_); intro v3 w5 ho hb hg; intro hat; have HQ := am (HP.out w5 v3 _ ho hg); have z0 := (hg.cell_far ⟨g, i.toNat, none⟩ HGL.out HNE.out).trans HX.out; have z1 := (hg.frozen_far ⟨g, i.toNat, none⟩ HGL.out HNE.out).trans HF2.out; have HB5 := am hb; obtain ⟨A4, c4, rfl⟩ := Kd.R_slice ho; clear ho hb hg hat))
 all_goals
  go_wp2
  go_ret2
  rw [← H'.out]
  have hq := HQ.out
  rw [List.length_append] at hq
  exact ⟨rfl, hq, HB5.out.setCell HG.out _⟩
theorem spec_l14Part.calls_ {k : Nat} (ih : ∀ j, j < k → CtOk j) : PtOk k := by
 intro w0 w A c s at_ A2 c2 vals pos rep dfn reps v L L' p' hB hs hc hv hcv hS h
 cases k with
 | zero => exact absurd h (by simp [spec_l14Part.f])
 | succ k =>
 simp only [spec_l14Part.f] at h
 have hu35 := Try.underlying36
 have HS := am hs
 have HC := am hc
 have HV := am hv
 have HCV := am hcv
 have HL := am hS
 have HB := am hB
 clear hs hc hv hcv hS hB
 obtain ⟨⟨c0, c1⟩, h⟩ := ifs h
 obtain ⟨ad, rfl, hx0, hx1, hx2, hx3⟩ := at_T94 HS.out at_ c0 c1
 have hq0 := eq_true c0
 have hq1 := eq_true c1
 replace hx2 := crd HB hx2
 clear hx0 hx1 hx3 c0 c1
 by_cases c7 : (rd_T94 s at_).f2 = 0
 · rw [if_pos c7] at h
   have b7 : ((rd_T94 s at_).f2 == 0) = true := beq_iff_eq.mpr c7
   have H' := am h
   clear h c7
   go_enter Try.func66, Try.ntmps66
   go_wp2_with (first | (go_at_call 51; (refine (ih k (by omega) w0 _ (some ad) c s at_ A2 c2 vals pos rep dfn reps v L L' p' HB.out HS.out HC.out HV.out HCV.out HL.out H'.out).mono ?_); clear HL HB; rintro e w2 ⟨rfl, hl, hb⟩; have HL := am hl; have HB := am hb; clear hl hb))
   go_ret2
   exact ⟨rfl, HL.out, HB.out⟩
 rw [if_neg c7] at h
 have b7 : ((rd_T94 s at_).f2 == 0) = false := beq_eq_false_iff_ne.mpr c7
 clear c7
 obtain ⟨⟨h3, h4⟩, h⟩ := ifs h
 obtain ⟨ad2, rfl, hy0, hy1⟩ := at_T30 HV.out pos h3 h4
 have q3 := eq_true h3
 have q4 := eq_true h4
 replace hy0 := crd HB hy0
 clear hy1 h3 h4
 by_cases c8 : (rd_T30 vals pos).f0 = 0
 · rw [if_pos c8] at h
   have b8 : ((rd_T30 vals pos).f0 == 0) = true := beq_iff_eq.mpr c8
   clear c8
   obtain ⟨L1, h1, h⟩ := Option.bind_eq_some_iff.mp h
   obtain ⟨rfl, rfl⟩ := Prod.mk.inj (Option.some.inj h)
   have H' := am h1
   clear h h1
   go_enter Try.func66, Try.ntmps66
   go_wp2_with (first | (go_at_call 82; (refine (spec_l14Null.calls L L1 HB.out HS.out HC.out HL.out H'.out).mono ?_); clear HL HB; rintro e w2 ⟨rfl, hl, hb⟩; have HL := am hl; have HB := am hb; clear hl hb))
   go_ret2
   exact ⟨rfl, HL.out, HB.out⟩
 rw [if_neg c8] at h
 have b8 : ((rd_T30 vals pos).f0 == 0) = false := beq_eq_false_iff_ne.mpr c8
 clear c8
 obtain ⟨r2, hr2⟩ : ∃ r2, r2 = (if (rd_T94 s at_).f2 = 2 then wrap64 (reps + 1) else reps) := ⟨_, rfl⟩
 rw [← hr2] at h
 have hb : (((rd_T94 s at_).f2 == 2) = true ∧ r2 = wrap64 (reps + 1)) ∨ (((rd_T94 s at_).f2 == 2) = false ∧ r2 = reps) := by
   by_cases c9 : (rd_T94 s at_).f2 = 2
   · exact .inl ⟨beq_iff_eq.mpr c9, by rw [hr2, if_pos c9]⟩
   · exact .inr ⟨beq_eq_false_iff_ne.mpr c9, by rw [hr2, if_neg c9]⟩
 have H' := am h
 clear h hr2
 rcases hb with ⟨b9, rfl⟩ | ⟨b9, rfl⟩
 all_goals
  go_enter Try.func66, Try.ntmps66
  go_wp2
  clear hx2 hy0
  go_loopg [3, 4, 7, 19] k (fun kq v3 v4 v7 v19 w' => ∃ (q3 q4 q19 : Int) (L1 : TT), v3 = .int .i64 q3 ∧ v4 = .int .i64 q4 ∧ v = v7 ∧ v19 = .int .i64 q19 ∧ Aside0 (spec_l14Part.l0 kq s at_ vals q3 q4 dfn _ L1 (rd_T30 vals pos).f0 q19 = some (L', p')) ∧ Aside0 (kq ≤ k) ∧ Aside0 (CS w0 w' (fun _ => True) v L1) ∧ Aside0 (Below w0.heap.size w0 w'))
  case atStart => exact ⟨_, _, _, L, rfl, rfl, rfl, rfl, H', ⟨Nat.le_refl _⟩, HL, HB⟩
  clear H' HL HB
  obtain ⟨q3, q4, q19, L1, rfl, rfl, rfl, rfl, HA, HK, HL, HB⟩ := hrel
  cases gk with
  | zero => exact absurd HA.out (by simp [spec_l14Part.l0])
  | succ k1 => ?_
  have h := HA.out
  clear HA
  simp only [spec_l14Part.l0] at h
  by_cases c3 : q19 < (rd_T30 vals pos).f0
  rotate_left
  · rw [if_neg c3] at h
    have b3 := decide_eq_false c3
    clear c3
    obtain ⟨rfl, rfl⟩ := Prod.mk.inj (Option.some.inj h)
    go_wp2
    go_ret2
    exact ⟨rfl, HL.out, HB.out⟩
  rw [if_pos c3] at h
  have b3 := decide_eq_true c3
  clear c3
  obtain ⟨⟨L2, q5⟩, hq, h⟩ := Option.bind_eq_some_iff.mp h
  have HQ := am hq
  have H' := am h
  clear hq h
  go_wp2_with (first | (go_at_call 51; (refine (ih k1 (by have := HK.out; omega) w0 _ (some ad) c s at_ (some ad2) c2 vals q3 q4 (wrap64 (dfn + 1)) _ v L1 L2 q5 HB.out HS.out HC.out HV.out HCV.out HL.out HQ.out).mono ?_); clear HL HB; rintro e w2 ⟨rfl, hl, hb⟩; have HL := am hl; have HB := am hb; clear hl hb))
  go_roundg k1
  case measure => have := HK.out; omega
  case rel => exact ⟨_, _, _, L2, rfl, rfl, rfl, rfl, H', ⟨by have := HK.out; omega⟩, HL, HB⟩
theorem spec_l14.pair (k : Nat) : CtOk k ∧ PtOk k := by
 induction k using Nat.strongRecOn with
 | _ k ih => exact ⟨spec_l14Content.calls_ (fun j hj => (ih j hj).2), spec_l14Part.calls_ (fun j hj => (ih j hj).1)⟩
theorem spec_l14Content.calls (k : Nat) : CtOk k := (spec_l14.pair k).1
def spec_Shred.l1 : Nat → TT → Int → List S69 → Option (List S69 × Bool)
  | 0, _, _, _ => none
  | k + 1, L, i, out => if i < (L.length : Int) then (if 0 ≤ i ∧ out.length < 1000000 then (if ((L.getD i.toNat []).length : Int) > 2000 then some ([], false) else spec_Shred.l1 k L (wrap64 (i + 1)) (out ++ [⟨L.getD i.toNat []⟩])) else none) else some (out, true)
def spec_Shred.l0 : Nat → List S94 → List S100 → TT → Int → Option (List S69 × Bool)
  | 0, _, _, _, _ => none
  | k + 1, s, recs, L, i => if i < (recs.length : Int) then (if 0 ≤ i then ((spec_RecOk.f k s (rd_T100 recs i).f0).bind fun b => if b = true then ((spec_l14Content.f k s 0 (rd_T100 recs i).f0 0 0 0 0 L).bind fun q => spec_Shred.l0 k s recs q.1 (wrap64 (i + 1))) else some ([], false)) else none) else spec_Shred.l1 k L 0 []
def spec_Shred.f (k : Nat) (s : List S94) (recs : List S100) : Option (List S69 × Bool) := (spec_SchemaOk.f k s).bind fun b => if b = true then (if (recs.length : Int) > 200 then some ([], false) else ((spec_l5Leaves.f k s).bind fun lv => if lv.length < 1000000 then spec_Shred.l0 k s recs (List.replicate lv.length []) 0 else none)) else some ([], false)
theorem infoc24 : (Try.prog.info? 26).map (fun i => (i.zero, i.size, i.bytes)) = some (some (.slice none 0 0), 1, 24) := by kernel_rfl
def RowsAre (w' : World) (v7 : Value) (LF : TT) (o2 : List S69) (rows : List (List Value)) : Prop := rows.length = o2.length ∧ ∀ (j : Nat) (x : S69), o2[j]? = some x → ∃ g n cap i ve, v7 = .slice (some ⟨g, 0, none⟩) n cap ∧ i < LF.length ∧ x.f0 = LF.getD i [] ∧ rows[j]? = some [ve] ∧ w'.cell? ⟨g, i, none⟩ = some ve
theorem RowsAre.grown {w w1 : World} {v7 : Value} {LF : TT} {o2 : List S69} {rows : List (List Value)} (h : RowsAre w v7 LF o2 rows) {ob : Option Nat} (hg : w.grownBy w1 ob) (hne : ∀ g, v7.ownBlock = some g → some g ≠ ob) : RowsAre w1 v7 LF o2 rows := by
 refine ⟨h.1, fun j x hx => ?_⟩
 obtain ⟨g, n, cap, i, ve, rfl, h1, h2, h3, h4⟩ := h.2 j x hx
 exact ⟨g, n, cap, i, ve, rfl, h1, h2, h3, (hg.cell_far ⟨g, i, none⟩ (World.block_lt_of_cell? w _ h4) (hne g rfl)).trans h4⟩
theorem RowsAre.snoc {w : World} {LF : TT} {o2 : List S69} {rows : List (List Value)} {g n cap i : Nat} {ve : Value} (h : RowsAre w (.slice (some ⟨g, 0, none⟩) n cap) LF o2 rows) (hi : i < LF.length) (hc : w.cell? ⟨g, i, none⟩ = some ve) : RowsAre w (.slice (some ⟨g, 0, none⟩) n cap) LF (o2 ++ [⟨LF.getD i []⟩]) (rows ++ [[ve]]) := by
 refine ⟨by rw [List.length_append, List.length_append, h.1]; rfl, fun j x hx => ?_⟩
 rcases Nat.lt_or_ge j o2.length with hj | hj
 · rw [List.getElem?_append_left hj] at hx
   obtain ⟨g, n, cap, i, ve, e, h1, h2, h3, h4⟩ := h.2 j x hx
   exact ⟨g, n, cap, i, ve, e, h1, h2, by rw [List.getElem?_append_left (by rw [h.1]; exact hj)]; exact h3, h4⟩
 rw [List.getElem?_append_right hj] at hx
 have hz : j - o2.length = 0 := by
   rcases Nat.eq_zero_or_pos (j - o2.length) with h0 | h0
   · exact h0
   · rw [List.getElem?_eq_none (by simp only [List.length_singleton]; omega)] at hx; exact absurd hx (by simp)
 rw [hz] at hx
 obtain rfl := Option.some.inj hx
 exact ⟨g, n, cap, i, ve, rfl, hi, rfl, by rw [List.getElem?_append_right (by rw [h.1]; exact hj), h.1, hz]; rfl, hc⟩
theorem RowsAre.R {w w2 : World} {okr : Nat → Prop} {base : Nat} {v7 v6 : Value} {LF : TT} {o2 : List S69} {rows : List (List Value)} (h : RowsAre w v7 LF o2 rows) (hS : CS w2 w (fun _ => True) v7 LF) (hb : base ≤ w2.heap.size) (hR : (Kd.raw 1).R 69 w base okr v6 rows) : Kd.R k69 69 w base (fun _ => True) v6 o2 := by
 have hty := Kd.R_typed hR
 obtain ⟨-, inner, ho, hl, hr⟩ := hR
 rw [h.1] at ho hl
 refine ⟨fun _ _ => trivial, inner, ho, hl, fun j x hx => ?_⟩
 obtain ⟨g, n, cap, i, ve, rfl, h1, h2, h3, h4⟩ := h.2 j x hx
 obtain ⟨hcs, -⟩ := hr j [ve] h3
 obtain ⟨A7, c7, he⟩ := Kd.S_slice hS
 injection he with he1 he2 he3
 subst he2
 obtain ⟨cs, hcl, hM, hce⟩ := Kd.S_get hS [] (i : Int) (by omega) (by omega)
 obtain ⟨u, rfl, hM⟩ := hM
 have hcell := hce 0 u rfl
 rw [show ((⟨g, 0, none⟩ : Addr).add ((i : Int).toNat * (Kd.slice 36 k36).sz + 0)) = ⟨g, i, none⟩ from by rw [add_at, Nat.zero_add]; show (⟨g, (i : Int).toNat * 1 + 0, none⟩ : Addr) = _; simp] at hcell
 obtain rfl : ve = u := by rw [h4] at hcell; exact Option.some.inj hcell
 rw [Int.toNat_natCast, ← h2] at hM
 rw [show (Kd.raw 1).sz = 1 from rfl] at hcs
 rw [show k69.sz = 1 from rfl, hcs]
 refine k69_mkM _ _ _ x ?_
 have hap := Kd.R_apart' hM (v := v6) hty (by decide)
 exact Kd.R_mono (Kd.R_lower hap hb) (fun k hk => ⟨trivial, hk.2⟩)
theorem nil31 {w : World} {base : Nat} {ok : Nat → Prop} {v : Value} (h : (Kd.raw 1).R 69 w base ok v []) : Kd.R k69 69 w base (fun _ => True) v [] := by
 obtain ⟨-, inner, ho, hl, hr⟩ := h
 exact ⟨fun _ _ => trivial, inner, ho, hl, fun j x hx => absurd hx (by simp)⟩
theorem spec_Shred.calls {k : Nat} {w : World} {A : Option Addr} {c : Nat} {s : List S94} {A2 : Option Addr} {c2 : Nat} {recs : List S100} {out : List S69} {b : Bool} (hs : Kd.C k94 w A s.length s) (hc : s.length ≤ c) (hr : Kd.C k100 w A2 recs.length recs) (hcr : recs.length ≤ c2) (h : spec_Shred.f k s recs = some (out, b)) :
    Calls Try.prog 25 #[.slice A s.length c, .slice A2 recs.length c2] w fun e w' => ∃ v0_ : Value, e = .returned (.tuple #[v0_, .bool b]) ∧ Kd.R k69 69 w' w.heap.size (fun _ => True) v0_ out ∧ Below w.heap.size w w' := by
 have hu35 := Try.underlying36
 have hu68 := Try.underlying100
 have hu31 := Try.underlying69
 have HS := am hs
 have HC := am hc
 have HV := am hr
 have HCV := am hcr
 clear hs hc hr hcr
 unfold spec_Shred.f at h
 obtain ⟨b1, h1, h⟩ := Option.bind_eq_some_iff.mp h
 have HOK := am h1
 clear h1
 cases b1 with
 | false =>
  rw [if_neg (by decide)] at h
  obtain ⟨rfl, rfl⟩ := Prod.mk.inj (Option.some.inj h)
  clear h
  go_enter Try.func25, Try.ntmps25
  go_wp2_with (first | ((with_reducible refine gd 10 rfl ?_); refine Kd.R_lit (Kd.raw 1) _ 69 ?hg (N := 10) ?hd (xs := ([] : List (List Value))) (inner := []) (ok := fun _ => True) (okp := fun _ => True) ?hr ?hp (fun _ hk => hk) trivial (Below.refl _ _) (Nat.le_refl _) (by simp) ?_; (case hd => rfl); (case hg => rfl); (case hr => first | (go_simp; done) | (go_simp; rfl)); (case hp => exact (Reps.none _ _)); intro v6 w2 ho3 hb hg_ hnew_; clear hg_ hnew_; have HO := am (nil31 ho3); have HB := am hb; clear hb ho3) | (go_at_call 48; (refine (spec_SchemaOk.calls (Kd.C_below HS.out HB.out) HC.out HOK.out).mono ?_); rintro e w3 ⟨rfl, hb⟩; replace HO := am (Kd.R_below HO.out hb); replace HB := am (below_then HB.out HB.out.size hb); clear hb))
  go_ret2
  exact ⟨_, rfl, HO.out, HB.out⟩
 | true =>
  rw [if_pos rfl] at h
  by_cases c1 : (recs.length : Int) > 200
  · rw [if_pos c1] at h
    obtain ⟨rfl, rfl⟩ := Prod.mk.inj (Option.some.inj h)
    have b1 := decide_eq_true c1
    clear h c1
    go_enter Try.func25, Try.ntmps25
    go_wp2_with (first | ((with_reducible refine gd 10 rfl ?_); refine Kd.R_lit (Kd.raw 1) _ 69 ?hg (N := 10) ?hd (xs := ([] : List (List Value))) (inner := []) (ok := fun _ => True) (okp := fun _ => True) ?hr ?hp (fun _ hk => hk) trivial (Below.refl _ _) (Nat.le_refl _) (by simp) ?_; (case hd => rfl); (case hg => rfl); (case hr => first | (go_simp; done) | (go_simp; rfl)); (case hp => exact (Reps.none _ _)); intro v6 w2 ho3 hb hg_ hnew_; clear hg_ hnew_; have HO := am (nil31 ho3); have HB := am hb; clear hb ho3) | (go_at_call 48; (refine (spec_SchemaOk.calls (Kd.C_below HS.out HB.out) HC.out HOK.out).mono ?_); rintro e w3 ⟨rfl, hb⟩; replace HO := am (Kd.R_below HO.out hb); replace HB := am (below_then HB.out HB.out.size hb); clear hb))
    go_ret2
    exact ⟨_, rfl, HO.out, HB.out⟩
  rw [if_neg c1] at h
  obtain ⟨lv, h2, h⟩ := Option.bind_eq_some_iff.mp h
  obtain ⟨hll, h⟩ := ifs h
  have b1 := decide_eq_false c1
  have HLV := am h2
  have HLL := am hll
  have H' := am h
  clear h h2 hll c1
  go_enter Try.func25, Try.ntmps25
  go_wp2_with (first | ((with_reducible refine gd 10 rfl ?_); refine Kd.R_lit (Kd.raw 1) _ 69 ?hg (N := 10) ?hd (xs := ([] : List (List Value))) (inner := []) (ok := fun _ => True) (okp := fun _ => True) ?hr ?hp (fun _ hk => hk) trivial (Below.refl _ _) (Nat.le_refl _) (by simp) ?_; (case hd => rfl); (case hg => rfl); (case hr => first | (go_simp; done) | (go_simp; rfl)); (case hp => exact (Reps.none _ _)); intro v6 w2 ho3 hb hg_ hnew_; clear hg_ hnew_; have HB0 := am hb; have HO := am ho3; replace HS := am (Kd.C_below HS.out hb); replace HV := am (Kd.C_below HV.out hb); have HB := am (Below.refl w2.heap.size w2); clear hb ho3) | (go_at_call 48; (refine (spec_SchemaOk.calls (Kd.C_below HS.out HB.out) HC.out HOK.out).mono ?_); rintro e w3 ⟨rfl, hb⟩; replace HB := am (below_then HB.out HB.out.size hb); clear hb) | (go_at_call 49; (refine (spec_l5Leaves.calls (Kd.C_below HS.out HB.out) HC.out HLV.out).mono ?_); rintro e w3 ⟨v21, rfl, hl, hb⟩; obtain ⟨A21, c21, rfl⟩ := Kd.R_slice hl; replace HB := am (below_then HB.out HB.out.size hb); clear hb hl) | ((with_reducible refine gd 23 rfl ?_); refine Kd.S_make (Kd.slice 36 k36) (w0 := w2) w2.heap.size 26 rfl (N := 23) rfl 95 (.tmp 22) (.tmp 22) rfl (lv.length : Int) ?mx ?my Try.underlying95 (.slice none 0 0) 24 ?mi rfl (by decide) (by decide) ([] : List S36) (ok := fun _ => True) (okp := fun _ => True) ?mz (fun _ _ => trivial) trivial (by omega) ?ml HB.out HB.out.size ?_; (case mx => rfl); (case my => rfl); (case mi => exact infoc24); (case mz => exact ⟨_, rfl, Kd.R_nil _ _ _ _ _⟩); (case ml => have := HLL.out; omega); intro v7 w4 hm hb hg_ hn_; clear hg_ hn_; replace HB := am hb; have HL : Aside0 (CS w2 w4 (fun _ => True) v7 (List.replicate lv.length [])) := ⟨hm⟩; clear hb hm))
  go_loopg [7, 8] k (fun kq v7_ v8 w' => ∃ (q8 : Int) (L1 : TT), v7 = v7_ ∧ v8 = .int .i64 q8 ∧ Aside0 (spec_Shred.l0 kq s recs L1 q8 = some (out, b)) ∧ Aside0 (kq ≤ k) ∧ Aside0 (CS w2 w' (fun _ => True) v7 L1) ∧ Aside0 (Below w2.heap.size w2 w'))
  case atStart => exact ⟨_, _, rfl, rfl, H', ⟨Nat.le_refl _⟩, HL, HB⟩
  clear H' HL HB
  obtain ⟨i, L1, rfl, rfl, HA, HK, HL, HB⟩ := hrel
  cases gk with
  | zero => exact absurd HA.out (by simp [spec_Shred.l0])
  | succ k1 => ?_
  have h := HA.out
  clear HA
  simp only [spec_Shred.l0] at h
  by_cases c3 : i < (recs.length : Int)
  · rw [if_pos c3] at h
    obtain ⟨c4, h⟩ := ifs h
    obtain ⟨ad, A0, c0, rfl, hx, hle, hC⟩ := at_T100 HV.out i c4 c3
    have b3 := decide_eq_true c3
    have q3 := eq_true c3
    have q4 := eq_true c4
    replace hx := crd HB hx
    have HV2 := am hC
    have HL2 := am hle
    clear c3 c4 hC hle
    obtain ⟨b2, h1, h⟩ := Option.bind_eq_some_iff.mp h
    have HRO := am h1
    clear h1
    cases b2 with
    | false =>
     rw [if_neg (by decide)] at h
     obtain ⟨rfl, rfl⟩ := Prod.mk.inj (Option.some.inj h)
     clear h
     go_wp2_with (first | (go_at_call 50; (refine (spec_RecOk.calls (Kd.C_below HS.out HB.out) HC.out (Kd.C_below HV2.out HB.out) HL2.out HRO.out).mono ?_); rintro e w3 ⟨rfl, hb⟩; replace HB := am (below_then HB.out HB.out.size hb); clear hb))
     go_ret2
     exact ⟨_, rfl, nil31 (Kd.R_below HO.out HB.out), below_then HB0.out HB0.out.size HB.out⟩
    | true =>
     rw [if_pos rfl] at h
     obtain ⟨⟨L2, p2⟩, hq, h⟩ := Option.bind_eq_some_iff.mp h
     have HQ := am hq
     have H' := am h
     clear hq h
     go_wp2_with (first | (go_at_call 50; (refine (spec_RecOk.calls (Kd.C_below HS.out HB.out) HC.out (Kd.C_below HV2.out HB.out) HL2.out HRO.out).mono ?_); rintro e w3 ⟨rfl, hb⟩; replace hx := pw_cell_below hb hx; replace HL := am (HL.out.below hb); replace HB := am (below_then HB.out HB.out.size hb); clear hb) | (go_at_call 51; (refine (spec_l14Content.calls k1 w2 _ A c s 0 A0 c0 (rd_T100 recs i).f0 0 0 0 0 v7 L1 L2 p2 HB.out HS.out HC.out HV2.out HL2.out HL.out HQ.out).mono ?_); clear HL HB; rintro e w4 ⟨rfl, hl, hb⟩; have HL := am hl; have HB := am hb; clear hl hb))
     go_roundg k1
     case measure => have := HK.out; omega
     case rel => exact ⟨_, L2, rfl, rfl, H', ⟨by have := HK.out; omega⟩, HL, HB⟩
  rw [if_neg c3] at h
  have b3 := decide_eq_false c3
  have H' := am h
  clear h c3
  obtain ⟨A7, c7, rfl⟩ := Kd.S_slice HL.out
  go_wp2
  have HOw := am (Kd.R_below HO.out HB.out)
  have HBw := am (below_then HB0.out HB0.out.size HB.out)
  have HR0 : Aside0 (RowsAre wr (.slice A7 L1.length c7) L1 [] []) := ⟨⟨rfl, fun j x hx => absurd hx (by simp)⟩⟩
  go_loopg [6, 9] k1 (fun kq v6_ v9 w' => ∃ (i : Int) (o2 : List S69) (rows : List (List Value)), v9 = .int .i64 i ∧ Aside0 (spec_Shred.l1 kq L1 i o2 = some (out, b)) ∧ Aside0 (kq ≤ k1) ∧ Aside0 ((Kd.raw 1).R 69 w' w.heap.size (fun _ => True) v6_ rows) ∧ Aside0 (RowsAre w' (.slice A7 L1.length c7) L1 o2 rows) ∧ Aside0 (CS w2 w' (fun _ => True) (.slice A7 L1.length c7) L1) ∧ Aside0 (Below w.heap.size w w'))
  case atStart => exact ⟨_, [], [], rfl, H', ⟨Nat.le_refl _⟩, HOw, HR0, HL, HBw⟩
  clear H' HL HB HOw HBw HR0 HO
  obtain ⟨i2, o2, rows, rfl, HA, HK2, HO, HRW, HL, HB⟩ := hrel
  cases gk with
  | zero => exact absurd HA.out (by simp [spec_Shred.l1])
  | succ k2 => ?_
  have h := HA.out
  clear HA
  simp only [spec_Shred.l1] at h
  by_cases c5 : i2 < (L1.length : Int)
  rotate_left
  · rw [if_neg c5] at h
    obtain ⟨rfl, rfl⟩ := Prod.mk.inj (Option.some.inj h)
    have b5 := decide_eq_false c5
    clear h c5
    have HF := am (HRW.out.R HL.out HB0.out.size HO.out)
    go_wp2
    go_ret2
    exact ⟨_, rfl, HF.out, HB.out⟩
  rw [if_pos c5] at h
  obtain ⟨⟨c6, hsm⟩, h⟩ := ifs h
  obtain ⟨g, cap, ve, okr, hve, hg, hx, hf, hR, hfr, hko, hgl, hne, hput⟩ := HL.out.open (fun k hk => trivial) i2 c6 c5
  injection hve with he1 _ he3
  subst he1 he3
  obtain ⟨row, hrow⟩ : ∃ row, row = L1.getD i2.toNat [] := ⟨_, rfl⟩
  rw [← hrow] at hR
  obtain ⟨A9, c9, rfl⟩ := Kd.R_slice hR
  have HSN := am (RowsAre.snoc HRW.out (i := i2.toNat) (by omega) hx)
  rw [← hrow] at HSN h
  have HRO := am hrow
  have HX := am hsm
  clear hR hfr hko hput hne hrow hf hsm
  have b5 := decide_eq_true c5
  have q5 := eq_true c5
  have q6 := eq_true c6
  have h' := am h
  clear h c5 c6
  by_cases c8 : (row.length : Int) > 2000
  · have h := h'.out
    rw [if_pos c8] at h
    obtain ⟨rfl, rfl⟩ := Prod.mk.inj (Option.some.inj h)
    have b8 := decide_eq_true c8
    clear h h' c8
    go_wp2_with (first | ((with_reducible refine gd 61 rfl ?_); refine Kd.R_lit (Kd.raw 1) _ 69 ?hg (N := 61) ?hd (xs := ([] : List (List Value))) (inner := []) (ok := fun _ => True) (okp := fun _ => True) ?hr ?hp (fun _ hk => hk) trivial (Below.refl _ _) (Nat.le_refl _) (by simp) ?_; (case hd => rfl); (case hg => rfl); (case hr => first | (go_simp; done) | (go_simp; rfl)); (case hp => exact (Reps.none _ _)); intro v61 w6 ho3 hb hg_ hnew_; clear hg_ hnew_; have HO6 := am (Kd.R_lower (nil31 ho3) HB.out.size); replace HB := am (below_then HB.out HB.out.size hb); clear hb ho3))
    go_ret2
    exact ⟨_, rfl, HO6.out, HB.out⟩
  have h := h'.out
  rw [if_neg c8] at h
  have H' := am h
  have b8 := decide_eq_false c8
  clear h h' c8
  go_wp2_with (first | ((with_reducible refine gate_builtin (b := .append) (xs := #[.tmp 62, .tmp 68]) rfl ?_); at_builtin; refine Kd.R_append (Kd.raw 1) (w0 := w) w.heap.size rfl (.tmp 62) (.tmp 68) 60 69 (.agg #[.slice none 0 0]) 24 rfl Try.underlying60 info69 rfl (by decide) (by omega) _ rows [.slice A9 row.length c9] [.slice A9 row.length c9] (fun _ => True) (fun _ => False) rfl rfl ?aP (fun _ hk => hk.elim) (fun _ _ => trivial) HO.out HB.out HB.out.size ?aL ?_; (case aP => exact ⟨rfl, rfl, fun u hu => by rw [List.mem_singleton.mp hu]; rfl⟩); (case aL => have := HX.out; have := HRW.out.1; omega); intro v6b w8 ho hb hg hat; have HO2 := am ho; have HL2 : Aside0 (CS w2 w8 (fun _ => True) (.slice (some ⟨g, 0, none⟩) L1.length c7) L1) := ⟨Kd.S_over' HL.out (Kd.R_typed HO.out) (by decide) hg⟩; have HSN2 := am (HSN.out.grown hg (fun g_ hg_ => by obtain ⟨cells, hce⟩ := Kd.S_typed HL.out g_ hg_; exact Kd.R_ne HO.out hce (by decide))); have HB2 := am hb; clear ho hb hg hat))
  go_roundg k2
  case measure => have := HK2.out; omega
  case rel => exact ⟨_, _, _, rfl, H', ⟨by have := HK2.out; omega⟩, HO2, HSN2, HL2, HB2⟩
def spec_l13DrawRight.f (k : Nat) (s0 : List Int) (s1 s2 : Int) (s : List S94) : Option (List S30 × Int × Int) := (spec_l13DrawPart.f k s0 s1 s2 s 0 []).bind fun q => (spec_RecOk.f k s q.1).bind fun b => if b = true then some q else (spec_RecEmpty.f k s).bind fun e => some (e.1, q.2.1, q.2.2)
theorem spec_l13DrawRight.calls {k g : Nat} {s0 : List Int} {s1 s2 : Int} {A1 : Option Addr} {c1 : Nat} {l1 : List S94} {r1 : List S30} {r2 r3 : Int} {w0 w : World} (hI : IsS57 w0 w g s0 s1 s2) (hB : Below w0.heap.size w0 w) (hr1 : ∀ W_, Kept w W_ (fun k_ => k_ = g) → Kd.C k94 W_ A1 l1.length l1) (hc1 : l1.length ≤ c1) (h : spec_l13DrawRight.f k s0 s1 s2 l1 = some (r1, r2, r3)) :
    Calls Try.prog 52 #[.pointer (some ⟨g, 0, none⟩), .slice A1 l1.length c1] w fun e w' => ∃ v0_ : Value, e = .returned (.agg #[v0_]) ∧ Kd.R k30 30 w' w0.heap.size (fun k_ => w.heap.size ≤ k_) v0_ r1 ∧ IsS57 w0 w' g s0 r2 r3 ∧ Below w0.heap.size w0 w' ∧ Kept w w' (fun k_ => k_ = g) := by
 have hu68 := Try.underlying100
 have hu33 := Try.underlying30
 have hgw := hI.fresh w.heap.size (Nat.le_refl _)
 have HI := am hI
 have HB := am hB
 have HR := am hr1
 have HC := am hc1
 have hglt : g < w.heap.size := by obtain ⟨_, _, hb, _⟩ := hI; exact blk_lt hb
 have HGW := am hglt
 have HW := am hB.size
 clear hI hB hr1 hc1 hgw hglt
 unfold spec_l13DrawRight.f at h
 obtain ⟨⟨vals, t2, t3⟩, h1, h⟩ := Option.bind_eq_some_iff.mp h
 obtain ⟨b, h2, h⟩ := Option.bind_eq_some_iff.mp h
 have HD := am h1
 have HO := am h2
 have HE := am h
 clear h1 h2 h
 go_enter Try.func52, Try.ntmps52
 go_upto_region 2 with (first | ((with_reducible refine gd 4 rfl ?_); refine bx_ 4 #[.slice none 0 0] 100 ?_; intro g4 hg w1 hbox hb; have BK4 := am hbox; have HG4 := am hg; have HS1 : Aside0 (w.heap.size < w1.heap.size) := ⟨by have := blk_lt hbox; omega⟩; replace HI := am (HI.out.below hb); have HK := am (Kept.of_below hb (fun k_ => k_ = g)); replace HB := am (below_then HB.out HB.out.size hb); clear hb hbox hg) | ((with_reducible refine gd 8 rfl ?_); refine Kd.R_lit k30 _ 30 ?hg (N := 8) ?hd (xs := ([] : List S30)) (inner := []) (ok := fun _ => True) (okp := fun _ => True) ?hr ?hp (fun _ hk => hk) trivial (Below.refl _ _) (Nat.le_refl _) (by simp) ?_; (case hd => rfl); (case hg => rfl); (case hr => first | (go_simp; done) | (go_simp; rfl)); (case hp => exact (Reps.none _ _)); intro v8 w2 ho3 hb hg_ hnew_; clear hg_ hnew_; have HV := am (Kd.R_lower (Kd.R_mono (Kd.R_bound ho3) (ok' := fun k_ => w1.heap.size ≤ k_) (fun k_ hk => hk.2.1)) HB.out.size); have HS2 := am hb.size; replace BK4 := am (blk_below BK4.out hb); replace HI := am (HI.out.below hb); replace HK := am (HK.out.below hb); replace HB := am (below_then HB.out HB.out.size hb); clear hb ho3) | (go_at_call 68; (refine (spec_l13DrawPart.calls k g s0 s1 s2 A1 c1 l1 0 (fun k_ => w1.heap.size ≤ k_) v8 [] vals t2 t3 w0 _ HI.out HB.out ?hr1 HC.out HV.out HD.out).mono ?_); (case hr1 => exact fun W_ hk => HR.out W_ (HK.out.then_ hk (fun k_ h_ => h_.elim (fun h_ => .inr (by have := HS1.out; omega)) (fun h_ => .inl h_)))); clear HV HI HB; rintro e w3 ⟨v9, rfl, hv, hi, hb, hk⟩; obtain ⟨A9, c9, rfl⟩ := Kd.R_slice hv; have HV := am (Kd.R_mono hv (ok' := fun k_ => w1.heap.size ≤ k_) (fun k_ h_ => h_.elim (fun h_ => h_) (fun h_ => by have := HS2.out; omega))); have HI := am hi; have HB := am hb; replace BK4 := am (blk_kept BK4.out hk (fun h_ => h_.elim (fun h_ => by have := HS1.out; have := HG4.out; omega) (fun h_ => by have := HG4.out; have := HGW.out; omega))); replace HK := am (HK.out.then_ hk (fun k_ h_ => h_.elim (fun h_ => .inr (by have := HS1.out; omega)) (fun h_ => .inl h_))); clear hb hv hi hk) | ((with_reducible refine gd 5 rfl ?_); refine bx_ 5 #[.slice none 0 0] 100 ?_; intro g5 hg w4 hbox hb; have BK5 := am hbox; have hne : g4 ≠ g5 := (fun he => by have := blk_lt BK4.out; omega); have hne2 : g ≠ g5 := (fun he => by have h_ := HK.out.1; have := HGW.out; omega); have HN := am hne; have HN2 := am hne2; have HN3 : Aside0 (w.heap.size ≤ g5) := ⟨by have := HK.out.1; omega⟩; replace BK4 := am (blk_below BK4.out hb); replace HI := am (HI.out.below hb); replace HK := am (HK.out.below hb); replace HV := am (Kd.R_types (Kd.R_below HV.out hb) BK5.out (by decide)); replace HB := am (below_then HB.out HB.out.size hb); obtain ⟨hc5, hf5⟩ := cl1 BK5; clear hb hbox hg hne hne2) | (refine st_ 100 5 (w4.setCell ⟨g5, 0, none⟩ (.slice A9 vals.length c9)) ?_; intro w5 hw5; clear hc5 hf5; replace BK4 := am (blk_far BK4.out (p := ⟨g5, 0, none⟩) HN.out (.slice A9 vals.length c9)); replace BK5 := am (blk_put BK5.out 0 (.slice A9 vals.length c9) (cs' := #[.slice A9 vals.length c9]) rfl); replace HI := am (HI.out.kept ((Kept.refl w4 (fun k_ => k_ = g5)).setCell (p := ⟨g5, 0, none⟩) (.inl rfl) (.slice A9 vals.length c9)) HN2.out); replace HK := am (HK.out.setCell (p := ⟨g5, 0, none⟩) (.inr HN3.out) (.slice A9 vals.length c9)); replace HV := am (Kd.R_far (p := ⟨g5, 0, none⟩) HV.out (fun _ h_ => h_.2) (.slice A9 vals.length c9)); replace HB := am (HB.out.setCell (p := ⟨g5, 0, none⟩) (show w0.heap.size ≤ g5 from by have := HW.out; have := HN3.out; omega) (.slice A9 vals.length c9)); rw [← hw5] at BK4 BK5 HI HK HV HB; obtain ⟨hc5, hf5⟩ := cl1 BK5; clear hw5))
 have HN4 : Aside0 (g ≠ g4) := ⟨fun he => by have := HG4.out; have := HGW.out; omega⟩
 cases b with
 | true =>
  have h := HE.out
  rw [if_pos rfl] at h
  simp only [Option.some.injEq, Prod.mk.injEq] at h
  obtain ⟨rfl, rfl, rfl⟩ := h
  clear h HE
  go_wp2_with (first | (go_at_call 50; (refine (spec_RecOk.calls (HR.out _ HK.out) HC.out ?hc ?hl HO.out).mono ?_); (case hc => exact (Kd.R_reads' HV.out).2.2); (case hl => exact (Kd.R_reads' HV.out).2.1); rintro e w6 ⟨rfl, hb⟩; clear hc5 hf5; replace BK4 := am (blk_below BK4.out hb); replace BK5 := am (blk_below BK5.out hb); replace HI := am (HI.out.below hb); replace HK := am (HK.out.below hb); replace HV := am (Kd.R_below HV.out hb); replace HB := am (below_then HB.out HB.out.size hb); obtain ⟨hc5, hf5⟩ := cl1 BK5; obtain ⟨hc4, hf4⟩ := cl1 BK4; have HB4 := BK4; clear hb) | (refine st_ 100 4 (w6.setCell ⟨g4, 0, none⟩ (.slice A9 vals.length c9)) ?_; intro w9 hw9; clear hc4 hf4 hc5 hf5; replace BK4 := am (blk_put BK4.out 0 (.slice A9 vals.length c9) (cs' := #[(.slice A9 vals.length c9)]) rfl); replace HI := am (HI.out.kept ((Kept.refl w6 (fun k_ => k_ = g4)).setCell (p := ⟨g4, 0, none⟩) (.inl rfl) (.slice A9 vals.length c9)) HN4.out); replace HK := am (HK.out.setCell (p := ⟨g4, 0, none⟩) (.inr (by have := HG4.out; show w.heap.size ≤ g4; omega)) (.slice A9 vals.length c9)); replace HV := am (Kd.R_far (p := ⟨g4, 0, none⟩) (Kd.R_types HV.out HB4.out (by decide)) (fun _ h_ => h_.2) (.slice A9 vals.length c9)); replace HB := am (HB.out.setCell (p := ⟨g4, 0, none⟩) (show w0.heap.size ≤ g4 from by have := HW.out; have := HG4.out; omega) (.slice A9 vals.length c9)); rw [← hw9] at BK4 HI HK HV HB; clear hw9))
  refine bodyPost_ret (results_cell_row rfl _ _ g4 100 #[.slice A9 vals.length c9] (0, 0) _ rfl BK4.out Try.underlying100 rfl (by kernel_rfl)) rfl ?_
  exact ⟨_, rfl, Kd.R_mono HV.out (fun k_ h_ => by have := HS1.out; have := h_.1.1; omega), HI.out, HB.out, HK.out⟩
 | false =>
  have h := HE.out
  rw [if_neg (by decide)] at h
  obtain ⟨⟨v2, b2⟩, h1, h⟩ := Option.bind_eq_some_iff.mp h
  simp only [Option.some.injEq, Prod.mk.injEq] at h
  obtain ⟨rfl, rfl, rfl⟩ := h
  have HEM := am h1
  clear h HE h1
  go_wp2_with (first | (go_at_call 50; (refine (spec_RecOk.calls (HR.out _ HK.out) HC.out ?hc ?hl HO.out).mono ?_); (case hc => exact (Kd.R_reads' HV.out).2.2); (case hl => exact (Kd.R_reads' HV.out).2.1); rintro e w6 ⟨rfl, hb⟩; clear hc5 hf5; replace BK4 := am (blk_below BK4.out hb); replace BK5 := am (blk_below BK5.out hb); replace HI := am (HI.out.below hb); replace HK := am (HK.out.below hb); replace HB := am (below_then HB.out HB.out.size hb); clear HV hb) | (go_at_call 69; (refine (spec_RecEmpty.calls (HR.out _ HK.out) HC.out HEM.out).mono ?_); rintro e w7 ⟨v17, rfl, hv, hb⟩; obtain ⟨A17, c17, rfl⟩ := Kd.R_slice hv; have HSZ : Aside0 (w.heap.size ≤ w6.heap.size) := ⟨HK.out.1⟩; replace BK4 := am (blk_below BK4.out hb); replace BK5 := am (blk_below BK5.out hb); replace HI := am (HI.out.below hb); replace HK := am (HK.out.below hb); have HV := am (Kd.R_types (Kd.R_lower (Kd.R_mono (Kd.R_bound hv) (ok' := fun k_ => w.heap.size ≤ k_) (fun k_ h_ => by have := h_.2.1; have := HSZ.out; omega)) (by have := HSZ.out; have := HW.out; omega : w0.heap.size ≤ w6.heap.size)) BK5.out (by decide)); replace HB := am (below_then HB.out HB.out.size hb); obtain ⟨hc5, hf5⟩ := cl1 BK5; clear hb hv) | (refine st_ 100 5 (w7.setCell ⟨g5, 0, none⟩ (.slice A17 v2.length c17)) ?_; intro w8 hw8; clear hc5 hf5; replace BK4 := am (blk_far BK4.out (p := ⟨g5, 0, none⟩) HN.out (.slice A17 v2.length c17)); replace BK5 := am (blk_put BK5.out 0 (.slice A17 v2.length c17) (cs' := #[.slice A17 v2.length c17]) rfl); replace HI := am (HI.out.kept ((Kept.refl w7 (fun k_ => k_ = g5)).setCell (p := ⟨g5, 0, none⟩) (.inl rfl) (.slice A17 v2.length c17)) HN2.out); replace HK := am (HK.out.setCell (p := ⟨g5, 0, none⟩) (.inr HN3.out) (.slice A17 v2.length c17)); replace HV := am (Kd.R_far (p := ⟨g5, 0, none⟩) HV.out (fun _ h_ => h_.2) (.slice A17 v2.length c17)); replace HB := am (HB.out.setCell (p := ⟨g5, 0, none⟩) (show w0.heap.size ≤ g5 from by have := HW.out; have := HN3.out; omega) (.slice A17 v2.length c17)); rw [← hw8] at BK4 BK5 HI HK HV HB; obtain ⟨hc5, hf5⟩ := cl1 BK5; obtain ⟨hc4, hf4⟩ := cl1 BK4; have HB4 := BK4; clear hw8) | (refine st_ 100 4 (w8.setCell ⟨g4, 0, none⟩ (.slice A17 v2.length c17)) ?_; intro w9 hw9; clear hc4 hf4 hc5 hf5; replace BK4 := am (blk_put BK4.out 0 (.slice A17 v2.length c17) (cs' := #[(.slice A17 v2.length c17)]) rfl); replace HI := am (HI.out.kept ((Kept.refl w8 (fun k_ => k_ = g4)).setCell (p := ⟨g4, 0, none⟩) (.inl rfl) (.slice A17 v2.length c17)) HN4.out); replace HK := am (HK.out.setCell (p := ⟨g4, 0, none⟩) (.inr (by have := HG4.out; show w.heap.size ≤ g4; omega)) (.slice A17 v2.length c17)); replace HV := am (Kd.R_far (p := ⟨g4, 0, none⟩) (Kd.R_types HV.out HB4.out (by decide)) (fun _ h_ => h_.2) (.slice A17 v2.length c17)); replace HB := am (HB.out.setCell (p := ⟨g4, 0, none⟩) (show w0.heap.size ≤ g4 from by have := HW.out; have := HG4.out; omega) (.slice A17 v2.length c17)); rw [← hw9] at BK4 HI HK HV HB; clear hw9))
  refine bodyPost_ret (results_cell_row rfl _ _ g4 100 #[.slice A17 v2.length c17] (0, 0) _ rfl BK4.out Try.underlying100 rfl (by kernel_rfl)) rfl ?_
  exact ⟨_, rfl, Kd.R_mono HV.out (fun k_ h_ => h_.1.1), HI.out, HB.out, HK.out⟩
def spec_l14DrawRecs.l0 : Nat → List Int → List S94 → Int → Int → Int → Int → List S100 → Option (List S100 × Int × Int)
  | 0, _, _, _, _, _, _, _ => none
  | k + 1, s0, s, n, i, s1, s2, out => if i < n then ((spec_l13DrawRight.f k s0 s1 s2 s).bind fun q => if out.length < 1000000 then spec_l14DrawRecs.l0 k s0 s n (wrap64 (i + 1)) q.2.1 q.2.2 (out ++ [⟨q.1⟩]) else none) else some (out, s1, s2)
def spec_l14DrawRecs.f (k : Nat) (s0 : List Int) (s1 s2 : Int) (s : List S94) (most : Int) : Option (List S100 × Int × Int) := (spec_l1Below.f s0 s1 s2 (wrap64 (most + 1))).bind fun q => spec_l14DrawRecs.l0 k s0 s q.1 0 q.2.1 q.2.2 []
theorem infoc68 : (Try.prog.info? 100).map (fun i => (i.zero, i.size, i.bytes)) = some (some (.agg #[.slice none 0 0]), 1, 24) := by kernel_rfl
theorem spec_l14DrawRecs.calls {k g : Nat} {s0 : List Int} {s1 s2 : Int} {A1 : Option Addr} {c1 : Nat} {l1 : List S94} {most : Int} {r1 : List S100} {r2 r3 : Int} {w0 w : World} (hI : IsS57 w0 w g s0 s1 s2) (hB : Below w0.heap.size w0 w) (hr1 : ∀ W_, Kept w W_ (fun k_ => k_ = g) → Kd.C k94 W_ A1 l1.length l1) (hc1 : l1.length ≤ c1) (h : spec_l14DrawRecs.f k s0 s1 s2 l1 most = some (r1, r2, r3)) :
    Calls Try.prog 26 #[.pointer (some ⟨g, 0, none⟩), .slice A1 l1.length c1, .int .i64 most] w fun e w' => ∃ v0_ : Value, e = .returned v0_ ∧ Kd.R k100 100 w' w0.heap.size (fun k_ => w.heap.size ≤ k_) v0_ r1 ∧ IsS57 w0 w' g s0 r2 r3 ∧ Below w0.heap.size w0 w' ∧ Kept w w' (fun k_ => k_ = g) := by
 have hu68 := Try.underlying100
 have HI := am hI
 have HB := am hB
 have HR := am hr1
 have HC := am hc1
 have hglt : g < w.heap.size := by obtain ⟨_, _, hb, _⟩ := hI; exact blk_lt hb
 have HGW := am hglt
 have HW := am hB.size
 have HK := am (Kept.refl w (fun k_ => k_ = g))
 clear hI hB hr1 hc1 hglt
 unfold spec_l14DrawRecs.f at h
 obtain ⟨⟨n, t2, t3⟩, h1, h⟩ := Option.bind_eq_some_iff.mp h
 have HN := am h1
 have H' := am h
 clear h1 h
 go_enter Try.func26, Try.ntmps26
 go_wp2_with (first | ((with_reducible refine gd 10 rfl ?_); refine Kd.R_lit k100 _ 100 ?hg (N := 10) ?hd (xs := ([] : List S100)) (inner := []) (ok := fun _ => True) (okp := fun _ => True) ?hr ?hp (fun _ hk => hk) trivial (Below.refl _ _) (Nat.le_refl _) (by simp) ?_; (case hd => rfl); (case hg => rfl); (case hr => first | (go_simp; done) | (go_simp; rfl)); (case hp => exact (Reps.none _ _)); intro v8 w2 ho3 hb hg_ hnew_; clear hg_ hnew_; have HV := am (Kd.R_lower (Kd.R_mono (Kd.R_bound ho3) (ok' := fun k_ => w.heap.size ≤ k_) (fun k_ hk => hk.2.1)) HW.out); replace HI := am (HI.out.below hb); replace HK := am (HK.out.below hb); replace HB := am (below_then HB.out HB.out.size hb); clear hb ho3) | (go_at_call 27; (refine (spec_l1Below.calls HI.out HB.out HN.out).mono ?_); rintro e w3 ⟨rfl, hi, hb, hk⟩; replace HV := am (Kd.R_keep HV.out hk (fun k_ h_ => by have := HGW.out; omega)); replace HI := am hi; replace HB := am hb; replace HK := am (HK.out.of_keep hk (.inl rfl)); clear hi hb hk))
 go_loopg [7, 9] k (fun kq v7 v9 w' => ∃ (i s1 s2 : Int) (out : List S100) (x7 : Value), x7 = v7 ∧ v9 = .int .i64 i ∧ Aside0 (spec_l14DrawRecs.l0 kq s0 l1 n i s1 s2 out = some (r1, r2, r3)) ∧ Aside0 (kq ≤ k) ∧ Aside0 (Kd.R k100 100 w' w0.heap.size (fun k_ => w.heap.size ≤ k_) v7 out) ∧ Aside0 (IsS57 w0 w' g s0 s1 s2) ∧ Aside0 (Below w0.heap.size w0 w') ∧ Aside0 (Kept w w' (fun k_ => k_ = g)))
 case atStart => exact ⟨0, _, _, [], _, rfl, rfl, H', ⟨Nat.le_refl _⟩, HV, HI, HB, HK⟩
 clear H' HV HI HB HK HN
 obtain ⟨i, q1, q2, out, v7, rfl, rfl, HA, HK1, HV, HI, HB, HK⟩ := hrel
 cases gk with
 | zero => exact absurd HA.out (by simp [spec_l14DrawRecs.l0])
 | succ k1 => ?_
 have h := HA.out
 clear HA
 simp only [spec_l14DrawRecs.l0] at h
 by_cases c3 : i < n
 rotate_left
 · rw [if_neg c3] at h
   simp only [Option.some.injEq, Prod.mk.injEq] at h
   obtain ⟨rfl, rfl, rfl⟩ := h
   have b3 := decide_eq_false c3
   clear c3
   go_wp2
   go_ret
   exact ⟨_, rfl, HV.out, HI.out, HB.out, HK.out⟩
 rw [if_pos c3] at h
 have b3 := decide_eq_true c3
 obtain ⟨⟨vals, t4, t5⟩, h1, h⟩ := Option.bind_eq_some_iff.mp h
 obtain ⟨hsm, h⟩ := ifs h
 have HD := am h1
 have H' := am h
 have HSM := am hsm
 clear c3 h1 h hsm
 go_wp2_with (first | (go_at_call 52; (refine (spec_l13DrawRight.calls HI.out HB.out ?hr1 HC.out HD.out).mono ?_); (case hr1 => exact fun W_ hk => HR.out W_ (HK.out.then_ hk (fun k_ h_ => .inl h_))); rintro e w4 ⟨v23, rfl, hv, hi, hb, hk⟩; obtain ⟨A23, c23, rfl⟩ := Kd.R_slice hv; have HSZ : Aside0 (w.heap.size ≤ wr.heap.size) := ⟨HK.out.1⟩; have HLT : Aside0 (∀ k_, v7.ownBlock = some k_ → k_ < wr.heap.size) := ⟨Kd.R_lt HV.out⟩; replace HV := am (Kd.R_kept HV.out hk (fun k_ h_ he => by have := HGW.out; omega)); have HE := am hv; replace HI := am hi; replace HB := am hb; replace HK := am (HK.out.then_ hk (fun k_ h_ => .inl h_)); clear hv hi hb hk) | ((with_reducible refine gate_builtin (b := .append) (xs := #[.tmp 20, .tmp 24]) rfl ?_); at_builtin; refine Kd.R_append k100 (w0 := w0) w0.heap.size rfl (.tmp 20) (.tmp 24) 63 100 (.agg #[.slice none 0 0]) 24 rfl Try.underlying63 infoc68 rfl (by decide) (by omega) v7 out ⟨vals⟩ [.slice A23 vals.length c23] (fun k_ => w.heap.size ≤ k_) (fun k_ => wr.heap.size ≤ k_) rfl rfl ?aP ?aK ?aF HV.out HB.out HB.out.size ?aL ?_; (case aP => exact k100_mkM _ _ _ ⟨vals⟩ HE.out); (case aK => exact fun k_ h_ => ⟨by have := HSZ.out; omega, fun he => by have := HLT.out k_ he.symm; omega⟩); (case aF => exact fun k_ h_ => by have := HK.out.1; omega); (case aL => have := HSM.out; omega); intro v6b w8 ho hb hg hat; have HV2 := am ho; have HI2 : Aside0 (IsS57 w0 w8 g s0 t4 t5) := ⟨HI.out.grown hg (fun he => by have := HSZ.out; have := HGW.out; have := Kd.R_bound HV.out |>.1 g he.symm; omega)⟩; have HK2 : Aside0 (Kept w w8 (fun k_ => k_ = g)) := ⟨Kept.of_grown hg HK.out (fun k_ h_ => .inr ((Kd.R_bound HV.out).1 k_ h_).1)⟩; have HB2 := am hb; clear ho hb hg hat))
 go_roundg k1
 case measure => have := HK1.out; omega
 case rel => exact ⟨_, _, _, _, _, rfl, rfl, H', ⟨by have := HK1.out; omega⟩, HV2, HI2, HB2, HK2⟩
def spec_l15Draw.f (k : Nat) (s0 : List Int) (s1 s2 : Int) (most : Int) : Option (Int × Int × Int × List S36 × Int × Int) := (spec_l5DrawRight.f k s0 s1 s2).bind fun q => (spec_l14DrawRecs.f k s0 q.2.1 q.2.2 q.1 most).bind fun p => (spec_Shred.f k q.1 p.1).bind fun t => if (t.1.length : Int) = 0 then some (0, 0, 0, [], p.2.1, p.2.2) else (spec_l1Below.f s0 p.2.1 p.2.2 (t.1.length : Int)).bind fun u => (spec_LeafOf.f k q.1 u.1).bind fun l => if 0 ≤ u.1 ∧ u.1 < (t.1.length : Int) then some (l.1, l.2.1, l.2.2.1, (rd_T69 t.1 u.1).f0, u.2.1, u.2.2) else none
theorem put3 {w5 : World} {g4 t : Nat} {a b c a' b' c' : Value} (h : w5.heap[g4]? = some (.cells #[a, b, c] t (0, 0))) : (((w5.setCell ⟨g4, 0, none⟩ a').setCell ⟨g4, 1, none⟩ b').setCell ⟨g4, 2, none⟩ c').heap[g4]? = some (.cells #[a', b', c'] t (0, 0)) ∧ Kept w5 (((w5.setCell ⟨g4, 0, none⟩ a').setCell ⟨g4, 1, none⟩ b').setCell ⟨g4, 2, none⟩ c') (fun k => k = g4) ∧ ∀ B w0, Below B w0 w5 → B ≤ g4 → Below B w0 (((w5.setCell ⟨g4, 0, none⟩ a').setCell ⟨g4, 1, none⟩ b').setCell ⟨g4, 2, none⟩ c') := by
 refine ⟨blk_put (cs := #[a', b', c]) (blk_put (cs := #[a', b, c]) (blk_put h 0 a' rfl) 1 b' rfl) 2 c' rfl, (((Kept.refl w5 (fun k => k = g4)).setCell (p := ⟨g4, 0, none⟩) (.inl rfl) a').setCell (p := ⟨g4, 1, none⟩) (.inl rfl) b').setCell (p := ⟨g4, 2, none⟩) (.inl rfl) c', fun B w0 hb hB => ?_⟩
 exact ((hb.setCell (p := ⟨g4, 0, none⟩) hB a').setCell (p := ⟨g4, 1, none⟩) hB b').setCell (p := ⟨g4, 2, none⟩) hB c'
theorem spec_l15Draw.calls0 {k g : Nat} {s0 : List Int} {s1 s2 most x1 x2 x3 : Int} {list : List S36} {r2 r3 : Int} {w0 w : World} (hI : IsS57 w0 w g s0 s1 s2) (hB : Below w0.heap.size w0 w) (h : spec_l15Draw.f k s0 s1 s2 most = some (x1, x2, x3, list, r2, r3)) :
    Calls Try.prog 12 #[.pointer (some ⟨g, 0, none⟩), .int .i64 most] w fun e w' => ∃ v0_ : Value, e = .returned (.tuple #[.agg #[.int .i64 x1, .int .i64 x2, .int .i64 x3], v0_]) ∧ Kd.R k36 36 w' w0.heap.size (fun k_ => w.heap.size ≤ k_) v0_ list ∧ IsS57 w0 w' g s0 r2 r3 ∧ Below w0.heap.size w0 w' ∧ Kept w w' (fun k_ => k_ = g) := by
 have hu40 := Try.underlying25
 have hu31 := Try.underlying69
 have HI := am hI
 have HB := am hB
 have hglt : g < w.heap.size := by obtain ⟨_, _, hb, _⟩ := hI; exact blk_lt hb
 have HGW := am hglt
 have HW := am hB.size
 clear hI hB hglt
 unfold spec_l15Draw.f at h
 obtain ⟨⟨s, t2, t3⟩, h1, h⟩ := Option.bind_eq_some_iff.mp h
 obtain ⟨⟨recs, p2, p3⟩, h2, h⟩ := Option.bind_eq_some_iff.mp h
 obtain ⟨⟨cols, b⟩, h3, h⟩ := Option.bind_eq_some_iff.mp h
 have HD := am h1
 have HRC := am h2
 have HSH := am h3
 have HE := am h
 clear h1 h2 h3 h
 go_enter Try.func12, Try.ntmps12
 go_upto_region 3 with (first | ((with_reducible refine gd 4 rfl ?_); refine bx_ 4 #[.int .i64 0, .int .i64 0, .int .i64 0] 25 ?_; intro g4 hg w1 hbox hb; have BK4 := am hbox; have HG4 := am hg; have HS1 : Aside0 (w.heap.size < w1.heap.size) := ⟨by have := blk_lt hbox; omega⟩; replace HI := am (HI.out.below hb); have HK := am (Kept.of_below hb (fun k_ => k_ = g)); replace HB := am (below_then HB.out HB.out.size hb); clear hb hbox hg) | (go_at_call 24; (refine (spec_l5DrawRight.calls HI.out HB.out HD.out).mono ?_); rintro e w2 ⟨v13, rfl, hv, hi, hb, hk⟩; obtain ⟨A13, c13, rfl⟩ := Kd.R_slice hv; have HV := am (Kd.R_mono (Kd.R_bound hv) (ok' := fun k_ => w1.heap.size ≤ k_) (fun k_ h_ => h_.2.1)); replace HI := am hi; replace HB := am hb; replace BK4 := am ((hk.2 g4 (blk_lt BK4.out) (by have := HG4.out; have := HGW.out; omega) (by simp)).trans BK4.out); replace HK := am (HK.out.of_keep hk (.inl rfl)); have HS2 : Aside0 (w1.heap.size ≤ w2.heap.size) := ⟨hk.1⟩; clear hi hb hk hv) | (go_at_call 26; (refine (spec_l14DrawRecs.calls HI.out HB.out ?hr1 (Kd.R_reads' HV.out).2.1 HRC.out).mono ?_); (case hr1 => exact fun W_ hk => (Kd.R_reads' (Kd.R_kept HV.out hk (fun k_ h_ he => by have := HS1.out; have := HGW.out; omega))).2.2); rintro e w3 ⟨v19, rfl, hv, hi, hb, hk⟩; obtain ⟨A19, c19, rfl⟩ := Kd.R_slice hv; replace HV := am (Kd.R_kept HV.out hk (fun k_ h_ he => by have := HS1.out; have := HGW.out; omega)); have HRV := am hv; have HSZ3 : Aside0 (w1.heap.size ≤ w3.heap.size) := ⟨by have := hk.1; have := HS2.out; omega⟩; replace HI := am hi; replace HB := am hb; replace BK4 := am (blk_kept BK4.out hk (fun h_ => by have := HG4.out; have := HGW.out; omega)); replace HK := am (HK.out.then_ hk (fun k_ h_ => .inl h_)); clear hi hb hk hv) | (go_at_call 25; (refine (spec_Shred.calls (Kd.R_reads' HV.out).2.2 (Kd.R_reads' HV.out).2.1 (Kd.R_reads' HRV.out).2.2 (Kd.R_reads' HRV.out).2.1 HSH.out).mono ?_); rintro e w4 ⟨v20, rfl, hv, hb⟩; obtain ⟨A20, c20, rfl⟩ := Kd.R_slice hv; have HCV := am (Kd.R_mono (Kd.R_bound hv) (ok' := fun k_ => w3.heap.size ≤ k_) (fun k_ h_ => h_.2.1)); replace HV := am (Kd.R_below HV.out hb); replace BK4 := am (blk_below BK4.out hb); replace HI := am (HI.out.below hb); replace HK := am (HK.out.below hb); replace HB := am (below_then HB.out HB.out.size hb); clear hb hv HRV))
 have HN4 : Aside0 (g ≠ g4) := ⟨fun he => by have := HG4.out; have := HGW.out; omega⟩
 by_cases c0 : (cols.length : Int) = 0
 · have h := HE.out
   rw [if_pos c0] at h
   simp only [Option.some.injEq, Prod.mk.injEq] at h
   obtain ⟨rfl, rfl, rfl, rfl, rfl, rfl⟩ := h
   have b0 := beq_iff_eq.mpr c0
   obtain ⟨hc0, hc1, hc2, hf0, hf1, hf2⟩ := cl3 BK4
   clear c0 HE
   go_wp2_with (first | ((with_reducible refine gd 27 rfl ?_); refine Kd.R_lit k36 _ 36 ?hg (N := 27) ?hd (xs := ([] : List S36)) (inner := []) (ok := fun _ => True) (okp := fun _ => True) ?hr ?hp (fun _ hk => hk) trivial (Below.refl _ _) (Nat.le_refl _) (by simp) ?_; (case hd => rfl); (case hg => rfl); (case hr => first | (go_simp; done) | (go_simp; rfl)); (case hp => exact (Reps.none _ _)); intro v27 w5 ho3 hb hg_ hnew_; clear hg_ hnew_; have HSZ4 : Aside0 (w.heap.size ≤ w4.heap.size) := ⟨HK.out.1⟩; replace BK4 := am (blk_below BK4.out hb); replace HI := am (HI.out.below hb); replace HK := am (HK.out.below hb); have HLV := am (Kd.R_lower (Kd.R_mono (Kd.R_bound ho3) (ok' := fun k_ => w.heap.size ≤ k_) (fun k_ h_ => by have := h_.2.1; have := HSZ4.out; omega)) (by have := HSZ4.out; have := HW.out; omega : w0.heap.size ≤ w4.heap.size)); replace HB := am (below_then HB.out HB.out.size hb); obtain ⟨hc0, hc1, hc2, hf0, hf1, hf2⟩ := cl3 BK4; clear hb ho3))
   obtain ⟨e1, e2, e3⟩ := put3 (a' := .int .i64 0) (b' := .int .i64 0) (c' := .int .i64 0) BK4.out
   refine bodyPost_ret (results_ct rfl _ _ g4 25 #[.int .i64 0, .int .i64 0, .int .i64 0] (0, 0) _ rfl e1 Try.underlying25 rfl (by kernel_rfl)) rfl ?_
   have hw4 : w.heap.size ≤ g4 := by have := HG4.out; omega
   exact ⟨_, rfl, Kd.R_mono (Kd.R_kept (Kd.R_types HLV.out BK4.out (by decide)) e2 (fun k_ h_ he => h_.2 he)) (fun k_ h_ => h_.1), HI.out.kept e2 HN4.out, e3 _ _ HB.out (by have := HW.out; omega), HK.out.then_ e2 (fun k_ h_ => .inr (by omega))⟩
 have h := HE.out
 rw [if_neg c0] at h
 obtain ⟨⟨kk, d2, d3⟩, h1, h⟩ := Option.bind_eq_some_iff.mp h
 obtain ⟨⟨y1, y2, y3, b4⟩, h2, h⟩ := Option.bind_eq_some_iff.mp h
 obtain ⟨⟨c5, c6⟩, h⟩ := ifs h
 simp only [Option.some.injEq, Prod.mk.injEq] at h
 obtain ⟨rfl, rfl, rfl, rfl, rfl, rfl⟩ := h
 have b0 := beq_eq_false_iff_ne.mpr c0
 have HKK := am h1
 have HLO := am h2
 have HC5 := am c5
 have HC6 := am c6
 clear c0 HE h1 h2 c5 c6
 go_upto_region 7 with (first | (go_at_call 27; (refine (spec_l1Below.calls HI.out HB.out HKK.out).mono ?_); rintro e w5 ⟨rfl, hi, hb, hk⟩; replace HI := am hi; replace HB := am hb; replace BK4 := am ((hk.2 g4 (blk_lt BK4.out) (fun he => HN4.out he.symm) (by simp)).trans BK4.out); replace HK := am (HK.out.of_keep hk (.inl rfl)); replace HV := am (Kd.R_keep HV.out hk (fun k_ h_ => by have := HS1.out; have := HGW.out; omega)); replace HCV := am (Kd.R_keep HCV.out hk (fun k_ h_ => by have := HS1.out; have := HSZ3.out; have := HGW.out; omega)); clear hi hb hk) | (go_at_call 28; (refine (spec_LeafOf.calls (Kd.R_reads' HV.out).2.2 (Kd.R_reads' HV.out).2.1 HLO.out).mono ?_); rintro e w6 ⟨rfl, hb⟩; replace BK4 := am (blk_below BK4.out hb); replace HI := am (HI.out.below hb); replace HK := am (HK.out.below hb); replace HCV := am (Kd.R_below HCV.out hb); replace HB := am (below_then HB.out HB.out.size hb); clear hb HV) | ((with_reducible refine gd 10 rfl ?_); refine bx_ 10 #[.int .i64 0, .int .i64 0, .int .i64 0] 25 ?_; intro g10 hg w7 hbox hb; have BK10 := am hbox; have hne : g4 ≠ g10 := (fun he => by have := blk_lt BK4.out; omega); have hne2 : g ≠ g10 := (fun he => by have h_ := HK.out.1; have := HGW.out; omega); have HN := am hne; have HN2 := am hne2; have HN3 : Aside0 (w.heap.size ≤ g10) := ⟨by have := HK.out.1; omega⟩; replace BK4 := am (blk_below BK4.out hb); replace HI := am (HI.out.below hb); replace HK := am (HK.out.below hb); replace HCV := am (Kd.R_types (Kd.R_below HCV.out hb) BK10.out (by decide)); replace HB := am (below_then HB.out HB.out.size hb); obtain ⟨hd0, hd1, hd2, he0, he1, he2⟩ := cl3 BK10; clear hb hbox hg hne hne2) | (refine st_ 25 10 (((w7.setCell ⟨g10, 0, none⟩ (.int .i64 y1)).setCell ⟨g10, 1, none⟩ (.int .i64 y2)).setCell ⟨g10, 2, none⟩ (.int .i64 y3)) ?_; intro w8 hw8; clear hd0 hd1 hd2 he0 he1 he2; obtain ⟨e1, e2, e3⟩ := put3 (a' := .int .i64 y1) (b' := .int .i64 y2) (c' := .int .i64 y3) BK10.out; rw [← hw8] at e1 e2 e3; replace BK10 := am e1; replace BK4 := am (blk_kept BK4.out e2 HN.out); replace HI := am (HI.out.kept e2 HN2.out); replace HCV := am (Kd.R_kept HCV.out e2 (fun k_ h_ he => h_.2 he)); replace HK := am (HK.out.then_ e2 (fun k_ h_ => .inr (by have := HN3.out; omega))); replace HB := am (e3 _ _ HB.out (by have := HW.out; have := HN3.out; omega)); clear e1 e2 e3 hw8))
 obtain ⟨gc, cap, he, hgc, -, -⟩ := Kd.R_form HCV.out (by have := HC5.out; have := HC6.out; omega)
 injection he with he1 _ he3
 subst he1 he3
 obtain ⟨c, hcl, hM, hce, hcf⟩ := Kd.R_elem HCV.out z69 kk HC5.out HC6.out
 obtain ⟨v43, rfl, hM2⟩ := k69_openM hM
 have hx : w8.cell? ⟨gc, kk.toNat, none⟩ = some v43 := by
   have := hce 0 v43 rfl
   rw [show k69.sz = 1 from rfl, Nat.mul_one] at this
   exact this
 obtain ⟨hd0, hd1, hd2, he0, he1, he2⟩ := cl3 BK10
 obtain ⟨hc0, hc1, hc2, hf0, hf1, hf2⟩ := cl3 BK4
 have q5 := eq_true HC5.out
 have q6 := eq_true HC6.out
 have HM := am hM2
 have hgne : gc ≠ g4 := fun he => Kd.R_ne HCV.out BK4.out (by decide) (by rw [← he]; rfl)
 obtain ⟨e1, e2, e3⟩ := put3 (a' := .int .i64 y1) (b' := .int .i64 y2) (c' := .int .i64 y3) BK4.out
 have hx2 := cell_kept hx e2 hgne
 have E1 := am e1
 have E2 := am e2
 have E3 := am e3
 clear hce hcf hM hM2 hgc e1 e2 e3 hgne
 go_region
 all_goals
  go_wp2
  have hw4 : w.heap.size ≤ g4 := by have := HG4.out; omega
  have hw3 : w.heap.size ≤ w3.heap.size := by have := HSZ3.out; have := HS1.out; omega
  have hw0 : w0.heap.size ≤ w3.heap.size := by have := HW.out; omega
  refine bodyPost_ret (results_ct rfl _ _ g4 25 #[.int .i64 y1, .int .i64 y2, .int .i64 y3] (0, 0) _ rfl (by exact E1.out) Try.underlying25 rfl (by kernel_rfl)) rfl ?_
  refine ⟨_, rfl, ?_, ?_, ?_, ?_⟩
  · exact Kd.R_drew (Kd.R_lower (Kd.R_mono (Kd.R_kept (Kd.R_types HM.out BK4.out (by decide)) E2.out (fun k_ h_ he => h_.2 he)) (fun k_ h_ => by have := h_.1.1.1; omega)) hw0)
  · exact IsS57.drew (HI.out.kept E2.out HN4.out)
  · exact below_drew1 (E3.out _ _ HB.out (by have := HW.out; omega))
  exact Kept.drew (HK.out.then_ E2.out (fun k_ h_ => .inr (by omega)))
theorem own_raise {w : World} {base base' : Nat} {e : TypeId} {size n : Nat} {v : Value} {xs : List Value} (h : w.ownsRow base e size v n xs) (hb : ∀ k, v.ownBlock = some k → base' ≤ k) : w.ownsRow base' e size v n xs := by
 obtain ⟨h1, h2 | ⟨g, cap, cur, rfl, h3, h4⟩⟩ := h
 · exact ⟨h1, .inl h2⟩
 exact ⟨h1, .inr ⟨g, cap, cur, rfl, hb g rfl, h4⟩⟩
theorem spec_l15Draw.calls {k g : Nat} {s0 : List Int} {s1 s2 most x1 x2 x3 : Int} {list : List S36} {r2 r3 : Int} {w0 w : World} (hI : IsS57 w0 w g s0 s1 s2) (hB : Below w0.heap.size w0 w) (h : spec_l15Draw.f k s0 s1 s2 most = some (x1, x2, x3, list, r2, r3)) :
    Calls Try.prog 12 #[.pointer (some ⟨g, 0, none⟩), .int .i64 most] w fun e w' => ∃ v0_ : Value, e = .returned (.tuple #[.agg #[.int .i64 x1, .int .i64 x2, .int .i64 x3], v0_]) ∧ Kd.R k36 36 w' w.heap.size (fun _ => True) v0_ list ∧ IsS57 w0 w' g s0 r2 r3 ∧ Below w0.heap.size w0 w' ∧ KeepBut w w' g none := by
 refine (spec_l15Draw.calls0 hI hB h).mono ?_
 rintro e w' ⟨v, he, hv, hi, hb, hk⟩
 refine ⟨v, he, ?_, hi, hb, hk.1, fun i h1 h2 _ => hk.2 i h1 h2⟩
 obtain ⟨h1, inner, ho, hr⟩ := hv
 exact ⟨fun _ _ => trivial, inner, own_raise ho h1, ⟨hr.1, fun j p hj => (show k36.M w' w0.heap.size (fun k_ => True ∧ some k_ ≠ v.ownBlock) p _ from k36.M_mono (ok := fun k_ => w.heap.size ≤ k_ ∧ some k_ ≠ v.ownBlock) (fun k_ hk_ => ⟨trivial, hk_.2⟩) (hr.2 j p hj))⟩⟩
end Go.Proofs.Ytnlgodcbnlbdkaa.PFnStats
