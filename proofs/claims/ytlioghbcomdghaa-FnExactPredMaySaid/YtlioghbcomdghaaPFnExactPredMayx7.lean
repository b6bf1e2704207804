/- The machine's side of FnExactPredMay, written by wip/tools/hyb.py of this repo: each Go function as a plain Lean function, and the proof that the call comes to just its answer. No condition. -/
import Derived.Test.YtlioghbcomdghaaPFnExactPredMayx0
import Derived.Test.YtlioghbcomdghaaPFnExactPredMayx4
import Derived.Test.YtlioghbcomdghaaPFnExactPredMayx5
import Derived.Test.YtlioghbcomdghaaPFnExactPredMayx6
namespace Go.Proofs.Ytlioghbcomdghaa.PFnExactPredMay
open Go.RowKit Go.Proofs.YtlioghbcomdghaaW.PrintWords Go.Proofs.YtlioghbcomdghaaW.PrintLast Go.Proofs.YtlioghbcomdghaaW.PrintMore Go.Proofs.YtlioghbcomdghaaW.PrintMore2
attribute [local go_sem] max2_int min2_int max_two min_two max_three min_three max_four min_four   -- for this text's walks alone
set_option linter.unusedVariables false
set_option linter.unusedSimpArgs false

/-! ### spec_l20May: function 20 -/
/-- Two values that differ, as the walk tells it. -/
def vne (a b : S59) : Bool := !(a.f0 == b.f0) || (!(a.f1.toList == b.f1.toList))
/-- A comparison, or a test for null, of what is known. -/
def l20Leaf (k : Nat) (t : Int) (x : S61) (st : S64) : Option (Bool × Bool) :=
  if x.f0 = 1 then
    (if st.f1 = true then (spec_ValLess.f k t x.f2.f0 x.f2.f1 st.f2.f0 st.f2.f1).bind fun a => (if a = true then some false else (spec_ValLess.f k t st.f3.f0 st.f3.f1 x.f2.f0 x.f2.f1).bind fun b => some (!b)) else some false).bind fun p => some (p, decide (0 < st.f0) || (st.f1 && (vne st.f2 x.f2 || vne st.f3 x.f2)))
  else if x.f0 = 2 then
    (if st.f1 = true then spec_ValLess.f k t st.f2.f0 st.f2.f1 x.f2.f0 x.f2.f1 else some false).bind fun p => (if 0 < st.f0 then some true else if st.f1 = true then (spec_ValLess.f k t st.f3.f0 st.f3.f1 x.f2.f0 x.f2.f1).bind fun b => some (!b) else some false).bind fun q => some (p, q)
  else if x.f0 = 3 then
    (if st.f1 = true then (spec_ValLess.f k t x.f2.f0 x.f2.f1 st.f2.f0 st.f2.f1).bind fun a => some (!a) else some false).bind fun p => (if 0 < st.f0 then some true else if st.f1 = true then (spec_ValLess.f k t x.f2.f0 x.f2.f1 st.f3.f0 st.f3.f1) else some false).bind fun q => some (p, q)
  else some (decide (0 < st.f0), st.f1)
def spec_l20May.f : Nat → List S57 → List S61 → Int → List S66 → Option (Bool × Bool)
  | 0, _, _, _, _ => none
  | k + 1, s, p, a, kn => if 0 ≤ a ∧ a < (p.length : Int) then
      (if (rd_T61 p a).f0 = 5 ∨ (rd_T61 p a).f0 = 6 then (spec_l20May.f k s p (rd_T61 p a).f3 kn).bind fun u => (spec_l20May.f k s p (rd_T61 p a).f4 kn).bind fun v => some (if (rd_T61 p a).f0 = 5 then (u.1 && v.1, u.2 || v.2) else (u.1 || v.1, u.2 && v.2))
       else if (rd_T61 p a).f0 = 7 then (spec_l20May.f k s p (rd_T61 p a).f3 kn).bind fun u => some (u.2, u.1)
       else if 0 ≤ (rd_T61 p a).f1 ∧ (rd_T61 p a).f1 < (kn.length : Int) then
         (if (rd_T66 kn (rd_T61 p a).f1).f0 = true then (spec_LeafOf.f k s (rd_T61 p a).f1).bind fun l => l20Leaf k l.1 (rd_T61 p a) (rd_T66 kn (rd_T61 p a).f1).f1 else some (true, true)) else none) else none
def L20Ok (k : Nat) : Prop := ∀ (A0 : Option Addr) (c0 : Nat) (s : List S57) (A1 : Option Addr) (c1 : Nat) (p : List S61) (a : Int) (A3 : Option Addr) (c3 : Nat) (kn : List S66) (r1 r2 : Bool) (w : World), Kd.C k57 w A0 s.length s → s.length ≤ c0 → Kd.C k61 w A1 p.length p → p.length ≤ c1 → Kd.C k66 w A3 kn.length kn → kn.length ≤ c3 → spec_l20May.f k s p a kn = some (r1, r2) →
  Calls Try.prog 20 #[.slice A0 s.length c0, .slice A1 p.length c1, .int .i64 a, .slice A3 kn.length c3] w fun e w' => e = .returned (.tuple #[.bool r1, .bool r2]) ∧ Below w.heap.size w w'
theorem run_neq59 {ev : Operand → Value} {o : Oper} {w : World} {x y : Operand} (p q : Int) (s t : ByteArray) (n : Bool) (he : (!(p == q) || (!(s.toList == t.toList))) = n) (ho : o.op = .binOp .neq 59 x y 59)
    (hx : ev x = .agg #[.int .i64 p, .string s]) (hy : ev y = .agg #[.int .i64 q, .string t]) : (execOp ev o).run Try.prog w = .ok (.value (.bool n)) w := by
  have hu59 := Try.underlying59
  subst he
  unfold execOp
  simp only [ho]
  go_simp
  by_cases h1 : p = q <;> by_cases h2 : s.toList = t.toList <;> simp [h1, h2]
theorem q_neq {a : Act} {o : Oper} {C : World → Prop} {K : Act → Prop} {x y : Operand} (p q : Int) (s t : ByteArray) (n : Bool) (he : (!(p == q) || (!(s.toList == t.toList))) = n) (ho : o.op = .binOp .neq 59 x y 59)
    (hx : a.eval x = .agg #[.int .i64 p, .string s]) (hy : a.eval y = .agg #[.int .i64 q, .string t]) (hk : K (a.put o.dst (.bool n))) : o.quiet Try.prog a C K :=
  ⟨.bool n, fun w _ => by unfold Oper.quietAt; rw [run_neq59 p q s t n he ho hx hy]; exact ⟨rfl, rfl⟩, hk⟩
theorem cb {w1 w2 : World} {p : Addr} {v : Value} (hb : Below w1.heap.size w1 w2) (h : w1.cell? p = some v) : w2.cell? p = some v := (hb.cell (World.block_lt_of_cell? w1 _ h)).trans h
theorem kS {w w1 w2 : World} {p0 p1 p2 p3 p4 p5 p6 p7 : Addr} {v0 v1 v2 v3 v4 v5 v6 v7 : Value} (hb : Below w1.heap.size w1 w2) (h : w1.cell? p0 = some v0 ∧ w1.cell? p1 = some v1 ∧ w1.cell? p2 = some v2 ∧ w1.cell? p3 = some v3 ∧ w1.cell? p4 = some v4 ∧ w1.cell? p5 = some v5 ∧ w1.cell? p6 = some v6 ∧ w1.cell? p7 = some v7 ∧ Below w.heap.size w w1) : w2.cell? p0 = some v0 ∧ w2.cell? p1 = some v1 ∧ w2.cell? p2 = some v2 ∧ w2.cell? p3 = some v3 ∧ w2.cell? p4 = some v4 ∧ w2.cell? p5 = some v5 ∧ w2.cell? p6 = some v6 ∧ w2.cell? p7 = some v7 ∧ Below w.heap.size w w2 := ⟨cb hb h.1, cb hb h.2.1, cb hb h.2.2.1, cb hb h.2.2.2.1, cb hb h.2.2.2.2.1, cb hb h.2.2.2.2.2.1, cb hb h.2.2.2.2.2.2.1, cb hb h.2.2.2.2.2.2.2.1, below_step h.2.2.2.2.2.2.2.2 hb⟩
theorem kB {w w1 : World} {p0 p1 p2 p3 p4 p5 p6 p7 : Addr} {v0 v1 v2 v3 v4 v5 v6 v7 : Value} (h : w1.cell? p0 = some v0 ∧ w1.cell? p1 = some v1 ∧ w1.cell? p2 = some v2 ∧ w1.cell? p3 = some v3 ∧ w1.cell? p4 = some v4 ∧ w1.cell? p5 = some v5 ∧ w1.cell? p6 = some v6 ∧ w1.cell? p7 = some v7 ∧ Below w.heap.size w w1) : Below w.heap.size w w1 := h.2.2.2.2.2.2.2.2
set_option maxHeartbeats 8000000 in
set_option maxRecDepth 100000 in
theorem l20_step (k : Nat) (ih : L20Ok k) : L20Ok (k + 1) := by
  intro A0 c0 s A1 c1 p a A3 c3 kn r1 r2 w hr0 hc0 hr1 hc1 hr3 hc3 hf
  have hu61 := Try.underlying61
  have hu66 := Try.underlying66
  have hu64 := Try.underlying64
  have hu59 := Try.underlying59
  have hu70 := Try.underlying70
  unfold L20Ok at ih
  have IH := Aside0.mk ih
  have HB := Aside0.mk (Below.refl w.heap.size w)
  simp only [spec_l20May.f] at hf
  replace hf := ifs hf
  obtain ⟨⟨h0, h1⟩, hf⟩ := hf
  obtain ⟨ad, ea, hy0, hy1, hy2, hy3, hy4, hy5⟩ := at_T61 hr1 a h0 h1
  cases ea
  obtain ⟨x, hx⟩ : ∃ x, x = rd_T61 p a := ⟨_, rfl⟩
  rw [← hx] at hf hy0 hy1 hy2 hy3 hy4 hy5
  have HR0 := Aside0.mk hr0
  have HC0 := Aside0.mk hc0
  have HR1 := Aside0.mk hr1
  have HC1 := Aside0.mk hc1
  have HR3 := Aside0.mk hr3
  have HC3 := Aside0.mk hc3
  have q0 := eq_true h0
  have q1 := eq_true h1
  clear ih hr0 hc0 hr1 hc1 hr3 hc3 h0 h1 hx
  by_cases c1 : x.f0 = 5 ∨ x.f0 = 6
  · rw [if_pos c1] at hf
    obtain ⟨⟨u1, u2⟩, hu, hf⟩ := Option.bind_eq_some_iff.mp hf
    obtain ⟨⟨w1, w2⟩, hv, hf⟩ := Option.bind_eq_some_iff.mp hf
    have HU := Aside0.mk hu
    have HV := Aside0.mk hv
    clear hu hv
    rcases c1 with c5 | c6
    · obtain ⟨d5, d5'⟩ := b_eq c5
      rw [if_pos c5] at hf
      clear c5
      cases hf
      cases u1 <;> cases u2
      all_goals
        go_enter Try.func20, Try.ntmps20
        go_wp2_with (first | ((with_reducible refine gate_dst (N := 10) rfl ?_); refine bx_ 10 #[.int .i64 0, .int .i64 0, .int .i64 0, .string (⟨#[]⟩ : ByteArray), .int .i64 0, .int .i64 0] 61 ?_; intro g10 hg v10 hbox hb; have K10 := Aside0.mk hbox; have G10 := gwe HB hg; replace HB := bst HB hb; clear hb hbox hg; (try clear c10); have c10 := cl6 K10) | ((with_reducible refine gate_store (t := 61) (p := 10) rfl ?_); refine st_ 61 10 _ ?_; intro u10 hu; replace K10 := Aside0.mk (show u10.heap[g10]? = some (.cells #[.int .i64 x.f0, .int .i64 x.f1, .int .i64 x.f2.f0, .string x.f2.f1, .int .i64 x.f3, .int .i64 x.f4] 61 (0, 0)) by rw [hu]; exact blk_later K10.out); replace HB := Aside0.mk (show Below w.heap.size w u10 by rw [hu]; exact below_later HB.out); clear hu; (try clear c10); have c10 := cl6 K10) | (go_at_call 20; (first | (with_reducible refine (IH.out A0 c0 s (some ad) c1 p x.f3 A3 c3 kn _ _ _ (C_later (Kd.C_below HR0.out HB.out)) HC0.out (C_later (Kd.C_below HR1.out HB.out)) HC1.out (C_later (Kd.C_below HR3.out HB.out)) HC3.out HU.out).mono ?_) | (with_reducible refine (IH.out A0 c0 s (some ad) c1 p x.f4 A3 c3 kn _ _ _ (C_later (Kd.C_below HR0.out HB.out)) HC0.out (C_later (Kd.C_below HR1.out HB.out)) HC1.out (C_later (Kd.C_below HR3.out HB.out)) HC3.out HV.out).mono ?_)); rintro e v20 ⟨rfl, hb⟩; replace K10 := bkb K10 hb; replace HB := bst HB hb; (try clear hb); (try clear c10); have c10 := cl6 K10))
        go_ret2
        exact ⟨by first | rfl | (simp; done), below_later HB.out⟩
    · have c5 : ¬ x.f0 = 5 := by omega
      obtain ⟨d5, d5'⟩ := b_ne c5
      obtain ⟨d6, d6'⟩ := b_eq c6
      rw [if_neg c5] at hf
      clear c5 c6
      cases hf
      cases u1 <;> cases u2
      all_goals
        go_enter Try.func20, Try.ntmps20
        go_wp2_with (first | ((with_reducible refine gate_dst (N := 10) rfl ?_); refine bx_ 10 #[.int .i64 0, .int .i64 0, .int .i64 0, .string (⟨#[]⟩ : ByteArray), .int .i64 0, .int .i64 0] 61 ?_; intro g10 hg v10 hbox hb; have K10 := Aside0.mk hbox; have G10 := gwe HB hg; replace HB := bst HB hb; clear hb hbox hg; (try clear c10); have c10 := cl6 K10) | ((with_reducible refine gate_store (t := 61) (p := 10) rfl ?_); refine st_ 61 10 _ ?_; intro u10 hu; replace K10 := Aside0.mk (show u10.heap[g10]? = some (.cells #[.int .i64 x.f0, .int .i64 x.f1, .int .i64 x.f2.f0, .string x.f2.f1, .int .i64 x.f3, .int .i64 x.f4] 61 (0, 0)) by rw [hu]; exact blk_later K10.out); replace HB := Aside0.mk (show Below w.heap.size w u10 by rw [hu]; exact below_later HB.out); clear hu; (try clear c10); have c10 := cl6 K10) | (go_at_call 20; (first | (with_reducible refine (IH.out A0 c0 s (some ad) c1 p x.f3 A3 c3 kn _ _ _ (C_later (Kd.C_below HR0.out HB.out)) HC0.out (C_later (Kd.C_below HR1.out HB.out)) HC1.out (C_later (Kd.C_below HR3.out HB.out)) HC3.out HU.out).mono ?_) | (with_reducible refine (IH.out A0 c0 s (some ad) c1 p x.f4 A3 c3 kn _ _ _ (C_later (Kd.C_below HR0.out HB.out)) HC0.out (C_later (Kd.C_below HR1.out HB.out)) HC1.out (C_later (Kd.C_below HR3.out HB.out)) HC3.out HV.out).mono ?_)); rintro e v20 ⟨rfl, hb⟩; replace K10 := bkb K10 hb; replace HB := bst HB hb; (try clear hb); (try clear c10); have c10 := cl6 K10))
        go_ret2
        exact ⟨by first | rfl | (simp; done), below_later HB.out⟩
  rw [if_neg c1] at hf
  obtain ⟨b5, b5'⟩ := b_ne (fun h => c1 (.inl h))
  obtain ⟨b6, b6'⟩ := b_ne (fun h => c1 (.inr h))
  clear c1
  by_cases c7 : x.f0 = 7
  · rw [if_pos c7] at hf
    obtain ⟨b7, b7'⟩ := b_eq c7
    obtain ⟨⟨u1, u2⟩, hu, hf⟩ := Option.bind_eq_some_iff.mp hf
    have HU := Aside0.mk hu
    clear hu c7
    cases hf
    go_enter Try.func20, Try.ntmps20
    go_wp2_with (first | ((with_reducible refine gate_dst (N := 10) rfl ?_); refine bx_ 10 #[.int .i64 0, .int .i64 0, .int .i64 0, .string (⟨#[]⟩ : ByteArray), .int .i64 0, .int .i64 0] 61 ?_; intro g10 hg v10 hbox hb; have K10 := Aside0.mk hbox; have G10 := gwe HB hg; replace HB := bst HB hb; clear hb hbox hg; (try clear c10); have c10 := cl6 K10) | ((with_reducible refine gate_store (t := 61) (p := 10) rfl ?_); refine st_ 61 10 _ ?_; intro u10 hu; replace K10 := Aside0.mk (show u10.heap[g10]? = some (.cells #[.int .i64 x.f0, .int .i64 x.f1, .int .i64 x.f2.f0, .string x.f2.f1, .int .i64 x.f3, .int .i64 x.f4] 61 (0, 0)) by rw [hu]; exact blk_later K10.out); replace HB := Aside0.mk (show Below w.heap.size w u10 by rw [hu]; exact below_later HB.out); clear hu; (try clear c10); have c10 := cl6 K10) | (go_at_call 20; (first | (with_reducible refine (IH.out A0 c0 s (some ad) c1 p x.f3 A3 c3 kn _ _ _ (C_later (Kd.C_below HR0.out HB.out)) HC0.out (C_later (Kd.C_below HR1.out HB.out)) HC1.out (C_later (Kd.C_below HR3.out HB.out)) HC3.out HU.out).mono ?_)); rintro e v20 ⟨rfl, hb⟩; replace K10 := bkb K10 hb; replace HB := bst HB hb; (try clear hb); (try clear c10); have c10 := cl6 K10))
    go_ret2
    exact ⟨by first | rfl | (simp; done), below_later HB.out⟩
  rw [if_neg c7] at hf
  obtain ⟨b7, b7'⟩ := b_ne c7
  clear c7
  replace hf := ifs hf
  obtain ⟨⟨l0, l1⟩, hf⟩ := hf
  obtain ⟨ad3, ea, hz0, hz1, hz2, hz3, hz4, hz5, hz6⟩ := at_T66 HR3.out x.f1 l0 l1
  cases ea
  obtain ⟨kx, hkx⟩ : ∃ kx, kx = rd_T66 kn x.f1 := ⟨_, rfl⟩
  rw [← hkx] at hf hz0 hz1 hz2 hz3 hz4 hz5 hz6
  have q2 := eq_true l0
  have q3 := eq_true l1
  clear l0 l1 hkx
  have HZ := Aside0.mk (And.intro hz0 (And.intro hz1 (And.intro hz2 (And.intro hz3 (And.intro hz4 (And.intro hz5 hz6))))))
  clear hz0 hz1 hz2 hz3 hz4 hz5 hz6
  by_cases ck : kx.f0 = true
  · rw [if_pos ck] at hf
    replace hf := Option.bind_eq_some_iff.mp hf
    obtain ⟨⟨lt, lr, ld, lo⟩, hl, hf⟩ := hf
    have HLF := Aside0.mk hl
    dsimp only at hf
    clear hl
    rw [ck] at HZ
    clear ck
    go_enter Try.func20, Try.ntmps20
    go_upto_region 19 with (first | ((with_reducible refine gate_dst (N := 10) rfl ?_); refine bx_ 10 #[.int .i64 0, .int .i64 0, .int .i64 0, .string (⟨#[]⟩ : ByteArray), .int .i64 0, .int .i64 0] 61 ?_; intro g10 hg v10 hbox hb; have K10 := Aside0.mk hbox; have G10 := gwe HB hg; replace HB := bst HB hb; clear hb hbox hg; (try clear c10); have c10 := cl6 K10) | ((with_reducible refine gate_store (t := 61) (p := 10) rfl ?_); refine st_ 61 10 _ ?_; intro u10 hu; replace K10 := Aside0.mk (show u10.heap[g10]? = some (.cells #[.int .i64 x.f0, .int .i64 x.f1, .int .i64 x.f2.f0, .string x.f2.f1, .int .i64 x.f3, .int .i64 x.f4] 61 (0, 0)) by rw [hu]; exact blk_later K10.out); replace HB := Aside0.mk (show Below w.heap.size w u10 by rw [hu]; exact below_later HB.out); clear hu; (try clear c10); have c10 := cl6 K10; have z0 := crd HB HZ.out.1; have z1 := crd HB HZ.out.2.1; have z2 := crd HB HZ.out.2.2.1; have z3 := crd HB HZ.out.2.2.2.1; have z4 := crd HB HZ.out.2.2.2.2.1; have z5 := crd HB HZ.out.2.2.2.2.2.1; have z6 := crd HB HZ.out.2.2.2.2.2.2) | ((with_reducible refine gate_dst (N := 17) rfl ?_); refine bx_ 17 #[.bool false, .int .i64 0, .bool false, .int .i64 0, .string (⟨#[]⟩ : ByteArray), .int .i64 0, .string (⟨#[]⟩ : ByteArray)] 66 ?_; intro g17 hg v17 hbox hb; have K17 := Aside0.mk hbox; have G17 := gwe HB hg; have N10_17 := nbl K10 hg; have N17_10 := nbr (nbl K10 hg); replace K10 := bkb K10 hb; replace HB := bst HB hb; clear hb hbox hg; (try clear c10); have c10 := cl6 K10; (try clear c17); have c17 := cl7 K17) | ((with_reducible refine gate_store (t := 66) (p := 17) rfl ?_); refine st_ 66 17 _ ?_; intro u17 hu; replace K10 := Aside0.mk (show u17.heap[g10]? = some (.cells #[.int .i64 x.f0, .int .i64 x.f1, .int .i64 x.f2.f0, .string x.f2.f1, .int .i64 x.f3, .int .i64 x.f4] 61 (0, 0)) by rw [hu]; exact blk_later K10.out); replace K17 := Aside0.mk (show u17.heap[g17]? = some (.cells #[.bool true, .int .i64 kx.f1.f0, .bool kx.f1.f1, .int .i64 kx.f1.f2.f0, .string kx.f1.f2.f1, .int .i64 kx.f1.f3.f0, .string kx.f1.f3.f1] 66 (0, 0)) by rw [hu]; exact blk_later K17.out); replace HB := Aside0.mk (show Below w.heap.size w u17 by rw [hu]; exact below_later HB.out); clear hu; (try clear c10); have c10 := cl6 K10; (try clear c17); have c17 := cl7 K17) | (go_at_call 37; (with_reducible refine (spec_LeafOf.calls k A0 c0 s x.f1 lt lr ld lo _ (C_later (Kd.C_below HR0.out HB.out)) HC0.out HLF.out).mono ?_); rintro e v37 ⟨rfl, hb⟩; replace K10 := bkb K10 hb; replace K17 := bkb K17 hb; replace HB := bst HB hb; (try clear hb); (try clear c10); have c10 := cl6 K10; (try clear c17); have c17 := cl7 K17) | ((with_reducible refine gate_dst (N := 18) rfl ?_); refine bx_ 18 #[.int .i64 0, .int .i64 0, .int .i64 0] 70 ?_; intro g18 hg v18 hbox hb; have K18 := Aside0.mk hbox; have G18 := gwe HB hg; have N10_18 := nbl K10 hg; have N18_10 := nbr (nbl K10 hg); have N17_18 := nbl K17 hg; have N18_17 := nbr (nbl K17 hg); replace K10 := bkb K10 hb; replace K17 := bkb K17 hb; replace HB := bst HB hb; clear hb hbox hg; (try clear c10); have c10 := cl6 K10; (try clear c17); have c17 := cl7 K17; (try clear c18); have c18 := cl3 K18) | ((with_reducible refine gate_store (t := 70) (p := 18) rfl ?_); refine st_ 70 18 _ ?_; intro u18 hu; replace K10 := Aside0.mk (show u18.heap[g10]? = some (.cells #[.int .i64 x.f0, .int .i64 x.f1, .int .i64 x.f2.f0, .string x.f2.f1, .int .i64 x.f3, .int .i64 x.f4] 61 (0, 0)) by rw [hu]; exact blk_later K10.out); replace K17 := Aside0.mk (show u18.heap[g17]? = some (.cells #[.bool true, .int .i64 kx.f1.f0, .bool kx.f1.f1, .int .i64 kx.f1.f2.f0, .string kx.f1.f2.f1, .int .i64 kx.f1.f3.f0, .string kx.f1.f3.f1] 66 (0, 0)) by rw [hu]; exact blk_later K17.out); replace K18 := Aside0.mk (show u18.heap[g18]? = some (.cells #[.int .i64 lt, .int .i64 lr, .int .i64 ld] 70 (0, 0)) by rw [hu]; exact blk_later K18.out); replace HB := Aside0.mk (show Below w.heap.size w u18 by rw [hu]; exact below_later HB.out); clear hu; (try clear c10); have c10 := cl6 K10; (try clear c17); have c17 := cl7 K17; (try clear c18); have c18 := cl3 K18) | ((with_reducible refine gate_dst (N := 20) rfl ?_); refine bx_ 20 #[.int .i64 0, .bool false, .int .i64 0, .string (⟨#[]⟩ : ByteArray), .int .i64 0, .string (⟨#[]⟩ : ByteArray)] 64 ?_; intro g20 hg v20 hbox hb; have K20 := Aside0.mk hbox; have G20 := gwe HB hg; have N10_20 := nbl K10 hg; have N20_10 := nbr (nbl K10 hg); have N17_20 := nbl K17 hg; have N20_17 := nbr (nbl K17 hg); have N18_20 := nbl K18 hg; have N20_18 := nbr (nbl K18 hg); replace K10 := bkb K10 hb; replace K17 := bkb K17 hb; replace K18 := bkb K18 hb; replace HB := bst HB hb; clear hb hbox hg; (try clear c10); have c10 := cl6 K10; (try clear c17); have c17 := cl7 K17; (try clear c18); have c18 := cl3 K18; (try clear c20); have c20 := cl6 K20) | ((with_reducible refine gate_store (t := 64) (p := 20) rfl ?_); refine st_ 64 20 _ ?_; intro u20 hu; replace K10 := Aside0.mk (show u20.heap[g10]? = some (.cells #[.int .i64 x.f0, .int .i64 x.f1, .int .i64 x.f2.f0, .string x.f2.f1, .int .i64 x.f3, .int .i64 x.f4] 61 (0, 0)) by rw [hu]; exact blk_later K10.out); replace K17 := Aside0.mk (show u20.heap[g17]? = some (.cells #[.bool true, .int .i64 kx.f1.f0, .bool kx.f1.f1, .int .i64 kx.f1.f2.f0, .string kx.f1.f2.f1, .int .i64 kx.f1.f3.f0, .string kx.f1.f3.f1] 66 (0, 0)) by rw [hu]; exact blk_later K17.out); replace K18 := Aside0.mk (show u20.heap[g18]? = some (.cells #[.int .i64 lt, .int .i64 lr, .int .i64 ld] 70 (0, 0)) by rw [hu]; exact blk_later K18.out); replace K20 := Aside0.mk (show u20.heap[g20]? = some (.cells #[.int .i64 kx.f1.f0, .bool kx.f1.f1, .int .i64 kx.f1.f2.f0, .string kx.f1.f2.f1, .int .i64 kx.f1.f3.f0, .string kx.f1.f3.f1] 64 (0, 0)) by rw [hu]; exact blk_later K20.out); replace HB := Aside0.mk (show Below w.heap.size w u20 by rw [hu]; exact below_later HB.out); clear hu; (try clear c10); have c10 := cl6 K10; (try clear c17); have c17 := cl7 K17; (try clear c18); have c18 := cl3 K18; (try clear c20); have c20 := cl6 K20))
    go_cut [10, 18, 20, 21, 102] (fun v10 v18 v20 v21 v102 wc => v10 = .pointer (some ⟨g10, 0, none⟩) ∧ v18 = .pointer (some ⟨g18, 0, none⟩) ∧ v20 = .pointer (some ⟨g20, 0, none⟩) ∧ (∃ nz, decide (0 < kx.f1.f0) = nz ∧ v21 = .bool nz) ∧ v102 = .int .i64 x.f0 ∧ Aside0 (wc.heap[g10]? = some (.cells #[.int .i64 x.f0, .int .i64 x.f1, .int .i64 x.f2.f0, .string x.f2.f1, .int .i64 x.f3, .int .i64 x.f4] 61 (0, 0))) ∧ Aside0 (wc.heap[g18]? = some (.cells #[.int .i64 lt, .int .i64 lr, .int .i64 ld] 70 (0, 0))) ∧ Aside0 (wc.heap[g20]? = some (.cells #[.int .i64 kx.f1.f0, .bool kx.f1.f1, .int .i64 kx.f1.f2.f0, .string kx.f1.f2.f1, .int .i64 kx.f1.f3.f0, .string kx.f1.f3.f1] 64 (0, 0))) ∧ Aside0 (Below w.heap.size w wc))
    case first =>
      go_wp2
      go_meet
      case rel => exact ⟨rfl, rfl, rfl, ⟨_, rfl, rfl⟩, rfl, ⟨blk_later K10.out⟩, ⟨blk_later K18.out⟩, ⟨blk_later K20.out⟩, ⟨below_later HB.out⟩⟩
    case rest =>
    obtain ⟨rfl, rfl, rfl, ⟨nz, d0, rfl⟩, rfl, K10, K18, K20, HB⟩ := hcut
    unfold l20Leaf at hf
    by_cases k1 : x.f0 = 1
    · rw [if_pos k1] at hf
      obtain ⟨d1, d1'⟩ := b_eq k1
      clear k1
      obtain ⟨pv, hp, hf⟩ := Option.bind_eq_some_iff.mp hf
      cases hf
      have HS : wc.cell? ⟨g10, 2, none⟩ = some (.int .i64 x.f2.f0) ∧ wc.cell? ⟨g10, 3, none⟩ = some (.string x.f2.f1) ∧ wc.cell? ⟨g18, 0, none⟩ = some (.int .i64 lt) ∧ wc.cell? ⟨g20, 1, none⟩ = some (.bool kx.f1.f1) ∧ wc.cell? ⟨g20, 2, none⟩ = some (.int .i64 kx.f1.f2.f0) ∧ wc.cell? ⟨g20, 3, none⟩ = some (.string kx.f1.f2.f1) ∧ wc.cell? ⟨g20, 4, none⟩ = some (.int .i64 kx.f1.f3.f0) ∧ wc.cell? ⟨g20, 5, none⟩ = some (.string kx.f1.f3.f1) ∧ Below w.heap.size w wc := ⟨(cl6 K10).2.2.1, (cl6 K10).2.2.2.1, (cl3 K18).1, (cl6 K20).2.1, (cl6 K20).2.2.1, (cl6 K20).2.2.2.1, (cl6 K20).2.2.2.2.1, (cl6 K20).2.2.2.2.2.1, HB.out⟩
      clear K10 K18 K20 HB
      go_upto_region 21 with (fail)
      obtain ⟨fb, hfb⟩ : ∃ fb, kx.f1.f1 = fb := ⟨_, rfl⟩
      rw [hfb] at HS hp
      have E1 : Aside0 (∃ n, vne kx.f1.f2 x.f2 = n) := ⟨_, rfl⟩
      have E2 : Aside0 (∃ n, vne kx.f1.f3 x.f2 = n) := ⟨_, rfl⟩
      obtain ⟨n1, HV1⟩ := E1
      obtain ⟨n2, HV2⟩ := E2
      have E1 : Aside0 ((!(kx.f1.f2.f0 == x.f2.f0) || (!(kx.f1.f2.f1.toList == x.f2.f1.toList))) = n1) := ⟨HV1⟩
      have E2 : Aside0 ((!(kx.f1.f3.f0 == x.f2.f0) || (!(kx.f1.f3.f1.toList == x.f2.f1.toList))) = n2) := ⟨HV2⟩
      replace HV1 := Aside0.mk HV1
      replace HV2 := Aside0.mk HV2
      cases fb
      · rw [if_neg Bool.false_ne_true] at hp
        cases hp
        cases nz
        all_goals
          obtain ⟨σ, fw, hfw, hfc⟩ := cls (fun w' => w'.cell? ⟨g10, 2, none⟩ = some (.int .i64 x.f2.f0) ∧ w'.cell? ⟨g10, 3, none⟩ = some (.string x.f2.f1) ∧ w'.cell? ⟨g18, 0, none⟩ = some (.int .i64 lt) ∧ w'.cell? ⟨g20, 1, none⟩ = some (.bool false) ∧ w'.cell? ⟨g20, 2, none⟩ = some (.int .i64 kx.f1.f2.f0) ∧ w'.cell? ⟨g20, 3, none⟩ = some (.string kx.f1.f2.f1) ∧ w'.cell? ⟨g20, 4, none⟩ = some (.int .i64 kx.f1.f3.f0) ∧ w'.cell? ⟨g20, 5, none⟩ = some (.string kx.f1.f3.f1) ∧ Below w.heap.size w w')
          have r0 := fun n => (hfw n).1
          have r1 := fun n => (hfw n).2.1
          have r2 := fun n => (hfw n).2.2.1
          have r3 := fun n => (hfw n).2.2.2.1
          have r4 := fun n => (hfw n).2.2.2.2.1
          have r5 := fun n => (hfw n).2.2.2.2.2.1
          have r6 := fun n => (hfw n).2.2.2.2.2.2.1
          have r7 := fun n => (hfw n).2.2.2.2.2.2.2.1
          have hN := hfc _ (kS (below_drew1 (Below.refl _ _)) (by assumption))
          haveI : Nonempty σ := hN.elim (fun n _ => ⟨n⟩)
          refine region_cls fw hN ?_
          clear hN
          repeat (first | go_big_quiet_step (fail) | (go_big_quiet_want; (first | refine q_neq (x := .tmp 133) (y := .tmp 135) _ _ _ _ _ E1.out rfl (by kernel_rfl) (by kernel_rfl) ?_ | refine q_neq (x := .tmp 139) (y := .tmp 141) _ _ _ _ _ E2.out rfl (by kernel_rfl) (by kernel_rfl) ?_); simp only [Act.put, List.setIfInBounds_toArray, List.set_cons_zero, List.set_cons_succ]; go_big_quiet_on))
          refine wpQuiet_nil ?_
          rintro w' ⟨nq, rfl⟩
          have HBB := (hfw nq).2.2.2.2.2.2.2.2
          clear hfw hfc
          go_wp2
          go_ret2
          exact ⟨by first | rfl | (simp [d0, hfb, HV1.out, HV2.out]; done), HBB⟩
      · rw [if_pos rfl] at hp
        obtain ⟨av, ha, hp⟩ := Option.bind_eq_some_iff.mp hp
        have HP1 := Aside0.mk ha
        clear ha
        cases av
        · rw [if_neg Bool.false_ne_true] at hp
          obtain ⟨bv, hb, hp⟩ := Option.bind_eq_some_iff.mp hp
          have HP2 := Aside0.mk hb
          clear hb
          cases hp
          cases nz
          · cases n1
            all_goals
              obtain ⟨σ, fw, hfw, hfc⟩ := cls (fun w' => w'.cell? ⟨g10, 2, none⟩ = some (.int .i64 x.f2.f0) ∧ w'.cell? ⟨g10, 3, none⟩ = some (.string x.f2.f1) ∧ w'.cell? ⟨g18, 0, none⟩ = some (.int .i64 lt) ∧ w'.cell? ⟨g20, 1, none⟩ = some (.bool true) ∧ w'.cell? ⟨g20, 2, none⟩ = some (.int .i64 kx.f1.f2.f0) ∧ w'.cell? ⟨g20, 3, none⟩ = some (.string kx.f1.f2.f1) ∧ w'.cell? ⟨g20, 4, none⟩ = some (.int .i64 kx.f1.f3.f0) ∧ w'.cell? ⟨g20, 5, none⟩ = some (.string kx.f1.f3.f1) ∧ Below w.heap.size w w')
              have r0 := fun n => (hfw n).1
              have r1 := fun n => (hfw n).2.1
              have r2 := fun n => (hfw n).2.2.1
              have r3 := fun n => (hfw n).2.2.2.1
              have r4 := fun n => (hfw n).2.2.2.2.1
              have r5 := fun n => (hfw n).2.2.2.2.2.1
              have r6 := fun n => (hfw n).2.2.2.2.2.2.1
              have r7 := fun n => (hfw n).2.2.2.2.2.2.2.1
              have hN := hfc _ (kS (below_drew1 (Below.refl _ _)) (by assumption))
              haveI : Nonempty σ := hN.elim (fun n _ => ⟨n⟩)
              refine region_cls fw hN ?_
              clear hN
              repeat (first | go_big_quiet_step (((first | (with_reducible refine (spec_ValLess.calls k lt x.f2.f0 x.f2.f1 kx.f1.f2.f0 kx.f1.f2.f1 _ _ HP1.out).mono ?_) | (with_reducible refine (spec_ValLess.calls k lt kx.f1.f3.f0 kx.f1.f3.f1 x.f2.f0 x.f2.f1 _ _ HP2.out).mono ?_)); exact (fun e w' he => ⟨he.1, hfc _ (kS he.2 (hfw _))⟩))) | (go_big_quiet_want; (first | refine q_neq (x := .tmp 133) (y := .tmp 135) _ _ _ _ _ E1.out rfl (by kernel_rfl) (by kernel_rfl) ?_ | refine q_neq (x := .tmp 139) (y := .tmp 141) _ _ _ _ _ E2.out rfl (by kernel_rfl) (by kernel_rfl) ?_); simp only [Act.put, List.setIfInBounds_toArray, List.set_cons_zero, List.set_cons_succ]; go_big_quiet_on))
              refine wpQuiet_nil ?_
              rintro w' ⟨nq, rfl⟩
              have HBB := (hfw nq).2.2.2.2.2.2.2.2
              clear hfw hfc
              go_wp2
              go_ret2
              exact ⟨by first | rfl | (simp [d0, hfb, HV1.out, HV2.out]; done), HBB⟩
          · obtain ⟨σ, fw, hfw, hfc⟩ := cls (fun w' => w'.cell? ⟨g10, 2, none⟩ = some (.int .i64 x.f2.f0) ∧ w'.cell? ⟨g10, 3, none⟩ = some (.string x.f2.f1) ∧ w'.cell? ⟨g18, 0, none⟩ = some (.int .i64 lt) ∧ w'.cell? ⟨g20, 1, none⟩ = some (.bool true) ∧ w'.cell? ⟨g20, 2, none⟩ = some (.int .i64 kx.f1.f2.f0) ∧ w'.cell? ⟨g20, 3, none⟩ = some (.string kx.f1.f2.f1) ∧ w'.cell? ⟨g20, 4, none⟩ = some (.int .i64 kx.f1.f3.f0) ∧ w'.cell? ⟨g20, 5, none⟩ = some (.string kx.f1.f3.f1) ∧ Below w.heap.size w w')
            have r0 := fun n => (hfw n).1
            have r1 := fun n => (hfw n).2.1
            have r2 := fun n => (hfw n).2.2.1
            have r3 := fun n => (hfw n).2.2.2.1
            have r4 := fun n => (hfw n).2.2.2.2.1
            have r5 := fun n => (hfw n).2.2.2.2.2.1
            have r6 := fun n => (hfw n).2.2.2.2.2.2.1
            have r7 := fun n => (hfw n).2.2.2.2.2.2.2.1
            have hN := hfc _ (kS (below_drew1 (Below.refl _ _)) (by assumption))
            haveI : Nonempty σ := hN.elim (fun n _ => ⟨n⟩)
            refine region_cls fw hN ?_
            clear hN
            repeat (first | go_big_quiet_step (((first | (with_reducible refine (spec_ValLess.calls k lt x.f2.f0 x.f2.f1 kx.f1.f2.f0 kx.f1.f2.f1 _ _ HP1.out).mono ?_) | (with_reducible refine (spec_ValLess.calls k lt kx.f1.f3.f0 kx.f1.f3.f1 x.f2.f0 x.f2.f1 _ _ HP2.out).mono ?_)); exact (fun e w' he => ⟨he.1, hfc _ (kS he.2 (hfw _))⟩))) | (go_big_quiet_want; (first | refine q_neq (x := .tmp 133) (y := .tmp 135) _ _ _ _ _ E1.out rfl (by kernel_rfl) (by kernel_rfl) ?_ | refine q_neq (x := .tmp 139) (y := .tmp 141) _ _ _ _ _ E2.out rfl (by kernel_rfl) (by kernel_rfl) ?_); simp only [Act.put, List.setIfInBounds_toArray, List.set_cons_zero, List.set_cons_succ]; go_big_quiet_on))
            refine wpQuiet_nil ?_
            rintro w' ⟨nq, rfl⟩
            have HBB := (hfw nq).2.2.2.2.2.2.2.2
            clear hfw hfc
            go_wp2
            go_ret2
            exact ⟨by first | rfl | (simp [d0, hfb, HV1.out, HV2.out]; done), HBB⟩
        · rw [if_pos rfl] at hp
          cases hp
          cases nz
          · cases n1
            all_goals
              obtain ⟨σ, fw, hfw, hfc⟩ := cls (fun w' => w'.cell? ⟨g10, 2, none⟩ = some (.int .i64 x.f2.f0) ∧ w'.cell? ⟨g10, 3, none⟩ = some (.string x.f2.f1) ∧ w'.cell? ⟨g18, 0, none⟩ = some (.int .i64 lt) ∧ w'.cell? ⟨g20, 1, none⟩ = some (.bool true) ∧ w'.cell? ⟨g20, 2, none⟩ = some (.int .i64 kx.f1.f2.f0) ∧ w'.cell? ⟨g20, 3, none⟩ = some (.string kx.f1.f2.f1) ∧ w'.cell? ⟨g20, 4, none⟩ = some (.int .i64 kx.f1.f3.f0) ∧ w'.cell? ⟨g20, 5, none⟩ = some (.string kx.f1.f3.f1) ∧ Below w.heap.size w w')
              have r0 := fun n => (hfw n).1
              have r1 := fun n => (hfw n).2.1
              have r2 := fun n => (hfw n).2.2.1
              have r3 := fun n => (hfw n).2.2.2.1
              have r4 := fun n => (hfw n).2.2.2.2.1
              have r5 := fun n => (hfw n).2.2.2.2.2.1
              have r6 := fun n => (hfw n).2.2.2.2.2.2.1
              have r7 := fun n => (hfw n).2.2.2.2.2.2.2.1
              have hN := hfc _ (kS (below_drew1 (Below.refl _ _)) (by assumption))
              haveI : Nonempty σ := hN.elim (fun n _ => ⟨n⟩)
              refine region_cls fw hN ?_
              clear hN
              repeat (first | go_big_quiet_step (((first | (with_reducible refine (spec_ValLess.calls k lt x.f2.f0 x.f2.f1 kx.f1.f2.f0 kx.f1.f2.f1 _ _ HP1.out).mono ?_) | (with_reducible refine (spec_ValLess.calls k lt kx.f1.f3.f0 kx.f1.f3.f1 x.f2.f0 x.f2.f1 _ _ HP2.out).mono ?_)); exact (fun e w' he => ⟨he.1, hfc _ (kS he.2 (hfw _))⟩))) | (go_big_quiet_want; (first | refine q_neq (x := .tmp 133) (y := .tmp 135) _ _ _ _ _ E1.out rfl (by kernel_rfl) (by kernel_rfl) ?_ | refine q_neq (x := .tmp 139) (y := .tmp 141) _ _ _ _ _ E2.out rfl (by kernel_rfl) (by kernel_rfl) ?_); simp only [Act.put, List.setIfInBounds_toArray, List.set_cons_zero, List.set_cons_succ]; go_big_quiet_on))
              refine wpQuiet_nil ?_
              rintro w' ⟨nq, rfl⟩
              have HBB := (hfw nq).2.2.2.2.2.2.2.2
              clear hfw hfc
              go_wp2
              go_ret2
              exact ⟨by first | rfl | (simp [d0, hfb, HV1.out, HV2.out]; done), HBB⟩
          · obtain ⟨σ, fw, hfw, hfc⟩ := cls (fun w' => w'.cell? ⟨g10, 2, none⟩ = some (.int .i64 x.f2.f0) ∧ w'.cell? ⟨g10, 3, none⟩ = some (.string x.f2.f1) ∧ w'.cell? ⟨g18, 0, none⟩ = some (.int .i64 lt) ∧ w'.cell? ⟨g20, 1, none⟩ = some (.bool true) ∧ w'.cell? ⟨g20, 2, none⟩ = some (.int .i64 kx.f1.f2.f0) ∧ w'.cell? ⟨g20, 3, none⟩ = some (.string kx.f1.f2.f1) ∧ w'.cell? ⟨g20, 4, none⟩ = some (.int .i64 kx.f1.f3.f0) ∧ w'.cell? ⟨g20, 5, none⟩ = some (.string kx.f1.f3.f1) ∧ Below w.heap.size w w')
            have r0 := fun n => (hfw n).1
            have r1 := fun n => (hfw n).2.1
            have r2 := fun n => (hfw n).2.2.1
            have r3 := fun n => (hfw n).2.2.2.1
            have r4 := fun n => (hfw n).2.2.2.2.1
            have r5 := fun n => (hfw n).2.2.2.2.2.1
            have r6 := fun n => (hfw n).2.2.2.2.2.2.1
            have r7 := fun n => (hfw n).2.2.2.2.2.2.2.1
            have hN := hfc _ (kS (below_drew1 (Below.refl _ _)) (by assumption))
            haveI : Nonempty σ := hN.elim (fun n _ => ⟨n⟩)
            refine region_cls fw hN ?_
            clear hN
            repeat (first | go_big_quiet_step (((first | (with_reducible refine (spec_ValLess.calls k lt x.f2.f0 x.f2.f1 kx.f1.f2.f0 kx.f1.f2.f1 _ _ HP1.out).mono ?_) | (with_reducible refine (spec_ValLess.calls k lt kx.f1.f3.f0 kx.f1.f3.f1 x.f2.f0 x.f2.f1 _ _ HP2.out).mono ?_)); exact (fun e w' he => ⟨he.1, hfc _ (kS he.2 (hfw _))⟩))) | (go_big_quiet_want; (first | refine q_neq (x := .tmp 133) (y := .tmp 135) _ _ _ _ _ E1.out rfl (by kernel_rfl) (by kernel_rfl) ?_ | refine q_neq (x := .tmp 139) (y := .tmp 141) _ _ _ _ _ E2.out rfl (by kernel_rfl) (by kernel_rfl) ?_); simp only [Act.put, List.setIfInBounds_toArray, List.set_cons_zero, List.set_cons_succ]; go_big_quiet_on))
            refine wpQuiet_nil ?_
            rintro w' ⟨nq, rfl⟩
            have HBB := (hfw nq).2.2.2.2.2.2.2.2
            clear hfw hfc
            go_wp2
            go_ret2
            exact ⟨by first | rfl | (simp [d0, hfb, HV1.out, HV2.out]; done), HBB⟩
    rw [if_neg k1] at hf
    obtain ⟨d1, d1'⟩ := b_ne k1
    clear k1
    by_cases k2 : x.f0 = 2
    · rw [if_pos k2] at hf
      obtain ⟨d2, d2'⟩ := b_eq k2
      clear k2
      obtain ⟨pv, hp, hf⟩ := Option.bind_eq_some_iff.mp hf
      obtain ⟨qv, hq, hf⟩ := Option.bind_eq_some_iff.mp hf
      cases hf
      have HS : wc.cell? ⟨g10, 2, none⟩ = some (.int .i64 x.f2.f0) ∧ wc.cell? ⟨g10, 3, none⟩ = some (.string x.f2.f1) ∧ wc.cell? ⟨g18, 0, none⟩ = some (.int .i64 lt) ∧ wc.cell? ⟨g20, 1, none⟩ = some (.bool kx.f1.f1) ∧ wc.cell? ⟨g20, 2, none⟩ = some (.int .i64 kx.f1.f2.f0) ∧ wc.cell? ⟨g20, 3, none⟩ = some (.string kx.f1.f2.f1) ∧ wc.cell? ⟨g20, 4, none⟩ = some (.int .i64 kx.f1.f3.f0) ∧ wc.cell? ⟨g20, 5, none⟩ = some (.string kx.f1.f3.f1) ∧ Below w.heap.size w wc := ⟨(cl6 K10).2.2.1, (cl6 K10).2.2.2.1, (cl3 K18).1, (cl6 K20).2.1, (cl6 K20).2.2.1, (cl6 K20).2.2.2.1, (cl6 K20).2.2.2.2.1, (cl6 K20).2.2.2.2.2.1, HB.out⟩
      clear K10 K18 K20 HB
      obtain ⟨fb, hfb⟩ : ∃ fb, kx.f1.f1 = fb := ⟨_, rfl⟩
      rw [hfb] at HS hp hq
      go_upto_region 23 with (fail)
      cases fb
      · rw [if_neg Bool.false_ne_true] at hp hq
        cases hp
        cases nz
        · rw [if_neg (of_decide_eq_false d0)] at hq
          cases hq
          have HSA := Aside0.mk HS
          obtain ⟨r0, r1, r2, r3, r4, r5, r6, r7, HBB⟩ := HS
          go_wp2_with (first | fail)
          go_ret2
          exact ⟨by first | rfl | (simp [d0, hfb]; done), HSA.out.2.2.2.2.2.2.2.2⟩
        · rw [if_pos (of_decide_eq_true d0)] at hq
          cases hq
          have HSA := Aside0.mk HS
          obtain ⟨r0, r1, r2, r3, r4, r5, r6, r7, HBB⟩ := HS
          go_wp2_with (first | fail)
          go_ret2
          exact ⟨by first | rfl | (simp [d0, hfb]; done), HSA.out.2.2.2.2.2.2.2.2⟩
      · rw [if_pos rfl] at hp hq
        have HP1 := Aside0.mk hp
        clear hp
        cases nz
        · rw [if_neg (of_decide_eq_false d0)] at hq
          obtain ⟨bv, hb, hq⟩ := Option.bind_eq_some_iff.mp hq
          cases hq
          have HP2 := Aside0.mk hb
          clear hb
          have HSA := Aside0.mk HS
          obtain ⟨r0, r1, r2, r3, r4, r5, r6, r7, HBB⟩ := HS
          go_wp2_with (first | (go_at_call 38; (first | (with_reducible refine (spec_ValLess.calls k lt kx.f1.f2.f0 kx.f1.f2.f1 x.f2.f0 x.f2.f1 _ _ HP1.out).mono ?_) | (with_reducible refine (spec_ValLess.calls k lt kx.f1.f3.f0 kx.f1.f3.f1 x.f2.f0 x.f2.f1 _ _ HP2.out).mono ?_)); rintro e w' ⟨rfl, hb⟩; replace HSA := Aside0.mk (kS hb HSA.out); clear hb; obtain ⟨r0, r1, r2, r3, r4, r5, r6, r7, HBB⟩ := HSA.out))
          go_ret2
          exact ⟨by first | rfl | (simp [d0, hfb]; done), HSA.out.2.2.2.2.2.2.2.2⟩
        · rw [if_pos (of_decide_eq_true d0)] at hq
          cases hq
          have HSA := Aside0.mk HS
          obtain ⟨r0, r1, r2, r3, r4, r5, r6, r7, HBB⟩ := HS
          go_wp2_with (first | (go_at_call 38; (first | (with_reducible refine (spec_ValLess.calls k lt kx.f1.f2.f0 kx.f1.f2.f1 x.f2.f0 x.f2.f1 _ _ HP1.out).mono ?_) | (with_reducible refine (spec_ValLess.calls k lt kx.f1.f3.f0 kx.f1.f3.f1 x.f2.f0 x.f2.f1 _ _ HP2.out).mono ?_)); rintro e w' ⟨rfl, hb⟩; replace HSA := Aside0.mk (kS hb HSA.out); clear hb; obtain ⟨r0, r1, r2, r3, r4, r5, r6, r7, HBB⟩ := HSA.out))
          go_ret2
          exact ⟨by first | rfl | (simp [d0, hfb]; done), HSA.out.2.2.2.2.2.2.2.2⟩
    rw [if_neg k2] at hf
    obtain ⟨d2, d2'⟩ := b_ne k2
    clear k2
    by_cases k3 : x.f0 = 3
    · rw [if_pos k3] at hf
      obtain ⟨d3, d3'⟩ := b_eq k3
      clear k3
      obtain ⟨pv, hp, hf⟩ := Option.bind_eq_some_iff.mp hf
      obtain ⟨qv, hq, hf⟩ := Option.bind_eq_some_iff.mp hf
      cases hf
      have HS : wc.cell? ⟨g10, 2, none⟩ = some (.int .i64 x.f2.f0) ∧ wc.cell? ⟨g10, 3, none⟩ = some (.string x.f2.f1) ∧ wc.cell? ⟨g18, 0, none⟩ = some (.int .i64 lt) ∧ wc.cell? ⟨g20, 1, none⟩ = some (.bool kx.f1.f1) ∧ wc.cell? ⟨g20, 2, none⟩ = some (.int .i64 kx.f1.f2.f0) ∧ wc.cell? ⟨g20, 3, none⟩ = some (.string kx.f1.f2.f1) ∧ wc.cell? ⟨g20, 4, none⟩ = some (.int .i64 kx.f1.f3.f0) ∧ wc.cell? ⟨g20, 5, none⟩ = some (.string kx.f1.f3.f1) ∧ Below w.heap.size w wc := ⟨(cl6 K10).2.2.1, (cl6 K10).2.2.2.1, (cl3 K18).1, (cl6 K20).2.1, (cl6 K20).2.2.1, (cl6 K20).2.2.2.1, (cl6 K20).2.2.2.2.1, (cl6 K20).2.2.2.2.2.1, HB.out⟩
      clear K10 K18 K20 HB
      obtain ⟨fb, hfb⟩ : ∃ fb, kx.f1.f1 = fb := ⟨_, rfl⟩
      rw [hfb] at HS hp hq
      go_upto_region 25 with (fail)
      cases fb
      · rw [if_neg Bool.false_ne_true] at hp hq
        cases hp
        cases nz
        · rw [if_neg (of_decide_eq_false d0)] at hq
          cases hq
          have HSA := Aside0.mk HS
          obtain ⟨r0, r1, r2, r3, r4, r5, r6, r7, HBB⟩ := HS
          go_wp2_with (first | fail)
          go_ret2
          exact ⟨by first | rfl | (simp [d0, hfb]; done), HSA.out.2.2.2.2.2.2.2.2⟩
        · rw [if_pos (of_decide_eq_true d0)] at hq
          cases hq
          have HSA := Aside0.mk HS
          obtain ⟨r0, r1, r2, r3, r4, r5, r6, r7, HBB⟩ := HS
          go_wp2_with (first | fail)
          go_ret2
          exact ⟨by first | rfl | (simp [d0, hfb]; done), HSA.out.2.2.2.2.2.2.2.2⟩
      · rw [if_pos rfl] at hp hq
        obtain ⟨av, ha, hp⟩ := Option.bind_eq_some_iff.mp hp
        cases hp
        have HP1 := Aside0.mk ha
        clear ha
        cases nz
        · rw [if_neg (of_decide_eq_false d0)] at hq
          have HP2 := Aside0.mk hq
          clear hq
          have HSA := Aside0.mk HS
          obtain ⟨r0, r1, r2, r3, r4, r5, r6, r7, HBB⟩ := HS
          go_wp2_with (first | (go_at_call 38; (first | (with_reducible refine (spec_ValLess.calls k lt x.f2.f0 x.f2.f1 kx.f1.f2.f0 kx.f1.f2.f1 _ _ HP1.out).mono ?_) | (with_reducible refine (spec_ValLess.calls k lt x.f2.f0 x.f2.f1 kx.f1.f3.f0 kx.f1.f3.f1 _ _ HP2.out).mono ?_)); rintro e w' ⟨rfl, hb⟩; replace HSA := Aside0.mk (kS hb HSA.out); clear hb; obtain ⟨r0, r1, r2, r3, r4, r5, r6, r7, HBB⟩ := HSA.out))
          go_ret2
          exact ⟨by first | rfl | (simp [d0, hfb]; done), HSA.out.2.2.2.2.2.2.2.2⟩
        · rw [if_pos (of_decide_eq_true d0)] at hq
          cases hq
          have HSA := Aside0.mk HS
          obtain ⟨r0, r1, r2, r3, r4, r5, r6, r7, HBB⟩ := HS
          go_wp2_with (first | (go_at_call 38; (first | (with_reducible refine (spec_ValLess.calls k lt x.f2.f0 x.f2.f1 kx.f1.f2.f0 kx.f1.f2.f1 _ _ HP1.out).mono ?_) | (with_reducible refine (spec_ValLess.calls k lt x.f2.f0 x.f2.f1 kx.f1.f3.f0 kx.f1.f3.f1 _ _ HP2.out).mono ?_)); rintro e w' ⟨rfl, hb⟩; replace HSA := Aside0.mk (kS hb HSA.out); clear hb; obtain ⟨r0, r1, r2, r3, r4, r5, r6, r7, HBB⟩ := HSA.out))
          go_ret2
          exact ⟨by first | rfl | (simp [d0, hfb]; done), HSA.out.2.2.2.2.2.2.2.2⟩
    rw [if_neg k3] at hf
    obtain ⟨d3, d3'⟩ := b_ne k3
    clear k3
    cases hf
    have HS : wc.cell? ⟨g10, 2, none⟩ = some (.int .i64 x.f2.f0) ∧ wc.cell? ⟨g10, 3, none⟩ = some (.string x.f2.f1) ∧ wc.cell? ⟨g18, 0, none⟩ = some (.int .i64 lt) ∧ wc.cell? ⟨g20, 1, none⟩ = some (.bool kx.f1.f1) ∧ wc.cell? ⟨g20, 2, none⟩ = some (.int .i64 kx.f1.f2.f0) ∧ wc.cell? ⟨g20, 3, none⟩ = some (.string kx.f1.f2.f1) ∧ wc.cell? ⟨g20, 4, none⟩ = some (.int .i64 kx.f1.f3.f0) ∧ wc.cell? ⟨g20, 5, none⟩ = some (.string kx.f1.f3.f1) ∧ Below w.heap.size w wc := ⟨(cl6 K10).2.2.1, (cl6 K10).2.2.2.1, (cl3 K18).1, (cl6 K20).2.1, (cl6 K20).2.2.1, (cl6 K20).2.2.2.1, (cl6 K20).2.2.2.2.1, (cl6 K20).2.2.2.2.2.1, HB.out⟩
    clear K10 K18 K20 HB
    go_upto_region 26 with (fail)
    obtain ⟨σ, fw, hfw, hfc⟩ := cls (fun w' => w'.cell? ⟨g10, 2, none⟩ = some (.int .i64 x.f2.f0) ∧ w'.cell? ⟨g10, 3, none⟩ = some (.string x.f2.f1) ∧ w'.cell? ⟨g18, 0, none⟩ = some (.int .i64 lt) ∧ w'.cell? ⟨g20, 1, none⟩ = some (.bool kx.f1.f1) ∧ w'.cell? ⟨g20, 2, none⟩ = some (.int .i64 kx.f1.f2.f0) ∧ w'.cell? ⟨g20, 3, none⟩ = some (.string kx.f1.f2.f1) ∧ w'.cell? ⟨g20, 4, none⟩ = some (.int .i64 kx.f1.f3.f0) ∧ w'.cell? ⟨g20, 5, none⟩ = some (.string kx.f1.f3.f1) ∧ Below w.heap.size w w')
    have r0 := fun n => (hfw n).1
    have r1 := fun n => (hfw n).2.1
    have r2 := fun n => (hfw n).2.2.1
    have r3 := fun n => (hfw n).2.2.2.1
    have r4 := fun n => (hfw n).2.2.2.2.1
    have r5 := fun n => (hfw n).2.2.2.2.2.1
    have r6 := fun n => (hfw n).2.2.2.2.2.2.1
    have r7 := fun n => (hfw n).2.2.2.2.2.2.2.1
    have hN := hfc _ (kS (below_drew1 (Below.refl _ _)) (by assumption))
    haveI : Nonempty σ := hN.elim (fun n _ => ⟨n⟩)
    refine region_cls fw hN ?_
    clear hN
    repeat (go_big_quiet_step (fail))
    refine wpQuiet_nil ?_
    rintro w' ⟨nq, rfl⟩
    have HBB := (hfw nq).2.2.2.2.2.2.2.2
    clear hfw hfc
    go_wp2
    go_ret2
    exact ⟨by first | rfl | (simp [d0]; done), HBB⟩
  · rw [if_neg ck] at hf
    rw [Bool.eq_false_iff.mpr ck] at HZ
    clear ck
    cases hf
    go_enter Try.func20, Try.ntmps20
    go_wp2_with (first | ((with_reducible refine gate_dst (N := 10) rfl ?_); refine bx_ 10 #[.int .i64 0, .int .i64 0, .int .i64 0, .string (⟨#[]⟩ : ByteArray), .int .i64 0, .int .i64 0] 61 ?_; intro g10 hg v10 hbox hb; have K10 := Aside0.mk hbox; have G10 := gwe HB hg; replace HB := bst HB hb; clear hb hbox hg; (try clear c10); have c10 := cl6 K10) | ((with_reducible refine gate_store (t := 61) (p := 10) rfl ?_); refine st_ 61 10 _ ?_; intro u10 hu; replace K10 := Aside0.mk (show u10.heap[g10]? = some (.cells #[.int .i64 x.f0, .int .i64 x.f1, .int .i64 x.f2.f0, .string x.f2.f1, .int .i64 x.f3, .int .i64 x.f4] 61 (0, 0)) by rw [hu]; exact blk_later K10.out); replace HB := Aside0.mk (show Below w.heap.size w u10 by rw [hu]; exact below_later HB.out); clear hu; (try clear c10); have c10 := cl6 K10; have z0 := crd HB HZ.out.1; have z1 := crd HB HZ.out.2.1; have z2 := crd HB HZ.out.2.2.1; have z3 := crd HB HZ.out.2.2.2.1; have z4 := crd HB HZ.out.2.2.2.2.1; have z5 := crd HB HZ.out.2.2.2.2.2.1; have z6 := crd HB HZ.out.2.2.2.2.2.2) | ((with_reducible refine gate_dst (N := 17) rfl ?_); refine bx_ 17 #[.bool false, .int .i64 0, .bool false, .int .i64 0, .string (⟨#[]⟩ : ByteArray), .int .i64 0, .string (⟨#[]⟩ : ByteArray)] 66 ?_; intro g17 hg v17 hbox hb; have K17 := Aside0.mk hbox; have G17 := gwe HB hg; have N10_17 := nbl K10 hg; have N17_10 := nbr (nbl K10 hg); replace K10 := bkb K10 hb; replace HB := bst HB hb; clear hb hbox hg; (try clear c10); have c10 := cl6 K10; (try clear c17); have c17 := cl7 K17) | ((with_reducible refine gate_store (t := 66) (p := 17) rfl ?_); refine st_ 66 17 _ ?_; intro u17 hu; replace K10 := Aside0.mk (show u17.heap[g10]? = some (.cells #[.int .i64 x.f0, .int .i64 x.f1, .int .i64 x.f2.f0, .string x.f2.f1, .int .i64 x.f3, .int .i64 x.f4] 61 (0, 0)) by rw [hu]; exact blk_later K10.out); replace K17 := Aside0.mk (show u17.heap[g17]? = some (.cells #[.bool false, .int .i64 kx.f1.f0, .bool kx.f1.f1, .int .i64 kx.f1.f2.f0, .string kx.f1.f2.f1, .int .i64 kx.f1.f3.f0, .string kx.f1.f3.f1] 66 (0, 0)) by rw [hu]; exact blk_later K17.out); replace HB := Aside0.mk (show Below w.heap.size w u17 by rw [hu]; exact below_later HB.out); clear hu; (try clear c10); have c10 := cl6 K10; (try clear c17); have c17 := cl7 K17))
    go_ret2
    exact ⟨by first | rfl | (simp; done), below_later HB.out⟩
theorem l20_all : ∀ k : Nat, L20Ok k
  | 0 => by
    intro A0 c0 s A1 c1 p a A3 c3 kn r1 r2 w hr0 hc0 hr1 hc1 hr3 hc3 hf
    rw [spec_l20May.f] at hf
    cases hf
  | k + 1 => l20_step k (l20_all k)
/-- spec.l20May's contract: function 20. -/
theorem spec_l20May.calls (k : Nat) (A0 : Option Addr) (c0 : Nat) (s : List S57) (A1 : Option Addr) (c1 : Nat) (p : List S61) (a : Int) (A3 : Option Addr) (c3 : Nat) (kn : List S66) (r1 r2 : Bool) (w : World)
    (hr0 : Kd.C k57 w A0 s.length s) (hc0 : s.length ≤ c0) (hr1 : Kd.C k61 w A1 p.length p) (hc1 : p.length ≤ c1) (hr3 : Kd.C k66 w A3 kn.length kn) (hc3 : kn.length ≤ c3) (h : spec_l20May.f k s p a kn = some (r1, r2)) :
    Calls Try.prog 20 #[.slice A0 s.length c0, .slice A1 p.length c1, .int .i64 a, .slice A3 kn.length c3] w fun e w' => e = .returned (.tuple #[.bool r1, .bool r2]) ∧ Below w.heap.size w w' :=
  l20_all k A0 c0 s A1 c1 p a A3 c3 kn r1 r2 w hr0 hc0 hr1 hc1 hr3 hc3 h

/-! ### spec_PredMay: function 7 -/
def spec_PredMay.f (k : Nat) (l0 : List (S57)) (l1 : List (S61)) (l2 : List (S66)) : Option (Bool × Bool) := (spec_PredOk.f k l0 l1).bind fun t215 => (if t215 = true then ((spec_l5Leaves.f k l0).bind fun t216 => (if (l2.length : Int) = (t216.length : Int) then ((spec_l20May.f k l0 l1 (wrap64 ((l1.length : Int) - 1)) l2).bind fun bt219 => (some (bt219.1, bt219.2))) else (some (false, false)))) else (some (false, false)))
set_option maxHeartbeats 8000000 in
set_option maxRecDepth 100000 in
theorem spec_PredMay.calls (k : Nat) (A0 : Option Addr) (c0 : Nat) (l0 : List (S57)) (A1 : Option Addr) (c1 : Nat) (l1 : List (S61)) (A2 : Option Addr) (c2 : Nat) (l2 : List (S66)) (r1 : Bool) (r2 : Bool) (w : World) (hr0 : Kd.C k57 w A0 l0.length l0) (hc0 : l0.length ≤ c0) (hr1 : Kd.C k61 w A1 l1.length l1) (hc1 : l1.length ≤ c1) (hr2 : Kd.C k66 w A2 l2.length l2) (hc2 : l2.length ≤ c2) (h : spec_PredMay.f k l0 l1 l2 = some (r1, r2)) :
    Calls Try.prog 7 #[.slice A0 l0.length c0, .slice A1 l1.length c1, .slice A2 l2.length c2] w fun e w' => e = .returned (.tuple #[.bool r1, .bool r2]) ∧ Below w.heap.size w w' := by
  have HR0 := Aside0.mk hr0
  have HC0 := Aside0.mk hc0
  clear hr0 hc0
  have HR1 := Aside0.mk hr1
  have HC1 := Aside0.mk hc1
  clear hr1 hc1
  have HR2 := Aside0.mk hr2
  have HC2 := Aside0.mk hc2
  clear hr2 hc2
  have HB := Aside0.mk (Below.refl w.heap.size w)
  have H : ((spec_PredOk.f k l0 l1).bind fun t215 => (if t215 = true then ((spec_l5Leaves.f k l0).bind fun t216 => (if (l2.length : Int) = (t216.length : Int) then ((spec_l20May.f k l0 l1 (wrap64 ((l1.length : Int) - 1)) l2).bind fun bt219 => (some (bt219.1, bt219.2))) else (some (false, false)))) else (some (false, false)))) = some (r1, r2) := h
  clear h
  replace H := bnd H
  obtain ⟨t215, A4, H⟩ := H
  by_cases c5 : t215 = true
  · subst c5
    replace H := ifp rfl H
    replace H := bnd H
    obtain ⟨t216, A6, H⟩ := H
    by_cases c7 : (l2.length : Int) = (t216.length : Int)
    · rw [if_pos c7] at H
      have c7b0 : ((l2.length : Int) == (t216.length : Int)) = true := beq_iff_eq.mpr c7
      have c7b1 : ((l2.length : Int) != (t216.length : Int)) = false := bne_eq_false_iff_eq.mpr c7
      have c7b2 : (l2.length == t216.length) = true := by first | simpa using c7 | (simp at c7 ⊢; omega)
      clear c7
      replace H := Option.bind_eq_some_iff.mp H
      obtain ⟨⟨t219, t220⟩, A80, H⟩ := H
      replace H : (some (t219, t220)) = some (r1, r2) := H
      have A8 := Aside0.mk A80
      clear A80
      simp only [Option.some.injEq, Prod.mk.injEq] at H
      obtain ⟨rfl, rfl⟩ := H
      go_enter Try.func7, Try.ntmps7
      go_wp2_with (first | ((with_reducible refine gate_callee (f := 18) rfl ?_); refine gl_ (some 12) Try.func18 #[.slice A0 l0.length c0, .slice A1 l1.length c1] rfl ?_; (with_reducible refine (spec_PredOk.calls k _ _ l0 _ _ l1 true _ ?side1 ?side2 ?side3 ?side4 A4.out).mono ?_); (case side1 => exact C_later HR0.out); (case side2 => exact HC0.out); (case side3 => exact C_later HR1.out); (case side4 => exact HC1.out); rintro e w9 ⟨rfl, hb⟩; refine ⟨_, rfl, ?_⟩; replace HB := bst HB hb; (try clear hb)) | (go_at_call 19; (with_reducible refine (spec_l5Leaves.calls k _ _ l0 t216 _ ?side1 ?side2 A6.out).mono ?_); (case side1 => repeat (first | exact (Kd.C_below HR0.out HB.out) | (with_reducible refine Kd.C_alloc ?_ _) | (with_reducible refine Kd.C_drewN ?_ _) | (with_reducible refine Kd.C_drew ?_))); (case side2 => exact HC0.out); rintro e w10 ⟨v217, rfl, ho0, hb⟩; have HO218 := Aside0.mk (Kd.R_lower ho0 (below_size (below_later HB.out))); replace HB := bst HB hb; (try clear hb); (try clear ho0); obtain ⟨Ao11, co11, eo11⟩ := Kd.R_slice HO218.out; subst eo11) | ((with_reducible refine gate_callee (f := 20) rfl ?_); refine gl_ (some 29) Try.func20 #[.slice A0 l0.length c0, .slice A1 l1.length c1, .int .i64 (wrap64 ((l1.length : Int) - 1)), .slice A2 l2.length c2] rfl ?_; (with_reducible refine (spec_l20May.calls k _ _ l0 _ _ l1 (wrap64 ((l1.length : Int) - 1)) _ _ l2 t219 t220 _ ?side1 ?side2 ?side3 ?side4 ?side5 ?side6 A8.out).mono ?_); (case side1 => repeat (first | exact (Kd.C_below HR0.out HB.out) | (with_reducible refine Kd.C_alloc ?_ _) | (with_reducible refine Kd.C_drewN ?_ _) | (with_reducible refine Kd.C_drew ?_))); (case side2 => exact HC0.out); (case side3 => repeat (first | exact (Kd.C_below HR1.out HB.out) | (with_reducible refine Kd.C_alloc ?_ _) | (with_reducible refine Kd.C_drewN ?_ _) | (with_reducible refine Kd.C_drew ?_))); (case side4 => exact HC1.out); (case side5 => repeat (first | exact (Kd.C_below HR2.out HB.out) | (with_reducible refine Kd.C_alloc ?_ _) | (with_reducible refine Kd.C_drewN ?_ _) | (with_reducible refine Kd.C_drew ?_))); (case side6 => exact HC2.out); rintro e w12 ⟨rfl, hb⟩; refine ⟨_, rfl, ?_⟩; replace HO218 := Aside0.mk (Kd.R_below (R_later HO218.out) hb); replace HB := bst HB hb; (try clear hb)))
      go_ret2
      exact fin_ (below_later HB.out)
    · rw [if_neg c7] at H
      have c7b0 : ((l2.length : Int) == (t216.length : Int)) = false := beq_eq_false_iff_ne.mpr c7
      have c7b1 : ((l2.length : Int) != (t216.length : Int)) = true := bne_iff_ne.mpr c7
      have c7b2 : (l2.length == t216.length) = false := by first | simpa using c7 | (simp at c7 ⊢; omega)
      simp only [Option.some.injEq, Prod.mk.injEq] at H
      obtain ⟨rfl, rfl⟩ := H
      go_enter Try.func7, Try.ntmps7
      go_wp2_with (first | ((with_reducible refine gate_callee (f := 18) rfl ?_); refine gl_ (some 12) Try.func18 #[.slice A0 l0.length c0, .slice A1 l1.length c1] rfl ?_; (with_reducible refine (spec_PredOk.calls k _ _ l0 _ _ l1 true _ ?side1 ?side2 ?side3 ?side4 A4.out).mono ?_); (case side1 => exact C_later HR0.out); (case side2 => exact HC0.out); (case side3 => exact C_later HR1.out); (case side4 => exact HC1.out); rintro e w13 ⟨rfl, hb⟩; refine ⟨_, rfl, ?_⟩; replace HB := bst HB hb; (try clear hb)) | (go_at_call 19; (with_reducible refine (spec_l5Leaves.calls k _ _ l0 t216 _ ?side1 ?side2 A6.out).mono ?_); (case side1 => repeat (first | exact (Kd.C_below HR0.out HB.out) | (with_reducible refine Kd.C_alloc ?_ _) | (with_reducible refine Kd.C_drewN ?_ _) | (with_reducible refine Kd.C_drew ?_))); (case side2 => exact HC0.out); rintro e w14 ⟨v217, rfl, ho0, hb⟩; have HO218 := Aside0.mk (Kd.R_lower ho0 (below_size (below_later HB.out))); replace HB := bst HB hb; (try clear hb); (try clear ho0); obtain ⟨Ao15, co15, eo15⟩ := Kd.R_slice HO218.out; subst eo15))
      go_ret2
      exact fin_ (below_later HB.out)
  · replace c5 := Bool.eq_false_iff.mpr c5
    subst c5
    replace H := ifn Bool.false_ne_true H
    simp only [Option.some.injEq, Prod.mk.injEq] at H
    obtain ⟨rfl, rfl⟩ := H
    go_enter Try.func7, Try.ntmps7
    go_wp2_with (first | ((with_reducible refine gate_callee (f := 18) rfl ?_); refine gl_ (some 12) Try.func18 #[.slice A0 l0.length c0, .slice A1 l1.length c1] rfl ?_; (with_reducible refine (spec_PredOk.calls k _ _ l0 _ _ l1 false _ ?side1 ?side2 ?side3 ?side4 A4.out).mono ?_); (case side1 => exact C_later HR0.out); (case side2 => exact HC0.out); (case side3 => exact C_later HR1.out); (case side4 => exact HC1.out); rintro e w16 ⟨rfl, hb⟩; refine ⟨_, rfl, ?_⟩; replace HB := bst HB hb; (try clear hb)))
    go_ret2
    exact fin_ (below_later HB.out)

/-! ### laws_toCol: function 21 -/
def laws_toCol.f (a0_0 : ByteArray) (a0_1 : Int) (a0_2 : Int) (a0_3 : Int) : Option (ByteArray × Int × Int × Int) := some (a0_0, a0_1, a0_2, a0_3)
set_option maxHeartbeats 8000000 in
set_option maxRecDepth 100000 in
theorem laws_toCol.calls (a0_0 : ByteArray) (a0_1 : Int) (a0_2 : Int) (a0_3 : Int) (r1 : ByteArray) (r2 : Int) (r3 : Int) (r4 : Int) (w : World) (h : laws_toCol.f a0_0 a0_1 a0_2 a0_3 = some (r1, r2, r3, r4)) :
    Calls Try.prog 21 #[.agg #[.string a0_0, .int .i64 a0_1, .int .i64 a0_2, .int .i64 a0_3]] w fun e w' => e = .returned (.agg #[.string r1, .int .i64 r2, .int .i64 r3, .int .i64 r4]) ∧ Below w.heap.size w w' := by
  have hu42 := Try.underlying42
  have hu57 := Try.underlying57
  have HB := Aside0.mk (Below.refl w.heap.size w)
  have H : (some (a0_0, a0_1, a0_2, a0_3)) = some (r1, r2, r3, r4) := h
  clear h
  simp only [Option.some.injEq, Prod.mk.injEq] at H
  obtain ⟨rfl, rfl, rfl, rfl⟩ := H
  go_enter Try.func21, Try.ntmps21
  go_wp2_with (first | ((with_reducible refine gate_dst (N := 1) rfl ?_); refine bx_ 1 #[.string a0_0, .int .i64 a0_1, .int .i64 a0_2, .int .i64 a0_3] 42 ?_; intro gb221 hg w2 hbox hb; have BK221 := Aside0.mk (hbox); have GW221 := gwe HB hg; have GE221 := GW221; replace HB := bst HB hb; clear hb hbox hg) | ((with_reducible refine gate_dst (N := 2) rfl ?_); refine bx_ 2 #[.string (⟨#[]⟩ : ByteArray), .int .i64 0, .int .i64 0, .int .i64 0] 57 ?_; intro gb222 hg w3 hbox hb; have BK222 := Aside0.mk (hbox); have GW222 := gwe HB hg; have GE222 := GW222; have NB221_222 := nbl BK221 hg; have NB222_221 := nbr (nbl BK221 hg); replace BK221 := bkb BK221 hb; replace HB := bst HB hb; clear hb hbox hg) | ((with_reducible refine gate_dst (N := 3) rfl ?_); refine bx_ 3 #[.string (⟨#[]⟩ : ByteArray), .int .i64 0, .int .i64 0, .int .i64 0] 57 ?_; intro gb223 hg w4 hbox hb; have BK223 := Aside0.mk (hbox); have GW223 := gwe HB hg; have GE223 := GW223; have NB221_223 := nbl BK221 hg; have NB223_221 := nbr (nbl BK221 hg); have NB222_223 := nbl BK222 hg; have NB223_222 := nbr (nbl BK222 hg); replace BK221 := bkb BK221 hb; replace BK222 := bkb BK222 hb; replace HB := bst HB hb; clear hb hbox hg; have hnb5 := NB221_222.out; have hnc5 := NB222_221.out; have hnb6 := NB221_223.out; have hnc6 := NB223_221.out; obtain ⟨hcz7_0, hcz7_1, hcz7_2, hcz7_3, hfz7_0, hfz7_1, hfz7_2, hfz7_3⟩ := cl4 BK221; have hnb8 := NB223_222.out; have hnc8 := NB222_223.out; obtain ⟨hcz9_0, hcz9_1, hcz9_2, hcz9_3, hfz9_0, hfz9_1, hfz9_2, hfz9_3⟩ := cl4 BK223; obtain ⟨hcz10_0, hcz10_1, hcz10_2, hcz10_3, hfz10_0, hfz10_1, hfz10_2, hfz10_3⟩ := cl4 BK222))
  refine bodyPost_ret (results_cell_row rfl _ _ gb222 57 #[.string a0_0, .int .i64 a0_1, .int .i64 a0_2, .int .i64 a0_3] (0, 0) _ rfl (by (with_reducible repeat (first | refine blk_drewN ?_ _ | refine blk_drew ?_ | refine blk_alloc ?_ _)); refine blk_put (cs := #[.string a0_0, .int .i64 a0_1, .int .i64 a0_2, .int .i64 0]) ?_ 3 _ rfl; (with_reducible repeat (first | refine blk_drewN ?_ _ | refine blk_drew ?_ | refine blk_alloc ?_ _)); refine blk_put (cs := #[.string a0_0, .int .i64 a0_1, .int .i64 0, .int .i64 0]) ?_ 2 _ rfl; (with_reducible repeat (first | refine blk_drewN ?_ _ | refine blk_drew ?_ | refine blk_alloc ?_ _)); refine blk_put (cs := #[.string a0_0, .int .i64 0, .int .i64 0, .int .i64 0]) ?_ 1 _ rfl; (with_reducible repeat (first | refine blk_drewN ?_ _ | refine blk_drew ?_ | refine blk_alloc ?_ _)); refine blk_put (cs := #[.string (⟨#[]⟩ : ByteArray), .int .i64 0, .int .i64 0, .int .i64 0]) ?_ 0 _ rfl; (with_reducible repeat (first | refine blk_drewN ?_ _ | refine blk_drew ?_ | refine blk_alloc ?_ _)); refine blk_far ?_ NB222_223.out _; (with_reducible repeat (first | refine blk_drewN ?_ _ | refine blk_drew ?_ | refine blk_alloc ?_ _)); refine blk_far ?_ NB222_223.out _; (with_reducible repeat (first | refine blk_drewN ?_ _ | refine blk_drew ?_ | refine blk_alloc ?_ _)); refine blk_far ?_ NB222_223.out _; (with_reducible repeat (first | refine blk_drewN ?_ _ | refine blk_drew ?_ | refine blk_alloc ?_ _)); refine blk_far ?_ NB222_223.out _; (with_reducible repeat (first | refine blk_drewN ?_ _ | refine blk_drew ?_ | refine blk_alloc ?_ _)); exact BK222.out) Try.underlying57 rfl (by kernel_rfl)) rfl ?_
  exact fin_ (below_later HB.out)

/-! ### laws_toColS: function 8 -/
def laws_toColS.l0 : Nat → List (S42) → List (S57) → Int → Option ((List (S57)))
  | 0, _, _, _ => none
  | k + 1, x0, x3, x4 => if x4 < (x0.length : Int) then (if 0 ≤ x4 then ((laws_toCol.f ((rd_T42 x0 x4).f0) ((rd_T42 x0 x4).f1) ((rd_T42 x0 x4).f2) ((rd_T42 x0 x4).f3)).bind fun bt228 => (if x4 < (x3.length : Int) then (laws_toColS.l0 k x0 (x3.set (x4 : Int).toNat (⟨bt228.1, bt228.2.1, bt228.2.2.1, bt228.2.2.2⟩ : S57)) (wrap64 (x4 + 1))) else (none))) else (none)) else (some x3)
def laws_toColS.f (k : Nat) (l0 : List (S42)) : Option ((List (S57))) := if 0 ≤ (l0.length : Int) then (if ((l0.length : Int) : Int).toNat ≤ 7036874417766 then (laws_toColS.l0 k l0 (List.replicate ((l0.length : Int) : Int).toNat z57) 0) else (none)) else (none)
set_option maxHeartbeats 8000000 in
set_option maxRecDepth 100000 in
theorem laws_toColS.calls (k : Nat) (A0 : Option Addr) (c0 : Nat) (l0 : List (S42)) (r : List (S57)) (w : World) (hr0 : Kd.C k42 w A0 l0.length l0) (hc0 : l0.length ≤ c0) (h : laws_toColS.f k l0 = some r) :
    Calls Try.prog 8 #[.slice A0 l0.length c0] w fun e w' => ∃ v0_ : Value, e = .returned (v0_) ∧ Kd.R k57 57 w' w.heap.size (fun _ => True) v0_ r ∧ Below w.heap.size w w' := by
  have hu42 := Try.underlying42
  have hu57 := Try.underlying57
  have HR0 := Aside0.mk hr0
  have HC0 := Aside0.mk hc0
  clear hr0 hc0
  have HB := Aside0.mk (Below.refl w.heap.size w)
  have H : (if 0 ≤ (l0.length : Int) then (if ((l0.length : Int) : Int).toNat ≤ 7036874417766 then (laws_toColS.l0 k l0 (List.replicate ((l0.length : Int) : Int).toNat z57) 0) else (none)) else (none)) = some r := h
  clear h
  replace H := ifs H
  obtain ⟨c2, H⟩ := H
  have c2b0 := eq_true c2
  have c2b1 := decide_eq_true c2
  clear c2
  replace H := ifs H
  obtain ⟨c3, H⟩ := H
  have c3b0 := eq_true c3
  have c3b1 := decide_eq_true c3
  clear c3
  obtain ⟨y224, hy224⟩ : ∃ y_ : List (S57), y_ = (List.replicate ((l0.length : Int) : Int).toNat z57) := ⟨_, rfl⟩
  replace H : (laws_toColS.l0 k l0 y224 0) = some r := by first | (rw [hy224]; with_reducible exact H) | (rw [hy224]; exact H) | exact H
  have Ny224 := Aside0.mk hy224
  clear hy224
  have H' := Aside0.mk H
  clear H
  go_enter Try.func8, Try.ntmps8
  go_wp2_with (first | ((with_reducible refine gate_dst (N := 7) rfl ?_); refine Kd.R_make k57 _ 57 rfl (N := 7) rfl 30 _ _ rfl (l0.length : Int) rfl rfl Try.underlying30 (.agg #[(.string ⟨#[]⟩), (.int .i64 0), (.int .i64 0), (.int .i64 0)]) 40 info57 rfl (by decide) (by omega) z57 (ok := fun _ => True) (okp := fun _ => True) (k57_mkM _ _ _ z57 ) (fun _ hk => hk) trivial (dcd) (Nat.le_trans (Nat.mul_le_mul_right _ (dcd : (l0.length : Int).toNat ≤ 7036874417766)) (by omega)) (Below.refl _ _) (Nat.le_refl _) ?_; intro v225 w4 ho5 hb hg_ hnew_; clear hg_ hnew_; (first | rw [← Ny224.out] at ho5 | (simp only [Int.reduceToNat] at ho5; rw [← Ny224.out] at ho5)); have HO226 := Aside0.mk (Kd.R_lower ho5 (below_size (below_later HB.out))); replace HB := bst HB hb; clear hb ho5))
  go_loopg [4] k (fun kq v4 w' => ∃ (x3_1 : List (S57)) (x4_1 : Int), v4 = .int .i64 x4_1 ∧ Aside0 (laws_toColS.l0 kq l0 x3_1 x4_1 = some r) ∧ Aside0 (kq ≤ k) ∧ Aside0 (Kd.R k57 57 w' w.heap.size (fun _ => True) v225 x3_1) ∧ Aside0 (Below w.heap.size w w'))
  case atStart => exact ⟨(y224), (0), sr, H', ⟨Nat.le_refl _⟩, ⟨R_later HO226.out⟩, ⟨below_later HB.out⟩⟩
  case round =>
    clear H'
    try clear c2
    try clear c2b0
    try clear c2b1
    try clear c3
    try clear c3b0
    try clear c3b1
    obtain ⟨x3_1, x4_1, rfl, HA, HK1, HO_3, HB⟩ := hrel
    cases gk with
    | zero => exact absurd HA.out (by simp [laws_toColS.l0])
    | succ k1 =>
      have H := HA.out
      clear HA
      simp only [laws_toColS.l0] at H
      by_cases c6 : x4_1 < (l0.length : Int)
      · rw [if_pos c6] at H
        have c6b0 := decide_eq_true c6
        clear c6
        replace H := ifd H
        obtain ⟨c7b0, H⟩ := H
        replace H := Option.bind_eq_some_iff.mp H
        obtain ⟨⟨t228, t229, t230, t231⟩, A80, H⟩ := H
        replace H : (if x4_1 < (x3_1.length : Int) then (laws_toColS.l0 k1 l0 (x3_1.set (x4_1 : Int).toNat (⟨t228, t229, t230, t231⟩ : S57)) (wrap64 (x4_1 + 1))) else (none)) = some r := H
        have A8 := Aside0.mk A80
        clear A80
        replace H := ifd H
        obtain ⟨c9b0, H⟩ := H
        obtain ⟨y232, hy232⟩ : ∃ y_ : List (S57), y_ = (x3_1.set (x4_1 : Int).toNat (⟨t228, t229, t230, t231⟩ : S57)) := ⟨_, rfl⟩
        replace H : (laws_toColS.l0 k1 l0 y232 (wrap64 (x4_1 + 1))) = some r := by first | (rw [hy232]; with_reducible exact H) | (rw [hy232]; exact H) | exact H
        have Ny232 := Aside0.mk hy232
        clear hy232
        have H' := Aside0.mk H
        clear H
        have p227 : 0 ≤ (x4_1 : Int) := dcd
        have q227 : x4_1 < (l0.length : Int) := dcd
        obtain ⟨ad227, e227, hx227_0, hx227_1, hx227_2, hx227_3⟩ := at_T42 HR0.out x4_1 p227 q227
        cases e227
        replace hx227_0 := crd HB hx227_0
        replace hx227_1 := crd HB hx227_1
        replace hx227_2 := crd HB hx227_2
        replace hx227_3 := crd HB hx227_3
        replace p227 := eq_true p227
        replace q227 := eq_true q227
        go_wp2_with (first | ((with_reducible refine gate_callee (f := 21) rfl ?_); refine gl_ (some 20) Try.func21 #[.agg #[.string ((rd_T42 l0 x4_1).f0), .int .i64 ((rd_T42 l0 x4_1).f1), .int .i64 ((rd_T42 l0 x4_1).f2), .int .i64 ((rd_T42 l0 x4_1).f3)]] rfl ?_; (with_reducible refine (laws_toCol.calls ((rd_T42 l0 x4_1).f0) ((rd_T42 l0 x4_1).f1) ((rd_T42 l0 x4_1).f2) ((rd_T42 l0 x4_1).f3) t228 t229 t230 t231 _ A8.out).mono ?_); rintro e w11 ⟨rfl, hb⟩; refine ⟨_, rfl, ?_⟩; replace HO_3 := Aside0.mk (Kd.R_below (R_later HO_3.out) hb); replace HB := bst HB hb; (try clear hb); (try clear hk); have p10 : 0 ≤ (x4_1 : Int) := dcd; have q10 : (x4_1 : Int) < ((x3_1.length : Int) : Int) := dcd; obtain ⟨go10, co10, eo10, gb10, gl10, cl10, HG10⟩ := Kd.R_form HO_3.out (by omega); (first | cases eo10 | (injection eo10 with ea_ en_ ec_; (first | subst ea_ | (injection ea_ with ea_; subst ea_)); subst ec_; clear en_)); have GB10 := Aside0.mk gb10; have GG10 := Aside0.mk HG10; clear gb10 gl10 HG10; obtain ⟨ce10, hcl10, hM10, hcc10, hfr10⟩ := Kd.R_elem HO_3.out z57 (x4_1 : Int) p10 q10; obtain rfl := k57_openM hM10; have hx10_0 : w11.cell? ⟨go10, (x4_1 : Int).toNat * 4, none⟩ = some (.string ((rd_T57 x3_1 x4_1).f0)) := hcc10 0 _ rfl; have hx10_1 : w11.cell? ⟨go10, (x4_1 : Int).toNat * 4 + 1, none⟩ = some (.int .i64 ((rd_T57 x3_1 x4_1).f1)) := hcc10 1 _ rfl; have hx10_2 : w11.cell? ⟨go10, (x4_1 : Int).toNat * 4 + 2, none⟩ = some (.int .i64 ((rd_T57 x3_1 x4_1).f2)) := hcc10 2 _ rfl; have hx10_3 : w11.cell? ⟨go10, (x4_1 : Int).toNat * 4 + 3, none⟩ = some (.int .i64 ((rd_T57 x3_1 x4_1).f3)) := hcc10 3 _ rfl; have hf10_0 : w11.frozen? ⟨go10, (x4_1 : Int).toNat * 4, none⟩ = false := hfr10 0; have hf10_1 : w11.frozen? ⟨go10, (x4_1 : Int).toNat * 4 + 1, none⟩ = false := hfr10 1; have hf10_2 : w11.frozen? ⟨go10, (x4_1 : Int).toNat * 4 + 2, none⟩ = false := hfr10 2; have hf10_3 : w11.frozen? ⟨go10, (x4_1 : Int).toNat * 4 + 3, none⟩ = false := hfr10 3; clear hcl10 hcc10 hfr10 hM10; replace p10 := eq_true p10; replace q10 := eq_true q10; have HX12 := Aside0.mk (show Kd.R k57 57 w11 w.heap.size (fun _ => True) (.slice (some ⟨go10, 0, none⟩) x3_1.length co10) x3_1 from (R_later HO_3.out)); obtain ⟨ce12, hcl12, hM12, hcc12, hfr12⟩ := Kd.R_elem HX12.out z57 (x4_1 : Int) (dcd) (by have h_ : (x4_1 : Int) < ((x3_1.length : Int) : Int) := dcd; first | exact h_ | (have e_ := (Kd.R_reads' HO_3.out).1; omega) | simpa using h_); obtain rfl := k57_openM hM12; have HP12 := Kd.R_seg HX12.out (x4_1 : Int) (dcd) (by have h_ : (x4_1 : Int) < ((x3_1.length : Int) : Int) := dcd; first | exact h_ | (have e_ := (Kd.R_reads' HO_3.out).1; omega) | simpa using h_) (seg := [.string t228, .int .i64 t229, .int .i64 t230, .int .i64 t231]) (j := 0) hcl12 hcc12 (show 4 ≤ 4 from by decide) (x' := (⟨t228, t229, t230, t231⟩ : S57)) (k57_mkM _ _ _ (⟨t228, t229, t230, t231⟩ : S57) ) (fun _ hk => hk); have hx12_0 := hcc12 0 _ rfl; (try simp only [show (k57).sz = 4 from rfl, Nat.mul_one, Nat.add_zero] at hx12_0); have hf12_0 := hfr12 0; (try simp only [show (k57).sz = 4 from rfl, Nat.mul_one, Nat.add_zero] at hf12_0); have hx12_1 := hcc12 1 _ rfl; (try simp only [show (k57).sz = 4 from rfl, Nat.mul_one, Nat.add_zero] at hx12_1); have hf12_1 := hfr12 1; (try simp only [show (k57).sz = 4 from rfl, Nat.mul_one, Nat.add_zero] at hf12_1); have hx12_2 := hcc12 2 _ rfl; (try simp only [show (k57).sz = 4 from rfl, Nat.mul_one, Nat.add_zero] at hx12_2); have hf12_2 := hfr12 2; (try simp only [show (k57).sz = 4 from rfl, Nat.mul_one, Nat.add_zero] at hf12_2); have hx12_3 := hcc12 3 _ rfl; (try simp only [show (k57).sz = 4 from rfl, Nat.mul_one, Nat.add_zero] at hx12_3); have hf12_3 := hfr12 3; (try simp only [show (k57).sz = 4 from rfl, Nat.mul_one, Nat.add_zero] at hf12_3); clear hcl12 hcc12 hfr12 hM12) | ((with_reducible refine gate_store (t := 57) (p := 21) rfl ?_); refine st_ 57 21 ((((w11.setCell ⟨go10, (x4_1 : Int).toNat * 4, none⟩ (.string t228)).setCell ⟨go10, (x4_1 : Int).toNat * 4 + 1, none⟩ (.int .i64 t229)).setCell ⟨go10, (x4_1 : Int).toNat * 4 + 2, none⟩ (.int .i64 t230)).setCell ⟨go10, (x4_1 : Int).toNat * 4 + 3, none⟩ (.int .i64 t231)) ?_; intro w13 hw; have hg : w11.grownBy w13 (some go10) := (by rw [hw]; exact HP12.2); have hp_ : Kd.R k57 57 w13 w.heap.size (fun _ => True) (.slice (some ⟨go10, 0, none⟩) x3_1.length co10) y232 := (by rw [hw, Ny232.out]; exact HP12.1); clear HP12; replace HO_3 := Aside0.mk (hp_); replace HB := Aside0.mk ((by rw [hw]; exact below_set (below_set (below_set (below_set (HB.out) GB10.out) GB10.out) GB10.out) GB10.out : Below w.heap.size w w13)); clear hg hw hp_))
        go_roundg k1
        case measure => have := HK1.out; omega
        case rel => exact ⟨(y232), (wrap64 (x4_1 + 1)), sr, H', ⟨by have := HK1.out; omega⟩, ⟨R_later HO_3.out⟩, ⟨below_later HB.out⟩⟩
      · rw [if_neg c6] at H
        have c6b0 := decide_eq_false c6
        clear c6
        obtain rfl := Option.some.inj H
        go_wp2
        go_ret
        exact ⟨_, by first | rfl | (simp [errW_none, errW_some] <;> rfl) | (simp [*, errW_none, errW_some] <;> rfl), by (with_reducible repeat (first | apply Kd.R_alloc | apply Kd.R_drewN | apply Kd.R_drew)); exact HO_3.out, below_later HB.out⟩
/-! ### laws_toVal: function 39 -/
def laws_toVal.f (a0_0 : Int) (a0_1 : ByteArray) : Option (Int × ByteArray) := some (a0_0, a0_1)
set_option maxHeartbeats 8000000 in
set_option maxRecDepth 100000 in
theorem laws_toVal.calls (a0_0 : Int) (a0_1 : ByteArray) (r1 : Int) (r2 : ByteArray) (w : World) (h : laws_toVal.f a0_0 a0_1 = some (r1, r2)) :
    Calls Try.prog 39 #[.agg #[.int .i64 a0_0, .string a0_1]] w fun e w' => e = .returned (.agg #[.int .i64 r1, .string r2]) ∧ Below w.heap.size w w' := by
  have hu45 := Try.underlying45
  have hu59 := Try.underlying59
  have HB := Aside0.mk (Below.refl w.heap.size w)
  have H : (some (a0_0, a0_1)) = some (r1, r2) := h
  clear h
  simp only [Option.some.injEq, Prod.mk.injEq] at H
  obtain ⟨rfl, rfl⟩ := H
  go_enter Try.func39, Try.ntmps39
  go_wp2_with (first | ((with_reducible refine gate_dst (N := 1) rfl ?_); refine bx_ 1 #[.int .i64 a0_0, .string a0_1] 45 ?_; intro gb233 hg w2 hbox hb; have BK233 := Aside0.mk (hbox); have GW233 := gwe HB hg; have GE233 := GW233; replace HB := bst HB hb; clear hb hbox hg) | ((with_reducible refine gate_dst (N := 2) rfl ?_); refine bx_ 2 #[.int .i64 0, .string (⟨#[]⟩ : ByteArray)] 59 ?_; intro gb234 hg w3 hbox hb; have BK234 := Aside0.mk (hbox); have GW234 := gwe HB hg; have GE234 := GW234; have NB233_234 := nbl BK233 hg; have NB234_233 := nbr (nbl BK233 hg); replace BK233 := bkb BK233 hb; replace HB := bst HB hb; clear hb hbox hg) | ((with_reducible refine gate_dst (N := 3) rfl ?_); refine bx_ 3 #[.int .i64 0, .string (⟨#[]⟩ : ByteArray)] 59 ?_; intro gb235 hg w4 hbox hb; have BK235 := Aside0.mk (hbox); have GW235 := gwe HB hg; have GE235 := GW235; have NB233_235 := nbl BK233 hg; have NB235_233 := nbr (nbl BK233 hg); have NB234_235 := nbl BK234 hg; have NB235_234 := nbr (nbl BK234 hg); replace BK233 := bkb BK233 hb; replace BK234 := bkb BK234 hb; replace HB := bst HB hb; clear hb hbox hg; have hnb5 := NB233_234.out; have hnc5 := NB234_233.out; have hnb6 := NB233_235.out; have hnc6 := NB235_233.out; obtain ⟨hcz7_0, hcz7_1, hfz7_0, hfz7_1⟩ := cl2 BK233; have hnb8 := NB235_234.out; have hnc8 := NB234_235.out; obtain ⟨hcz9_0, hcz9_1, hfz9_0, hfz9_1⟩ := cl2 BK235; obtain ⟨hcz10_0, hcz10_1, hfz10_0, hfz10_1⟩ := cl2 BK234))
  refine bodyPost_ret (results_cell_row rfl _ _ gb234 59 #[.int .i64 a0_0, .string a0_1] (0, 0) _ rfl (by (with_reducible repeat (first | refine blk_drewN ?_ _ | refine blk_drew ?_ | refine blk_alloc ?_ _)); refine blk_put (cs := #[.int .i64 a0_0, .string (⟨#[]⟩ : ByteArray)]) ?_ 1 _ rfl; (with_reducible repeat (first | refine blk_drewN ?_ _ | refine blk_drew ?_ | refine blk_alloc ?_ _)); refine blk_put (cs := #[.int .i64 0, .string (⟨#[]⟩ : ByteArray)]) ?_ 0 _ rfl; (with_reducible repeat (first | refine blk_drewN ?_ _ | refine blk_drew ?_ | refine blk_alloc ?_ _)); refine blk_far ?_ NB234_235.out _; (with_reducible repeat (first | refine blk_drewN ?_ _ | refine blk_drew ?_ | refine blk_alloc ?_ _)); refine blk_far ?_ NB234_235.out _; (with_reducible repeat (first | refine blk_drewN ?_ _ | refine blk_drew ?_ | refine blk_alloc ?_ _)); exact BK234.out) Try.underlying59 rfl (by kernel_rfl)) rfl ?_
  exact fin_ (below_later HB.out)

/-! ### laws_toPred: function 22 -/
def laws_toPred.f (a0_0 : Int) (a0_1 : Int) (a0_2 : Int) (a0_3 : ByteArray) (a0_4 : Int) (a0_5 : Int) : Option (Int × Int × Int × ByteArray × Int × Int) := (laws_toVal.f a0_2 a0_3).bind fun bt239 => (some (a0_0, a0_1, bt239.1, bt239.2, a0_4, a0_5))
set_option maxHeartbeats 8000000 in
set_option maxRecDepth 100000 in
theorem laws_toPred.calls (a0_0 : Int) (a0_1 : Int) (a0_2 : Int) (a0_3 : ByteArray) (a0_4 : Int) (a0_5 : Int) (r1 : Int) (r2 : Int) (r3 : Int) (r4 : ByteArray) (r5 : Int) (r6 : Int) (w : World) (h : laws_toPred.f a0_0 a0_1 a0_2 a0_3 a0_4 a0_5 = some (r1, r2, r3, r4, r5, r6)) :
    Calls Try.prog 22 #[.agg #[.int .i64 a0_0, .int .i64 a0_1, .int .i64 a0_2, .string a0_3, .int .i64 a0_4, .int .i64 a0_5]] w fun e w' => e = .returned (.agg #[.int .i64 r1, .int .i64 r2, .int .i64 r3, .string r4, .int .i64 r5, .int .i64 r6]) ∧ Below w.heap.size w w' := by
  have hu47 := Try.underlying47
  have hu61 := Try.underlying61
  have hu45 := Try.underlying45
  have hu59 := Try.underlying59
  have HB := Aside0.mk (Below.refl w.heap.size w)
  have H : ((laws_toVal.f a0_2 a0_3).bind fun bt239 => (some (a0_0, a0_1, bt239.1, bt239.2, a0_4, a0_5))) = some (r1, r2, r3, r4, r5, r6) := h
  clear h
  replace H := Option.bind_eq_some_iff.mp H
  obtain ⟨⟨t239, t240⟩, A20, H⟩ := H
  replace H : (some (a0_0, a0_1, t239, t240, a0_4, a0_5)) = some (r1, r2, r3, r4, r5, r6) := H
  have A2 := Aside0.mk A20
  clear A20
  simp only [Option.some.injEq, Prod.mk.injEq] at H
  obtain ⟨rfl, rfl, rfl, rfl, rfl, rfl⟩ := H
  go_enter Try.func22, Try.ntmps22
  go_wp2_with (first | ((with_reducible refine gate_dst (N := 1) rfl ?_); refine bx_ 1 #[.int .i64 a0_0, .int .i64 a0_1, .int .i64 a0_2, .string a0_3, .int .i64 a0_4, .int .i64 a0_5] 47 ?_; intro gb236 hg w3 hbox hb; have BK236 := Aside0.mk (hbox); have GW236 := gwe HB hg; have GE236 := GW236; replace HB := bst HB hb; clear hb hbox hg) | ((with_reducible refine gate_dst (N := 2) rfl ?_); refine bx_ 2 #[.int .i64 0, .int .i64 0, .int .i64 0, .string (⟨#[]⟩ : ByteArray), .int .i64 0, .int .i64 0] 61 ?_; intro gb237 hg w4 hbox hb; have BK237 := Aside0.mk (hbox); have GW237 := gwe HB hg; have GE237 := GW237; have NB236_237 := nbl BK236 hg; have NB237_236 := nbr (nbl BK236 hg); replace BK236 := bkb BK236 hb; replace HB := bst HB hb; clear hb hbox hg) | ((with_reducible refine gate_dst (N := 3) rfl ?_); refine bx_ 3 #[.int .i64 0, .int .i64 0, .int .i64 0, .string (⟨#[]⟩ : ByteArray), .int .i64 0, .int .i64 0] 61 ?_; intro gb238 hg w5 hbox hb; have BK238 := Aside0.mk (hbox); have GW238 := gwe HB hg; have GE238 := GW238; have NB236_238 := nbl BK236 hg; have NB238_236 := nbr (nbl BK236 hg); have NB237_238 := nbl BK237 hg; have NB238_237 := nbr (nbl BK237 hg); replace BK236 := bkb BK236 hb; replace BK237 := bkb BK237 hb; replace HB := bst HB hb; clear hb hbox hg; have hnb6 := NB236_237.out; have hnc6 := NB237_236.out; have hnb7 := NB236_238.out; have hnc7 := NB238_236.out; obtain ⟨hcz8_0, hcz8_1, hcz8_2, hcz8_3, hcz8_4, hcz8_5, hfz8_0, hfz8_1, hfz8_2, hfz8_3, hfz8_4, hfz8_5⟩ := cl6 BK236; have hnb9 := NB238_237.out; have hnc9 := NB237_238.out; obtain ⟨hcz10_0, hcz10_1, hcz10_2, hcz10_3, hcz10_4, hcz10_5, hfz10_0, hfz10_1, hfz10_2, hfz10_3, hfz10_4, hfz10_5⟩ := cl6 BK238) | ((with_reducible refine gate_callee (f := 39) rfl ?_); refine gl_ (some 12) Try.func39 #[.agg #[.int .i64 a0_2, .string a0_3]] rfl ?_; (with_reducible refine (laws_toVal.calls a0_2 a0_3 t239 t240 _ A2.out).mono ?_); rintro e w11 ⟨rfl, hb⟩; refine ⟨_, rfl, ?_⟩; replace BK236 := bkb BK236 hb; replace BK237 := bkb BK237 hb; replace BK238 := Aside0.mk (blk_below (g := gb238) (o := .cells #[.int .i64 a0_0, .int .i64 a0_1, .int .i64 0, .string (⟨#[]⟩ : ByteArray), .int .i64 0, .int .i64 0] 61 (0, 0)) (blk_later BK238.out) hb); replace HB := bst HB hb; (try clear hb); obtain ⟨hcz12_0, hcz12_1, hcz12_2, hcz12_3, hcz12_4, hcz12_5, hfz12_0, hfz12_1, hfz12_2, hfz12_3, hfz12_4, hfz12_5⟩ := cl6 BK238; obtain ⟨hcz13_0, hcz13_1, hcz13_2, hcz13_3, hcz13_4, hcz13_5, hfz13_0, hfz13_1, hfz13_2, hfz13_3, hfz13_4, hfz13_5⟩ := cl6 BK236; obtain ⟨hcz14_0, hcz14_1, hcz14_2, hcz14_3, hcz14_4, hcz14_5, hfz14_0, hfz14_1, hfz14_2, hfz14_3, hfz14_4, hfz14_5⟩ := cl6 BK237))
  refine bodyPost_ret (results_cell_row rfl _ _ gb237 61 #[.int .i64 a0_0, .int .i64 a0_1, .int .i64 t239, .string t240, .int .i64 a0_4, .int .i64 a0_5] (0, 0) _ rfl (by (with_reducible repeat (first | refine blk_drewN ?_ _ | refine blk_drew ?_ | refine blk_alloc ?_ _)); refine blk_put (cs := #[.int .i64 a0_0, .int .i64 a0_1, .int .i64 t239, .string t240, .int .i64 a0_4, .int .i64 0]) ?_ 5 _ rfl; (with_reducible repeat (first | refine blk_drewN ?_ _ | refine blk_drew ?_ | refine blk_alloc ?_ _)); refine blk_put (cs := #[.int .i64 a0_0, .int .i64 a0_1, .int .i64 t239, .string t240, .int .i64 0, .int .i64 0]) ?_ 4 _ rfl; (with_reducible repeat (first | refine blk_drewN ?_ _ | refine blk_drew ?_ | refine blk_alloc ?_ _)); refine blk_put (cs := #[.int .i64 a0_0, .int .i64 a0_1, .int .i64 t239, .string (⟨#[]⟩ : ByteArray), .int .i64 0, .int .i64 0]) ?_ 3 _ rfl; (with_reducible repeat (first | refine blk_drewN ?_ _ | refine blk_drew ?_ | refine blk_alloc ?_ _)); refine blk_put (cs := #[.int .i64 a0_0, .int .i64 a0_1, .int .i64 0, .string (⟨#[]⟩ : ByteArray), .int .i64 0, .int .i64 0]) ?_ 2 _ rfl; (with_reducible repeat (first | refine blk_drewN ?_ _ | refine blk_drew ?_ | refine blk_alloc ?_ _)); refine blk_put (cs := #[.int .i64 a0_0, .int .i64 0, .int .i64 0, .string (⟨#[]⟩ : ByteArray), .int .i64 0, .int .i64 0]) ?_ 1 _ rfl; (with_reducible repeat (first | refine blk_drewN ?_ _ | refine blk_drew ?_ | refine blk_alloc ?_ _)); refine blk_put (cs := #[.int .i64 0, .int .i64 0, .int .i64 0, .string (⟨#[]⟩ : ByteArray), .int .i64 0, .int .i64 0]) ?_ 0 _ rfl; (with_reducible repeat (first | refine blk_drewN ?_ _ | refine blk_drew ?_ | refine blk_alloc ?_ _)); refine blk_far ?_ NB237_238.out _; (with_reducible repeat (first | refine blk_drewN ?_ _ | refine blk_drew ?_ | refine blk_alloc ?_ _)); refine blk_far ?_ NB237_238.out _; (with_reducible repeat (first | refine blk_drewN ?_ _ | refine blk_drew ?_ | refine blk_alloc ?_ _)); refine blk_far ?_ NB237_238.out _; (with_reducible repeat (first | refine blk_drewN ?_ _ | refine blk_drew ?_ | refine blk_alloc ?_ _)); refine blk_far ?_ NB237_238.out _; (with_reducible repeat (first | refine blk_drewN ?_ _ | refine blk_drew ?_ | refine blk_alloc ?_ _)); exact BK237.out) Try.underlying61 rfl (by kernel_rfl)) rfl ?_
  exact fin_ (below_later HB.out)

/-! ### laws_toPredS: function 9 -/
def laws_toPredS.l0 : Nat → List (S47) → List (S61) → Int → Option ((List (S61)))
  | 0, _, _, _ => none
  | k + 1, x0, x3, x4 => if x4 < (x0.length : Int) then (if 0 ≤ x4 then ((laws_toPred.f ((rd_T47 x0 x4).f0) ((rd_T47 x0 x4).f1) ((rd_T47 x0 x4).f2.f0) ((rd_T47 x0 x4).f2.f1) ((rd_T47 x0 x4).f3) ((rd_T47 x0 x4).f4)).bind fun bt245 => (if x4 < (x3.length : Int) then (laws_toPredS.l0 k x0 (x3.set (x4 : Int).toNat (⟨bt245.1, bt245.2.1, (⟨bt245.2.2.1, bt245.2.2.2.1⟩ : S59), bt245.2.2.2.2.1, bt245.2.2.2.2.2⟩ : S61)) (wrap64 (x4 + 1))) else (none))) else (none)) else (some x3)
def laws_toPredS.f (k : Nat) (l0 : List (S47)) : Option ((List (S61))) := if 0 ≤ (l0.length : Int) then (if ((l0.length : Int) : Int).toNat ≤ 5026338869833 then (laws_toPredS.l0 k l0 (List.replicate ((l0.length : Int) : Int).toNat z61) 0) else (none)) else (none)
set_option maxHeartbeats 8000000 in
set_option maxRecDepth 100000 in
theorem laws_toPredS.calls (k : Nat) (A0 : Option Addr) (c0 : Nat) (l0 : List (S47)) (r : List (S61)) (w : World) (hr0 : Kd.C k47 w A0 l0.length l0) (hc0 : l0.length ≤ c0) (h : laws_toPredS.f k l0 = some r) :
    Calls Try.prog 9 #[.slice A0 l0.length c0] w fun e w' => ∃ v0_ : Value, e = .returned (v0_) ∧ Kd.R k61 61 w' w.heap.size (fun _ => True) v0_ r ∧ Below w.heap.size w w' := by
  have hu47 := Try.underlying47
  have hu61 := Try.underlying61
  have HR0 := Aside0.mk hr0
  have HC0 := Aside0.mk hc0
  clear hr0 hc0
  have HB := Aside0.mk (Below.refl w.heap.size w)
  have H : (if 0 ≤ (l0.length : Int) then (if ((l0.length : Int) : Int).toNat ≤ 5026338869833 then (laws_toPredS.l0 k l0 (List.replicate ((l0.length : Int) : Int).toNat z61) 0) else (none)) else (none)) = some r := h
  clear h
  replace H := ifs H
  obtain ⟨c2, H⟩ := H
  have c2b0 := eq_true c2
  have c2b1 := decide_eq_true c2
  clear c2
  replace H := ifs H
  obtain ⟨c3, H⟩ := H
  have c3b0 := eq_true c3
  have c3b1 := decide_eq_true c3
  clear c3
  obtain ⟨y241, hy241⟩ : ∃ y_ : List (S61), y_ = (List.replicate ((l0.length : Int) : Int).toNat z61) := ⟨_, rfl⟩
  replace H : (laws_toPredS.l0 k l0 y241 0) = some r := by first | (rw [hy241]; with_reducible exact H) | (rw [hy241]; exact H) | exact H
  have Ny241 := Aside0.mk hy241
  clear hy241
  have H' := Aside0.mk H
  clear H
  go_enter Try.func9, Try.ntmps9
  go_wp2_with (first | ((with_reducible refine gate_dst (N := 7) rfl ?_); refine Kd.R_make k61 _ 61 rfl (N := 7) rfl 32 _ _ rfl (l0.length : Int) rfl rfl Try.underlying32 (.agg #[(.int .i64 0), (.int .i64 0), (.int .i64 0), (.string ⟨#[]⟩), (.int .i64 0), (.int .i64 0)]) 56 info61 rfl (by decide) (by omega) z61 (ok := fun _ => True) (okp := fun _ => True) (k61_mkM _ _ _ z61 ) (fun _ hk => hk) trivial (dcd) (Nat.le_trans (Nat.mul_le_mul_right _ (dcd : (l0.length : Int).toNat ≤ 5026338869833)) (by omega)) (Below.refl _ _) (Nat.le_refl _) ?_; intro v242 w4 ho5 hb hg_ hnew_; clear hg_ hnew_; (first | rw [← Ny241.out] at ho5 | (simp only [Int.reduceToNat] at ho5; rw [← Ny241.out] at ho5)); have HO243 := Aside0.mk (Kd.R_lower ho5 (below_size (below_later HB.out))); replace HB := bst HB hb; clear hb ho5))
  go_loopg [4] k (fun kq v4 w' => ∃ (x3_1 : List (S61)) (x4_1 : Int), v4 = .int .i64 x4_1 ∧ Aside0 (laws_toPredS.l0 kq l0 x3_1 x4_1 = some r) ∧ Aside0 (kq ≤ k) ∧ Aside0 (Kd.R k61 61 w' w.heap.size (fun _ => True) v242 x3_1) ∧ Aside0 (Below w.heap.size w w'))
  case atStart => exact ⟨(y241), (0), sr, H', ⟨Nat.le_refl _⟩, ⟨R_later HO243.out⟩, ⟨below_later HB.out⟩⟩
  case round =>
    clear H'
    try clear c2
    try clear c2b0
    try clear c2b1
    try clear c3
    try clear c3b0
    try clear c3b1
    obtain ⟨x3_1, x4_1, rfl, HA, HK1, HO_3, HB⟩ := hrel
    cases gk with
    | zero => exact absurd HA.out (by simp [laws_toPredS.l0])
    | succ k1 =>
      have H := HA.out
      clear HA
      simp only [laws_toPredS.l0] at H
      by_cases c6 : x4_1 < (l0.length : Int)
      · rw [if_pos c6] at H
        have c6b0 := decide_eq_true c6
        clear c6
        replace H := ifd H
        obtain ⟨c7b0, H⟩ := H
        replace H := Option.bind_eq_some_iff.mp H
        obtain ⟨⟨t245, t246, t247, t248, t249, t250⟩, A80, H⟩ := H
        replace H : (if x4_1 < (x3_1.length : Int) then (laws_toPredS.l0 k1 l0 (x3_1.set (x4_1 : Int).toNat (⟨t245, t246, (⟨t247, t248⟩ : S59), t249, t250⟩ : S61)) (wrap64 (x4_1 + 1))) else (none)) = some r := H
        have A8 := Aside0.mk A80
        clear A80
        replace H := ifd H
        obtain ⟨c9b0, H⟩ := H
        obtain ⟨y251, hy251⟩ : ∃ y_ : List (S61), y_ = (x3_1.set (x4_1 : Int).toNat (⟨t245, t246, (⟨t247, t248⟩ : S59), t249, t250⟩ : S61)) := ⟨_, rfl⟩
        replace H : (laws_toPredS.l0 k1 l0 y251 (wrap64 (x4_1 + 1))) = some r := by first | (rw [hy251]; with_reducible exact H) | (rw [hy251]; exact H) | exact H
        have Ny251 := Aside0.mk hy251
        clear hy251
        have H' := Aside0.mk H
        clear H
        have p244 : 0 ≤ (x4_1 : Int) := dcd
        have q244 : x4_1 < (l0.length : Int) := dcd
        obtain ⟨ad244, e244, hx244_0, hx244_1, hx244_2, hx244_3, hx244_4, hx244_5⟩ := at_T47 HR0.out x4_1 p244 q244
        cases e244
        replace hx244_0 := crd HB hx244_0
        replace hx244_1 := crd HB hx244_1
        replace hx244_2 := crd HB hx244_2
        replace hx244_3 := crd HB hx244_3
        replace hx244_4 := crd HB hx244_4
        replace hx244_5 := crd HB hx244_5
        replace p244 := eq_true p244
        replace q244 := eq_true q244
        go_wp2_with (first | ((with_reducible refine gate_callee (f := 22) rfl ?_); refine gl_ (some 20) Try.func22 #[.agg #[.int .i64 ((rd_T47 l0 x4_1).f0), .int .i64 ((rd_T47 l0 x4_1).f1), .int .i64 ((rd_T47 l0 x4_1).f2.f0), .string ((rd_T47 l0 x4_1).f2.f1), .int .i64 ((rd_T47 l0 x4_1).f3), .int .i64 ((rd_T47 l0 x4_1).f4)]] rfl ?_; (with_reducible refine (laws_toPred.calls ((rd_T47 l0 x4_1).f0) ((rd_T47 l0 x4_1).f1) ((rd_T47 l0 x4_1).f2.f0) ((rd_T47 l0 x4_1).f2.f1) ((rd_T47 l0 x4_1).f3) ((rd_T47 l0 x4_1).f4) t245 t246 t247 t248 t249 t250 _ A8.out).mono ?_); rintro e w11 ⟨rfl, hb⟩; refine ⟨_, rfl, ?_⟩; replace HO_3 := Aside0.mk (Kd.R_below (R_later HO_3.out) hb); replace HB := bst HB hb; (try clear hb); (try clear hk); have p10 : 0 ≤ (x4_1 : Int) := dcd; have q10 : (x4_1 : Int) < ((x3_1.length : Int) : Int) := dcd; obtain ⟨go10, co10, eo10, gb10, gl10, cl10, HG10⟩ := Kd.R_form HO_3.out (by omega); (first | cases eo10 | (injection eo10 with ea_ en_ ec_; (first | subst ea_ | (injection ea_ with ea_; subst ea_)); subst ec_; clear en_)); have GB10 := Aside0.mk gb10; have GG10 := Aside0.mk HG10; clear gb10 gl10 HG10; obtain ⟨ce10, hcl10, hM10, hcc10, hfr10⟩ := Kd.R_elem HO_3.out z61 (x4_1 : Int) p10 q10; obtain rfl := k61_openM hM10; have hx10_0 : w11.cell? ⟨go10, (x4_1 : Int).toNat * 6, none⟩ = some (.int .i64 ((rd_T61 x3_1 x4_1).f0)) := hcc10 0 _ rfl; have hx10_1 : w11.cell? ⟨go10, (x4_1 : Int).toNat * 6 + 1, none⟩ = some (.int .i64 ((rd_T61 x3_1 x4_1).f1)) := hcc10 1 _ rfl; have hx10_2 : w11.cell? ⟨go10, (x4_1 : Int).toNat * 6 + 2, none⟩ = some (.int .i64 ((rd_T61 x3_1 x4_1).f2.f0)) := hcc10 2 _ rfl; have hx10_3 : w11.cell? ⟨go10, (x4_1 : Int).toNat * 6 + 3, none⟩ = some (.string ((rd_T61 x3_1 x4_1).f2.f1)) := hcc10 3 _ rfl; have hx10_4 : w11.cell? ⟨go10, (x4_1 : Int).toNat * 6 + 4, none⟩ = some (.int .i64 ((rd_T61 x3_1 x4_1).f3)) := hcc10 4 _ rfl; have hx10_5 : w11.cell? ⟨go10, (x4_1 : Int).toNat * 6 + 5, none⟩ = some (.int .i64 ((rd_T61 x3_1 x4_1).f4)) := hcc10 5 _ rfl; have hf10_0 : w11.frozen? ⟨go10, (x4_1 : Int).toNat * 6, none⟩ = false := hfr10 0; have hf10_1 : w11.frozen? ⟨go10, (x4_1 : Int).toNat * 6 + 1, none⟩ = false := hfr10 1; have hf10_2 : w11.frozen? ⟨go10, (x4_1 : Int).toNat * 6 + 2, none⟩ = false := hfr10 2; have hf10_3 : w11.frozen? ⟨go10, (x4_1 : Int).toNat * 6 + 3, none⟩ = false := hfr10 3; have hf10_4 : w11.frozen? ⟨go10, (x4_1 : Int).toNat * 6 + 4, none⟩ = false := hfr10 4; have hf10_5 : w11.frozen? ⟨go10, (x4_1 : Int).toNat * 6 + 5, none⟩ = false := hfr10 5; clear hcl10 hcc10 hfr10 hM10; replace p10 := eq_true p10; replace q10 := eq_true q10; have HX12 := Aside0.mk (show Kd.R k61 61 w11 w.heap.size (fun _ => True) (.slice (some ⟨go10, 0, none⟩) x3_1.length co10) x3_1 from (R_later HO_3.out)); obtain ⟨ce12, hcl12, hM12, hcc12, hfr12⟩ := Kd.R_elem HX12.out z61 (x4_1 : Int) (dcd) (by have h_ : (x4_1 : Int) < ((x3_1.length : Int) : Int) := dcd; first | exact h_ | (have e_ := (Kd.R_reads' HO_3.out).1; omega) | simpa using h_); obtain rfl := k61_openM hM12; have HP12 := Kd.R_seg HX12.out (x4_1 : Int) (dcd) (by have h_ : (x4_1 : Int) < ((x3_1.length : Int) : Int) := dcd; first | exact h_ | (have e_ := (Kd.R_reads' HO_3.out).1; omega) | simpa using h_) (seg := [.int .i64 t245, .int .i64 t246, .int .i64 t247, .string t248, .int .i64 t249, .int .i64 t250]) (j := 0) hcl12 hcc12 (show 6 ≤ 6 from by decide) (x' := (⟨t245, t246, (⟨t247, t248⟩ : S59), t249, t250⟩ : S61)) (k61_mkM _ _ _ (⟨t245, t246, (⟨t247, t248⟩ : S59), t249, t250⟩ : S61) ) (fun _ hk => hk); have hx12_0 := hcc12 0 _ rfl; (try simp only [show (k61).sz = 6 from rfl, Nat.mul_one, Nat.add_zero] at hx12_0); have hf12_0 := hfr12 0; (try simp only [show (k61).sz = 6 from rfl, Nat.mul_one, Nat.add_zero] at hf12_0); have hx12_1 := hcc12 1 _ rfl; (try simp only [show (k61).sz = 6 from rfl, Nat.mul_one, Nat.add_zero] at hx12_1); have hf12_1 := hfr12 1; (try simp only [show (k61).sz = 6 from rfl, Nat.mul_one, Nat.add_zero] at hf12_1); have hx12_2 := hcc12 2 _ rfl; (try simp only [show (k61).sz = 6 from rfl, Nat.mul_one, Nat.add_zero] at hx12_2); have hf12_2 := hfr12 2; (try simp only [show (k61).sz = 6 from rfl, Nat.mul_one, Nat.add_zero] at hf12_2); have hx12_3 := hcc12 3 _ rfl; (try simp only [show (k61).sz = 6 from rfl, Nat.mul_one, Nat.add_zero] at hx12_3); have hf12_3 := hfr12 3; (try simp only [show (k61).sz = 6 from rfl, Nat.mul_one, Nat.add_zero] at hf12_3); have hx12_4 := hcc12 4 _ rfl; (try simp only [show (k61).sz = 6 from rfl, Nat.mul_one, Nat.add_zero] at hx12_4); have hf12_4 := hfr12 4; (try simp only [show (k61).sz = 6 from rfl, Nat.mul_one, Nat.add_zero] at hf12_4); have hx12_5 := hcc12 5 _ rfl; (try simp only [show (k61).sz = 6 from rfl, Nat.mul_one, Nat.add_zero] at hx12_5); have hf12_5 := hfr12 5; (try simp only [show (k61).sz = 6 from rfl, Nat.mul_one, Nat.add_zero] at hf12_5); clear hcl12 hcc12 hfr12 hM12) | ((with_reducible refine gate_store (t := 61) (p := 21) rfl ?_); refine st_ 61 21 ((((((w11.setCell ⟨go10, (x4_1 : Int).toNat * 6, none⟩ (.int .i64 t245)).setCell ⟨go10, (x4_1 : Int).toNat * 6 + 1, none⟩ (.int .i64 t246)).setCell ⟨go10, (x4_1 : Int).toNat * 6 + 2, none⟩ (.int .i64 t247)).setCell ⟨go10, (x4_1 : Int).toNat * 6 + 3, none⟩ (.string t248)).setCell ⟨go10, (x4_1 : Int).toNat * 6 + 4, none⟩ (.int .i64 t249)).setCell ⟨go10, (x4_1 : Int).toNat * 6 + 5, none⟩ (.int .i64 t250)) ?_; intro w13 hw; have hg : w11.grownBy w13 (some go10) := (by rw [hw]; exact HP12.2); have hp_ : Kd.R k61 61 w13 w.heap.size (fun _ => True) (.slice (some ⟨go10, 0, none⟩) x3_1.length co10) y251 := (by rw [hw, Ny251.out]; exact HP12.1); clear HP12; replace HO_3 := Aside0.mk (hp_); replace HB := Aside0.mk ((by rw [hw]; exact below_set (below_set (below_set (below_set (below_set (below_set (HB.out) GB10.out) GB10.out) GB10.out) GB10.out) GB10.out) GB10.out : Below w.heap.size w w13)); clear hg hw hp_))
        go_roundg k1
        case measure => have := HK1.out; omega
        case rel => exact ⟨(y251), (wrap64 (x4_1 + 1)), sr, H', ⟨by have := HK1.out; omega⟩, ⟨R_later HO_3.out⟩, ⟨below_later HB.out⟩⟩
      · rw [if_neg c6] at H
        have c6b0 := decide_eq_false c6
        clear c6
        obtain rfl := Option.some.inj H
        go_wp2
        go_ret
        exact ⟨_, by first | rfl | (simp [errW_none, errW_some] <;> rfl) | (simp [*, errW_none, errW_some] <;> rfl), by (with_reducible repeat (first | apply Kd.R_alloc | apply Kd.R_drewN | apply Kd.R_drew)); exact HO_3.out, below_later HB.out⟩
/-! ### laws_toStats: function 40 -/
def laws_toStats.f (a0_0 : Int) (a0_1 : Bool) (a0_2 : Int) (a0_3 : ByteArray) (a0_4 : Int) (a0_5 : ByteArray) : Option (Int × Bool × Int × ByteArray × Int × ByteArray) := (laws_toVal.f a0_2 a0_3).bind fun bt255 => ((laws_toVal.f a0_4 a0_5).bind fun bt257 => (some (a0_0, a0_1, bt255.1, bt255.2, bt257.1, bt257.2)))
set_option maxHeartbeats 8000000 in
set_option maxRecDepth 100000 in
theorem laws_toStats.calls (a0_0 : Int) (a0_1 : Bool) (a0_2 : Int) (a0_3 : ByteArray) (a0_4 : Int) (a0_5 : ByteArray) (r1 : Int) (r2 : Bool) (r3 : Int) (r4 : ByteArray) (r5 : Int) (r6 : ByteArray) (w : World) (h : laws_toStats.f a0_0 a0_1 a0_2 a0_3 a0_4 a0_5 = some (r1, r2, r3, r4, r5, r6)) :
    Calls Try.prog 40 #[.agg #[.int .i64 a0_0, .bool a0_1, .int .i64 a0_2, .string a0_3, .int .i64 a0_4, .string a0_5]] w fun e w' => e = .returned (.agg #[.int .i64 r1, .bool r2, .int .i64 r3, .string r4, .int .i64 r5, .string r6]) ∧ Below w.heap.size w w' := by
  have hu50 := Try.underlying50
  have hu64 := Try.underlying64
  have hu45 := Try.underlying45
  have hu59 := Try.underlying59
  have HB := Aside0.mk (Below.refl w.heap.size w)
  have H : ((laws_toVal.f a0_2 a0_3).bind fun bt255 => ((laws_toVal.f a0_4 a0_5).bind fun bt257 => (some (a0_0, a0_1, bt255.1, bt255.2, bt257.1, bt257.2)))) = some (r1, r2, r3, r4, r5, r6) := h
  clear h
  replace H := Option.bind_eq_some_iff.mp H
  obtain ⟨⟨t255, t256⟩, A20, H⟩ := H
  replace H : ((laws_toVal.f a0_4 a0_5).bind fun bt257 => (some (a0_0, a0_1, t255, t256, bt257.1, bt257.2))) = some (r1, r2, r3, r4, r5, r6) := H
  have A2 := Aside0.mk A20
  clear A20
  replace H := Option.bind_eq_some_iff.mp H
  obtain ⟨⟨t257, t258⟩, A30, H⟩ := H
  replace H : (some (a0_0, a0_1, t255, t256, t257, t258)) = some (r1, r2, r3, r4, r5, r6) := H
  have A3 := Aside0.mk A30
  clear A30
  simp only [Option.some.injEq, Prod.mk.injEq] at H
  obtain ⟨rfl, rfl, rfl, rfl, rfl, rfl⟩ := H
  go_enter Try.func40, Try.ntmps40
  go_wp2_with (first | ((with_reducible refine gate_dst (N := 1) rfl ?_); refine bx_ 1 #[.int .i64 a0_0, .bool a0_1, .int .i64 a0_2, .string a0_3, .int .i64 a0_4, .string a0_5] 50 ?_; intro gb252 hg w4 hbox hb; have BK252 := Aside0.mk (hbox); have GW252 := gwe HB hg; have GE252 := GW252; replace HB := bst HB hb; clear hb hbox hg) | ((with_reducible refine gate_dst (N := 2) rfl ?_); refine bx_ 2 #[.int .i64 0, .bool false, .int .i64 0, .string (⟨#[]⟩ : ByteArray), .int .i64 0, .string (⟨#[]⟩ : ByteArray)] 64 ?_; intro gb253 hg w5 hbox hb; have BK253 := Aside0.mk (hbox); have GW253 := gwe HB hg; have GE253 := GW253; have NB252_253 := nbl BK252 hg; have NB253_252 := nbr (nbl BK252 hg); replace BK252 := bkb BK252 hb; replace HB := bst HB hb; clear hb hbox hg) | ((with_reducible refine gate_dst (N := 3) rfl ?_); refine bx_ 3 #[.int .i64 0, .bool false, .int .i64 0, .string (⟨#[]⟩ : ByteArray), .int .i64 0, .string (⟨#[]⟩ : ByteArray)] 64 ?_; intro gb254 hg w6 hbox hb; have BK254 := Aside0.mk (hbox); have GW254 := gwe HB hg; have GE254 := GW254; have NB252_254 := nbl BK252 hg; have NB254_252 := nbr (nbl BK252 hg); have NB253_254 := nbl BK253 hg; have NB254_253 := nbr (nbl BK253 hg); replace BK252 := bkb BK252 hb; replace BK253 := bkb BK253 hb; replace HB := bst HB hb; clear hb hbox hg; have hnb7 := NB252_253.out; have hnc7 := NB253_252.out; have hnb8 := NB252_254.out; have hnc8 := NB254_252.out; obtain ⟨hcz9_0, hcz9_1, hcz9_2, hcz9_3, hcz9_4, hcz9_5, hfz9_0, hfz9_1, hfz9_2, hfz9_3, hfz9_4, hfz9_5⟩ := cl6 BK252; have hnb10 := NB254_253.out; have hnc10 := NB253_254.out; obtain ⟨hcz11_0, hcz11_1, hcz11_2, hcz11_3, hcz11_4, hcz11_5, hfz11_0, hfz11_1, hfz11_2, hfz11_3, hfz11_4, hfz11_5⟩ := cl6 BK254) | ((with_reducible refine gate_callee (f := 39) rfl ?_); refine gl_ (some 12) Try.func39 #[.agg #[.int .i64 a0_2, .string a0_3]] rfl ?_; (with_reducible refine (laws_toVal.calls a0_2 a0_3 t255 t256 _ A2.out).mono ?_); rintro e w12 ⟨rfl, hb⟩; refine ⟨_, rfl, ?_⟩; replace BK252 := bkb BK252 hb; replace BK253 := bkb BK253 hb; replace BK254 := Aside0.mk (blk_below (g := gb254) (o := .cells #[.int .i64 a0_0, .bool a0_1, .int .i64 0, .string (⟨#[]⟩ : ByteArray), .int .i64 0, .string (⟨#[]⟩ : ByteArray)] 64 (0, 0)) (blk_later BK254.out) hb); replace HB := bst HB hb; (try clear hb); obtain ⟨hcz13_0, hcz13_1, hcz13_2, hcz13_3, hcz13_4, hcz13_5, hfz13_0, hfz13_1, hfz13_2, hfz13_3, hfz13_4, hfz13_5⟩ := cl6 BK254; obtain ⟨hcz14_0, hcz14_1, hcz14_2, hcz14_3, hcz14_4, hcz14_5, hfz14_0, hfz14_1, hfz14_2, hfz14_3, hfz14_4, hfz14_5⟩ := cl6 BK252) | ((with_reducible refine gate_callee (f := 39) rfl ?_); refine gl_ (some 16) Try.func39 #[.agg #[.int .i64 a0_4, .string a0_5]] rfl ?_; (with_reducible refine (laws_toVal.calls a0_4 a0_5 t257 t258 _ A3.out).mono ?_); rintro e w15 ⟨rfl, hb⟩; refine ⟨_, rfl, ?_⟩; replace BK252 := bkb BK252 hb; replace BK253 := bkb BK253 hb; replace BK254 := Aside0.mk (blk_below (g := gb254) (o := .cells #[.int .i64 a0_0, .bool a0_1, .int .i64 t255, .string t256, .int .i64 0, .string (⟨#[]⟩ : ByteArray)] 64 (0, 0)) (blk_later BK254.out) hb); replace HB := bst HB hb; (try clear hb); obtain ⟨hcz16_0, hcz16_1, hcz16_2, hcz16_3, hcz16_4, hcz16_5, hfz16_0, hfz16_1, hfz16_2, hfz16_3, hfz16_4, hfz16_5⟩ := cl6 BK254; obtain ⟨hcz17_0, hcz17_1, hcz17_2, hcz17_3, hcz17_4, hcz17_5, hfz17_0, hfz17_1, hfz17_2, hfz17_3, hfz17_4, hfz17_5⟩ := cl6 BK253))
  refine bodyPost_ret (results_cell_row rfl _ _ gb253 64 #[.int .i64 a0_0, .bool a0_1, .int .i64 t255, .string t256, .int .i64 t257, .string t258] (0, 0) _ rfl (by (with_reducible repeat (first | refine blk_drewN ?_ _ | refine blk_drew ?_ | refine blk_alloc ?_ _)); refine blk_put (cs := #[.int .i64 a0_0, .bool a0_1, .int .i64 t255, .string t256, .int .i64 t257, .string (⟨#[]⟩ : ByteArray)]) ?_ 5 _ rfl; (with_reducible repeat (first | refine blk_drewN ?_ _ | refine blk_drew ?_ | refine blk_alloc ?_ _)); refine blk_put (cs := #[.int .i64 a0_0, .bool a0_1, .int .i64 t255, .string t256, .int .i64 0, .string (⟨#[]⟩ : ByteArray)]) ?_ 4 _ rfl; (with_reducible repeat (first | refine blk_drewN ?_ _ | refine blk_drew ?_ | refine blk_alloc ?_ _)); refine blk_put (cs := #[.int .i64 a0_0, .bool a0_1, .int .i64 t255, .string (⟨#[]⟩ : ByteArray), .int .i64 0, .string (⟨#[]⟩ : ByteArray)]) ?_ 3 _ rfl; (with_reducible repeat (first | refine blk_drewN ?_ _ | refine blk_drew ?_ | refine blk_alloc ?_ _)); refine blk_put (cs := #[.int .i64 a0_0, .bool a0_1, .int .i64 0, .string (⟨#[]⟩ : ByteArray), .int .i64 0, .string (⟨#[]⟩ : ByteArray)]) ?_ 2 _ rfl; (with_reducible repeat (first | refine blk_drewN ?_ _ | refine blk_drew ?_ | refine blk_alloc ?_ _)); refine blk_put (cs := #[.int .i64 a0_0, .bool false, .int .i64 0, .string (⟨#[]⟩ : ByteArray), .int .i64 0, .string (⟨#[]⟩ : ByteArray)]) ?_ 1 _ rfl; (with_reducible repeat (first | refine blk_drewN ?_ _ | refine blk_drew ?_ | refine blk_alloc ?_ _)); refine blk_put (cs := #[.int .i64 0, .bool false, .int .i64 0, .string (⟨#[]⟩ : ByteArray), .int .i64 0, .string (⟨#[]⟩ : ByteArray)]) ?_ 0 _ rfl; (with_reducible repeat (first | refine blk_drewN ?_ _ | refine blk_drew ?_ | refine blk_alloc ?_ _)); refine blk_far ?_ NB253_254.out _; (with_reducible repeat (first | refine blk_drewN ?_ _ | refine blk_drew ?_ | refine blk_alloc ?_ _)); refine blk_far ?_ NB253_254.out _; (with_reducible repeat (first | refine blk_drewN ?_ _ | refine blk_drew ?_ | refine blk_alloc ?_ _)); exact BK253.out) Try.underlying64 rfl (by kernel_rfl)) rfl ?_
  exact fin_ (below_later HB.out)

/-! ### laws_toKnown: function 23 -/
def laws_toKnown.f (a0_0 : Bool) (a0_1 : Int) (a0_2 : Bool) (a0_3 : Int) (a0_4 : ByteArray) (a0_5 : Int) (a0_6 : ByteArray) : Option (Bool × Int × Bool × Int × ByteArray × Int × ByteArray) := (laws_toStats.f a0_1 a0_2 a0_3 a0_4 a0_5 a0_6).bind fun bt262 => (some (a0_0, bt262.1, bt262.2.1, bt262.2.2.1, bt262.2.2.2.1, bt262.2.2.2.2.1, bt262.2.2.2.2.2))
set_option maxHeartbeats 8000000 in
set_option maxRecDepth 100000 in
theorem laws_toKnown.calls (a0_0 : Bool) (a0_1 : Int) (a0_2 : Bool) (a0_3 : Int) (a0_4 : ByteArray) (a0_5 : Int) (a0_6 : ByteArray) (r1 : Bool) (r2 : Int) (r3 : Bool) (r4 : Int) (r5 : ByteArray) (r6 : Int) (r7 : ByteArray) (w : World) (h : laws_toKnown.f a0_0 a0_1 a0_2 a0_3 a0_4 a0_5 a0_6 = some (r1, r2, r3, r4, r5, r6, r7)) :
    Calls Try.prog 23 #[.agg #[.bool a0_0, .int .i64 a0_1, .bool a0_2, .int .i64 a0_3, .string a0_4, .int .i64 a0_5, .string a0_6]] w fun e w' => e = .returned (.agg #[.bool r1, .int .i64 r2, .bool r3, .int .i64 r4, .string r5, .int .i64 r6, .string r7]) ∧ Below w.heap.size w w' := by
  have hu52 := Try.underlying52
  have hu66 := Try.underlying66
  have hu50 := Try.underlying50
  have hu64 := Try.underlying64
  have HB := Aside0.mk (Below.refl w.heap.size w)
  have H : ((laws_toStats.f a0_1 a0_2 a0_3 a0_4 a0_5 a0_6).bind fun bt262 => (some (a0_0, bt262.1, bt262.2.1, bt262.2.2.1, bt262.2.2.2.1, bt262.2.2.2.2.1, bt262.2.2.2.2.2))) = some (r1, r2, r3, r4, r5, r6, r7) := h
  clear h
  replace H := Option.bind_eq_some_iff.mp H
  obtain ⟨⟨t262, t263, t264, t265, t266, t267⟩, A20, H⟩ := H
  replace H : (some (a0_0, t262, t263, t264, t265, t266, t267)) = some (r1, r2, r3, r4, r5, r6, r7) := H
  have A2 := Aside0.mk A20
  clear A20
  simp only [Option.some.injEq, Prod.mk.injEq] at H
  obtain ⟨rfl, rfl, rfl, rfl, rfl, rfl, rfl⟩ := H
  go_enter Try.func23, Try.ntmps23
  go_wp2_with (first | ((with_reducible refine gate_dst (N := 1) rfl ?_); refine bx_ 1 #[.bool a0_0, .int .i64 a0_1, .bool a0_2, .int .i64 a0_3, .string a0_4, .int .i64 a0_5, .string a0_6] 52 ?_; intro gb259 hg w3 hbox hb; have BK259 := Aside0.mk (hbox); have GW259 := gwe HB hg; have GE259 := GW259; replace HB := bst HB hb; clear hb hbox hg) | ((with_reducible refine gate_dst (N := 2) rfl ?_); refine bx_ 2 #[.bool false, .int .i64 0, .bool false, .int .i64 0, .string (⟨#[]⟩ : ByteArray), .int .i64 0, .string (⟨#[]⟩ : ByteArray)] 66 ?_; intro gb260 hg w4 hbox hb; have BK260 := Aside0.mk (hbox); have GW260 := gwe HB hg; have GE260 := GW260; have NB259_260 := nbl BK259 hg; have NB260_259 := nbr (nbl BK259 hg); replace BK259 := bkb BK259 hb; replace HB := bst HB hb; clear hb hbox hg) | ((with_reducible refine gate_dst (N := 3) rfl ?_); refine bx_ 3 #[.bool false, .int .i64 0, .bool false, .int .i64 0, .string (⟨#[]⟩ : ByteArray), .int .i64 0, .string (⟨#[]⟩ : ByteArray)] 66 ?_; intro gb261 hg w5 hbox hb; have BK261 := Aside0.mk (hbox); have GW261 := gwe HB hg; have GE261 := GW261; have NB259_261 := nbl BK259 hg; have NB261_259 := nbr (nbl BK259 hg); have NB260_261 := nbl BK260 hg; have NB261_260 := nbr (nbl BK260 hg); replace BK259 := bkb BK259 hb; replace BK260 := bkb BK260 hb; replace HB := bst HB hb; clear hb hbox hg; have hnb6 := NB259_260.out; have hnc6 := NB260_259.out; have hnb7 := NB259_261.out; have hnc7 := NB261_259.out; obtain ⟨hcz8_0, hcz8_1, hcz8_2, hcz8_3, hcz8_4, hcz8_5, hcz8_6, hfz8_0, hfz8_1, hfz8_2, hfz8_3, hfz8_4, hfz8_5, hfz8_6⟩ := cl7 BK259; have hnb9 := NB261_260.out; have hnc9 := NB260_261.out; obtain ⟨hcz10_0, hcz10_1, hcz10_2, hcz10_3, hcz10_4, hcz10_5, hcz10_6, hfz10_0, hfz10_1, hfz10_2, hfz10_3, hfz10_4, hfz10_5, hfz10_6⟩ := cl7 BK261) | ((with_reducible refine gate_callee (f := 40) rfl ?_); refine gl_ (some 9) Try.func40 #[.agg #[.int .i64 a0_1, .bool a0_2, .int .i64 a0_3, .string a0_4, .int .i64 a0_5, .string a0_6]] rfl ?_; (with_reducible refine (laws_toStats.calls a0_1 a0_2 a0_3 a0_4 a0_5 a0_6 t262 t263 t264 t265 t266 t267 _ A2.out).mono ?_); rintro e w11 ⟨rfl, hb⟩; refine ⟨_, rfl, ?_⟩; replace BK259 := bkb BK259 hb; replace BK260 := bkb BK260 hb; replace BK261 := Aside0.mk (blk_below (g := gb261) (o := .cells #[.bool a0_0, .int .i64 0, .bool false, .int .i64 0, .string (⟨#[]⟩ : ByteArray), .int .i64 0, .string (⟨#[]⟩ : ByteArray)] 66 (0, 0)) (blk_later BK261.out) hb); replace HB := bst HB hb; (try clear hb); obtain ⟨hcz12_0, hcz12_1, hcz12_2, hcz12_3, hcz12_4, hcz12_5, hcz12_6, hfz12_0, hfz12_1, hfz12_2, hfz12_3, hfz12_4, hfz12_5, hfz12_6⟩ := cl7 BK261; obtain ⟨hcz13_0, hcz13_1, hcz13_2, hcz13_3, hcz13_4, hcz13_5, hcz13_6, hfz13_0, hfz13_1, hfz13_2, hfz13_3, hfz13_4, hfz13_5, hfz13_6⟩ := cl7 BK260))
  refine bodyPost_ret (results_cell_row rfl _ _ gb260 66 #[.bool a0_0, .int .i64 t262, .bool t263, .int .i64 t264, .string t265, .int .i64 t266, .string t267] (0, 0) _ rfl (by (with_reducible repeat (first | refine blk_drewN ?_ _ | refine blk_drew ?_ | refine blk_alloc ?_ _)); refine blk_put (cs := #[.bool a0_0, .int .i64 t262, .bool t263, .int .i64 t264, .string t265, .int .i64 t266, .string (⟨#[]⟩ : ByteArray)]) ?_ 6 _ rfl; (with_reducible repeat (first | refine blk_drewN ?_ _ | refine blk_drew ?_ | refine blk_alloc ?_ _)); refine blk_put (cs := #[.bool a0_0, .int .i64 t262, .bool t263, .int .i64 t264, .string t265, .int .i64 0, .string (⟨#[]⟩ : ByteArray)]) ?_ 5 _ rfl; (with_reducible repeat (first | refine blk_drewN ?_ _ | refine blk_drew ?_ | refine blk_alloc ?_ _)); refine blk_put (cs := #[.bool a0_0, .int .i64 t262, .bool t263, .int .i64 t264, .string (⟨#[]⟩ : ByteArray), .int .i64 0, .string (⟨#[]⟩ : ByteArray)]) ?_ 4 _ rfl; (with_reducible repeat (first | refine blk_drewN ?_ _ | refine blk_drew ?_ | refine blk_alloc ?_ _)); refine blk_put (cs := #[.bool a0_0, .int .i64 t262, .bool t263, .int .i64 0, .string (⟨#[]⟩ : ByteArray), .int .i64 0, .string (⟨#[]⟩ : ByteArray)]) ?_ 3 _ rfl; (with_reducible repeat (first | refine blk_drewN ?_ _ | refine blk_drew ?_ | refine blk_alloc ?_ _)); refine blk_put (cs := #[.bool a0_0, .int .i64 t262, .bool false, .int .i64 0, .string (⟨#[]⟩ : ByteArray), .int .i64 0, .string (⟨#[]⟩ : ByteArray)]) ?_ 2 _ rfl; (with_reducible repeat (first | refine blk_drewN ?_ _ | refine blk_drew ?_ | refine blk_alloc ?_ _)); refine blk_put (cs := #[.bool a0_0, .int .i64 0, .bool false, .int .i64 0, .string (⟨#[]⟩ : ByteArray), .int .i64 0, .string (⟨#[]⟩ : ByteArray)]) ?_ 1 _ rfl; (with_reducible repeat (first | refine blk_drewN ?_ _ | refine blk_drew ?_ | refine blk_alloc ?_ _)); refine blk_put (cs := #[.bool false, .int .i64 0, .bool false, .int .i64 0, .string (⟨#[]⟩ : ByteArray), .int .i64 0, .string (⟨#[]⟩ : ByteArray)]) ?_ 0 _ rfl; (with_reducible repeat (first | refine blk_drewN ?_ _ | refine blk_drew ?_ | refine blk_alloc ?_ _)); refine blk_far ?_ NB260_261.out _; (with_reducible repeat (first | refine blk_drewN ?_ _ | refine blk_drew ?_ | refine blk_alloc ?_ _)); refine blk_far ?_ NB260_261.out _; (with_reducible repeat (first | refine blk_drewN ?_ _ | refine blk_drew ?_ | refine blk_alloc ?_ _)); refine blk_far ?_ NB260_261.out _; (with_reducible repeat (first | refine blk_drewN ?_ _ | refine blk_drew ?_ | refine blk_alloc ?_ _)); refine blk_far ?_ NB260_261.out _; (with_reducible repeat (first | refine blk_drewN ?_ _ | refine blk_drew ?_ | refine blk_alloc ?_ _)); refine blk_far ?_ NB260_261.out _; (with_reducible repeat (first | refine blk_drewN ?_ _ | refine blk_drew ?_ | refine blk_alloc ?_ _)); refine blk_far ?_ NB260_261.out _; (with_reducible repeat (first | refine blk_drewN ?_ _ | refine blk_drew ?_ | refine blk_alloc ?_ _)); exact BK260.out) Try.underlying66 rfl (by kernel_rfl)) rfl ?_
  exact fin_ (below_later HB.out)

/-! ### laws_toKnownS: function 10 -/
def laws_toKnownS.l0 : Nat → List (S52) → List (S66) → Int → Option ((List (S66)))
  | 0, _, _, _ => none
  | k + 1, x0, x3, x4 => if x4 < (x0.length : Int) then (if 0 ≤ x4 then ((laws_toKnown.f ((rd_T52 x0 x4).f0) ((rd_T52 x0 x4).f1.f0) ((rd_T52 x0 x4).f1.f1) ((rd_T52 x0 x4).f1.f2.f0) ((rd_T52 x0 x4).f1.f2.f1) ((rd_T52 x0 x4).f1.f3.f0) ((rd_T52 x0 x4).f1.f3.f1)).bind fun bt272 => (if x4 < (x3.length : Int) then (laws_toKnownS.l0 k x0 (x3.set (x4 : Int).toNat (⟨bt272.1, (⟨bt272.2.1, bt272.2.2.1, (⟨bt272.2.2.2.1, bt272.2.2.2.2.1⟩ : S59), (⟨bt272.2.2.2.2.2.1, bt272.2.2.2.2.2.2⟩ : S59)⟩ : S64)⟩ : S66)) (wrap64 (x4 + 1))) else (none))) else (none)) else (some x3)
def laws_toKnownS.f (k : Nat) (l0 : List (S52)) : Option ((List (S66))) := if 0 ≤ (l0.length : Int) then (if ((l0.length : Int) : Int).toNat ≤ 3909374676536 then (laws_toKnownS.l0 k l0 (List.replicate ((l0.length : Int) : Int).toNat z66) 0) else (none)) else (none)
set_option maxHeartbeats 8000000 in
set_option maxRecDepth 100000 in
theorem laws_toKnownS.calls (k : Nat) (A0 : Option Addr) (c0 : Nat) (l0 : List (S52)) (r : List (S66)) (w : World) (hr0 : Kd.C k52 w A0 l0.length l0) (hc0 : l0.length ≤ c0) (h : laws_toKnownS.f k l0 = some r) :
    Calls Try.prog 10 #[.slice A0 l0.length c0] w fun e w' => ∃ v0_ : Value, e = .returned (v0_) ∧ Kd.R k66 66 w' w.heap.size (fun _ => True) v0_ r ∧ Below w.heap.size w w' := by
  have hu52 := Try.underlying52
  have hu66 := Try.underlying66
  have HR0 := Aside0.mk hr0
  have HC0 := Aside0.mk hc0
  clear hr0 hc0
  have HB := Aside0.mk (Below.refl w.heap.size w)
  have H : (if 0 ≤ (l0.length : Int) then (if ((l0.length : Int) : Int).toNat ≤ 3909374676536 then (laws_toKnownS.l0 k l0 (List.replicate ((l0.length : Int) : Int).toNat z66) 0) else (none)) else (none)) = some r := h
  clear h
  replace H := ifs H
  obtain ⟨c2, H⟩ := H
  have c2b0 := eq_true c2
  have c2b1 := decide_eq_true c2
  clear c2
  replace H := ifs H
  obtain ⟨c3, H⟩ := H
  have c3b0 := eq_true c3
  have c3b1 := decide_eq_true c3
  clear c3
  obtain ⟨y268, hy268⟩ : ∃ y_ : List (S66), y_ = (List.replicate ((l0.length : Int) : Int).toNat z66) := ⟨_, rfl⟩
  replace H : (laws_toKnownS.l0 k l0 y268 0) = some r := by first | (rw [hy268]; with_reducible exact H) | (rw [hy268]; exact H) | exact H
  have Ny268 := Aside0.mk hy268
  clear hy268
  have H' := Aside0.mk H
  clear H
  go_enter Try.func10, Try.ntmps10
  go_wp2_with (first | ((with_reducible refine gate_dst (N := 7) rfl ?_); refine Kd.R_make k66 _ 66 rfl (N := 7) rfl 34 _ _ rfl (l0.length : Int) rfl rfl Try.underlying34 (.agg #[(.bool false), (.int .i64 0), (.bool false), (.int .i64 0), (.string ⟨#[]⟩), (.int .i64 0), (.string ⟨#[]⟩)]) 72 info66 rfl (by decide) (by omega) z66 (ok := fun _ => True) (okp := fun _ => True) (k66_mkM _ _ _ z66 ) (fun _ hk => hk) trivial (dcd) (Nat.le_trans (Nat.mul_le_mul_right _ (dcd : (l0.length : Int).toNat ≤ 3909374676536)) (by omega)) (Below.refl _ _) (Nat.le_refl _) ?_; intro v269 w4 ho5 hb hg_ hnew_; clear hg_ hnew_; (first | rw [← Ny268.out] at ho5 | (simp only [Int.reduceToNat] at ho5; rw [← Ny268.out] at ho5)); have HO270 := Aside0.mk (Kd.R_lower ho5 (below_size (below_later HB.out))); replace HB := bst HB hb; clear hb ho5))
  go_loopg [4] k (fun kq v4 w' => ∃ (x3_1 : List (S66)) (x4_1 : Int), v4 = .int .i64 x4_1 ∧ Aside0 (laws_toKnownS.l0 kq l0 x3_1 x4_1 = some r) ∧ Aside0 (kq ≤ k) ∧ Aside0 (Kd.R k66 66 w' w.heap.size (fun _ => True) v269 x3_1) ∧ Aside0 (Below w.heap.size w w'))
  case atStart => exact ⟨(y268), (0), sr, H', ⟨Nat.le_refl _⟩, ⟨R_later HO270.out⟩, ⟨below_later HB.out⟩⟩
  case round =>
    clear H'
    try clear c2
    try clear c2b0
    try clear c2b1
    try clear c3
    try clear c3b0
    try clear c3b1
    obtain ⟨x3_1, x4_1, rfl, HA, HK1, HO_3, HB⟩ := hrel
    cases gk with
    | zero => exact absurd HA.out (by simp [laws_toKnownS.l0])
    | succ k1 =>
      have H := HA.out
      clear HA
      simp only [laws_toKnownS.l0] at H
      by_cases c6 : x4_1 < (l0.length : Int)
      · rw [if_pos c6] at H
        have c6b0 := decide_eq_true c6
        clear c6
        replace H := ifd H
        obtain ⟨c7b0, H⟩ := H
        replace H := Option.bind_eq_some_iff.mp H
        obtain ⟨⟨t272, t273, t274, t275, t276, t277, t278⟩, A80, H⟩ := H
        replace H : (if x4_1 < (x3_1.length : Int) then (laws_toKnownS.l0 k1 l0 (x3_1.set (x4_1 : Int).toNat (⟨t272, (⟨t273, t274, (⟨t275, t276⟩ : S59), (⟨t277, t278⟩ : S59)⟩ : S64)⟩ : S66)) (wrap64 (x4_1 + 1))) else (none)) = some r := H
        have A8 := Aside0.mk A80
        clear A80
        replace H := ifd H
        obtain ⟨c9b0, H⟩ := H
        obtain ⟨y279, hy279⟩ : ∃ y_ : List (S66), y_ = (x3_1.set (x4_1 : Int).toNat (⟨t272, (⟨t273, t274, (⟨t275, t276⟩ : S59), (⟨t277, t278⟩ : S59)⟩ : S64)⟩ : S66)) := ⟨_, rfl⟩
        replace H : (laws_toKnownS.l0 k1 l0 y279 (wrap64 (x4_1 + 1))) = some r := by first | (rw [hy279]; with_reducible exact H) | (rw [hy279]; exact H) | exact H
        have Ny279 := Aside0.mk hy279
        clear hy279
        have H' := Aside0.mk H
        clear H
        have p271 : 0 ≤ (x4_1 : Int) := dcd
        have q271 : x4_1 < (l0.length : Int) := dcd
        obtain ⟨ad271, e271, hx271_0, hx271_1, hx271_2, hx271_3, hx271_4, hx271_5, hx271_6⟩ := at_T52 HR0.out x4_1 p271 q271
        cases e271
        replace hx271_0 := crd HB hx271_0
        replace hx271_1 := crd HB hx271_1
        replace hx271_2 := crd HB hx271_2
        replace hx271_3 := crd HB hx271_3
        replace hx271_4 := crd HB hx271_4
        replace hx271_5 := crd HB hx271_5
        replace hx271_6 := crd HB hx271_6
        replace p271 := eq_true p271
        replace q271 := eq_true q271
        go_wp2_with (first | ((with_reducible refine gate_callee (f := 23) rfl ?_); refine gl_ (some 20) Try.func23 #[.agg #[.bool ((rd_T52 l0 x4_1).f0), .int .i64 ((rd_T52 l0 x4_1).f1.f0), .bool ((rd_T52 l0 x4_1).f1.f1), .int .i64 ((rd_T52 l0 x4_1).f1.f2.f0), .string ((rd_T52 l0 x4_1).f1.f2.f1), .int .i64 ((rd_T52 l0 x4_1).f1.f3.f0), .string ((rd_T52 l0 x4_1).f1.f3.f1)]] rfl ?_; (with_reducible refine (laws_toKnown.calls ((rd_T52 l0 x4_1).f0) ((rd_T52 l0 x4_1).f1.f0) ((rd_T52 l0 x4_1).f1.f1) ((rd_T52 l0 x4_1).f1.f2.f0) ((rd_T52 l0 x4_1).f1.f2.f1) ((rd_T52 l0 x4_1).f1.f3.f0) ((rd_T52 l0 x4_1).f1.f3.f1) t272 t273 t274 t275 t276 t277 t278 _ A8.out).mono ?_); rintro e w11 ⟨rfl, hb⟩; refine ⟨_, rfl, ?_⟩; replace HO_3 := Aside0.mk (Kd.R_below (R_later HO_3.out) hb); replace HB := bst HB hb; (try clear hb); (try clear hk); have p10 : 0 ≤ (x4_1 : Int) := dcd; have q10 : (x4_1 : Int) < ((x3_1.length : Int) : Int) := dcd; obtain ⟨go10, co10, eo10, gb10, gl10, cl10, HG10⟩ := Kd.R_form HO_3.out (by omega); (first | cases eo10 | (injection eo10 with ea_ en_ ec_; (first | subst ea_ | (injection ea_ with ea_; subst ea_)); subst ec_; clear en_)); have GB10 := Aside0.mk gb10; have GG10 := Aside0.mk HG10; clear gb10 gl10 HG10; obtain ⟨ce10, hcl10, hM10, hcc10, hfr10⟩ := Kd.R_elem HO_3.out z66 (x4_1 : Int) p10 q10; obtain rfl := k66_openM hM10; have hx10_0 : w11.cell? ⟨go10, (x4_1 : Int).toNat * 7, none⟩ = some (.bool ((rd_T66 x3_1 x4_1).f0)) := hcc10 0 _ rfl; have hx10_1 : w11.cell? ⟨go10, (x4_1 : Int).toNat * 7 + 1, none⟩ = some (.int .i64 ((rd_T66 x3_1 x4_1).f1.f0)) := hcc10 1 _ rfl; have hx10_2 : w11.cell? ⟨go10, (x4_1 : Int).toNat * 7 + 2, none⟩ = some (.bool ((rd_T66 x3_1 x4_1).f1.f1)) := hcc10 2 _ rfl; have hx10_3 : w11.cell? ⟨go10, (x4_1 : Int).toNat * 7 + 3, none⟩ = some (.int .i64 ((rd_T66 x3_1 x4_1).f1.f2.f0)) := hcc10 3 _ rfl; have hx10_4 : w11.cell? ⟨go10, (x4_1 : Int).toNat * 7 + 4, none⟩ = some (.string ((rd_T66 x3_1 x4_1).f1.f2.f1)) := hcc10 4 _ rfl; have hx10_5 : w11.cell? ⟨go10, (x4_1 : Int).toNat * 7 + 5, none⟩ = some (.int .i64 ((rd_T66 x3_1 x4_1).f1.f3.f0)) := hcc10 5 _ rfl; have hx10_6 : w11.cell? ⟨go10, (x4_1 : Int).toNat * 7 + 6, none⟩ = some (.string ((rd_T66 x3_1 x4_1).f1.f3.f1)) := hcc10 6 _ rfl; have hf10_0 : w11.frozen? ⟨go10, (x4_1 : Int).toNat * 7, none⟩ = false := hfr10 0; have hf10_1 : w11.frozen? ⟨go10, (x4_1 : Int).toNat * 7 + 1, none⟩ = false := hfr10 1; have hf10_2 : w11.frozen? ⟨go10, (x4_1 : Int).toNat * 7 + 2, none⟩ = false := hfr10 2; have hf10_3 : w11.frozen? ⟨go10, (x4_1 : Int).toNat * 7 + 3, none⟩ = false := hfr10 3; have hf10_4 : w11.frozen? ⟨go10, (x4_1 : Int).toNat * 7 + 4, none⟩ = false := hfr10 4; have hf10_5 : w11.frozen? ⟨go10, (x4_1 : Int).toNat * 7 + 5, none⟩ = false := hfr10 5; have hf10_6 : w11.frozen? ⟨go10, (x4_1 : Int).toNat * 7 + 6, none⟩ = false := hfr10 6; clear hcl10 hcc10 hfr10 hM10; replace p10 := eq_true p10; replace q10 := eq_true q10; have HX12 := Aside0.mk (show Kd.R k66 66 w11 w.heap.size (fun _ => True) (.slice (some ⟨go10, 0, none⟩) x3_1.length co10) x3_1 from (R_later HO_3.out)); obtain ⟨ce12, hcl12, hM12, hcc12, hfr12⟩ := Kd.R_elem HX12.out z66 (x4_1 : Int) (dcd) (by have h_ : (x4_1 : Int) < ((x3_1.length : Int) : Int) := dcd; first | exact h_ | (have e_ := (Kd.R_reads' HO_3.out).1; omega) | simpa using h_); obtain rfl := k66_openM hM12; have HP12 := Kd.R_seg HX12.out (x4_1 : Int) (dcd) (by have h_ : (x4_1 : Int) < ((x3_1.length : Int) : Int) := dcd; first | exact h_ | (have e_ := (Kd.R_reads' HO_3.out).1; omega) | simpa using h_) (seg := [.bool t272, .int .i64 t273, .bool t274, .int .i64 t275, .string t276, .int .i64 t277, .string t278]) (j := 0) hcl12 hcc12 (show 7 ≤ 7 from by decide) (x' := (⟨t272, (⟨t273, t274, (⟨t275, t276⟩ : S59), (⟨t277, t278⟩ : S59)⟩ : S64)⟩ : S66)) (k66_mkM _ _ _ (⟨t272, (⟨t273, t274, (⟨t275, t276⟩ : S59), (⟨t277, t278⟩ : S59)⟩ : S64)⟩ : S66) ) (fun _ hk => hk); have hx12_0 := hcc12 0 _ rfl; (try simp only [show (k66).sz = 7 from rfl, Nat.mul_one, Nat.add_zero] at hx12_0); have hf12_0 := hfr12 0; (try simp only [show (k66).sz = 7 from rfl, Nat.mul_one, Nat.add_zero] at hf12_0); have hx12_1 := hcc12 1 _ rfl; (try simp only [show (k66).sz = 7 from rfl, Nat.mul_one, Nat.add_zero] at hx12_1); have hf12_1 := hfr12 1; (try simp only [show (k66).sz = 7 from rfl, Nat.mul_one, Nat.add_zero] at hf12_1); have hx12_2 := hcc12 2 _ rfl; (try simp only [show (k66).sz = 7 from rfl, Nat.mul_one, Nat.add_zero] at hx12_2); have hf12_2 := hfr12 2; (try simp only [show (k66).sz = 7 from rfl, Nat.mul_one, Nat.add_zero] at hf12_2); have hx12_3 := hcc12 3 _ rfl; (try simp only [show (k66).sz = 7 from rfl, Nat.mul_one, Nat.add_zero] at hx12_3); have hf12_3 := hfr12 3; (try simp only [show (k66).sz = 7 from rfl, Nat.mul_one, Nat.add_zero] at hf12_3); have hx12_4 := hcc12 4 _ rfl; (try simp only [show (k66).sz = 7 from rfl, Nat.mul_one, Nat.add_zero] at hx12_4); have hf12_4 := hfr12 4; (try simp only [show (k66).sz = 7 from rfl, Nat.mul_one, Nat.add_zero] at hf12_4); have hx12_5 := hcc12 5 _ rfl; (try simp only [show (k66).sz = 7 from rfl, Nat.mul_one, Nat.add_zero] at hx12_5); have hf12_5 := hfr12 5; (try simp only [show (k66).sz = 7 from rfl, Nat.mul_one, Nat.add_zero] at hf12_5); have hx12_6 := hcc12 6 _ rfl; (try simp only [show (k66).sz = 7 from rfl, Nat.mul_one, Nat.add_zero] at hx12_6); have hf12_6 := hfr12 6; (try simp only [show (k66).sz = 7 from rfl, Nat.mul_one, Nat.add_zero] at hf12_6); clear hcl12 hcc12 hfr12 hM12) | ((with_reducible refine gate_store (t := 66) (p := 21) rfl ?_); refine st_ 66 21 (((((((w11.setCell ⟨go10, (x4_1 : Int).toNat * 7, none⟩ (.bool t272)).setCell ⟨go10, (x4_1 : Int).toNat * 7 + 1, none⟩ (.int .i64 t273)).setCell ⟨go10, (x4_1 : Int).toNat * 7 + 2, none⟩ (.bool t274)).setCell ⟨go10, (x4_1 : Int).toNat * 7 + 3, none⟩ (.int .i64 t275)).setCell ⟨go10, (x4_1 : Int).toNat * 7 + 4, none⟩ (.string t276)).setCell ⟨go10, (x4_1 : Int).toNat * 7 + 5, none⟩ (.int .i64 t277)).setCell ⟨go10, (x4_1 : Int).toNat * 7 + 6, none⟩ (.string t278)) ?_; intro w13 hw; have hg : w11.grownBy w13 (some go10) := (by rw [hw]; exact HP12.2); have hp_ : Kd.R k66 66 w13 w.heap.size (fun _ => True) (.slice (some ⟨go10, 0, none⟩) x3_1.length co10) y279 := (by rw [hw, Ny279.out]; exact HP12.1); clear HP12; replace HO_3 := Aside0.mk (hp_); replace HB := Aside0.mk ((by rw [hw]; exact below_set (below_set (below_set (below_set (below_set (below_set (below_set (HB.out) GB10.out) GB10.out) GB10.out) GB10.out) GB10.out) GB10.out) GB10.out : Below w.heap.size w w13)); clear hg hw hp_))
        go_roundg k1
        case measure => have := HK1.out; omega
        case rel => exact ⟨(y279), (wrap64 (x4_1 + 1)), sr, H', ⟨by have := HK1.out; omega⟩, ⟨R_later HO_3.out⟩, ⟨below_later HB.out⟩⟩
      · rw [if_neg c6] at H
        have c6b0 := decide_eq_false c6
        clear c6
        obtain rfl := Option.some.inj H
        go_wp2
        go_ret
        exact ⟨_, by first | rfl | (simp [errW_none, errW_some] <;> rfl) | (simp [*, errW_none, errW_some] <;> rfl), by (with_reducible repeat (first | apply Kd.R_alloc | apply Kd.R_drewN | apply Kd.R_drew)); exact HO_3.out, below_later HB.out⟩
end Go.Proofs.Ytlioghbcomdghaa.PFnExactPredMay
