/- The machine's side of FnExactPredMay, written by wip/tools/hyb.py of this repo: each Go function as a plain Lean function, and the proof that the call comes to just its answer. No condition. -/
import Derived.Test.YtlioghbcomdghaaPFnExactPredMayx0
import Derived.Test.YtlioghbcomdghaaPFnExactPredMayx10
namespace Go.Proofs.Ytlioghbcomdghaa.PFnExactPredMay
open Go.RowKit Go.Proofs.YtlioghbcomdghaaW.PrintWords Go.Proofs.YtlioghbcomdghaaW.PrintLast Go.Proofs.YtlioghbcomdghaaW.PrintMore Go.Proofs.YtlioghbcomdghaaW.PrintMore2
attribute [local go_sem] max2_int min2_int max_two min_two max_three min_three max_four min_four   -- for this text's walks alone
set_option linter.unusedVariables false
set_option linter.unusedSimpArgs false

/-! ### impl_may: function 27 -/
def vne59 (a b : S59) : Bool := !(a.f0 == b.f0) || (!(a.f1.toList == b.f1.toList))
theorem run_neq59_ {ev : Operand → Value} {o : Oper} {w : World} {x y : Operand} (p q : Int) (s t : ByteArray) (n : Bool) (he : (!(p == q) || (!(s.toList == t.toList))) = n) (ho : o.op = .binOp .neq 59 x y 59)
    (hx : ev x = .agg #[.int .i64 p, .string s]) (hy : ev y = .agg #[.int .i64 q, .string t]) : (execOp ev o).run Try.prog w = .ok (.value (.bool n)) w := by
  have hu59 := Try.underlying59
  subst he
  unfold execOp
  simp only [ho]
  go_simp
  by_cases h1 : p = q <;> by_cases h2 : s.toList = t.toList <;> simp [h1, h2]
theorem q_neq59 {a : Act} {o : Oper} {C : World → Prop} {K : Act → Prop} {x y : Operand} (p q : Int) (s t : ByteArray) (n : Bool) (he : (!(p == q) || (!(s.toList == t.toList))) = n) (ho : o.op = .binOp .neq 59 x y 59)
    (hx : a.eval x = .agg #[.int .i64 p, .string s]) (hy : a.eval y = .agg #[.int .i64 q, .string t]) (hk : K (a.put o.dst (.bool n))) : o.quiet Try.prog a C K :=
  ⟨.bool n, fun w _ => by unfold Oper.quietAt; rw [run_neq59_ p q s t n he ho hx hy]; exact ⟨rfl, rfl⟩, hk⟩
/-- A comparison, or a test for null, of what is known. -/
def impl_may.leaf (k : Nat) (t : Int) (x : S61) (st : S64) : Option (Bool × Bool) :=
  if x.f0 = 1 then
    (impl_ValLess.f k t x.f2.f0 x.f2.f1 st.f2.f0 st.f2.f1).bind fun a => (if a = true then some false else (impl_ValLess.f k t st.f3.f0 st.f3.f1 x.f2.f0 x.f2.f1).bind fun b => some (!b)).bind fun i => some (st.f1 && i, decide (0 < st.f0) || (st.f1 && (vne59 st.f2 x.f2 || vne59 st.f3 x.f2)))
  else if x.f0 = 2 then
    (if st.f1 = true then impl_ValLess.f k t st.f2.f0 st.f2.f1 x.f2.f0 x.f2.f1 else some false).bind fun p => (if 0 < st.f0 then some true else if st.f1 = true then (impl_ValLess.f k t st.f3.f0 st.f3.f1 x.f2.f0 x.f2.f1).bind fun b => some (!b) else some false).bind fun q => some (p, q)
  else if x.f0 = 3 then
    (if st.f1 = true then (impl_ValLess.f k t x.f2.f0 x.f2.f1 st.f2.f0 st.f2.f1).bind fun a => some (!a) else some false).bind fun p => (if 0 < st.f0 then some true else if st.f1 = true then (impl_ValLess.f k t x.f2.f0 x.f2.f1 st.f3.f0 st.f3.f1) else some false).bind fun q => some (p, q)
  else some (decide (0 < st.f0), st.f1)
def impl_may.g (k : Nat) (t : Int) (x : S61) (kx : S66) : Option (Bool × Bool) := if kx.f0 = true then impl_may.leaf k t x kx.f1 else some (true, true)
theorem impl_may.kB {w w1 w2 : World} {p q : Nat} {c d : Obj} (hb : Below w1.heap.size w1 w2) (h : w1.heap[p]? = some c ∧ w1.heap[q]? = some d ∧ Below w.heap.size w w1) : w2.heap[p]? = some c ∧ w2.heap[q]? = some d ∧ Below w.heap.size w w2 := ⟨blk_below h.1 hb, blk_below h.2.1 hb, below_step h.2.2 hb⟩
set_option maxHeartbeats 8000000 in
set_option maxRecDepth 100000 in
theorem impl_may.g_calls (k : Nat) (t : Int) (x : S61) (kx : S66) (r1 r2 : Bool) (w : World) (hf : impl_may.g k t x kx = some (r1, r2)) :
    Calls Try.prog 27 #[.int .i64 t, .agg #[.int .i64 x.f0, .int .i64 x.f1, .int .i64 x.f2.f0, .string x.f2.f1, .int .i64 x.f3, .int .i64 x.f4], .agg #[.bool kx.f0, .int .i64 kx.f1.f0, .bool kx.f1.f1, .int .i64 kx.f1.f2.f0, .string kx.f1.f2.f1, .int .i64 kx.f1.f3.f0, .string kx.f1.f3.f1]] w fun e w' => e = .returned (.tuple #[.bool r1, .bool r2]) ∧ Below w.heap.size w w' := by
  have hu61 := Try.underlying61
  have hu66 := Try.underlying66
  have hu64 := Try.underlying64
  have hu59 := Try.underlying59
  have HB := Aside0.mk (Below.refl w.heap.size w)
  unfold impl_may.g at hf
  by_cases ck : kx.f0 = true
  · rw [if_pos ck] at hf
    rw [ck]
    clear ck
    obtain ⟨nz, d0⟩ : ∃ nz, decide (0 < kx.f1.f0) = nz := ⟨_, rfl⟩
    unfold impl_may.leaf at hf
    go_enter Try.func27, Try.ntmps27
    go_upto_region 5 with (first | ((with_reducible refine gate_dst (N := 4) rfl ?_); refine bx_ 4 #[.int .i64 x.f0, .int .i64 x.f1, .int .i64 x.f2.f0, .string x.f2.f1, .int .i64 x.f3, .int .i64 x.f4] 61 ?_; intro g4 hg v4 hbox hb; have K4 := Aside0.mk hbox; have G4 := gwe HB hg; replace HB := bst HB hb; clear hb hbox hg; (try clear c4); have c4 := cl6 K4) | ((with_reducible refine gate_dst (N := 5) rfl ?_); refine bx_ 5 #[.bool true, .int .i64 kx.f1.f0, .bool kx.f1.f1, .int .i64 kx.f1.f2.f0, .string kx.f1.f2.f1, .int .i64 kx.f1.f3.f0, .string kx.f1.f3.f1] 66 ?_; intro g5 hg v5 hbox hb; have K5 := Aside0.mk hbox; have G5 := gwe HB hg; have N4_5 := nbl K4 hg; have N5_4 := nbr (nbl K4 hg); replace K4 := bkb K4 hb; replace HB := bst HB hb; clear hb hbox hg; (try clear c4); have c4 := cl6 K4; (try clear c5); have c5 := cl7 K5) | ((with_reducible refine gate_dst (N := 8) rfl ?_); refine bx_ 8 #[.int .i64 0, .bool false, .int .i64 0, .string (⟨#[]⟩ : ByteArray), .int .i64 0, .string (⟨#[]⟩ : ByteArray)] 64 ?_; intro g8 hg v8 hbox hb; have K8 := Aside0.mk hbox; have G8 := gwe HB hg; have N4_8 := nbl K4 hg; have N8_4 := nbr (nbl K4 hg); have N5_8 := nbl K5 hg; have N8_5 := nbr (nbl K5 hg); replace K4 := bkb K4 hb; replace K5 := bkb K5 hb; replace HB := bst HB hb; clear hb hbox hg; (try clear c4); have c4 := cl6 K4; (try clear c5); have c5 := cl7 K5; (try clear c8); have c8 := cl6 K8) | ((with_reducible refine gate_store (t := 64) (p := 8) rfl ?_); refine st_ 64 8 _ ?_; intro u8 hu; replace K4 := Aside0.mk (show u8.heap[g4]? = some (.cells #[.int .i64 x.f0, .int .i64 x.f1, .int .i64 x.f2.f0, .string x.f2.f1, .int .i64 x.f3, .int .i64 x.f4] 61 (0, 0)) by rw [hu]; exact blk_later K4.out); replace K5 := Aside0.mk (show u8.heap[g5]? = some (.cells #[.bool true, .int .i64 kx.f1.f0, .bool kx.f1.f1, .int .i64 kx.f1.f2.f0, .string kx.f1.f2.f1, .int .i64 kx.f1.f3.f0, .string kx.f1.f3.f1] 66 (0, 0)) by rw [hu]; exact blk_later K5.out); replace K8 := Aside0.mk (show u8.heap[g8]? = some (.cells #[.int .i64 kx.f1.f0, .bool kx.f1.f1, .int .i64 kx.f1.f2.f0, .string kx.f1.f2.f1, .int .i64 kx.f1.f3.f0, .string kx.f1.f3.f1] 64 (0, 0)) by rw [hu]; exact blk_later K8.out); replace HB := Aside0.mk (show Below w.heap.size w u8 by rw [hu]; exact below_later HB.out); clear hu; (try clear c4); have c4 := cl6 K4; (try clear c5); have c5 := cl7 K5; (try clear c8); have c8 := cl6 K8))
    by_cases k1 : x.f0 = 1
    · rw [if_pos k1] at hf
      obtain ⟨d1, d1'⟩ := b_eq k1
      clear k1
      obtain ⟨av, ha, hf⟩ := Option.bind_eq_some_iff.mp hf
      obtain ⟨iv, hi, hf⟩ := Option.bind_eq_some_iff.mp hf
      cases hf
      have HP1 := Aside0.mk ha
      clear ha
      cases av
      · rw [if_neg Bool.false_ne_true] at hi
        obtain ⟨bv, hb, hi⟩ := Option.bind_eq_some_iff.mp hi
        cases hi
        have HP2 := Aside0.mk hb
        clear hb
        cases bv
        all_goals
          go_upto_region 8 with (first | (go_at_call 47; (first | (with_reducible refine (impl_ValLess.calls k t x.f2.f0 x.f2.f1 kx.f1.f2.f0 kx.f1.f2.f1 _ _ HP1.out).mono ?_) | (with_reducible refine (impl_ValLess.calls k t kx.f1.f3.f0 kx.f1.f3.f1 x.f2.f0 x.f2.f1 _ _ HP2.out).mono ?_)); rintro e v47 ⟨rfl, hb⟩; replace K4 := bkb K4 hb; replace K5 := bkb K5 hb; replace K8 := bkb K8 hb; replace HB := bst HB hb; (try clear hb); (try clear c4); have c4 := cl6 K4; (try clear c5); have c5 := cl7 K5; (try clear c8); have c8 := cl6 K8))
          have E1 : Aside0 (∃ n, vne59 kx.f1.f2 x.f2 = n) := ⟨_, rfl⟩
          have E2 : Aside0 (∃ n, vne59 kx.f1.f3 x.f2 = n) := ⟨_, rfl⟩
          obtain ⟨n1, HV1⟩ := E1
          obtain ⟨n2, HV2⟩ := E2
          have E1 : Aside0 ((!(kx.f1.f2.f0 == x.f2.f0) || (!(kx.f1.f2.f1.toList == x.f2.f1.toList))) = n1) := ⟨HV1⟩
          have E2 : Aside0 ((!(kx.f1.f3.f0 == x.f2.f0) || (!(kx.f1.f3.f1.toList == x.f2.f1.toList))) = n2) := ⟨HV2⟩
          replace HV1 := Aside0.mk HV1
          replace HV2 := Aside0.mk HV2
          clear c4 c5 c8
          obtain ⟨fb, hfb⟩ : ∃ fb, kx.f1.f1 = fb := ⟨_, rfl⟩
          rw [hfb] at K5 K8
          cases fb
          · cases nz <;> cases n1
            all_goals
              obtain ⟨σ, fw, hfw, hfc⟩ := cls (fun w' => w'.heap[g4]? = some (.cells #[.int .i64 x.f0, .int .i64 x.f1, .int .i64 x.f2.f0, .string x.f2.f1, .int .i64 x.f3, .int .i64 x.f4] 61 (0, 0)) ∧ w'.heap[g8]? = some (.cells #[.int .i64 kx.f1.f0, .bool false, .int .i64 kx.f1.f2.f0, .string kx.f1.f2.f1, .int .i64 kx.f1.f3.f0, .string kx.f1.f3.f1] 64 (0, 0)) ∧ Below w.heap.size w w')
              have q4 := fun n => cl6 (Aside0.mk (hfw n).1)
              have q8 := fun n => cl6 (Aside0.mk (hfw n).2.1)
              have r0 := fun n => (q4 n).2.2.1
              have r1 := fun n => (q4 n).2.2.2.1
              have r2 := fun n => (q8 n).2.1
              have r3 := fun n => (q8 n).2.2.1
              have r4 := fun n => (q8 n).2.2.2.1
              have r5 := fun n => (q8 n).2.2.2.2.1
              have r6 := fun n => (q8 n).2.2.2.2.2.1
              clear q4 q8
              have hN := hfc _ (impl_may.kB (below_drew1 (Below.refl _ _)) ⟨K4.out, K8.out, HB.out⟩)
              haveI : Nonempty σ := hN.elim (fun n _ => ⟨n⟩)
              refine region_cls fw hN ?_
              clear hN
              repeat (first | go_big_quiet_step (fail) | (go_big_quiet_want; (first | refine q_neq59 (x := .tmp 50) (y := .tmp 52) _ _ _ _ _ E1.out rfl (by kernel_rfl) (by kernel_rfl) ?_ | refine q_neq59 (x := .tmp 56) (y := .tmp 58) _ _ _ _ _ E2.out rfl (by kernel_rfl) (by kernel_rfl) ?_); simp only [Act.put, List.setIfInBounds_toArray, List.set_cons_zero, List.set_cons_succ]; go_big_quiet_on))
              refine wpQuiet_nil ?_
              rintro w' ⟨nq, rfl⟩
              have HBB := (hfw nq).2.2
              clear hfw hfc
              go_wp2
              go_ret2
              exact ⟨by first | rfl | (simp [d0, hfb, HV1.out, HV2.out]; done), HBB⟩
          · cases nz <;> cases n1
            all_goals
              obtain ⟨σ, fw, hfw, hfc⟩ := cls (fun w' => w'.heap[g4]? = some (.cells #[.int .i64 x.f0, .int .i64 x.f1, .int .i64 x.f2.f0, .string x.f2.f1, .int .i64 x.f3, .int .i64 x.f4] 61 (0, 0)) ∧ w'.heap[g8]? = some (.cells #[.int .i64 kx.f1.f0, .bool true, .int .i64 kx.f1.f2.f0, .string kx.f1.f2.f1, .int .i64 kx.f1.f3.f0, .string kx.f1.f3.f1] 64 (0, 0)) ∧ Below w.heap.size w w')
              have q4 := fun n => cl6 (Aside0.mk (hfw n).1)
              have q8 := fun n => cl6 (Aside0.mk (hfw n).2.1)
              have r0 := fun n => (q4 n).2.2.1
              have r1 := fun n => (q4 n).2.2.2.1
              have r2 := fun n => (q8 n).2.1
              have r3 := fun n => (q8 n).2.2.1
              have r4 := fun n => (q8 n).2.2.2.1
              have r5 := fun n => (q8 n).2.2.2.2.1
              have r6 := fun n => (q8 n).2.2.2.2.2.1
              clear q4 q8
              have hN := hfc _ (impl_may.kB (below_drew1 (Below.refl _ _)) ⟨K4.out, K8.out, HB.out⟩)
              haveI : Nonempty σ := hN.elim (fun n _ => ⟨n⟩)
              refine region_cls fw hN ?_
              clear hN
              repeat (first | go_big_quiet_step (fail) | (go_big_quiet_want; (first | refine q_neq59 (x := .tmp 50) (y := .tmp 52) _ _ _ _ _ E1.out rfl (by kernel_rfl) (by kernel_rfl) ?_ | refine q_neq59 (x := .tmp 56) (y := .tmp 58) _ _ _ _ _ E2.out rfl (by kernel_rfl) (by kernel_rfl) ?_); simp only [Act.put, List.setIfInBounds_toArray, List.set_cons_zero, List.set_cons_succ]; go_big_quiet_on))
              refine wpQuiet_nil ?_
              rintro w' ⟨nq, rfl⟩
              have HBB := (hfw nq).2.2
              clear hfw hfc
              go_wp2
              go_ret2
              exact ⟨by first | rfl | (simp [d0, hfb, HV1.out, HV2.out]; done), HBB⟩
      · rw [if_pos rfl] at hi
        cases hi
        go_upto_region 8 with (first | (go_at_call 47; (with_reducible refine (impl_ValLess.calls k t x.f2.f0 x.f2.f1 kx.f1.f2.f0 kx.f1.f2.f1 _ _ HP1.out).mono ?_); rintro e v47 ⟨rfl, hb⟩; replace K4 := bkb K4 hb; replace K5 := bkb K5 hb; replace K8 := bkb K8 hb; replace HB := bst HB hb; (try clear hb); (try clear c4); have c4 := cl6 K4; (try clear c5); have c5 := cl7 K5; (try clear c8); have c8 := cl6 K8))
        have E1 : Aside0 (∃ n, vne59 kx.f1.f2 x.f2 = n) := ⟨_, rfl⟩
        have E2 : Aside0 (∃ n, vne59 kx.f1.f3 x.f2 = n) := ⟨_, rfl⟩
        obtain ⟨n1, HV1⟩ := E1
        obtain ⟨n2, HV2⟩ := E2
        have E1 : Aside0 ((!(kx.f1.f2.f0 == x.f2.f0) || (!(kx.f1.f2.f1.toList == x.f2.f1.toList))) = n1) := ⟨HV1⟩
        have E2 : Aside0 ((!(kx.f1.f3.f0 == x.f2.f0) || (!(kx.f1.f3.f1.toList == x.f2.f1.toList))) = n2) := ⟨HV2⟩
        replace HV1 := Aside0.mk HV1
        replace HV2 := Aside0.mk HV2
        clear c4 c5 c8
        obtain ⟨fb, hfb⟩ : ∃ fb, kx.f1.f1 = fb := ⟨_, rfl⟩
        rw [hfb] at K5 K8
        cases fb
        · cases nz <;> cases n1
          all_goals
            obtain ⟨σ, fw, hfw, hfc⟩ := cls (fun w' => w'.heap[g4]? = some (.cells #[.int .i64 x.f0, .int .i64 x.f1, .int .i64 x.f2.f0, .string x.f2.f1, .int .i64 x.f3, .int .i64 x.f4] 61 (0, 0)) ∧ w'.heap[g8]? = some (.cells #[.int .i64 kx.f1.f0, .bool false, .int .i64 kx.f1.f2.f0, .string kx.f1.f2.f1, .int .i64 kx.f1.f3.f0, .string kx.f1.f3.f1] 64 (0, 0)) ∧ Below w.heap.size w w')
            have q4 := fun n => cl6 (Aside0.mk (hfw n).1)
            have q8 := fun n => cl6 (Aside0.mk (hfw n).2.1)
            have r0 := fun n => (q4 n).2.2.1
            have r1 := fun n => (q4 n).2.2.2.1
            have r2 := fun n => (q8 n).2.1
            have r3 := fun n => (q8 n).2.2.1
            have r4 := fun n => (q8 n).2.2.2.1
            have r5 := fun n => (q8 n).2.2.2.2.1
            have r6 := fun n => (q8 n).2.2.2.2.2.1
            clear q4 q8
            have hN := hfc _ (impl_may.kB (below_drew1 (Below.refl _ _)) ⟨K4.out, K8.out, HB.out⟩)
            haveI : Nonempty σ := hN.elim (fun n _ => ⟨n⟩)
            refine region_cls fw hN ?_
            clear hN
            repeat (first | go_big_quiet_step (fail) | (go_big_quiet_want; (first | refine q_neq59 (x := .tmp 50) (y := .tmp 52) _ _ _ _ _ E1.out rfl (by kernel_rfl) (by kernel_rfl) ?_ | refine q_neq59 (x := .tmp 56) (y := .tmp 58) _ _ _ _ _ E2.out rfl (by kernel_rfl) (by kernel_rfl) ?_); simp only [Act.put, List.setIfInBounds_toArray, List.set_cons_zero, List.set_cons_succ]; go_big_quiet_on))
            refine wpQuiet_nil ?_
            rintro w' ⟨nq, rfl⟩
            have HBB := (hfw nq).2.2
            clear hfw hfc
            go_wp2
            go_ret2
            exact ⟨by first | rfl | (simp [d0, hfb, HV1.out, HV2.out]; done), HBB⟩
        · cases nz <;> cases n1
          all_goals
            obtain ⟨σ, fw, hfw, hfc⟩ := cls (fun w' => w'.heap[g4]? = some (.cells #[.int .i64 x.f0, .int .i64 x.f1, .int .i64 x.f2.f0, .string x.f2.f1, .int .i64 x.f3, .int .i64 x.f4] 61 (0, 0)) ∧ w'.heap[g8]? = some (.cells #[.int .i64 kx.f1.f0, .bool true, .int .i64 kx.f1.f2.f0, .string kx.f1.f2.f1, .int .i64 kx.f1.f3.f0, .string kx.f1.f3.f1] 64 (0, 0)) ∧ Below w.heap.size w w')
            have q4 := fun n => cl6 (Aside0.mk (hfw n).1)
            have q8 := fun n => cl6 (Aside0.mk (hfw n).2.1)
            have r0 := fun n => (q4 n).2.2.1
            have r1 := fun n => (q4 n).2.2.2.1
            have r2 := fun n => (q8 n).2.1
            have r3 := fun n => (q8 n).2.2.1
            have r4 := fun n => (q8 n).2.2.2.1
            have r5 := fun n => (q8 n).2.2.2.2.1
            have r6 := fun n => (q8 n).2.2.2.2.2.1
            clear q4 q8
            have hN := hfc _ (impl_may.kB (below_drew1 (Below.refl _ _)) ⟨K4.out, K8.out, HB.out⟩)
            haveI : Nonempty σ := hN.elim (fun n _ => ⟨n⟩)
            refine region_cls fw hN ?_
            clear hN
            repeat (first | go_big_quiet_step (fail) | (go_big_quiet_want; (first | refine q_neq59 (x := .tmp 50) (y := .tmp 52) _ _ _ _ _ E1.out rfl (by kernel_rfl) (by kernel_rfl) ?_ | refine q_neq59 (x := .tmp 56) (y := .tmp 58) _ _ _ _ _ E2.out rfl (by kernel_rfl) (by kernel_rfl) ?_); simp only [Act.put, List.setIfInBounds_toArray, List.set_cons_zero, List.set_cons_succ]; go_big_quiet_on))
            refine wpQuiet_nil ?_
            rintro w' ⟨nq, rfl⟩
            have HBB := (hfw nq).2.2
            clear hfw hfc
            go_wp2
            go_ret2
            exact ⟨by first | rfl | (simp [d0, hfb, HV1.out, HV2.out]; done), HBB⟩
    rw [if_neg k1] at hf
    obtain ⟨d1, d1'⟩ := b_ne k1
    clear k1
    by_cases k2 : x.f0 = 2
    · rw [if_pos k2] at hf
      obtain ⟨d2, d2'⟩ := b_eq k2
      clear k2
      obtain ⟨pv, hp, hf⟩ := Option.bind_eq_some_iff.mp hf
      obtain ⟨qv, hq, hf⟩ := Option.bind_eq_some_iff.mp hf
      cases hf
      obtain ⟨fb, hfb⟩ : ∃ fb, kx.f1.f1 = fb := ⟨_, rfl⟩
      rw [hfb] at hp hq K5 K8
      clear c4 c5 c8
      have c4 := cl6 K4
      have c8 := cl6 K8
      cases fb
      · rw [if_neg Bool.false_ne_true] at hp hq
        cases hp
        cases nz
        · rw [if_neg (of_decide_eq_false d0)] at hq
          cases hq
          go_wp2_with (first | fail)
          go_ret2
          exact ⟨by first | rfl | (simp [d0, hfb]; done), below_later HB.out⟩
        · rw [if_pos (of_decide_eq_true d0)] at hq
          cases hq
          go_wp2_with (first | fail)
          go_ret2
          exact ⟨by first | rfl | (simp [d0, hfb]; done), below_later HB.out⟩
      · rw [if_pos rfl] at hp hq
        have HP1 := Aside0.mk hp
        clear hp
        cases nz
        · rw [if_neg (of_decide_eq_false d0)] at hq
          obtain ⟨bv, hb, hq⟩ := Option.bind_eq_some_iff.mp hq
          cases hq
          have HP2 := Aside0.mk hb
          clear hb
          go_wp2_with (first | (go_at_call 47; (first | (with_reducible refine (impl_ValLess.calls k t kx.f1.f2.f0 kx.f1.f2.f1 x.f2.f0 x.f2.f1 _ _ HP1.out).mono ?_) | (with_reducible refine (impl_ValLess.calls k t kx.f1.f3.f0 kx.f1.f3.f1 x.f2.f0 x.f2.f1 _ _ HP2.out).mono ?_)); rintro e v47 ⟨rfl, hb⟩; replace K4 := bkb K4 hb; replace K5 := bkb K5 hb; replace K8 := bkb K8 hb; replace HB := bst HB hb; (try clear hb); (try clear c4); have c4 := cl6 K4; (try clear c5); have c5 := cl7 K5; (try clear c8); have c8 := cl6 K8))
          go_ret2
          exact ⟨by first | rfl | (simp [d0, hfb]; done), below_later HB.out⟩
        · rw [if_pos (of_decide_eq_true d0)] at hq
          cases hq
          go_wp2_with (first | (go_at_call 47; (first | (with_reducible refine (impl_ValLess.calls k t kx.f1.f2.f0 kx.f1.f2.f1 x.f2.f0 x.f2.f1 _ _ HP1.out).mono ?_) | (with_reducible refine (impl_ValLess.calls k t kx.f1.f3.f0 kx.f1.f3.f1 x.f2.f0 x.f2.f1 _ _ HP2.out).mono ?_)); rintro e v47 ⟨rfl, hb⟩; replace K4 := bkb K4 hb; replace K5 := bkb K5 hb; replace K8 := bkb K8 hb; replace HB := bst HB hb; (try clear hb); (try clear c4); have c4 := cl6 K4; (try clear c5); have c5 := cl7 K5; (try clear c8); have c8 := cl6 K8))
          go_ret2
          exact ⟨by first | rfl | (simp [d0, hfb]; done), below_later HB.out⟩
    rw [if_neg k2] at hf
    obtain ⟨d2, d2'⟩ := b_ne k2
    clear k2
    by_cases k3 : x.f0 = 3
    · rw [if_pos k3] at hf
      obtain ⟨d3, d3'⟩ := b_eq k3
      clear k3
      obtain ⟨pv, hp, hf⟩ := Option.bind_eq_some_iff.mp hf
      obtain ⟨qv, hq, hf⟩ := Option.bind_eq_some_iff.mp hf
      cases hf
      obtain ⟨fb, hfb⟩ : ∃ fb, kx.f1.f1 = fb := ⟨_, rfl⟩
      rw [hfb] at hp hq K5 K8
      clear c4 c5 c8
      have c4 := cl6 K4
      have c8 := cl6 K8
      cases fb
      · rw [if_neg Bool.false_ne_true] at hp hq
        cases hp
        cases nz
        · rw [if_neg (of_decide_eq_false d0)] at hq
          cases hq
          go_wp2_with (first | fail)
          go_ret2
          exact ⟨by first | rfl | (simp [d0, hfb]; done), below_later HB.out⟩
        · rw [if_pos (of_decide_eq_true d0)] at hq
          cases hq
          go_wp2_with (first | fail)
          go_ret2
          exact ⟨by first | rfl | (simp [d0, hfb]; done), below_later HB.out⟩
      · rw [if_pos rfl] at hp hq
        obtain ⟨av, ha, hp⟩ := Option.bind_eq_some_iff.mp hp
        cases hp
        have HP1 := Aside0.mk ha
        clear ha
        cases nz
        · rw [if_neg (of_decide_eq_false d0)] at hq
          have HP2 := Aside0.mk hq
          clear hq
          go_wp2_with (first | (go_at_call 47; (first | (with_reducible refine (impl_ValLess.calls k t x.f2.f0 x.f2.f1 kx.f1.f2.f0 kx.f1.f2.f1 _ _ HP1.out).mono ?_) | (with_reducible refine (impl_ValLess.calls k t x.f2.f0 x.f2.f1 kx.f1.f3.f0 kx.f1.f3.f1 _ _ HP2.out).mono ?_)); rintro e v47 ⟨rfl, hb⟩; replace K4 := bkb K4 hb; replace K5 := bkb K5 hb; replace K8 := bkb K8 hb; replace HB := bst HB hb; (try clear hb); (try clear c4); have c4 := cl6 K4; (try clear c5); have c5 := cl7 K5; (try clear c8); have c8 := cl6 K8))
          go_ret2
          exact ⟨by first | rfl | (simp [d0, hfb]; done), below_later HB.out⟩
        · rw [if_pos (of_decide_eq_true d0)] at hq
          cases hq
          go_wp2_with (first | (go_at_call 47; (first | (with_reducible refine (impl_ValLess.calls k t x.f2.f0 x.f2.f1 kx.f1.f2.f0 kx.f1.f2.f1 _ _ HP1.out).mono ?_) | (with_reducible refine (impl_ValLess.calls k t x.f2.f0 x.f2.f1 kx.f1.f3.f0 kx.f1.f3.f1 _ _ HP2.out).mono ?_)); rintro e v47 ⟨rfl, hb⟩; replace K4 := bkb K4 hb; replace K5 := bkb K5 hb; replace K8 := bkb K8 hb; replace HB := bst HB hb; (try clear hb); (try clear c4); have c4 := cl6 K4; (try clear c5); have c5 := cl7 K5; (try clear c8); have c8 := cl6 K8))
          go_ret2
          exact ⟨by first | rfl | (simp [d0, hfb]; done), below_later HB.out⟩
    rw [if_neg k3] at hf
    obtain ⟨d3, d3'⟩ := b_ne k3
    clear k3
    cases hf
    obtain ⟨fb, hfb⟩ : ∃ fb, kx.f1.f1 = fb := ⟨_, rfl⟩
    go_upto_region 13 with (fail)
    clear c4 c5 c8
    obtain ⟨σ, fw, hfw, hfc⟩ := cls (fun w' => w'.heap[g4]? = some (.cells #[.int .i64 x.f0, .int .i64 x.f1, .int .i64 x.f2.f0, .string x.f2.f1, .int .i64 x.f3, .int .i64 x.f4] 61 (0, 0)) ∧ w'.heap[g8]? = some (.cells #[.int .i64 kx.f1.f0, .bool kx.f1.f1, .int .i64 kx.f1.f2.f0, .string kx.f1.f2.f1, .int .i64 kx.f1.f3.f0, .string kx.f1.f3.f1] 64 (0, 0)) ∧ Below w.heap.size w w')
    have q4 := fun n => cl6 (Aside0.mk (hfw n).1)
    have q8 := fun n => cl6 (Aside0.mk (hfw n).2.1)
    have r0 := fun n => (q4 n).2.2.1
    have r1 := fun n => (q4 n).2.2.2.1
    have r2 := fun n => (q8 n).2.1
    have r3 := fun n => (q8 n).2.2.1
    have r4 := fun n => (q8 n).2.2.2.1
    have r5 := fun n => (q8 n).2.2.2.2.1
    have r6 := fun n => (q8 n).2.2.2.2.2.1
    clear q4 q8
    have hN := hfc _ (impl_may.kB (below_drew1 (Below.refl _ _)) ⟨K4.out, K8.out, HB.out⟩)
    haveI : Nonempty σ := hN.elim (fun n _ => ⟨n⟩)
    refine region_cls fw hN ?_
    clear hN
    repeat (go_big_quiet_step (fail))
    refine wpQuiet_nil ?_
    rintro w' ⟨nq, rfl⟩
    have HBB := (hfw nq).2.2
    clear hfw hfc
    go_wp2
    go_ret2
    exact ⟨by first | rfl | (simp [d0, hfb]; done), HBB⟩
  · rw [if_neg ck] at hf
    rw [Bool.eq_false_iff.mpr ck]
    clear ck
    cases hf
    go_enter Try.func27, Try.ntmps27
    go_wp2_with (first | ((with_reducible refine gate_dst (N := 4) rfl ?_); refine bx_ 4 #[.int .i64 x.f0, .int .i64 x.f1, .int .i64 x.f2.f0, .string x.f2.f1, .int .i64 x.f3, .int .i64 x.f4] 61 ?_; intro g4 hg v4 hbox hb; have K4 := Aside0.mk hbox; have G4 := gwe HB hg; replace HB := bst HB hb; clear hb hbox hg; (try clear c4); have c4 := cl6 K4) | ((with_reducible refine gate_dst (N := 5) rfl ?_); refine bx_ 5 #[.bool false, .int .i64 kx.f1.f0, .bool kx.f1.f1, .int .i64 kx.f1.f2.f0, .string kx.f1.f2.f1, .int .i64 kx.f1.f3.f0, .string kx.f1.f3.f1] 66 ?_; intro g5 hg v5 hbox hb; have K5 := Aside0.mk hbox; have G5 := gwe HB hg; have N4_5 := nbl K4 hg; have N5_4 := nbr (nbl K4 hg); replace K4 := bkb K4 hb; replace HB := bst HB hb; clear hb hbox hg; (try clear c4); have c4 := cl6 K4; (try clear c5); have c5 := cl7 K5) | ((with_reducible refine gate_dst (N := 8) rfl ?_); refine bx_ 8 #[.int .i64 0, .bool false, .int .i64 0, .string (⟨#[]⟩ : ByteArray), .int .i64 0, .string (⟨#[]⟩ : ByteArray)] 64 ?_; intro g8 hg v8 hbox hb; have K8 := Aside0.mk hbox; have G8 := gwe HB hg; have N4_8 := nbl K4 hg; have N8_4 := nbr (nbl K4 hg); have N5_8 := nbl K5 hg; have N8_5 := nbr (nbl K5 hg); replace K4 := bkb K4 hb; replace K5 := bkb K5 hb; replace HB := bst HB hb; clear hb hbox hg; (try clear c4); have c4 := cl6 K4; (try clear c5); have c5 := cl7 K5; (try clear c8); have c8 := cl6 K8) | ((with_reducible refine gate_store (t := 64) (p := 8) rfl ?_); refine st_ 64 8 _ ?_; intro u8 hu; replace K4 := Aside0.mk (show u8.heap[g4]? = some (.cells #[.int .i64 x.f0, .int .i64 x.f1, .int .i64 x.f2.f0, .string x.f2.f1, .int .i64 x.f3, .int .i64 x.f4] 61 (0, 0)) by rw [hu]; exact blk_later K4.out); replace K5 := Aside0.mk (show u8.heap[g5]? = some (.cells #[.bool false, .int .i64 kx.f1.f0, .bool kx.f1.f1, .int .i64 kx.f1.f2.f0, .string kx.f1.f2.f1, .int .i64 kx.f1.f3.f0, .string kx.f1.f3.f1] 66 (0, 0)) by rw [hu]; exact blk_later K5.out); replace K8 := Aside0.mk (show u8.heap[g8]? = some (.cells #[.int .i64 kx.f1.f0, .bool kx.f1.f1, .int .i64 kx.f1.f2.f0, .string kx.f1.f2.f1, .int .i64 kx.f1.f3.f0, .string kx.f1.f3.f1] 64 (0, 0)) by rw [hu]; exact blk_later K8.out); replace HB := Aside0.mk (show Below w.heap.size w u8 by rw [hu]; exact below_later HB.out); clear hu; (try clear c4); have c4 := cl6 K4; (try clear c5); have c5 := cl7 K5; (try clear c8); have c8 := cl6 K8))
    go_ret2
    exact ⟨by first | rfl | (simp; done), below_later HB.out⟩
def impl_may.f (k : Nat) (a0 : Int) (a1_0 a1_1 a1_2 : Int) (a1_3 : ByteArray) (a1_4 a1_5 : Int) (a2_0 : Bool) (a2_1 : Int) (a2_2 : Bool) (a2_3 : Int) (a2_4 : ByteArray) (a2_5 : Int) (a2_6 : ByteArray) : Option (Bool × Bool) := impl_may.g k a0 ⟨a1_0, a1_1, ⟨a1_2, a1_3⟩, a1_4, a1_5⟩ ⟨a2_0, ⟨a2_1, a2_2, ⟨a2_3, a2_4⟩, ⟨a2_5, a2_6⟩⟩⟩
theorem impl_may.calls (k : Nat) (a0 : Int) (a1_0 : Int) (a1_1 : Int) (a1_2 : Int) (a1_3 : ByteArray) (a1_4 : Int) (a1_5 : Int) (a2_0 : Bool) (a2_1 : Int) (a2_2 : Bool) (a2_3 : Int) (a2_4 : ByteArray) (a2_5 : Int) (a2_6 : ByteArray) (r1 : Bool) (r2 : Bool) (w : World) (h : impl_may.f k a0 a1_0 a1_1 a1_2 a1_3 a1_4 a1_5 a2_0 a2_1 a2_2 a2_3 a2_4 a2_5 a2_6 = some (r1, r2)) :
    Calls Try.prog 27 #[.int .i64 a0, .agg #[.int .i64 a1_0, .int .i64 a1_1, .int .i64 a1_2, .string a1_3, .int .i64 a1_4, .int .i64 a1_5], .agg #[.bool a2_0, .int .i64 a2_1, .bool a2_2, .int .i64 a2_3, .string a2_4, .int .i64 a2_5, .string a2_6]] w fun e w' => e = .returned (.tuple #[.bool r1, .bool r2]) ∧ Below w.heap.size w w' :=
  impl_may.g_calls k a0 ⟨a1_0, a1_1, ⟨a1_2, a1_3⟩, a1_4, a1_5⟩ ⟨a2_0, ⟨a2_1, a2_2, ⟨a2_3, a2_4⟩, ⟨a2_5, a2_6⟩⟩⟩ r1 r2 w h

end Go.Proofs.Ytlioghbcomdghaa.PFnExactPredMay
