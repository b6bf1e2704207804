/- The machine's side of FnExactSchemaPrint, written by wip/tools/hyb.py of this repo: each Go function as a plain Lean function, and the proof that the call comes to just its answer. No condition. -/
import Derived.Test.YtbmcjgkppjnafaaPFnExactSchemaPrintx0
import Derived.Test.YtbmcjgkppjnafaaPFnExactSchemaPrintx3
namespace Go.Proofs.Ytbmcjgkppjnafaa.PFnExactSchemaPrint
open Go.RowKit Go.Proofs.YtbmcjgkppjnafaaW.PrintWords Go.Proofs.YtbmcjgkppjnafaaW.PrintLast Go.Proofs.YtbmcjgkppjnafaaW.PrintMore Go.Proofs.YtbmcjgkppjnafaaW.PrintMore2
attribute [local go_sem] max2_int min2_int max_two min_two max_three min_three max_four min_four   -- for this text's walks alone
set_option linter.unusedVariables false
set_option linter.unusedSimpArgs false

/-! ### impl_colAfter: function 22 -/
mutual
def impl_colAfter.j0 : Nat → List (S34) → Int → Int → Bool → Option (Int)
  | 0, _, _, _, _ => none
  | k + 1, x0, x1, x2, x39 => if x39 = true then (some (-1)) else (if 0 ≤ x1 then (if x1 < (x0.length : Int) then (impl_colAfter.l0 k x0 x2 (wrap64 (x1 + 1)) (([] : List ByteArray)) ((rd_T34 x0 x1).f3) 0) else (none)) else (none))
def impl_colAfter.l0 : Nat → List (S34) → Int → Int → List ByteArray → Int → Int → Option (Int)
  | 0, _, _, _, _, _, _ => none
  | k + 1, x0, x2, x7, x8, x47, x48 => if x48 < x47 then (if x7 ≥ (x0.length : Int) then (some (-1)) else (impl_colAfter.l1 k x0 x2 x7 x8 x47 x48 (x8.length : Int) 0)) else (some x7)
def impl_colAfter.l1 : Nat → List (S34) → Int → Int → List ByteArray → Int → Int → Int → Int → Option (Int)
  | 0, _, _, _, _, _, _, _, _ => none
  | k + 1, x0, x2, x7, x8, x47, x48, x55, x56 => if x56 < x55 then (if 0 ≤ x56 then (if x56 < (x8.length : Int) then (if 0 ≤ x7 then (if x7 < (x0.length : Int) then (if (rdOf ByteArray.empty x8 x56).toList = ((rd_T34 x0 x7).f0).toList then (some (-1)) else (impl_colAfter.l1 k x0 x2 x7 x8 x47 x48 x55 (wrap64 (x56 + 1)))) else (none)) else (none)) else (none)) else (none)) else (if 0 ≤ x7 then (if x7 < (x0.length : Int) then (if x8.length < 8796093022208 then ((impl_colAfter.f k x0 x7 (wrap64 (x2 + 1))).bind fun t174 => (if t174 < 0 then (some (-1)) else (impl_colAfter.l0 k x0 x2 t174 (x8 ++ [(rd_T34 x0 x7).f0]) x47 (wrap64 (x48 + 1))))) else (none)) else (none)) else (none))
def impl_colAfter.f : Nat → List (S34) → Int → Int → Option (Int)
  | 0, _, _, _ => none
  | k + 1, l0, a1, a2 => if a1 ≥ (l0.length : Int) then (impl_colAfter.j0 k l0 a1 a2 true) else (if a2 > 6 then (impl_colAfter.j0 k l0 a1 a2 true) else (if 0 ≤ a1 then (if a1 < (l0.length : Int) then ((impl_colOk.f ((rd_T34 l0 a1).f0) ((rd_T34 l0 a1).f1) ((rd_T34 l0 a1).f2) ((rd_T34 l0 a1).f3)).bind fun t161 => (if t161 = true then (if a1 > 0 then ((impl_isColName.f k ((rd_T34 l0 a1).f0)).bind fun t163 => (impl_colAfter.j0 k l0 a1 a2 (!t163))) else (impl_colAfter.j0 k l0 a1 a2 false)) else (impl_colAfter.j0 k l0 a1 a2 true))) else (none)) else (none)))
end
set_option maxHeartbeats 8000000 in
set_option maxRecDepth 100000 in
theorem impl_colAfter.calls (k : Nat) : ∀ (A0 : Option Addr) (c0 : Nat) (l0 : List (S34)) (a1 : Int) (a2 : Int) (r : Int) (w : World) (hr0 : Kd.C k34 w A0 l0.length l0) (hc0 : l0.length ≤ c0) (h : impl_colAfter.f k l0 a1 a2 = some r),
    Calls Try.prog 22 #[.slice A0 l0.length c0, .int .i64 a1, .int .i64 a2] w fun e w' => e = .returned (.int .i64 r) ∧ Below w.heap.size w w' := by
  induction k using Nat.strongRecOn with
  | _ k ih =>
  intro A0 c0 l0 a1 a2 r w hr0 hc0 h
  cases k with
  | zero => exact absurd h (by simp [impl_colAfter.f])
  | succ k =>
  simp only [impl_colAfter.f] at h
  have hu34 := Try.underlying34
  have HR0 := Aside0.mk hr0
  have HC0 := Aside0.mk hc0
  clear hr0 hc0
  have HB := Aside0.mk (Below.refl w.heap.size w)
  have H : (if a1 ≥ (l0.length : Int) then (impl_colAfter.j0 k l0 a1 a2 true) else (if a2 > 6 then (impl_colAfter.j0 k l0 a1 a2 true) else (if 0 ≤ a1 then (if a1 < (l0.length : Int) then ((impl_colOk.f ((rd_T34 l0 a1).f0) ((rd_T34 l0 a1).f1) ((rd_T34 l0 a1).f2) ((rd_T34 l0 a1).f3)).bind fun t161 => (if t161 = true then (if a1 > 0 then ((impl_isColName.f k ((rd_T34 l0 a1).f0)).bind fun t163 => (impl_colAfter.j0 k l0 a1 a2 (!t163))) else (impl_colAfter.j0 k l0 a1 a2 false)) else (impl_colAfter.j0 k l0 a1 a2 true))) else (none)) else (none)))) = some r := h
  clear h
  have HC4 := Aside0.mk H
  clear H
  go_enter Try.func22, Try.ntmps22
  go_upto_region 1 with (fail)
  go_cut [39] (fun v39 wc => ∃ (kq : Nat) (x39_3 : Bool), v39 = .bool x39_3 ∧ Aside0 (impl_colAfter.j0 kq l0 a1 a2 x39_3 = some r) ∧ Aside0 (kq ≤ k) ∧ Aside0 (Below w.heap.size w wc))
  case first =>
    have H := HC4.out
    clear HC4
    by_cases c5 : a1 ≥ (l0.length : Int)
    · rw [if_pos c5] at H
      have c5b0 : decide ((l0.length : Int) ≤ a1) = true := decide_eq_true c5
      clear c5
      (first | rw [c5b0] | (simp only [i64_w, i32_w]; rw [c5b0]) | skip)
      have H' := Aside0.mk H
      clear H
      go_wp2
      go_meet
      case rel => exact ⟨_, (true), sr, H', ⟨by first | omega | exact Nat.le_refl _⟩, ⟨below_later HB.out⟩⟩
    · rw [if_neg c5] at H
      have c5b0 : decide ((l0.length : Int) ≤ a1) = false := decide_eq_false c5
      clear c5
      (first | rw [c5b0] | (simp only [i64_w, i32_w]; rw [c5b0]) | skip)
      by_cases c6 : a2 > 6
      · rw [if_pos c6] at H
        have c6b0 : decide (6 < a2) = true := decide_eq_true c6
        clear c6
        have H' := Aside0.mk H
        clear H
        go_wp2
        go_meet
        case rel => exact ⟨_, (true), sr, H', ⟨by first | omega | exact Nat.le_refl _⟩, ⟨below_later HB.out⟩⟩
      · rw [if_neg c6] at H
        have c6b0 : decide (6 < a2) = false := decide_eq_false c6
        clear c6
        replace H := ifd H
        obtain ⟨c7b0, H⟩ := H
        replace H := ifd H
        obtain ⟨c8b0, H⟩ := H
        replace H := bnd H
        obtain ⟨t161, A9, H⟩ := H
        by_cases c10 : t161 = true
        · subst c10
          replace H := ifp rfl H
          by_cases c11 : a1 > 0
          · rw [if_pos c11] at H
            have c11b0 : decide (0 < a1) = true := decide_eq_true c11
            clear c11
            replace H := bnd H
            obtain ⟨t163, A12, H⟩ := H
            have H' := Aside0.mk H
            clear H
            have p160 : 0 ≤ (a1 : Int) := dcd
            have q160 : a1 < (l0.length : Int) := dcd
            obtain ⟨ad160, e160, hx160_0, hx160_1, hx160_2, hx160_3⟩ := at_T34 HR0.out a1 p160 q160
            cases e160
            replace hx160_0 := crd HB hx160_0
            replace hx160_1 := crd HB hx160_1
            replace hx160_2 := crd HB hx160_2
            replace hx160_3 := crd HB hx160_3
            replace p160 := eq_true p160
            replace q160 := eq_true q160
            go_wp2_with (first | (go_at_call 27; (with_reducible refine (impl_colOk.calls ((rd_T34 l0 a1).f0) ((rd_T34 l0 a1).f1) ((rd_T34 l0 a1).f2) ((rd_T34 l0 a1).f3) true _ A9.out).mono ?_); rintro e w13 ⟨rfl, hb⟩; replace HB := bst HB hb; (try clear hb); have p162 : 0 ≤ (a1 : Int) := dcd; have q162 : a1 < (l0.length : Int) := dcd; obtain ⟨ad162, e162, hx162_0, hx162_1, hx162_2, hx162_3⟩ := at_T34 HR0.out a1 p162 q162; obtain rfl : ad160 = ad162 := (by injection e162); replace hx162_0 := crd HB hx162_0; replace hx162_1 := crd HB hx162_1; replace hx162_2 := crd HB hx162_2; replace hx162_3 := crd HB hx162_3; replace p162 := eq_true p162; replace q162 := eq_true q162) | (go_at_call 28; (with_reducible refine (impl_isColName.calls k ((rd_T34 l0 a1).f0) t163 _ A12.out).mono ?_); rintro e w' ⟨rfl, ⟨nd, rfl⟩⟩))
            go_meet
            case rel => exact ⟨_, (!t163), sr, H', ⟨by first | omega | exact Nat.le_refl _⟩, ⟨below_later HB.out⟩⟩
          · rw [if_neg c11] at H
            have c11b0 : decide (0 < a1) = false := decide_eq_false c11
            clear c11
            have H' := Aside0.mk H
            clear H
            have p160 : 0 ≤ (a1 : Int) := dcd
            have q160 : a1 < (l0.length : Int) := dcd
            obtain ⟨ad160, e160, hx160_0, hx160_1, hx160_2, hx160_3⟩ := at_T34 HR0.out a1 p160 q160
            cases e160
            replace hx160_0 := crd HB hx160_0
            replace hx160_1 := crd HB hx160_1
            replace hx160_2 := crd HB hx160_2
            replace hx160_3 := crd HB hx160_3
            replace p160 := eq_true p160
            replace q160 := eq_true q160
            go_wp2_with (first | (go_at_call 27; (with_reducible refine (impl_colOk.calls ((rd_T34 l0 a1).f0) ((rd_T34 l0 a1).f1) ((rd_T34 l0 a1).f2) ((rd_T34 l0 a1).f3) true _ A9.out).mono ?_); rintro e w14 ⟨rfl, hb⟩; replace HB := bst HB hb; (try clear hb)))
            go_meet
            case rel => exact ⟨_, (false), sr, H', ⟨by first | omega | exact Nat.le_refl _⟩, ⟨below_later HB.out⟩⟩
        · replace c10 := Bool.eq_false_iff.mpr c10
          subst c10
          replace H := ifn Bool.false_ne_true H
          have H' := Aside0.mk H
          clear H
          have p160 : 0 ≤ (a1 : Int) := dcd
          have q160 : a1 < (l0.length : Int) := dcd
          obtain ⟨ad160, e160, hx160_0, hx160_1, hx160_2, hx160_3⟩ := at_T34 HR0.out a1 p160 q160
          cases e160
          replace hx160_0 := crd HB hx160_0
          replace hx160_1 := crd HB hx160_1
          replace hx160_2 := crd HB hx160_2
          replace hx160_3 := crd HB hx160_3
          replace p160 := eq_true p160
          replace q160 := eq_true q160
          go_wp2_with (first | (go_at_call 27; (with_reducible refine (impl_colOk.calls ((rd_T34 l0 a1).f0) ((rd_T34 l0 a1).f1) ((rd_T34 l0 a1).f2) ((rd_T34 l0 a1).f3) false _ A9.out).mono ?_); rintro e w15 ⟨rfl, hb⟩; replace HB := bst HB hb; (try clear hb)))
          go_meet
          case rel => exact ⟨_, (true), sr, H', ⟨by first | omega | exact Nat.le_refl _⟩, ⟨below_later HB.out⟩⟩
  case rest =>
    clear HC4
    obtain ⟨kq, x39_3, rfl, HA, HJ3, HB⟩ := hcut
    cases kq with
    | zero => exact absurd HA.out (by simp [impl_colAfter.j0])
    | succ kj3 =>
      have H := HA.out
      clear HA
      simp only [impl_colAfter.j0] at H
      by_cases c16 : x39_3 = true
      · subst c16
        replace H := ifp rfl H
        obtain rfl := Option.some.inj H
        go_wp2
        go_ret
        exact fin_ (below_later HB.out)
      · replace c16 := Bool.eq_false_iff.mpr c16
        subst c16
        replace H := ifn Bool.false_ne_true H
        obtain ⟨y164, hy164⟩ : ∃ y_ : List ByteArray, y_ = (([] : List ByteArray)) := ⟨_, rfl⟩
        replace H : (if 0 ≤ a1 then (if a1 < (l0.length : Int) then (impl_colAfter.l0 kj3 l0 a2 (wrap64 (a1 + 1)) y164 ((rd_T34 l0 a1).f3) 0) else (none)) else (none)) = some r := by first | (rw [hy164]; with_reducible exact H) | (rw [hy164]; exact H) | exact H
        have Ny164 := Aside0.mk hy164
        clear hy164
        replace H := ifd H
        obtain ⟨c17b0, H⟩ := H
        replace H := ifd H
        obtain ⟨c18b0, H⟩ := H
        have H' := Aside0.mk H
        clear H
        go_wp2_with (first | ((with_reducible refine gate_dst (N := 42) rfl ?_); refine Kd.R_lit Kd.string _ 9 ?hg (N := 42) ?hd (xs := ([] : List ByteArray)) (inner := []) (ok := fun _ => True) (okp := fun _ => True) ?hr ?hp (fun _ hk => hk) trivial (Below.refl _ _) (Nat.le_refl _) (by simp) ?_; (case hd => rfl); (case hg => rfl); (case hr => first | (go_simp; done) | (go_simp; rfl)); (case hp => exact (Reps.none _ _)); intro v165 w19 ho20 hb hg_ hnew_; clear hg_ hnew_; (first | rw [← Ny164.out] at ho20 | (simp only [Int.reduceToNat] at ho20; rw [← Ny164.out] at ho20)); have n0_ := Aside0.mk (Kd.R_lower ho20 (below_size (below_later HB.out))); have n1_ := Aside0.mk (below_step (below_later HB.out) hb); clear HB; have HO166 := n0_; have HB := n1_; clear n0_ n1_; clear hb ho20; have p167 : 0 ≤ (a1 : Int) := dcd; have q167 : a1 < (l0.length : Int) := dcd; obtain ⟨ad167, e167, hx167_0, hx167_1, hx167_2, hx167_3⟩ := at_T34 HR0.out a1 p167 q167; cases e167; replace hx167_0 := crd HB hx167_0; replace hx167_1 := crd HB hx167_1; replace hx167_2 := crd HB hx167_2; replace hx167_3 := crd HB hx167_3; replace p167 := eq_true p167; replace q167 := eq_true q167))
        go_loopg [7, 8, 48] kj3 (fun kq v7 v8 v48 w' => ∃ (x7_2 : Int) (x8_2 : List ByteArray) (x48_2 : Int), v7 = .int .i64 x7_2 ∧ v48 = .int .i64 x48_2 ∧ Aside0 (impl_colAfter.l0 kq l0 a2 x7_2 x8_2 ((rd_T34 l0 a1).f3) x48_2 = some r) ∧ Aside0 (kq ≤ kj3) ∧ Aside0 (Kd.R Kd.string 9 w' w.heap.size (fun _ => True) v8 x8_2) ∧ Aside0 (Below w.heap.size w w'))
        case atStart => exact ⟨(wrap64 (a1 + 1)), (y164), (0), sr, sr, H', ⟨Nat.le_refl _⟩, ⟨R_later HO166.out⟩, ⟨below_later HB.out⟩⟩
        case round =>
          clear H'
          try clear c16
          try clear c17b0
          try clear c18b0
          try clear hx167_0
          try clear hx167_1
          try clear hx167_2
          try clear hx167_3
          try clear p167
          try clear q167
          obtain ⟨x7_2, x8_2, x48_2, rfl, rfl, HA, HK2, HO_8, HB⟩ := hrel
          cases gk with
          | zero => exact absurd HA.out (by simp [impl_colAfter.l0])
          | succ k2 =>
            have H := HA.out
            clear HA
            simp only [impl_colAfter.l0] at H
            by_cases c21 : x48_2 < ((rd_T34 l0 a1).f3)
            · rw [if_pos c21] at H
              have c21b0 := decide_eq_true c21
              clear c21
              by_cases c22 : x7_2 ≥ (l0.length : Int)
              · rw [if_pos c22] at H
                have c22b0 : decide ((l0.length : Int) ≤ x7_2) = true := decide_eq_true c22
                clear c22
                obtain rfl := Option.some.inj H
                go_wp2
                go_ret
                exact fin_ (below_later HB.out)
              · rw [if_neg c22] at H
                have c22b0 : decide ((l0.length : Int) ≤ x7_2) = false := decide_eq_false c22
                clear c22
                have H' := Aside0.mk H
                clear H
                obtain ⟨Ao23, co23, eo23⟩ := Kd.R_slice HO_8.out
                subst eo23
                go_wp2
                go_loopg [56] k2 (fun kq v56 w' => ∃ (x56_3 : Int), v56 = .int .i64 x56_3 ∧ Aside0 (impl_colAfter.l1 kq l0 a2 x7_2 x8_2 ((rd_T34 l0 a1).f3) x48_2 (x8_2.length : Int) x56_3 = some r) ∧ Aside0 (kq ≤ k2) ∧ Aside0 (Kd.R Kd.string 9 w' w.heap.size (fun _ => True) (.slice Ao23 x8_2.length co23) x8_2) ∧ Aside0 (Below w.heap.size w w'))
                case atStart => exact ⟨(0), sr, H', ⟨Nat.le_refl _⟩, ⟨R_later HO_8.out⟩, ⟨below_later HB.out⟩⟩
                case round =>
                  clear H'
                  try clear c16
                  try clear c17b0
                  try clear c18b0
                  try clear c21
                  try clear c21b0
                  try clear c22
                  try clear c22b0
                  try clear hx167_0
                  try clear hx167_1
                  try clear hx167_2
                  try clear hx167_3
                  try clear p167
                  try clear q167
                  obtain ⟨x56_3, rfl, HA, HK3, HO_8, HB⟩ := hrel
                  cases gk with
                  | zero => exact absurd HA.out (by simp [impl_colAfter.l1])
                  | succ k3 =>
                    have H := HA.out
                    clear HA
                    simp only [impl_colAfter.l1] at H
                    by_cases c24 : x56_3 < (x8_2.length : Int)
                    · rw [if_pos c24] at H
                      have c24b0 := decide_eq_true c24
                      clear c24
                      replace H := ifd H
                      obtain ⟨c25b0, H⟩ := H
                      replace H := ifd H
                      obtain ⟨c26b0, H⟩ := H
                      replace H := ifd H
                      obtain ⟨c27b0, H⟩ := H
                      replace H := ifd H
                      obtain ⟨c28b0, H⟩ := H
                      by_cases c29 : (rdOf ByteArray.empty x8_2 x56_3).toList = ((rd_T34 l0 x7_2).f0).toList
                      · rw [if_pos c29] at H
                        have c29b0 : ((rdOf ByteArray.empty x8_2 x56_3).toList == ((rd_T34 l0 x7_2).f0).toList) = true := beq_iff_eq.mpr c29
                        have c29b1 : ((rdOf ByteArray.empty x8_2 x56_3).toList != ((rd_T34 l0 x7_2).f0).toList) = false := bne_eq_false_iff_eq.mpr c29
                        clear c29
                        obtain rfl := Option.some.inj H
                        have p168 : 0 ≤ (x56_3 : Int) := dcd
                        have q168 : x56_3 < (x8_2.length : Int) := dcd
                        obtain ⟨ad168, e168, hx168_0⟩ := Kd.at_string (Kd.R_reads' HO_8.out).2.2 x56_3 p168 q168
                        cases e168
                        replace p168 := eq_true p168
                        replace q168 := eq_true q168
                        have p169 : 0 ≤ (x7_2 : Int) := dcd
                        have q169 : x7_2 < (l0.length : Int) := dcd
                        obtain ⟨ad169, e169, hx169_0, hx169_1, hx169_2, hx169_3⟩ := at_T34 HR0.out x7_2 p169 q169
                        obtain rfl : ad167 = ad169 := (by injection e169)
                        replace hx169_0 := crd HB hx169_0
                        replace hx169_1 := crd HB hx169_1
                        replace hx169_2 := crd HB hx169_2
                        replace hx169_3 := crd HB hx169_3
                        replace p169 := eq_true p169
                        replace q169 := eq_true q169
                        go_wp2
                        go_ret
                        exact fin_ (below_later HB.out)
                      · rw [if_neg c29] at H
                        have c29b0 : ((rdOf ByteArray.empty x8_2 x56_3).toList == ((rd_T34 l0 x7_2).f0).toList) = false := beq_eq_false_iff_ne.mpr c29
                        have c29b1 : ((rdOf ByteArray.empty x8_2 x56_3).toList != ((rd_T34 l0 x7_2).f0).toList) = true := bne_iff_ne.mpr c29
                        have H' := Aside0.mk H
                        clear H
                        have p168 : 0 ≤ (x56_3 : Int) := dcd
                        have q168 : x56_3 < (x8_2.length : Int) := dcd
                        obtain ⟨ad168, e168, hx168_0⟩ := Kd.at_string (Kd.R_reads' HO_8.out).2.2 x56_3 p168 q168
                        cases e168
                        replace p168 := eq_true p168
                        replace q168 := eq_true q168
                        have p169 : 0 ≤ (x7_2 : Int) := dcd
                        have q169 : x7_2 < (l0.length : Int) := dcd
                        obtain ⟨ad169, e169, hx169_0, hx169_1, hx169_2, hx169_3⟩ := at_T34 HR0.out x7_2 p169 q169
                        obtain rfl : ad167 = ad169 := (by injection e169)
                        replace hx169_0 := crd HB hx169_0
                        replace hx169_1 := crd HB hx169_1
                        replace hx169_2 := crd HB hx169_2
                        replace hx169_3 := crd HB hx169_3
                        replace p169 := eq_true p169
                        replace q169 := eq_true q169
                        go_wp2
                        go_roundg k3
                        case measure => have := HJ3.out; have := HK2.out; have := HK3.out; omega
                        case rel => exact ⟨(wrap64 (x56_3 + 1)), sr, H', ⟨by have := HJ3.out; have := HK2.out; have := HK3.out; omega⟩, ⟨R_later HO_8.out⟩, ⟨below_later HB.out⟩⟩
                    · rw [if_neg c24] at H
                      have c24b0 := decide_eq_false c24
                      clear c24
                      replace H := ifd H
                      obtain ⟨c30b0, H⟩ := H
                      replace H := ifd H
                      obtain ⟨c31b0, H⟩ := H
                      replace H := ifs H
                      obtain ⟨c32, H⟩ := H
                      have LMc32 := Aside0.mk c32
                      clear c32
                      obtain ⟨y171, hy171⟩ : ∃ y_ : List ByteArray, y_ = (x8_2 ++ [(rd_T34 l0 x7_2).f0]) := ⟨_, rfl⟩
                      replace H : ((impl_colAfter.f k3 l0 x7_2 (wrap64 (a2 + 1))).bind fun t174 => (if t174 < 0 then (some (-1)) else (impl_colAfter.l0 k3 l0 a2 t174 y171 ((rd_T34 l0 a1).f3) (wrap64 (x48_2 + 1))))) = some r := by first | (rw [hy171]; with_reducible exact H) | (rw [hy171]; exact H) | exact H
                      have Ny171 := Aside0.mk hy171
                      clear hy171
                      replace H := bnd H
                      obtain ⟨t174, A33, H⟩ := H
                      by_cases c34 : t174 < 0
                      · rw [if_pos c34] at H
                        have c34b0 := decide_eq_true c34
                        clear c34
                        obtain rfl := Option.some.inj H
                        have p170 : 0 ≤ (x7_2 : Int) := dcd
                        have q170 : x7_2 < (l0.length : Int) := dcd
                        obtain ⟨ad170, e170, hx170_0, hx170_1, hx170_2, hx170_3⟩ := at_T34 HR0.out x7_2 p170 q170
                        obtain rfl : ad167 = ad170 := (by injection e170)
                        replace hx170_0 := crd HB hx170_0
                        replace hx170_1 := crd HB hx170_1
                        replace hx170_2 := crd HB hx170_2
                        replace hx170_3 := crd HB hx170_3
                        replace p170 := eq_true p170
                        replace q170 := eq_true q170
                        go_wp2_with (first | ((with_reducible refine gate_builtin (b := .append) (xs := #[.tmp 68, .tmp 74]) rfl ?_); at_builtin; refine Kd.R_append Kd.string (w0 := w) w.heap.size rfl (.tmp 68) (.tmp 74) 43 9 (.string ⟨#[]⟩) 16 rfl Try.underlying43 info9 rfl (by decide) (by omega) (.slice Ao23 x8_2.length co23) x8_2 ((rd_T34 l0 x7_2).f0) [.string ((rd_T34 l0 x7_2).f0)] (fun _ => True) (fun _ => False) rfl rfl ?aP (fun _ hk => hk.elim) ?aF ?aO ?aB ?aS ?aL ?_; (case aP => exact rfl); (case aB => exact (below_later HB.out)); (case aF => exact (fun _ _ => trivial)); (case aO => exact (R_later HO_8.out)); (case aS => exact (below_size (below_later HB.out))); (case aL => have := LMc32.out; omega); intro v172 w35 ho hb hg hat; rw [← Ny171.out] at ho; have n0_ := Aside0.mk (hb); have n1_ := Aside0.mk (ho); clear HB; clear HO_8; have HB := n0_; have HO173 := n1_; clear n0_ n1_; clear ho hb hg hat) | ((with_reducible refine gate_callee (f := 22) rfl ?_); refine gl_ (some 80) Try.func22 #[.slice (some ad167) l0.length c0, .int .i64 x7_2, .int .i64 (wrap64 (a2 + 1))] rfl ?_; (with_reducible refine (ih k3 (by have := HJ3.out; have := HK2.out; have := HK3.out; omega) _ _ l0 x7_2 (wrap64 (a2 + 1)) t174 _ ?side1 ?side2 A33.out).mono ?_); (case side1 => repeat (first | exact (Kd.C_below HR0.out HB.out) | (with_reducible refine Kd.C_alloc ?_ _) | (with_reducible refine Kd.C_drewN ?_ _) | (with_reducible refine Kd.C_drew ?_))); (case side2 => exact HC0.out); rintro e w36 ⟨rfl, hb⟩; refine ⟨_, rfl, ?_⟩; have n0_ := Aside0.mk (Kd.R_below (R_later HO173.out) hb); have n1_ := Aside0.mk (below_step (below_later HB.out) hb); clear HO173; clear HB; have HO173 := n0_; have HB := n1_; clear n0_ n1_; (try clear hb); (try clear hk)))
                        go_ret
                        exact fin_ (below_later HB.out)
                      · rw [if_neg c34] at H
                        have c34b0 := decide_eq_false c34
                        clear c34
                        have H' := Aside0.mk H
                        clear H
                        have p170 : 0 ≤ (x7_2 : Int) := dcd
                        have q170 : x7_2 < (l0.length : Int) := dcd
                        obtain ⟨ad170, e170, hx170_0, hx170_1, hx170_2, hx170_3⟩ := at_T34 HR0.out x7_2 p170 q170
                        obtain rfl : ad167 = ad170 := (by injection e170)
                        replace hx170_0 := crd HB hx170_0
                        replace hx170_1 := crd HB hx170_1
                        replace hx170_2 := crd HB hx170_2
                        replace hx170_3 := crd HB hx170_3
                        replace p170 := eq_true p170
                        replace q170 := eq_true q170
                        go_wp2_with (first | ((with_reducible refine gate_builtin (b := .append) (xs := #[.tmp 68, .tmp 74]) rfl ?_); at_builtin; refine Kd.R_append Kd.string (w0 := w) w.heap.size rfl (.tmp 68) (.tmp 74) 43 9 (.string ⟨#[]⟩) 16 rfl Try.underlying43 info9 rfl (by decide) (by omega) (.slice Ao23 x8_2.length co23) x8_2 ((rd_T34 l0 x7_2).f0) [.string ((rd_T34 l0 x7_2).f0)] (fun _ => True) (fun _ => False) rfl rfl ?aP (fun _ hk => hk.elim) ?aF ?aO ?aB ?aS ?aL ?_; (case aP => exact rfl); (case aB => exact (below_later HB.out)); (case aF => exact (fun _ _ => trivial)); (case aO => exact (R_later HO_8.out)); (case aS => exact (below_size (below_later HB.out))); (case aL => have := LMc32.out; omega); intro v172 w37 ho hb hg hat; rw [← Ny171.out] at ho; have n0_ := Aside0.mk (hb); have n1_ := Aside0.mk (ho); clear HB; clear HO_8; have HB := n0_; have HO173 := n1_; clear n0_ n1_; clear ho hb hg hat) | ((with_reducible refine gate_callee (f := 22) rfl ?_); refine gl_ (some 80) Try.func22 #[.slice (some ad167) l0.length c0, .int .i64 x7_2, .int .i64 (wrap64 (a2 + 1))] rfl ?_; (with_reducible refine (ih k3 (by have := HJ3.out; have := HK2.out; have := HK3.out; omega) _ _ l0 x7_2 (wrap64 (a2 + 1)) t174 _ ?side1 ?side2 A33.out).mono ?_); (case side1 => repeat (first | exact (Kd.C_below HR0.out HB.out) | (with_reducible refine Kd.C_alloc ?_ _) | (with_reducible refine Kd.C_drewN ?_ _) | (with_reducible refine Kd.C_drew ?_))); (case side2 => exact HC0.out); rintro e w38 ⟨rfl, hb⟩; refine ⟨_, rfl, ?_⟩; have n0_ := Aside0.mk (Kd.R_below (R_later HO173.out) hb); have n1_ := Aside0.mk (below_step (below_later HB.out) hb); clear HO173; clear HB; have HO173 := n0_; have HB := n1_; clear n0_ n1_; (try clear hb); (try clear hk)))
                        go_roundg k3
                        case measure => have := HJ3.out; have := HK2.out; have := HK3.out; omega
                        case rel => exact ⟨(t174), (y171), (wrap64 (x48_2 + 1)), sr, sr, H', ⟨by have := HJ3.out; have := HK2.out; have := HK3.out; omega⟩, ⟨R_later HO173.out⟩, ⟨below_later HB.out⟩⟩
            · rw [if_neg c21] at H
              have c21b0 := decide_eq_false c21
              clear c21
              obtain rfl := Option.some.inj H
              go_wp2
              go_ret
              exact fin_ (below_later HB.out)
/-! ### impl_SchemaOk: function 13 -/
def impl_SchemaOk.f (k : Nat) (l0 : List (S34)) : Option (Bool) := (impl_within.f (l0.length : Int) 2 20).bind fun t175 => (if t175 = true then (if 0 < (l0.length : Int) then (if ((rd_T34 l0 0).f1) = 7 then (if ((rd_T34 l0 0).f2) = 0 then (if ((rd_T34 l0 0).f0).toList = ([] : List UInt8) then ((impl_colAfter.f k l0 0 1).bind fun t179 => (some (t179 == (l0.length : Int)))) else (some false)) else (some false)) else (some false)) else (none)) else (some false))
set_option maxHeartbeats 8000000 in
set_option maxRecDepth 100000 in
theorem impl_SchemaOk.calls (k : Nat) (A0 : Option Addr) (c0 : Nat) (l0 : List (S34)) (r : Bool) (w : World) (hr0 : Kd.C k34 w A0 l0.length l0) (hc0 : l0.length ≤ c0) (h : impl_SchemaOk.f k l0 = some r) :
    Calls Try.prog 13 #[.slice A0 l0.length c0] w fun e w' => e = .returned (.bool r) ∧ Below w.heap.size w w' := by
  have HR0 := Aside0.mk hr0
  have HC0 := Aside0.mk hc0
  clear hr0 hc0
  have HB := Aside0.mk (Below.refl w.heap.size w)
  have H : ((impl_within.f (l0.length : Int) 2 20).bind fun t175 => (if t175 = true then (if 0 < (l0.length : Int) then (if ((rd_T34 l0 0).f1) = 7 then (if ((rd_T34 l0 0).f2) = 0 then (if ((rd_T34 l0 0).f0).toList = ([] : List UInt8) then ((impl_colAfter.f k l0 0 1).bind fun t179 => (some (t179 == (l0.length : Int)))) else (some false)) else (some false)) else (some false)) else (none)) else (some false))) = some r := h
  clear h
  replace H := bnd H
  obtain ⟨t175, A2, H⟩ := H
  by_cases c3 : t175 = true
  · subst c3
    replace H := ifp rfl H
    replace H := ifs H
    obtain ⟨c4, H⟩ := H
    have c4b0 := decide_eq_true c4
    have c4b1 : decide (0 < l0.length) = true := decide_eq_true (by omega)
    clear c4
    by_cases c5 : ((rd_T34 l0 0).f1) = 7
    · rw [if_pos c5] at H
      have c5b0 : (((rd_T34 l0 0).f1) == 7) = true := beq_iff_eq.mpr c5
      have c5b1 : (((rd_T34 l0 0).f1) != 7) = false := bne_eq_false_iff_eq.mpr c5
      clear c5
      by_cases c6 : ((rd_T34 l0 0).f2) = 0
      · rw [if_pos c6] at H
        have c6b0 : (((rd_T34 l0 0).f2) == 0) = true := beq_iff_eq.mpr c6
        have c6b1 : (((rd_T34 l0 0).f2) != 0) = false := bne_eq_false_iff_eq.mpr c6
        clear c6
        by_cases c7 : ((rd_T34 l0 0).f0).toList = ([] : List UInt8)
        · rw [if_pos c7] at H
          have c7b0 : (((rd_T34 l0 0).f0).toList == ([] : List UInt8)) = true := beq_iff_eq.mpr c7
          have c7b1 : (((rd_T34 l0 0).f0).toList != ([] : List UInt8)) = false := bne_eq_false_iff_eq.mpr c7
          clear c7
          replace H := bnd H
          obtain ⟨t179, A8, H⟩ := H
          obtain rfl := Option.some.inj H
          go_enter Try.func13, Try.ntmps13
          go_wp2_with (first | ((with_reducible refine gate_callee (f := 21) rfl ?_); refine gl_ (some 5) Try.func21 #[.int .i64 (l0.length : Int), .int .i64 2, .int .i64 20] rfl ?_; (with_reducible refine (impl_within.calls (l0.length : Int) 2 20 true _ A2.out).mono ?_); rintro e w' ⟨rfl, ⟨nd, rfl⟩⟩; refine ⟨_, rfl, ?_⟩; have p176 : 0 ≤ (0 : Int) := (by omega); have q176 : 0 < (l0.length : Int) := dcd; obtain ⟨ad176, e176, hx176_0, hx176_1, hx176_2, hx176_3⟩ := at_T34 HR0.out 0 p176 q176; cases e176; have qi176 : (0 < l0.length) = True := eq_true (by omega); (try rw [show ((0 : Int)).toNat = 0 from rfl] at hx176_0); (try rw [show 0 * 4 = 0 from rfl] at hx176_0); (try rw [Addr.add_zero'] at hx176_0); (try rw [show ((0 : Int)).toNat = 0 from rfl] at hx176_1); (try rw [show 0 * 4 = 0 from rfl] at hx176_1); (try rw [Addr.add_zero'] at hx176_1); (try rw [show ((0 : Int)).toNat = 0 from rfl] at hx176_2); (try rw [show 0 * 4 = 0 from rfl] at hx176_2); (try rw [Addr.add_zero'] at hx176_2); (try rw [show ((0 : Int)).toNat = 0 from rfl] at hx176_3); (try rw [show 0 * 4 = 0 from rfl] at hx176_3); (try rw [Addr.add_zero'] at hx176_3); replace p176 := eq_true p176; replace q176 := eq_true q176; have p177 : 0 ≤ (0 : Int) := (by omega); have q177 : 0 < (l0.length : Int) := dcd; obtain ⟨ad177, e177, hx177_0, hx177_1, hx177_2, hx177_3⟩ := at_T34 HR0.out 0 p177 q177; obtain rfl : ad176 = ad177 := (by injection e177); have qi177 : (0 < l0.length) = True := eq_true (by omega); (try rw [show ((0 : Int)).toNat = 0 from rfl] at hx177_0); (try rw [show 0 * 4 = 0 from rfl] at hx177_0); (try rw [Addr.add_zero'] at hx177_0); (try rw [show ((0 : Int)).toNat = 0 from rfl] at hx177_1); (try rw [show 0 * 4 = 0 from rfl] at hx177_1); (try rw [Addr.add_zero'] at hx177_1); (try rw [show ((0 : Int)).toNat = 0 from rfl] at hx177_2); (try rw [show 0 * 4 = 0 from rfl] at hx177_2); (try rw [Addr.add_zero'] at hx177_2); (try rw [show ((0 : Int)).toNat = 0 from rfl] at hx177_3); (try rw [show 0 * 4 = 0 from rfl] at hx177_3); (try rw [Addr.add_zero'] at hx177_3); replace p177 := eq_true p177; replace q177 := eq_true q177; have p178 : 0 ≤ (0 : Int) := (by omega); have q178 : 0 < (l0.length : Int) := dcd; obtain ⟨ad178, e178, hx178_0, hx178_1, hx178_2, hx178_3⟩ := at_T34 HR0.out 0 p178 q178; obtain rfl : ad176 = ad178 := (by injection e178); have qi178 : (0 < l0.length) = True := eq_true (by omega); (try rw [show ((0 : Int)).toNat = 0 from rfl] at hx178_0); (try rw [show 0 * 4 = 0 from rfl] at hx178_0); (try rw [Addr.add_zero'] at hx178_0); (try rw [show ((0 : Int)).toNat = 0 from rfl] at hx178_1); (try rw [show 0 * 4 = 0 from rfl] at hx178_1); (try rw [Addr.add_zero'] at hx178_1); (try rw [show ((0 : Int)).toNat = 0 from rfl] at hx178_2); (try rw [show 0 * 4 = 0 from rfl] at hx178_2); (try rw [Addr.add_zero'] at hx178_2); (try rw [show ((0 : Int)).toNat = 0 from rfl] at hx178_3); (try rw [show 0 * 4 = 0 from rfl] at hx178_3); (try rw [Addr.add_zero'] at hx178_3); replace p178 := eq_true p178; replace q178 := eq_true q178) | ((with_reducible refine gate_callee (f := 22) rfl ?_); refine gl_ (some 29) Try.func22 #[.slice (some ad176) l0.length c0, .int .i64 0, .int .i64 1] rfl ?_; (with_reducible refine (impl_colAfter.calls k _ _ l0 0 1 t179 _ ?side1 ?side2 A8.out).mono ?_); (case side1 => exact C_later HR0.out); (case side2 => exact HC0.out); rintro e w9 ⟨rfl, hb⟩; refine ⟨_, rfl, ?_⟩; replace HB := bst HB hb; (try clear hb)))
          go_ret
          exact fin_ (below_later HB.out)
        · rw [if_neg c7] at H
          have c7b0 : (((rd_T34 l0 0).f0).toList == ([] : List UInt8)) = false := beq_eq_false_iff_ne.mpr c7
          have c7b1 : (((rd_T34 l0 0).f0).toList != ([] : List UInt8)) = true := bne_iff_ne.mpr c7
          obtain rfl := Option.some.inj H
          go_enter Try.func13, Try.ntmps13
          go_wp2_with (first | ((with_reducible refine gate_callee (f := 21) rfl ?_); refine gl_ (some 5) Try.func21 #[.int .i64 (l0.length : Int), .int .i64 2, .int .i64 20] rfl ?_; (with_reducible refine (impl_within.calls (l0.length : Int) 2 20 true _ A2.out).mono ?_); rintro e w' ⟨rfl, ⟨nd, rfl⟩⟩; refine ⟨_, rfl, ?_⟩; have p176 : 0 ≤ (0 : Int) := (by omega); have q176 : 0 < (l0.length : Int) := dcd; obtain ⟨ad176, e176, hx176_0, hx176_1, hx176_2, hx176_3⟩ := at_T34 HR0.out 0 p176 q176; cases e176; have qi176 : (0 < l0.length) = True := eq_true (by omega); (try rw [show ((0 : Int)).toNat = 0 from rfl] at hx176_0); (try rw [show 0 * 4 = 0 from rfl] at hx176_0); (try rw [Addr.add_zero'] at hx176_0); (try rw [show ((0 : Int)).toNat = 0 from rfl] at hx176_1); (try rw [show 0 * 4 = 0 from rfl] at hx176_1); (try rw [Addr.add_zero'] at hx176_1); (try rw [show ((0 : Int)).toNat = 0 from rfl] at hx176_2); (try rw [show 0 * 4 = 0 from rfl] at hx176_2); (try rw [Addr.add_zero'] at hx176_2); (try rw [show ((0 : Int)).toNat = 0 from rfl] at hx176_3); (try rw [show 0 * 4 = 0 from rfl] at hx176_3); (try rw [Addr.add_zero'] at hx176_3); replace p176 := eq_true p176; replace q176 := eq_true q176; have p177 : 0 ≤ (0 : Int) := (by omega); have q177 : 0 < (l0.length : Int) := dcd; obtain ⟨ad177, e177, hx177_0, hx177_1, hx177_2, hx177_3⟩ := at_T34 HR0.out 0 p177 q177; obtain rfl : ad176 = ad177 := (by injection e177); have qi177 : (0 < l0.length) = True := eq_true (by omega); (try rw [show ((0 : Int)).toNat = 0 from rfl] at hx177_0); (try rw [show 0 * 4 = 0 from rfl] at hx177_0); (try rw [Addr.add_zero'] at hx177_0); (try rw [show ((0 : Int)).toNat = 0 from rfl] at hx177_1); (try rw [show 0 * 4 = 0 from rfl] at hx177_1); (try rw [Addr.add_zero'] at hx177_1); (try rw [show ((0 : Int)).toNat = 0 from rfl] at hx177_2); (try rw [show 0 * 4 = 0 from rfl] at hx177_2); (try rw [Addr.add_zero'] at hx177_2); (try rw [show ((0 : Int)).toNat = 0 from rfl] at hx177_3); (try rw [show 0 * 4 = 0 from rfl] at hx177_3); (try rw [Addr.add_zero'] at hx177_3); replace p177 := eq_true p177; replace q177 := eq_true q177; have p178 : 0 ≤ (0 : Int) := (by omega); have q178 : 0 < (l0.length : Int) := dcd; obtain ⟨ad178, e178, hx178_0, hx178_1, hx178_2, hx178_3⟩ := at_T34 HR0.out 0 p178 q178; obtain rfl : ad176 = ad178 := (by injection e178); have qi178 : (0 < l0.length) = True := eq_true (by omega); (try rw [show ((0 : Int)).toNat = 0 from rfl] at hx178_0); (try rw [show 0 * 4 = 0 from rfl] at hx178_0); (try rw [Addr.add_zero'] at hx178_0); (try rw [show ((0 : Int)).toNat = 0 from rfl] at hx178_1); (try rw [show 0 * 4 = 0 from rfl] at hx178_1); (try rw [Addr.add_zero'] at hx178_1); (try rw [show ((0 : Int)).toNat = 0 from rfl] at hx178_2); (try rw [show 0 * 4 = 0 from rfl] at hx178_2); (try rw [Addr.add_zero'] at hx178_2); (try rw [show ((0 : Int)).toNat = 0 from rfl] at hx178_3); (try rw [show 0 * 4 = 0 from rfl] at hx178_3); (try rw [Addr.add_zero'] at hx178_3); replace p178 := eq_true p178; replace q178 := eq_true q178))
          go_ret
          exact fin_ (below_later HB.out)
      · rw [if_neg c6] at H
        have c6b0 : (((rd_T34 l0 0).f2) == 0) = false := beq_eq_false_iff_ne.mpr c6
        have c6b1 : (((rd_T34 l0 0).f2) != 0) = true := bne_iff_ne.mpr c6
        obtain rfl := Option.some.inj H
        go_enter Try.func13, Try.ntmps13
        go_wp2_with (first | ((with_reducible refine gate_callee (f := 21) rfl ?_); refine gl_ (some 5) Try.func21 #[.int .i64 (l0.length : Int), .int .i64 2, .int .i64 20] rfl ?_; (with_reducible refine (impl_within.calls (l0.length : Int) 2 20 true _ A2.out).mono ?_); rintro e w' ⟨rfl, ⟨nd, rfl⟩⟩; refine ⟨_, rfl, ?_⟩; have p176 : 0 ≤ (0 : Int) := (by omega); have q176 : 0 < (l0.length : Int) := dcd; obtain ⟨ad176, e176, hx176_0, hx176_1, hx176_2, hx176_3⟩ := at_T34 HR0.out 0 p176 q176; cases e176; have qi176 : (0 < l0.length) = True := eq_true (by omega); (try rw [show ((0 : Int)).toNat = 0 from rfl] at hx176_0); (try rw [show 0 * 4 = 0 from rfl] at hx176_0); (try rw [Addr.add_zero'] at hx176_0); (try rw [show ((0 : Int)).toNat = 0 from rfl] at hx176_1); (try rw [show 0 * 4 = 0 from rfl] at hx176_1); (try rw [Addr.add_zero'] at hx176_1); (try rw [show ((0 : Int)).toNat = 0 from rfl] at hx176_2); (try rw [show 0 * 4 = 0 from rfl] at hx176_2); (try rw [Addr.add_zero'] at hx176_2); (try rw [show ((0 : Int)).toNat = 0 from rfl] at hx176_3); (try rw [show 0 * 4 = 0 from rfl] at hx176_3); (try rw [Addr.add_zero'] at hx176_3); replace p176 := eq_true p176; replace q176 := eq_true q176; have p177 : 0 ≤ (0 : Int) := (by omega); have q177 : 0 < (l0.length : Int) := dcd; obtain ⟨ad177, e177, hx177_0, hx177_1, hx177_2, hx177_3⟩ := at_T34 HR0.out 0 p177 q177; obtain rfl : ad176 = ad177 := (by injection e177); have qi177 : (0 < l0.length) = True := eq_true (by omega); (try rw [show ((0 : Int)).toNat = 0 from rfl] at hx177_0); (try rw [show 0 * 4 = 0 from rfl] at hx177_0); (try rw [Addr.add_zero'] at hx177_0); (try rw [show ((0 : Int)).toNat = 0 from rfl] at hx177_1); (try rw [show 0 * 4 = 0 from rfl] at hx177_1); (try rw [Addr.add_zero'] at hx177_1); (try rw [show ((0 : Int)).toNat = 0 from rfl] at hx177_2); (try rw [show 0 * 4 = 0 from rfl] at hx177_2); (try rw [Addr.add_zero'] at hx177_2); (try rw [show ((0 : Int)).toNat = 0 from rfl] at hx177_3); (try rw [show 0 * 4 = 0 from rfl] at hx177_3); (try rw [Addr.add_zero'] at hx177_3); replace p177 := eq_true p177; replace q177 := eq_true q177))
        go_ret
        exact fin_ (below_later HB.out)
    · rw [if_neg c5] at H
      have c5b0 : (((rd_T34 l0 0).f1) == 7) = false := beq_eq_false_iff_ne.mpr c5
      have c5b1 : (((rd_T34 l0 0).f1) != 7) = true := bne_iff_ne.mpr c5
      obtain rfl := Option.some.inj H
      go_enter Try.func13, Try.ntmps13
      go_wp2_with (first | ((with_reducible refine gate_callee (f := 21) rfl ?_); refine gl_ (some 5) Try.func21 #[.int .i64 (l0.length : Int), .int .i64 2, .int .i64 20] rfl ?_; (with_reducible refine (impl_within.calls (l0.length : Int) 2 20 true _ A2.out).mono ?_); rintro e w' ⟨rfl, ⟨nd, rfl⟩⟩; refine ⟨_, rfl, ?_⟩; have p176 : 0 ≤ (0 : Int) := (by omega); have q176 : 0 < (l0.length : Int) := dcd; obtain ⟨ad176, e176, hx176_0, hx176_1, hx176_2, hx176_3⟩ := at_T34 HR0.out 0 p176 q176; cases e176; have qi176 : (0 < l0.length) = True := eq_true (by omega); (try rw [show ((0 : Int)).toNat = 0 from rfl] at hx176_0); (try rw [show 0 * 4 = 0 from rfl] at hx176_0); (try rw [Addr.add_zero'] at hx176_0); (try rw [show ((0 : Int)).toNat = 0 from rfl] at hx176_1); (try rw [show 0 * 4 = 0 from rfl] at hx176_1); (try rw [Addr.add_zero'] at hx176_1); (try rw [show ((0 : Int)).toNat = 0 from rfl] at hx176_2); (try rw [show 0 * 4 = 0 from rfl] at hx176_2); (try rw [Addr.add_zero'] at hx176_2); (try rw [show ((0 : Int)).toNat = 0 from rfl] at hx176_3); (try rw [show 0 * 4 = 0 from rfl] at hx176_3); (try rw [Addr.add_zero'] at hx176_3); replace p176 := eq_true p176; replace q176 := eq_true q176))
      go_ret
      exact fin_ (below_later HB.out)
  · replace c3 := Bool.eq_false_iff.mpr c3
    subst c3
    replace H := ifn Bool.false_ne_true H
    obtain rfl := Option.some.inj H
    go_enter Try.func13, Try.ntmps13
    go_wp2_with (first | ((with_reducible refine gate_callee (f := 21) rfl ?_); refine gl_ (some 5) Try.func21 #[.int .i64 (l0.length : Int), .int .i64 2, .int .i64 20] rfl ?_; (with_reducible refine (impl_within.calls (l0.length : Int) 2 20 false _ A2.out).mono ?_); rintro e w' ⟨rfl, ⟨nd, rfl⟩⟩; refine ⟨_, rfl, ?_⟩))
    go_ret
    exact fin_ (below_later HB.out)


-- NOT PRINTED: function 35 (abi_NoEscape)

-- NOT PRINTED: function 33 (strings_Builder_copyCheck)

-- NOT PRINTED: function 36 (bytealg_MakeNoZero)

-- NOT PRINTED: function 34 (strings_Builder_grow)

-- NOT PRINTED: function 29 (strings_Builder_Grow)

-- NOT PRINTED: function 30 (strings_Builder_WriteString)

-- NOT PRINTED: function 31 (strings_Builder_String)

/-! ### strings_Join: function 24 -/
def strings_Join.f (l0 : List ByteArray) (a1 : ByteArray) : Option ByteArray := if (Lib.join (l0.map (·.data.toList)) a1.data.toList).length ≤ 140737488355328 ∧ l0.length ≤ 140737488355328 then some ⟨(Lib.join (l0.map (·.data.toList)) a1.data.toList).toArray⟩ else none
set_option maxHeartbeats 8000000 in
theorem strings_Join.calls (A0 : Option Addr) (c0 : Nat) (l0 : List ByteArray) (a1 : ByteArray) (r : ByteArray) (w : World) (hr0 : Kd.C Kd.string w A0 l0.length l0) (hc0 : l0.length ≤ c0) (h : strings_Join.f l0 a1 = some r) :
    Calls Try.prog 24 #[.slice A0 l0.length c0, .string a1] w fun e w' => e = .returned (.string r) ∧ Below w.heap.size w w' := by
  unfold strings_Join.f at h
  split at h
  case isFalse => cases h
  rename_i hh
  obtain rfl := Option.some.inj h
  cases l0 with
  | nil => exact (Try.strings_Join_none A0 c0 a1 w).mono fun e w' ⟨he, hw⟩ => ⟨he, hw ▸ Below.refl _ _⟩
  | cons x t =>
    obtain ⟨_, _, hcells⟩ := Kd.reads_of_C (enc := Value.string) (d := (⟨#[]⟩ : ByteArray)) (h1 := fun _ => rfl) hr0
    obtain ⟨ad, rfl, hc⟩ := hcells (by simp)
    have h0 := hc 0 (by simp)
    rw [show ad.add 0 = ad from rfl] at h0
    have hs := World.cell?_spot h0
    obtain ⟨bk, o, sp⟩ := ad
    obtain rfl : sp = none := hs
    have hb := World.block_lt_of_cell? w _ h0
    refine (Try.strings_Join bk o c0 (x :: t) a1 w (fun j y hj => ?_) hb hh.2 hc0 hh.1)
    have hl : j < (x :: t).length := by
      by_cases q : j < (x :: t).length
      · exact q
      · rw [List.getElem?_eq_none (by omega)] at hj; cases hj
    have hcj := hc j hl
    rw [List.getD_eq_getElem?_getD, hj] at hcj
    cases j with
    | zero => exact hcj
    | succ j => exact hcj

/-! ### impl_colText: function 23 -/
/-! ### impl_partsText: function 14 -/
mutual
def impl_colText.f : Nat → List (S34) → Int → Option (ByteArray × Int)
  | 0, _, _ => none
  | k + 1, l0, a1 => if 0 ≤ a1 then (if a1 < (l0.length : Int) then (if 0 ≤ ((rd_T34 l0 a1).f2) then (if ((rd_T34 l0 a1).f2) ≤ (wrap64 (((rd_T34 l0 a1).f2) + 1)) then (if (wrap64 (((rd_T34 l0 a1).f2) + 1)) ≤ 3 then (if 0 ≤ ((rd_T34 l0 a1).f1) then (if ((rd_T34 l0 a1).f1) ≤ (wrap64 (((rd_T34 l0 a1).f1) + 1)) then (if (wrap64 (((rd_T34 l0 a1).f1) + 1)) ≤ 8 then (if ((⟨#[33, 63, 42]⟩ : ByteArray).extract (((rd_T34 l0 a1).f2) : Int).toNat ((wrap64 (((rd_T34 l0 a1).f2) + 1)) : Int).toNat).size + ((⟨#[98, 105, 108, 32, 32, 100, 116, 103]⟩ : ByteArray).extract (((rd_T34 l0 a1).f1) : Int).toNat ((wrap64 (((rd_T34 l0 a1).f1) + 1)) : Int).toNat).size ≤ 9223372036854775807 then (if (((⟨#[33, 63, 42]⟩ : ByteArray).extract (((rd_T34 l0 a1).f2) : Int).toNat ((wrap64 (((rd_T34 l0 a1).f2) + 1)) : Int).toNat) ++ ((⟨#[98, 105, 108, 32, 32, 100, 116, 103]⟩ : ByteArray).extract (((rd_T34 l0 a1).f1) : Int).toNat ((wrap64 (((rd_T34 l0 a1).f1) + 1)) : Int).toNat)).size + ((rd_T34 l0 a1).f0).size ≤ 9223372036854775807 then (if ((rd_T34 l0 a1).f1) = 7 then ((impl_partsText.f k l0 a1).bind fun bt182 => (if ((((⟨#[33, 63, 42]⟩ : ByteArray).extract (((rd_T34 l0 a1).f2) : Int).toNat ((wrap64 (((rd_T34 l0 a1).f2) + 1)) : Int).toNat) ++ ((⟨#[98, 105, 108, 32, 32, 100, 116, 103]⟩ : ByteArray).extract (((rd_T34 l0 a1).f1) : Int).toNat ((wrap64 (((rd_T34 l0 a1).f1) + 1)) : Int).toNat)) ++ ((rd_T34 l0 a1).f0)).size + 1 ≤ 9223372036854775807 then (if (((((⟨#[33, 63, 42]⟩ : ByteArray).extract (((rd_T34 l0 a1).f2) : Int).toNat ((wrap64 (((rd_T34 l0 a1).f2) + 1)) : Int).toNat) ++ ((⟨#[98, 105, 108, 32, 32, 100, 116, 103]⟩ : ByteArray).extract (((rd_T34 l0 a1).f1) : Int).toNat ((wrap64 (((rd_T34 l0 a1).f1) + 1)) : Int).toNat)) ++ ((rd_T34 l0 a1).f0)) ++ (⟨#[123]⟩ : ByteArray)).size + bt182.1.size ≤ 9223372036854775807 then (if ((((((⟨#[33, 63, 42]⟩ : ByteArray).extract (((rd_T34 l0 a1).f2) : Int).toNat ((wrap64 (((rd_T34 l0 a1).f2) + 1)) : Int).toNat) ++ ((⟨#[98, 105, 108, 32, 32, 100, 116, 103]⟩ : ByteArray).extract (((rd_T34 l0 a1).f1) : Int).toNat ((wrap64 (((rd_T34 l0 a1).f1) + 1)) : Int).toNat)) ++ ((rd_T34 l0 a1).f0)) ++ (⟨#[123]⟩ : ByteArray)) ++ bt182.1).size + 1 ≤ 9223372036854775807 then (some (((((((⟨#[33, 63, 42]⟩ : ByteArray).extract (((rd_T34 l0 a1).f2) : Int).toNat ((wrap64 (((rd_T34 l0 a1).f2) + 1)) : Int).toNat) ++ ((⟨#[98, 105, 108, 32, 32, 100, 116, 103]⟩ : ByteArray).extract (((rd_T34 l0 a1).f1) : Int).toNat ((wrap64 (((rd_T34 l0 a1).f1) + 1)) : Int).toNat)) ++ ((rd_T34 l0 a1).f0)) ++ (⟨#[123]⟩ : ByteArray)) ++ bt182.1) ++ (⟨#[125]⟩ : ByteArray), bt182.2)) else (none)) else (none)) else (none))) else (some ((((⟨#[33, 63, 42]⟩ : ByteArray).extract (((rd_T34 l0 a1).f2) : Int).toNat ((wrap64 (((rd_T34 l0 a1).f2) + 1)) : Int).toNat) ++ ((⟨#[98, 105, 108, 32, 32, 100, 116, 103]⟩ : ByteArray).extract (((rd_T34 l0 a1).f1) : Int).toNat ((wrap64 (((rd_T34 l0 a1).f1) + 1)) : Int).toNat)) ++ ((rd_T34 l0 a1).f0), wrap64 (a1 + 1)))) else (none)) else (none)) else (none)) else (none)) else (none)) else (none)) else (none)) else (none)) else (none)) else (none)
def impl_partsText.l0 : Nat → List (S34) → List ByteArray → Int → Int → Int → Option (ByteArray × Int)
  | 0, _, _, _, _, _ => none
  | k + 1, x0, x6, x7, x17, x18 => if x18 < x17 then ((impl_colText.f k x0 x7).bind fun bt188 => (if x6.length < 8796093022208 then (impl_partsText.l0 k x0 (x6 ++ [bt188.1]) bt188.2 x17 (wrap64 (x18 + 1))) else (none))) else ((strings_Join.f x6 (⟨#[44]⟩ : ByteArray)).bind fun t193 => (some (t193, x7)))
def impl_partsText.f : Nat → List (S34) → Int → Option (ByteArray × Int)
  | 0, _, _ => none
  | k + 1, l0, a1 => if 0 ≤ a1 then (if a1 < (l0.length : Int) then (impl_partsText.l0 k l0 (([] : List ByteArray)) (wrap64 (a1 + 1)) ((rd_T34 l0 a1).f3) 0) else (none)) else (none)
end
set_option maxHeartbeats 8000000 in
set_option maxRecDepth 100000 in
theorem impl_colText.calls_ (k : Nat) (ih : ∀ j, j < k → (∀ (A0 : Option Addr) (c0 : Nat) (l0 : List (S34)) (a1 : Int) (r1 : ByteArray) (r2 : Int) (w : World) (hr0 : Kd.C k34 w A0 l0.length l0) (hc0 : l0.length ≤ c0) (h : impl_colText.f j l0 a1 = some (r1, r2)),
    Calls Try.prog 23 #[.slice A0 l0.length c0, .int .i64 a1] w fun e w' => e = .returned (.tuple #[.string r1, .int .i64 r2]) ∧ Below w.heap.size w w')) (ihP : ∀ j, j < k → (∀ (A0 : Option Addr) (c0 : Nat) (l0 : List (S34)) (a1 : Int) (r1 : ByteArray) (r2 : Int) (w : World) (hr0 : Kd.C k34 w A0 l0.length l0) (hc0 : l0.length ≤ c0) (h : impl_partsText.f j l0 a1 = some (r1, r2)),
    Calls Try.prog 14 #[.slice A0 l0.length c0, .int .i64 a1] w fun e w' => e = .returned (.tuple #[.string r1, .int .i64 r2]) ∧ Below w.heap.size w w')) : ∀ (A0 : Option Addr) (c0 : Nat) (l0 : List (S34)) (a1 : Int) (r1 : ByteArray) (r2 : Int) (w : World) (hr0 : Kd.C k34 w A0 l0.length l0) (hc0 : l0.length ≤ c0) (h : impl_colText.f k l0 a1 = some (r1, r2)),
    Calls Try.prog 23 #[.slice A0 l0.length c0, .int .i64 a1] w fun e w' => e = .returned (.tuple #[.string r1, .int .i64 r2]) ∧ Below w.heap.size w w' := by
  intro A0 c0 l0 a1 r1 r2 w hr0 hc0 h
  cases k with
  | zero => exact absurd h (by simp [impl_colText.f])
  | succ k =>
  simp only [impl_colText.f] at h
  have hu34 := Try.underlying34
  have HR0 := Aside0.mk hr0
  have HC0 := Aside0.mk hc0
  clear hr0 hc0
  have HB := Aside0.mk (Below.refl w.heap.size w)
  have H : (if 0 ≤ a1 then (if a1 < (l0.length : Int) then (if 0 ≤ ((rd_T34 l0 a1).f2) then (if ((rd_T34 l0 a1).f2) ≤ (wrap64 (((rd_T34 l0 a1).f2) + 1)) then (if (wrap64 (((rd_T34 l0 a1).f2) + 1)) ≤ 3 then (if 0 ≤ ((rd_T34 l0 a1).f1) then (if ((rd_T34 l0 a1).f1) ≤ (wrap64 (((rd_T34 l0 a1).f1) + 1)) then (if (wrap64 (((rd_T34 l0 a1).f1) + 1)) ≤ 8 then (if ((⟨#[33, 63, 42]⟩ : ByteArray).extract (((rd_T34 l0 a1).f2) : Int).toNat ((wrap64 (((rd_T34 l0 a1).f2) + 1)) : Int).toNat).size + ((⟨#[98, 105, 108, 32, 32, 100, 116, 103]⟩ : ByteArray).extract (((rd_T34 l0 a1).f1) : Int).toNat ((wrap64 (((rd_T34 l0 a1).f1) + 1)) : Int).toNat).size ≤ 9223372036854775807 then (if (((⟨#[33, 63, 42]⟩ : ByteArray).extract (((rd_T34 l0 a1).f2) : Int).toNat ((wrap64 (((rd_T34 l0 a1).f2) + 1)) : Int).toNat) ++ ((⟨#[98, 105, 108, 32, 32, 100, 116, 103]⟩ : ByteArray).extract (((rd_T34 l0 a1).f1) : Int).toNat ((wrap64 (((rd_T34 l0 a1).f1) + 1)) : Int).toNat)).size + ((rd_T34 l0 a1).f0).size ≤ 9223372036854775807 then (if ((rd_T34 l0 a1).f1) = 7 then ((impl_partsText.f k l0 a1).bind fun bt182 => (if ((((⟨#[33, 63, 42]⟩ : ByteArray).extract (((rd_T34 l0 a1).f2) : Int).toNat ((wrap64 (((rd_T34 l0 a1).f2) + 1)) : Int).toNat) ++ ((⟨#[98, 105, 108, 32, 32, 100, 116, 103]⟩ : ByteArray).extract (((rd_T34 l0 a1).f1) : Int).toNat ((wrap64 (((rd_T34 l0 a1).f1) + 1)) : Int).toNat)) ++ ((rd_T34 l0 a1).f0)).size + 1 ≤ 9223372036854775807 then (if (((((⟨#[33, 63, 42]⟩ : ByteArray).extract (((rd_T34 l0 a1).f2) : Int).toNat ((wrap64 (((rd_T34 l0 a1).f2) + 1)) : Int).toNat) ++ ((⟨#[98, 105, 108, 32, 32, 100, 116, 103]⟩ : ByteArray).extract (((rd_T34 l0 a1).f1) : Int).toNat ((wrap64 (((rd_T34 l0 a1).f1) + 1)) : Int).toNat)) ++ ((rd_T34 l0 a1).f0)) ++ (⟨#[123]⟩ : ByteArray)).size + bt182.1.size ≤ 9223372036854775807 then (if ((((((⟨#[33, 63, 42]⟩ : ByteArray).extract (((rd_T34 l0 a1).f2) : Int).toNat ((wrap64 (((rd_T34 l0 a1).f2) + 1)) : Int).toNat) ++ ((⟨#[98, 105, 108, 32, 32, 100, 116, 103]⟩ : ByteArray).extract (((rd_T34 l0 a1).f1) : Int).toNat ((wrap64 (((rd_T34 l0 a1).f1) + 1)) : Int).toNat)) ++ ((rd_T34 l0 a1).f0)) ++ (⟨#[123]⟩ : ByteArray)) ++ bt182.1).size + 1 ≤ 9223372036854775807 then (some (((((((⟨#[33, 63, 42]⟩ : ByteArray).extract (((rd_T34 l0 a1).f2) : Int).toNat ((wrap64 (((rd_T34 l0 a1).f2) + 1)) : Int).toNat) ++ ((⟨#[98, 105, 108, 32, 32, 100, 116, 103]⟩ : ByteArray).extract (((rd_T34 l0 a1).f1) : Int).toNat ((wrap64 (((rd_T34 l0 a1).f1) + 1)) : Int).toNat)) ++ ((rd_T34 l0 a1).f0)) ++ (⟨#[123]⟩ : ByteArray)) ++ bt182.1) ++ (⟨#[125]⟩ : ByteArray), bt182.2)) else (none)) else (none)) else (none))) else (some ((((⟨#[33, 63, 42]⟩ : ByteArray).extract (((rd_T34 l0 a1).f2) : Int).toNat ((wrap64 (((rd_T34 l0 a1).f2) + 1)) : Int).toNat) ++ ((⟨#[98, 105, 108, 32, 32, 100, 116, 103]⟩ : ByteArray).extract (((rd_T34 l0 a1).f1) : Int).toNat ((wrap64 (((rd_T34 l0 a1).f1) + 1)) : Int).toNat)) ++ ((rd_T34 l0 a1).f0), wrap64 (a1 + 1)))) else (none)) else (none)) else (none)) else (none)) else (none)) else (none)) else (none)) else (none)) else (none)) else (none)) = some (r1, r2) := h
  clear h
  replace H := ifd H
  obtain ⟨c3b0, H⟩ := H
  replace H := ifd H
  obtain ⟨c4b0, H⟩ := H
  replace H := ifs H
  obtain ⟨c5, H⟩ := H
  have c5b0 := eq_true c5
  have c5b1 := decide_eq_true c5
  clear c5
  replace H := ifs H
  obtain ⟨c6, H⟩ := H
  have c6b0 := eq_true c6
  have c6b1 := decide_eq_true c6
  replace H := ifs H
  obtain ⟨c7, H⟩ := H
  have c7b0 := eq_true c7
  have c7b1 := decide_eq_true c7
  replace H := ifs H
  obtain ⟨c8, H⟩ := H
  have c8b0 := eq_true c8
  have c8b1 := decide_eq_true c8
  clear c8
  replace H := ifs H
  obtain ⟨c9, H⟩ := H
  have c9b0 := eq_true c9
  have c9b1 := decide_eq_true c9
  replace H := ifs H
  obtain ⟨c10, H⟩ := H
  have c10b0 := eq_true c10
  have c10b1 := decide_eq_true c10
  replace H := ifs H
  obtain ⟨c11, H⟩ := H
  have c11b0 := eq_true c11
  have c11b1 := decide_eq_true c11
  try have c11b2 : (9223372036854775807 < ((⟨#[33, 63, 42]⟩ : ByteArray).extract (((rd_T34 l0 a1).f2) : Int).toNat ((wrap64 (((rd_T34 l0 a1).f2) + 1)) : Int).toNat).size + ((⟨#[98, 105, 108, 32, 32, 100, 116, 103]⟩ : ByteArray).extract (((rd_T34 l0 a1).f1) : Int).toNat ((wrap64 (((rd_T34 l0 a1).f1) + 1)) : Int).toNat).size) = False := eq_false (Nat.not_lt.2 c11)
  replace H := ifs H
  obtain ⟨c12, H⟩ := H
  have c12b0 := eq_true c12
  have c12b1 := decide_eq_true c12
  try have c12b2 : (9223372036854775807 < (((⟨#[33, 63, 42]⟩ : ByteArray).extract (((rd_T34 l0 a1).f2) : Int).toNat ((wrap64 (((rd_T34 l0 a1).f2) + 1)) : Int).toNat) ++ ((⟨#[98, 105, 108, 32, 32, 100, 116, 103]⟩ : ByteArray).extract (((rd_T34 l0 a1).f1) : Int).toNat ((wrap64 (((rd_T34 l0 a1).f1) + 1)) : Int).toNat)).size + ((rd_T34 l0 a1).f0).size) = False := eq_false (Nat.not_lt.2 c12)
  try have c12b3 : (9223372036854775807 < (((wrap64 (((rd_T34 l0 a1).f2) + 1)) : Int).toNat - (((rd_T34 l0 a1).f2) : Int).toNat) + (((wrap64 (((rd_T34 l0 a1).f1) + 1)) : Int).toNat - (((rd_T34 l0 a1).f1) : Int).toNat) + ((rd_T34 l0 a1).f0).size) = False := eq_false (by have h_ := c12; first | (simp only [ByteArray.size_append] at h_; exact Nat.not_lt.2 h_) | (simp only [ByteArray.size_append, ByteArray.size_extract, bsz, List.size_toArray, List.length_cons, List.length_nil, Nat.zero_add, Nat.reduceAdd, eq_iff_iff, iff_true] at *; omega))
  by_cases c13 : ((rd_T34 l0 a1).f1) = 7
  · rw [if_pos c13] at H
    have c13b0 : (((rd_T34 l0 a1).f1) == 7) = true := beq_iff_eq.mpr c13
    have c13b1 : (((rd_T34 l0 a1).f1) != 7) = false := bne_eq_false_iff_eq.mpr c13
    clear c13
    replace H := Option.bind_eq_some_iff.mp H
    obtain ⟨⟨t182, t183⟩, A140, H⟩ := H
    replace H : (if ((((⟨#[33, 63, 42]⟩ : ByteArray).extract (((rd_T34 l0 a1).f2) : Int).toNat ((wrap64 (((rd_T34 l0 a1).f2) + 1)) : Int).toNat) ++ ((⟨#[98, 105, 108, 32, 32, 100, 116, 103]⟩ : ByteArray).extract (((rd_T34 l0 a1).f1) : Int).toNat ((wrap64 (((rd_T34 l0 a1).f1) + 1)) : Int).toNat)) ++ ((rd_T34 l0 a1).f0)).size + 1 ≤ 9223372036854775807 then (if (((((⟨#[33, 63, 42]⟩ : ByteArray).extract (((rd_T34 l0 a1).f2) : Int).toNat ((wrap64 (((rd_T34 l0 a1).f2) + 1)) : Int).toNat) ++ ((⟨#[98, 105, 108, 32, 32, 100, 116, 103]⟩ : ByteArray).extract (((rd_T34 l0 a1).f1) : Int).toNat ((wrap64 (((rd_T34 l0 a1).f1) + 1)) : Int).toNat)) ++ ((rd_T34 l0 a1).f0)) ++ (⟨#[123]⟩ : ByteArray)).size + t182.size ≤ 9223372036854775807 then (if ((((((⟨#[33, 63, 42]⟩ : ByteArray).extract (((rd_T34 l0 a1).f2) : Int).toNat ((wrap64 (((rd_T34 l0 a1).f2) + 1)) : Int).toNat) ++ ((⟨#[98, 105, 108, 32, 32, 100, 116, 103]⟩ : ByteArray).extract (((rd_T34 l0 a1).f1) : Int).toNat ((wrap64 (((rd_T34 l0 a1).f1) + 1)) : Int).toNat)) ++ ((rd_T34 l0 a1).f0)) ++ (⟨#[123]⟩ : ByteArray)) ++ t182).size + 1 ≤ 9223372036854775807 then (some (((((((⟨#[33, 63, 42]⟩ : ByteArray).extract (((rd_T34 l0 a1).f2) : Int).toNat ((wrap64 (((rd_T34 l0 a1).f2) + 1)) : Int).toNat) ++ ((⟨#[98, 105, 108, 32, 32, 100, 116, 103]⟩ : ByteArray).extract (((rd_T34 l0 a1).f1) : Int).toNat ((wrap64 (((rd_T34 l0 a1).f1) + 1)) : Int).toNat)) ++ ((rd_T34 l0 a1).f0)) ++ (⟨#[123]⟩ : ByteArray)) ++ t182) ++ (⟨#[125]⟩ : ByteArray), t183)) else (none)) else (none)) else (none)) = some (r1, r2) := H
    have A14 := Aside0.mk A140
    clear A140
    replace H := ifs H
    obtain ⟨c15, H⟩ := H
    have c15b0 := eq_true c15
    have c15b1 := decide_eq_true c15
    try have c15b2 : (9223372036854775807 < ((((⟨#[33, 63, 42]⟩ : ByteArray).extract (((rd_T34 l0 a1).f2) : Int).toNat ((wrap64 (((rd_T34 l0 a1).f2) + 1)) : Int).toNat) ++ ((⟨#[98, 105, 108, 32, 32, 100, 116, 103]⟩ : ByteArray).extract (((rd_T34 l0 a1).f1) : Int).toNat ((wrap64 (((rd_T34 l0 a1).f1) + 1)) : Int).toNat)) ++ ((rd_T34 l0 a1).f0)).size + 1) = False := eq_false (Nat.not_lt.2 c15)
    try have c15b3 : (9223372036854775807 < (((wrap64 (((rd_T34 l0 a1).f2) + 1)) : Int).toNat - (((rd_T34 l0 a1).f2) : Int).toNat) + (((wrap64 (((rd_T34 l0 a1).f1) + 1)) : Int).toNat - (((rd_T34 l0 a1).f1) : Int).toNat) + ((rd_T34 l0 a1).f0).size + 1) = False := eq_false (by have h_ := c15; first | (simp only [ByteArray.size_append] at h_; exact Nat.not_lt.2 h_) | (simp only [ByteArray.size_append, ByteArray.size_extract, bsz, List.size_toArray, List.length_cons, List.length_nil, Nat.zero_add, Nat.reduceAdd, eq_iff_iff, iff_true] at *; omega))
    replace H := ifs H
    obtain ⟨c16, H⟩ := H
    have c16b0 := eq_true c16
    have c16b1 := decide_eq_true c16
    try have c16b2 : (9223372036854775807 < (((((⟨#[33, 63, 42]⟩ : ByteArray).extract (((rd_T34 l0 a1).f2) : Int).toNat ((wrap64 (((rd_T34 l0 a1).f2) + 1)) : Int).toNat) ++ ((⟨#[98, 105, 108, 32, 32, 100, 116, 103]⟩ : ByteArray).extract (((rd_T34 l0 a1).f1) : Int).toNat ((wrap64 (((rd_T34 l0 a1).f1) + 1)) : Int).toNat)) ++ ((rd_T34 l0 a1).f0)) ++ (⟨#[123]⟩ : ByteArray)).size + t182.size) = False := eq_false (Nat.not_lt.2 c16)
    try have c16b3 : (9223372036854775807 < (((wrap64 (((rd_T34 l0 a1).f2) + 1)) : Int).toNat - (((rd_T34 l0 a1).f2) : Int).toNat) + (((wrap64 (((rd_T34 l0 a1).f1) + 1)) : Int).toNat - (((rd_T34 l0 a1).f1) : Int).toNat) + ((rd_T34 l0 a1).f0).size + 1 + t182.size) = False := eq_false (by have h_ := c16; first | (simp only [ByteArray.size_append] at h_; exact Nat.not_lt.2 h_) | (simp only [ByteArray.size_append, ByteArray.size_extract, bsz, List.size_toArray, List.length_cons, List.length_nil, Nat.zero_add, Nat.reduceAdd, eq_iff_iff, iff_true] at *; omega))
    replace H := ifs H
    obtain ⟨c17, H⟩ := H
    have c17b0 := eq_true c17
    have c17b1 := decide_eq_true c17
    try have c17b2 : (9223372036854775807 < ((((((⟨#[33, 63, 42]⟩ : ByteArray).extract (((rd_T34 l0 a1).f2) : Int).toNat ((wrap64 (((rd_T34 l0 a1).f2) + 1)) : Int).toNat) ++ ((⟨#[98, 105, 108, 32, 32, 100, 116, 103]⟩ : ByteArray).extract (((rd_T34 l0 a1).f1) : Int).toNat ((wrap64 (((rd_T34 l0 a1).f1) + 1)) : Int).toNat)) ++ ((rd_T34 l0 a1).f0)) ++ (⟨#[123]⟩ : ByteArray)) ++ t182).size + 1) = False := eq_false (Nat.not_lt.2 c17)
    try have c17b3 : (9223372036854775807 < (((wrap64 (((rd_T34 l0 a1).f2) + 1)) : Int).toNat - (((rd_T34 l0 a1).f2) : Int).toNat) + (((wrap64 (((rd_T34 l0 a1).f1) + 1)) : Int).toNat - (((rd_T34 l0 a1).f1) : Int).toNat) + ((rd_T34 l0 a1).f0).size + 1 + (t182).size + 1) = False := eq_false (by have h_ := c17; first | (simp only [ByteArray.size_append] at h_; exact Nat.not_lt.2 h_) | (simp only [ByteArray.size_append, ByteArray.size_extract, bsz, List.size_toArray, List.length_cons, List.length_nil, Nat.zero_add, Nat.reduceAdd, eq_iff_iff, iff_true] at *; omega))
    simp only [Option.some.injEq, Prod.mk.injEq] at H
    obtain ⟨rfl, rfl⟩ := H
    have p180 : 0 ≤ (a1 : Int) := dcd
    have q180 : a1 < (l0.length : Int) := dcd
    obtain ⟨ad180, e180, hx180_0, hx180_1, hx180_2, hx180_3⟩ := at_T34 HR0.out a1 p180 q180
    cases e180
    replace p180 := eq_true p180
    replace q180 := eq_true q180
    go_enter Try.func23, Try.ntmps23
    go_wp2_with (first | ((with_reducible refine gate_dst (N := 6) rfl ?_); refine box_event ?hg (N := 6) ?hd (cs := #[.string (⟨#[]⟩ : ByteArray), .int .i64 0, .int .i64 0, .int .i64 0]) (t := 34) ?hr ?_; (case hd => rfl); (case hg => rfl); (case hr => first | (go_simp; done) | (go_simp; rfl)); intro gb181 hg w18 hbox hb; have n0_ := Aside0.mk (below_step (below_later HB.out) hb); have n1_ := Aside0.mk (hbox); have n2_ := Aside0.mk ((by rw [hg]; exact (below_size (below_later HB.out)) : w.heap.size ≤ gb181)); have n3_ := Aside0.mk ((by rw [hg]; exact (below_size (below_later HB.out)) : w.heap.size ≤ gb181)); clear HB; have HB := n0_; have BK181 := n1_; have GW181 := n2_; have GE181 := n3_; clear n0_ n1_ n2_ n3_; clear hb hbox hg; have hcz19_0 : w18.cell? ⟨gb181, 0, none⟩ = some (.string (⟨#[]⟩ : ByteArray)) := (blk_cell BK181.out 0).trans rfl; have hcz19_1 : w18.cell? ⟨gb181, 1, none⟩ = some (.int .i64 0) := (blk_cell BK181.out 1).trans rfl; have hcz19_2 : w18.cell? ⟨gb181, 2, none⟩ = some (.int .i64 0) := (blk_cell BK181.out 2).trans rfl; have hcz19_3 : w18.cell? ⟨gb181, 3, none⟩ = some (.int .i64 0) := (blk_cell BK181.out 3).trans rfl; have hfz19_0 := blk_frozen BK181.out 0; have hfz19_1 := blk_frozen BK181.out 1; have hfz19_2 := blk_frozen BK181.out 2; have hfz19_3 := blk_frozen BK181.out 3) | (go_at_call 14; (with_reducible refine (ihP k (by omega) _ _ l0 a1 t182 t183 _ ?side1 ?side2 A14.out).mono ?_); (case side1 => exact Kd.C_below HR0.out (below_later HB.out)); (case side2 => exact HC0.out); rintro e w20 ⟨rfl, hb⟩; have n0_ := Aside0.mk (blk_below (g := gb181) (o := .cells #[.string ((rd_T34 l0 a1).f0), .int .i64 ((rd_T34 l0 a1).f1), .int .i64 ((rd_T34 l0 a1).f2), .int .i64 ((rd_T34 l0 a1).f3)] 34 (0, 0)) (by (with_reducible repeat (first | refine blk_drewN ?_ _ | refine blk_drew ?_ | refine blk_alloc ?_ _)); refine blk_put (cs := #[.string ((rd_T34 l0 a1).f0), .int .i64 ((rd_T34 l0 a1).f1), .int .i64 ((rd_T34 l0 a1).f2), .int .i64 0]) ?_ 3 _ rfl; (with_reducible repeat (first | refine blk_drewN ?_ _ | refine blk_drew ?_ | refine blk_alloc ?_ _)); refine blk_put (cs := #[.string ((rd_T34 l0 a1).f0), .int .i64 ((rd_T34 l0 a1).f1), .int .i64 0, .int .i64 0]) ?_ 2 _ rfl; (with_reducible repeat (first | refine blk_drewN ?_ _ | refine blk_drew ?_ | refine blk_alloc ?_ _)); refine blk_put (cs := #[.string ((rd_T34 l0 a1).f0), .int .i64 0, .int .i64 0, .int .i64 0]) ?_ 1 _ rfl; (with_reducible repeat (first | refine blk_drewN ?_ _ | refine blk_drew ?_ | refine blk_alloc ?_ _)); refine blk_put (cs := #[.string (⟨#[]⟩ : ByteArray), .int .i64 0, .int .i64 0, .int .i64 0]) ?_ 0 _ rfl; (with_reducible repeat (first | refine blk_drewN ?_ _ | refine blk_drew ?_ | refine blk_alloc ?_ _)); exact BK181.out) hb); have n1_ := Aside0.mk (below_step (below_later HB.out) hb); clear BK181; clear HB; have BK181 := n0_; have HB := n1_; clear n0_ n1_; (try clear hb)))
    repeat (go_quiet (first | ((with_reducible refine gate_dst (N := 6) rfl ?_); refine box_event ?hg (N := 6) ?hd (cs := #[.string (⟨#[]⟩ : ByteArray), .int .i64 0, .int .i64 0, .int .i64 0]) (t := 34) ?hr ?_; (case hd => rfl); (case hg => rfl); (case hr => first | (go_simp; done) | (go_simp; rfl)); intro gb181 hg w18 hbox hb; have n0_ := Aside0.mk (below_step (below_later HB.out) hb); have n1_ := Aside0.mk (hbox); have n2_ := Aside0.mk ((by rw [hg]; exact (below_size (below_later HB.out)) : w.heap.size ≤ gb181)); have n3_ := Aside0.mk ((by rw [hg]; exact (below_size (below_later HB.out)) : w.heap.size ≤ gb181)); clear HB; have HB := n0_; have BK181 := n1_; have GW181 := n2_; have GE181 := n3_; clear n0_ n1_ n2_ n3_; clear hb hbox hg; have hcz19_0 : w18.cell? ⟨gb181, 0, none⟩ = some (.string (⟨#[]⟩ : ByteArray)) := (blk_cell BK181.out 0).trans rfl; have hcz19_1 : w18.cell? ⟨gb181, 1, none⟩ = some (.int .i64 0) := (blk_cell BK181.out 1).trans rfl; have hcz19_2 : w18.cell? ⟨gb181, 2, none⟩ = some (.int .i64 0) := (blk_cell BK181.out 2).trans rfl; have hcz19_3 : w18.cell? ⟨gb181, 3, none⟩ = some (.int .i64 0) := (blk_cell BK181.out 3).trans rfl; have hfz19_0 := blk_frozen BK181.out 0; have hfz19_1 := blk_frozen BK181.out 1; have hfz19_2 := blk_frozen BK181.out 2; have hfz19_3 := blk_frozen BK181.out 3) | (go_at_call 14; (with_reducible refine (ihP k (by omega) _ _ l0 a1 t182 t183 _ ?side1 ?side2 A14.out).mono ?_); (case side1 => exact Kd.C_below HR0.out (below_later HB.out)); (case side2 => exact HC0.out); rintro e w20 ⟨rfl, hb⟩; have n0_ := Aside0.mk (blk_below (g := gb181) (o := .cells #[.string ((rd_T34 l0 a1).f0), .int .i64 ((rd_T34 l0 a1).f1), .int .i64 ((rd_T34 l0 a1).f2), .int .i64 ((rd_T34 l0 a1).f3)] 34 (0, 0)) (by (with_reducible repeat (first | refine blk_drewN ?_ _ | refine blk_drew ?_ | refine blk_alloc ?_ _)); refine blk_put (cs := #[.string ((rd_T34 l0 a1).f0), .int .i64 ((rd_T34 l0 a1).f1), .int .i64 ((rd_T34 l0 a1).f2), .int .i64 0]) ?_ 3 _ rfl; (with_reducible repeat (first | refine blk_drewN ?_ _ | refine blk_drew ?_ | refine blk_alloc ?_ _)); refine blk_put (cs := #[.string ((rd_T34 l0 a1).f0), .int .i64 ((rd_T34 l0 a1).f1), .int .i64 0, .int .i64 0]) ?_ 2 _ rfl; (with_reducible repeat (first | refine blk_drewN ?_ _ | refine blk_drew ?_ | refine blk_alloc ?_ _)); refine blk_put (cs := #[.string ((rd_T34 l0 a1).f0), .int .i64 0, .int .i64 0, .int .i64 0]) ?_ 1 _ rfl; (with_reducible repeat (first | refine blk_drewN ?_ _ | refine blk_drew ?_ | refine blk_alloc ?_ _)); refine blk_put (cs := #[.string (⟨#[]⟩ : ByteArray), .int .i64 0, .int .i64 0, .int .i64 0]) ?_ 0 _ rfl; (with_reducible repeat (first | refine blk_drewN ?_ _ | refine blk_drew ?_ | refine blk_alloc ?_ _)); exact BK181.out) hb); have n1_ := Aside0.mk (below_step (below_later HB.out) hb); clear BK181; clear HB; have BK181 := n0_; have HB := n1_; clear n0_ n1_; (try clear hb))); try go_wp2_with (first | ((with_reducible refine gate_dst (N := 6) rfl ?_); refine box_event ?hg (N := 6) ?hd (cs := #[.string (⟨#[]⟩ : ByteArray), .int .i64 0, .int .i64 0, .int .i64 0]) (t := 34) ?hr ?_; (case hd => rfl); (case hg => rfl); (case hr => first | (go_simp; done) | (go_simp; rfl)); intro gb181 hg w18 hbox hb; have n0_ := Aside0.mk (below_step (below_later HB.out) hb); have n1_ := Aside0.mk (hbox); have n2_ := Aside0.mk ((by rw [hg]; exact (below_size (below_later HB.out)) : w.heap.size ≤ gb181)); have n3_ := Aside0.mk ((by rw [hg]; exact (below_size (below_later HB.out)) : w.heap.size ≤ gb181)); clear HB; have HB := n0_; have BK181 := n1_; have GW181 := n2_; have GE181 := n3_; clear n0_ n1_ n2_ n3_; clear hb hbox hg; have hcz19_0 : w18.cell? ⟨gb181, 0, none⟩ = some (.string (⟨#[]⟩ : ByteArray)) := (blk_cell BK181.out 0).trans rfl; have hcz19_1 : w18.cell? ⟨gb181, 1, none⟩ = some (.int .i64 0) := (blk_cell BK181.out 1).trans rfl; have hcz19_2 : w18.cell? ⟨gb181, 2, none⟩ = some (.int .i64 0) := (blk_cell BK181.out 2).trans rfl; have hcz19_3 : w18.cell? ⟨gb181, 3, none⟩ = some (.int .i64 0) := (blk_cell BK181.out 3).trans rfl; have hfz19_0 := blk_frozen BK181.out 0; have hfz19_1 := blk_frozen BK181.out 1; have hfz19_2 := blk_frozen BK181.out 2; have hfz19_3 := blk_frozen BK181.out 3) | (go_at_call 14; (with_reducible refine (ihP k (by omega) _ _ l0 a1 t182 t183 _ ?side1 ?side2 A14.out).mono ?_); (case side1 => exact Kd.C_below HR0.out (below_later HB.out)); (case side2 => exact HC0.out); rintro e w20 ⟨rfl, hb⟩; have n0_ := Aside0.mk (blk_below (g := gb181) (o := .cells #[.string ((rd_T34 l0 a1).f0), .int .i64 ((rd_T34 l0 a1).f1), .int .i64 ((rd_T34 l0 a1).f2), .int .i64 ((rd_T34 l0 a1).f3)] 34 (0, 0)) (by (with_reducible repeat (first | refine blk_drewN ?_ _ | refine blk_drew ?_ | refine blk_alloc ?_ _)); refine blk_put (cs := #[.string ((rd_T34 l0 a1).f0), .int .i64 ((rd_T34 l0 a1).f1), .int .i64 ((rd_T34 l0 a1).f2), .int .i64 0]) ?_ 3 _ rfl; (with_reducible repeat (first | refine blk_drewN ?_ _ | refine blk_drew ?_ | refine blk_alloc ?_ _)); refine blk_put (cs := #[.string ((rd_T34 l0 a1).f0), .int .i64 ((rd_T34 l0 a1).f1), .int .i64 0, .int .i64 0]) ?_ 2 _ rfl; (with_reducible repeat (first | refine blk_drewN ?_ _ | refine blk_drew ?_ | refine blk_alloc ?_ _)); refine blk_put (cs := #[.string ((rd_T34 l0 a1).f0), .int .i64 0, .int .i64 0, .int .i64 0]) ?_ 1 _ rfl; (with_reducible repeat (first | refine blk_drewN ?_ _ | refine blk_drew ?_ | refine blk_alloc ?_ _)); refine blk_put (cs := #[.string (⟨#[]⟩ : ByteArray), .int .i64 0, .int .i64 0, .int .i64 0]) ?_ 0 _ rfl; (with_reducible repeat (first | refine blk_drewN ?_ _ | refine blk_drew ?_ | refine blk_alloc ?_ _)); exact BK181.out) hb); have n1_ := Aside0.mk (below_step (below_later HB.out) hb); clear BK181; clear HB; have BK181 := n0_; have HB := n1_; clear n0_ n1_; (try clear hb))))
    go_ret2
    exact fin_ (below_later HB.out)
  · rw [if_neg c13] at H
    have c13b0 : (((rd_T34 l0 a1).f1) == 7) = false := beq_eq_false_iff_ne.mpr c13
    have c13b1 : (((rd_T34 l0 a1).f1) != 7) = true := bne_iff_ne.mpr c13
    simp only [Option.some.injEq, Prod.mk.injEq] at H
    obtain ⟨rfl, rfl⟩ := H
    have p180 : 0 ≤ (a1 : Int) := dcd
    have q180 : a1 < (l0.length : Int) := dcd
    obtain ⟨ad180, e180, hx180_0, hx180_1, hx180_2, hx180_3⟩ := at_T34 HR0.out a1 p180 q180
    cases e180
    replace p180 := eq_true p180
    replace q180 := eq_true q180
    go_enter Try.func23, Try.ntmps23
    go_wp2_with (first | ((with_reducible refine gate_dst (N := 6) rfl ?_); refine box_event ?hg (N := 6) ?hd (cs := #[.string (⟨#[]⟩ : ByteArray), .int .i64 0, .int .i64 0, .int .i64 0]) (t := 34) ?hr ?_; (case hd => rfl); (case hg => rfl); (case hr => first | (go_simp; done) | (go_simp; rfl)); intro gb181 hg w21 hbox hb; have n0_ := Aside0.mk (below_step (below_later HB.out) hb); have n1_ := Aside0.mk (hbox); have n2_ := Aside0.mk ((by rw [hg]; exact (below_size (below_later HB.out)) : w.heap.size ≤ gb181)); have n3_ := Aside0.mk ((by rw [hg]; exact (below_size (below_later HB.out)) : w.heap.size ≤ gb181)); clear HB; have HB := n0_; have BK181 := n1_; have GW181 := n2_; have GE181 := n3_; clear n0_ n1_ n2_ n3_; clear hb hbox hg; have hcz22_0 : w21.cell? ⟨gb181, 0, none⟩ = some (.string (⟨#[]⟩ : ByteArray)) := (blk_cell BK181.out 0).trans rfl; have hcz22_1 : w21.cell? ⟨gb181, 1, none⟩ = some (.int .i64 0) := (blk_cell BK181.out 1).trans rfl; have hcz22_2 : w21.cell? ⟨gb181, 2, none⟩ = some (.int .i64 0) := (blk_cell BK181.out 2).trans rfl; have hcz22_3 : w21.cell? ⟨gb181, 3, none⟩ = some (.int .i64 0) := (blk_cell BK181.out 3).trans rfl; have hfz22_0 := blk_frozen BK181.out 0; have hfz22_1 := blk_frozen BK181.out 1; have hfz22_2 := blk_frozen BK181.out 2; have hfz22_3 := blk_frozen BK181.out 3))
    repeat (go_quiet (first | ((with_reducible refine gate_dst (N := 6) rfl ?_); refine box_event ?hg (N := 6) ?hd (cs := #[.string (⟨#[]⟩ : ByteArray), .int .i64 0, .int .i64 0, .int .i64 0]) (t := 34) ?hr ?_; (case hd => rfl); (case hg => rfl); (case hr => first | (go_simp; done) | (go_simp; rfl)); intro gb181 hg w21 hbox hb; have n0_ := Aside0.mk (below_step (below_later HB.out) hb); have n1_ := Aside0.mk (hbox); have n2_ := Aside0.mk ((by rw [hg]; exact (below_size (below_later HB.out)) : w.heap.size ≤ gb181)); have n3_ := Aside0.mk ((by rw [hg]; exact (below_size (below_later HB.out)) : w.heap.size ≤ gb181)); clear HB; have HB := n0_; have BK181 := n1_; have GW181 := n2_; have GE181 := n3_; clear n0_ n1_ n2_ n3_; clear hb hbox hg; have hcz22_0 : w21.cell? ⟨gb181, 0, none⟩ = some (.string (⟨#[]⟩ : ByteArray)) := (blk_cell BK181.out 0).trans rfl; have hcz22_1 : w21.cell? ⟨gb181, 1, none⟩ = some (.int .i64 0) := (blk_cell BK181.out 1).trans rfl; have hcz22_2 : w21.cell? ⟨gb181, 2, none⟩ = some (.int .i64 0) := (blk_cell BK181.out 2).trans rfl; have hcz22_3 : w21.cell? ⟨gb181, 3, none⟩ = some (.int .i64 0) := (blk_cell BK181.out 3).trans rfl; have hfz22_0 := blk_frozen BK181.out 0; have hfz22_1 := blk_frozen BK181.out 1; have hfz22_2 := blk_frozen BK181.out 2; have hfz22_3 := blk_frozen BK181.out 3)); try go_wp2_with (first | ((with_reducible refine gate_dst (N := 6) rfl ?_); refine box_event ?hg (N := 6) ?hd (cs := #[.string (⟨#[]⟩ : ByteArray), .int .i64 0, .int .i64 0, .int .i64 0]) (t := 34) ?hr ?_; (case hd => rfl); (case hg => rfl); (case hr => first | (go_simp; done) | (go_simp; rfl)); intro gb181 hg w21 hbox hb; have n0_ := Aside0.mk (below_step (below_later HB.out) hb); have n1_ := Aside0.mk (hbox); have n2_ := Aside0.mk ((by rw [hg]; exact (below_size (below_later HB.out)) : w.heap.size ≤ gb181)); have n3_ := Aside0.mk ((by rw [hg]; exact (below_size (below_later HB.out)) : w.heap.size ≤ gb181)); clear HB; have HB := n0_; have BK181 := n1_; have GW181 := n2_; have GE181 := n3_; clear n0_ n1_ n2_ n3_; clear hb hbox hg; have hcz22_0 : w21.cell? ⟨gb181, 0, none⟩ = some (.string (⟨#[]⟩ : ByteArray)) := (blk_cell BK181.out 0).trans rfl; have hcz22_1 : w21.cell? ⟨gb181, 1, none⟩ = some (.int .i64 0) := (blk_cell BK181.out 1).trans rfl; have hcz22_2 : w21.cell? ⟨gb181, 2, none⟩ = some (.int .i64 0) := (blk_cell BK181.out 2).trans rfl; have hcz22_3 : w21.cell? ⟨gb181, 3, none⟩ = some (.int .i64 0) := (blk_cell BK181.out 3).trans rfl; have hfz22_0 := blk_frozen BK181.out 0; have hfz22_1 := blk_frozen BK181.out 1; have hfz22_2 := blk_frozen BK181.out 2; have hfz22_3 := blk_frozen BK181.out 3)))
    go_ret2
    exact fin_ (below_later HB.out)
set_option maxHeartbeats 8000000 in
set_option maxRecDepth 100000 in
theorem impl_partsText.calls_ (k : Nat) (ih : ∀ j, j < k → (∀ (A0 : Option Addr) (c0 : Nat) (l0 : List (S34)) (a1 : Int) (r1 : ByteArray) (r2 : Int) (w : World) (hr0 : Kd.C k34 w A0 l0.length l0) (hc0 : l0.length ≤ c0) (h : impl_partsText.f j l0 a1 = some (r1, r2)),
    Calls Try.prog 14 #[.slice A0 l0.length c0, .int .i64 a1] w fun e w' => e = .returned (.tuple #[.string r1, .int .i64 r2]) ∧ Below w.heap.size w w')) (ihP : ∀ j, j < k → (∀ (A0 : Option Addr) (c0 : Nat) (l0 : List (S34)) (a1 : Int) (r1 : ByteArray) (r2 : Int) (w : World) (hr0 : Kd.C k34 w A0 l0.length l0) (hc0 : l0.length ≤ c0) (h : impl_colText.f j l0 a1 = some (r1, r2)),
    Calls Try.prog 23 #[.slice A0 l0.length c0, .int .i64 a1] w fun e w' => e = .returned (.tuple #[.string r1, .int .i64 r2]) ∧ Below w.heap.size w w')) : ∀ (A0 : Option Addr) (c0 : Nat) (l0 : List (S34)) (a1 : Int) (r1 : ByteArray) (r2 : Int) (w : World) (hr0 : Kd.C k34 w A0 l0.length l0) (hc0 : l0.length ≤ c0) (h : impl_partsText.f k l0 a1 = some (r1, r2)),
    Calls Try.prog 14 #[.slice A0 l0.length c0, .int .i64 a1] w fun e w' => e = .returned (.tuple #[.string r1, .int .i64 r2]) ∧ Below w.heap.size w w' := by
  intro A0 c0 l0 a1 r1 r2 w hr0 hc0 h
  cases k with
  | zero => exact absurd h (by simp [impl_partsText.f])
  | succ k =>
  simp only [impl_partsText.f] at h
  have HR0 := Aside0.mk hr0
  have HC0 := Aside0.mk hc0
  clear hr0 hc0
  have HB := Aside0.mk (Below.refl w.heap.size w)
  have H : (if 0 ≤ a1 then (if a1 < (l0.length : Int) then (impl_partsText.l0 k l0 (([] : List ByteArray)) (wrap64 (a1 + 1)) ((rd_T34 l0 a1).f3) 0) else (none)) else (none)) = some (r1, r2) := h
  clear h
  obtain ⟨y184, hy184⟩ : ∃ y_ : List ByteArray, y_ = (([] : List ByteArray)) := ⟨_, rfl⟩
  replace H : (if 0 ≤ a1 then (if a1 < (l0.length : Int) then (impl_partsText.l0 k l0 y184 (wrap64 (a1 + 1)) ((rd_T34 l0 a1).f3) 0) else (none)) else (none)) = some (r1, r2) := by first | (rw [hy184]; with_reducible exact H) | (rw [hy184]; exact H) | exact H
  have Ny184 := Aside0.mk hy184
  clear hy184
  replace H := ifd H
  obtain ⟨c3b0, H⟩ := H
  replace H := ifd H
  obtain ⟨c4b0, H⟩ := H
  have H' := Aside0.mk H
  clear H
  go_enter Try.func14, Try.ntmps14
  go_wp2_with (first | ((with_reducible refine gate_dst (N := 10) rfl ?_); refine Kd.R_lit Kd.string _ 9 ?hg (N := 10) ?hd (xs := ([] : List ByteArray)) (inner := []) (ok := fun _ => True) (okp := fun _ => True) ?hr ?hp (fun _ hk => hk) trivial (Below.refl _ _) (Nat.le_refl _) (by simp) ?_; (case hd => rfl); (case hg => rfl); (case hr => first | (go_simp; done) | (go_simp; rfl)); (case hp => exact (Reps.none _ _)); intro v185 w5 ho6 hb hg_ hnew_; clear hg_ hnew_; (first | rw [← Ny184.out] at ho6 | (simp only [Int.reduceToNat] at ho6; rw [← Ny184.out] at ho6)); have n0_ := Aside0.mk (Kd.R_lower ho6 (below_size (below_later HB.out))); have n1_ := Aside0.mk (below_step (below_later HB.out) hb); clear HB; have HO186 := n0_; have HB := n1_; clear n0_ n1_; clear hb ho6; have p187 : 0 ≤ (a1 : Int) := dcd; have q187 : a1 < (l0.length : Int) := dcd; obtain ⟨ad187, e187, hx187_0, hx187_1, hx187_2, hx187_3⟩ := at_T34 HR0.out a1 p187 q187; cases e187; replace hx187_0 := crd HB hx187_0; replace hx187_1 := crd HB hx187_1; replace hx187_2 := crd HB hx187_2; replace hx187_3 := crd HB hx187_3; replace p187 := eq_true p187; replace q187 := eq_true q187))
  go_loopg [6, 7, 18] k (fun kq v6 v7 v18 w' => ∃ (x6_1 : List ByteArray) (x7_1 : Int) (x18_1 : Int), v7 = .int .i64 x7_1 ∧ v18 = .int .i64 x18_1 ∧ Aside0 (impl_partsText.l0 kq l0 x6_1 x7_1 ((rd_T34 l0 a1).f3) x18_1 = some (r1, r2)) ∧ Aside0 (kq ≤ k) ∧ Aside0 (Kd.R Kd.string 9 w' w.heap.size (fun _ => True) v6 x6_1) ∧ Aside0 (Below w.heap.size w w'))
  case atStart => exact ⟨(y184), (wrap64 (a1 + 1)), (0), sr, sr, H', ⟨Nat.le_refl _⟩, ⟨R_later HO186.out⟩, ⟨below_later HB.out⟩⟩
  case round =>
    clear H'
    try clear c3b0
    try clear c4b0
    try clear hx187_0
    try clear hx187_1
    try clear hx187_2
    try clear hx187_3
    try clear p187
    try clear q187
    obtain ⟨x6_1, x7_1, x18_1, rfl, rfl, HA, HK1, HO_6, HB⟩ := hrel
    cases gk with
    | zero => exact absurd HA.out (by simp [impl_partsText.l0])
    | succ k1 =>
      have H := HA.out
      clear HA
      simp only [impl_partsText.l0] at H
      by_cases c7 : x18_1 < ((rd_T34 l0 a1).f3)
      · rw [if_pos c7] at H
        have c7b0 := decide_eq_true c7
        clear c7
        replace H := Option.bind_eq_some_iff.mp H
        obtain ⟨⟨t188, t189⟩, A80, H⟩ := H
        replace H : (if x6_1.length < 8796093022208 then (impl_partsText.l0 k1 l0 (x6_1 ++ [t188]) t189 ((rd_T34 l0 a1).f3) (wrap64 (x18_1 + 1))) else (none)) = some (r1, r2) := H
        have A8 := Aside0.mk A80
        clear A80
        replace H := ifs H
        obtain ⟨c9, H⟩ := H
        have LMc9 := Aside0.mk c9
        clear c9
        obtain ⟨y190, hy190⟩ : ∃ y_ : List ByteArray, y_ = (x6_1 ++ [t188]) := ⟨_, rfl⟩
        replace H : (impl_partsText.l0 k1 l0 y190 t189 ((rd_T34 l0 a1).f3) (wrap64 (x18_1 + 1))) = some (r1, r2) := by first | (rw [hy190]; with_reducible exact H) | (rw [hy190]; exact H) | exact H
        have Ny190 := Aside0.mk hy190
        clear hy190
        have H' := Aside0.mk H
        clear H
        go_wp2_with (first | ((with_reducible refine gate_callee (f := 23) rfl ?_); refine gl_ (some 23) Try.func23 #[.slice (some ad187) l0.length c0, .int .i64 x7_1] rfl ?_; (with_reducible refine (ihP k1 (by have := HK1.out; omega) _ _ l0 x7_1 t188 t189 _ ?side1 ?side2 A8.out).mono ?_); (case side1 => repeat (first | exact (Kd.C_below HR0.out HB.out) | (with_reducible refine Kd.C_alloc ?_ _) | (with_reducible refine Kd.C_drewN ?_ _) | (with_reducible refine Kd.C_drew ?_))); (case side2 => exact HC0.out); rintro e w10 ⟨rfl, hb⟩; refine ⟨_, rfl, ?_⟩; have n0_ := Aside0.mk (Kd.R_below (R_later HO_6.out) hb); have n1_ := Aside0.mk (below_step (below_later HB.out) hb); clear HO_6; clear HB; have HO_6 := n0_; have HB := n1_; clear n0_ n1_; (try clear hb); (try clear hk)) | ((with_reducible refine gate_builtin (b := .append) (xs := #[.tmp 26, .tmp 28]) rfl ?_); at_builtin; refine Kd.R_append Kd.string (w0 := w) w.heap.size rfl (.tmp 26) (.tmp 28) 43 9 (.string ⟨#[]⟩) 16 rfl Try.underlying43 info9 rfl (by decide) (by omega) u6 x6_1 t188 [.string t188] (fun _ => True) (fun _ => False) rfl rfl ?aP (fun _ hk => hk.elim) ?aF ?aO ?aB ?aS ?aL ?_; (case aP => exact rfl); (case aB => exact (below_later HB.out)); (case aF => exact (fun _ _ => trivial)); (case aO => exact (R_later HO_6.out)); (case aS => exact (below_size (below_later HB.out))); (case aL => have := LMc9.out; omega); intro v191 w11 ho hb hg hat; rw [← Ny190.out] at ho; have n0_ := Aside0.mk (hb); have n1_ := Aside0.mk (ho); clear HB; clear HO_6; have HB := n0_; have HO192 := n1_; clear n0_ n1_; clear ho hb hg hat))
        go_roundg k1
        case measure => have := HK1.out; omega
        case rel => exact ⟨(y190), (t189), (wrap64 (x18_1 + 1)), sr, sr, H', ⟨by have := HK1.out; omega⟩, ⟨R_later HO192.out⟩, ⟨below_later HB.out⟩⟩
      · rw [if_neg c7] at H
        have c7b0 := decide_eq_false c7
        clear c7
        replace H := bnd H
        obtain ⟨t193, A12, H⟩ := H
        simp only [Option.some.injEq, Prod.mk.injEq] at H
        obtain ⟨rfl, rfl⟩ := H
        obtain ⟨Ao13, co13, eo13⟩ := Kd.R_slice HO_6.out
        subst eo13
        go_wp2_with (first | ((with_reducible refine gate_callee (f := 24) rfl ?_); refine gl_ (some 33) Try.func24 #[.slice Ao13 x6_1.length co13, .string (⟨#[44]⟩ : ByteArray)] rfl ?_; (with_reducible refine (strings_Join.calls _ _ x6_1 (⟨#[44]⟩ : ByteArray) t193 _ ?side1 ?side2 A12.out).mono ?_); (case side1 => repeat (first | exact (Kd.R_reads' HO_6.out).2.2 | (with_reducible refine Kd.C_alloc ?_ _) | (with_reducible refine Kd.C_drewN ?_ _) | (with_reducible refine Kd.C_drew ?_))); (case side2 => exact (Kd.R_reads' HO_6.out).2.1); rintro e w14 ⟨rfl, hb⟩; refine ⟨_, rfl, ?_⟩; have n0_ := Aside0.mk (Kd.R_below (R_later HO_6.out) hb); have n1_ := Aside0.mk (below_step (below_later HB.out) hb); clear HO_6; clear HB; have HO_6 := n0_; have HB := n1_; clear n0_ n1_; (try clear hb)))
        go_ret2
        exact fin_ (below_later HB.out)
theorem impl_colText.pair (k : Nat) : (∀ (A0 : Option Addr) (c0 : Nat) (l0 : List (S34)) (a1 : Int) (r1 : ByteArray) (r2 : Int) (w : World) (hr0 : Kd.C k34 w A0 l0.length l0) (hc0 : l0.length ≤ c0) (h : impl_colText.f k l0 a1 = some (r1, r2)),
    Calls Try.prog 23 #[.slice A0 l0.length c0, .int .i64 a1] w fun e w' => e = .returned (.tuple #[.string r1, .int .i64 r2]) ∧ Below w.heap.size w w') ∧ (∀ (A0 : Option Addr) (c0 : Nat) (l0 : List (S34)) (a1 : Int) (r1 : ByteArray) (r2 : Int) (w : World) (hr0 : Kd.C k34 w A0 l0.length l0) (hc0 : l0.length ≤ c0) (h : impl_partsText.f k l0 a1 = some (r1, r2)),
    Calls Try.prog 14 #[.slice A0 l0.length c0, .int .i64 a1] w fun e w' => e = .returned (.tuple #[.string r1, .int .i64 r2]) ∧ Below w.heap.size w w') := by
  induction k using Nat.strongRecOn with
  | _ k ih => exact ⟨impl_colText.calls_ k (fun j hj => (ih j hj).1) (fun j hj => (ih j hj).2), impl_partsText.calls_ k (fun j hj => (ih j hj).2) (fun j hj => (ih j hj).1)⟩
theorem impl_colText.calls (k : Nat) : ∀ (A0 : Option Addr) (c0 : Nat) (l0 : List (S34)) (a1 : Int) (r1 : ByteArray) (r2 : Int) (w : World) (hr0 : Kd.C k34 w A0 l0.length l0) (hc0 : l0.length ≤ c0) (h : impl_colText.f k l0 a1 = some (r1, r2)),
    Calls Try.prog 23 #[.slice A0 l0.length c0, .int .i64 a1] w fun e w' => e = .returned (.tuple #[.string r1, .int .i64 r2]) ∧ Below w.heap.size w w' := (impl_colText.pair k).1
theorem impl_partsText.calls (k : Nat) : ∀ (A0 : Option Addr) (c0 : Nat) (l0 : List (S34)) (a1 : Int) (r1 : ByteArray) (r2 : Int) (w : World) (hr0 : Kd.C k34 w A0 l0.length l0) (hc0 : l0.length ≤ c0) (h : impl_partsText.f k l0 a1 = some (r1, r2)),
    Calls Try.prog 14 #[.slice A0 l0.length c0, .int .i64 a1] w fun e w' => e = .returned (.tuple #[.string r1, .int .i64 r2]) ∧ Below w.heap.size w w' := (impl_colText.pair k).2

/-! ### impl_SchemaPrint: function 7 -/
def impl_SchemaPrint.f (k : Nat) (l0 : List (S34)) : Option (ByteArray) := (impl_SchemaOk.f k l0).bind fun t194 => (if t194 = true then ((impl_partsText.f k l0 0).bind fun bt195 => (some bt195.1)) else (some (⟨#[]⟩ : ByteArray)))
set_option maxHeartbeats 8000000 in
set_option maxRecDepth 100000 in
theorem impl_SchemaPrint.calls (k : Nat) (A0 : Option Addr) (c0 : Nat) (l0 : List (S34)) (r : ByteArray) (w : World) (hr0 : Kd.C k34 w A0 l0.length l0) (hc0 : l0.length ≤ c0) (h : impl_SchemaPrint.f k l0 = some r) :
    Calls Try.prog 7 #[.slice A0 l0.length c0] w fun e w' => e = .returned (.string r) ∧ Below w.heap.size w w' := by
  have HR0 := Aside0.mk hr0
  have HC0 := Aside0.mk hc0
  clear hr0 hc0
  have HB := Aside0.mk (Below.refl w.heap.size w)
  have H : ((impl_SchemaOk.f k l0).bind fun t194 => (if t194 = true then ((impl_partsText.f k l0 0).bind fun bt195 => (some bt195.1)) else (some (⟨#[]⟩ : ByteArray)))) = some r := h
  clear h
  replace H := bnd H
  obtain ⟨t194, A2, H⟩ := H
  by_cases c3 : t194 = true
  · subst c3
    replace H := ifp rfl H
    replace H := Option.bind_eq_some_iff.mp H
    obtain ⟨⟨t195, t196⟩, A40, H⟩ := H
    replace H : (some t195) = some r := H
    have A4 := Aside0.mk A40
    clear A40
    obtain rfl := Option.some.inj H
    go_enter Try.func7, Try.ntmps7
    go_wp2_with (first | ((with_reducible refine gate_callee (f := 13) rfl ?_); refine gl_ (some 6) Try.func13 #[.slice A0 l0.length c0] rfl ?_; (with_reducible refine (impl_SchemaOk.calls k _ _ l0 true _ ?side1 ?side2 A2.out).mono ?_); (case side1 => exact C_later HR0.out); (case side2 => exact HC0.out); rintro e w5 ⟨rfl, hb⟩; refine ⟨_, rfl, ?_⟩; replace HB := bst HB hb; (try clear hb)) | ((with_reducible refine gate_callee (f := 14) rfl ?_); refine gl_ (some 10) Try.func14 #[.slice A0 l0.length c0, .int .i64 0] rfl ?_; (with_reducible refine (impl_partsText.calls k _ _ l0 0 t195 t196 _ ?side1 ?side2 A4.out).mono ?_); (case side1 => repeat (first | exact (Kd.C_below HR0.out HB.out) | (with_reducible refine Kd.C_alloc ?_ _) | (with_reducible refine Kd.C_drewN ?_ _) | (with_reducible refine Kd.C_drew ?_))); (case side2 => exact HC0.out); rintro e w6 ⟨rfl, hb⟩; refine ⟨_, rfl, ?_⟩; replace HB := bst HB hb; (try clear hb)))
    go_ret
    exact fin_ (below_later HB.out)
  · replace c3 := Bool.eq_false_iff.mpr c3
    subst c3
    replace H := ifn Bool.false_ne_true H
    obtain rfl := Option.some.inj H
    go_enter Try.func7, Try.ntmps7
    go_wp2_with (first | ((with_reducible refine gate_callee (f := 13) rfl ?_); refine gl_ (some 6) Try.func13 #[.slice A0 l0.length c0] rfl ?_; (with_reducible refine (impl_SchemaOk.calls k _ _ l0 false _ ?side1 ?side2 A2.out).mono ?_); (case side1 => exact C_later HR0.out); (case side2 => exact HC0.out); rintro e w7 ⟨rfl, hb⟩; refine ⟨_, rfl, ?_⟩; replace HB := bst HB hb; (try clear hb)))
    go_ret
    exact fin_ (below_later HB.out)

/-! ### laws_eqCol: function 15 -/
def laws_eqCol.f (a0_0 : ByteArray) (a0_1 : Int) (a0_2 : Int) (a0_3 : Int) (a1_0 : ByteArray) (a1_1 : Int) (a1_2 : Int) (a1_3 : Int) : Option (Bool) := if a0_0.toList = a1_0.toList then (if a0_1 = a1_1 then (if a0_2 = a1_2 then (if a0_3 = a1_3 then (some true) else (some false)) else (some false)) else (some false)) else (some false)
set_option maxHeartbeats 8000000 in
set_option maxRecDepth 100000 in
theorem laws_eqCol.calls (a0_0 : ByteArray) (a0_1 : Int) (a0_2 : Int) (a0_3 : Int) (a1_0 : ByteArray) (a1_1 : Int) (a1_2 : Int) (a1_3 : Int) (r : Bool) (w : World) (h : laws_eqCol.f a0_0 a0_1 a0_2 a0_3 a1_0 a1_1 a1_2 a1_3 = some true) :
    Calls Try.prog 15 #[.agg #[.string a0_0, .int .i64 a0_1, .int .i64 a0_2, .int .i64 a0_3], .agg #[.string a1_0, .int .i64 a1_1, .int .i64 a1_2, .int .i64 a1_3]] w fun e w' => e = .returned (.bool true) ∧ Below w.heap.size w w' := by
  have hu34 := Try.underlying34
  have HB := Aside0.mk (Below.refl w.heap.size w)
  have H : (if a0_0.toList = a1_0.toList then (if a0_1 = a1_1 then (if a0_2 = a1_2 then (if a0_3 = a1_3 then (some true) else (some false)) else (some false)) else (some false)) else (some false)) = some true := h
  clear h
  by_cases c3 : a0_0.toList = a1_0.toList
  · rw [if_pos c3] at H
    have c3b0 : (a0_0.toList == a1_0.toList) = true := beq_iff_eq.mpr c3
    have c3b1 : (a0_0.toList != a1_0.toList) = false := bne_eq_false_iff_eq.mpr c3
    clear c3
    by_cases c4 : a0_1 = a1_1
    · rw [if_pos c4] at H
      have c4b0 : (a0_1 == a1_1) = true := beq_iff_eq.mpr c4
      have c4b1 : (a0_1 != a1_1) = false := bne_eq_false_iff_eq.mpr c4
      clear c4
      by_cases c5 : a0_2 = a1_2
      · rw [if_pos c5] at H
        have c5b0 : (a0_2 == a1_2) = true := beq_iff_eq.mpr c5
        have c5b1 : (a0_2 != a1_2) = false := bne_eq_false_iff_eq.mpr c5
        clear c5
        by_cases c6 : a0_3 = a1_3
        · rw [if_pos c6] at H
          have c6b0 : (a0_3 == a1_3) = true := beq_iff_eq.mpr c6
          have c6b1 : (a0_3 != a1_3) = false := bne_eq_false_iff_eq.mpr c6
          clear c6
          clear H
          go_enter Try.func15, Try.ntmps15
          go_wp2_with (first | ((with_reducible refine gate_dst (N := 2) rfl ?_); refine box_event ?hg (N := 2) ?hd (cs := #[.string a0_0, .int .i64 a0_1, .int .i64 a0_2, .int .i64 a0_3]) (t := 34) ?hr ?_; (case hd => rfl); (case hg => rfl); (case hr => first | (go_simp; done) | (go_simp; rfl)); intro gb197 hg w7 hbox hb; have n0_ := Aside0.mk (below_step (below_later HB.out) hb); have n1_ := Aside0.mk (hbox); have n2_ := Aside0.mk ((by rw [hg]; exact (below_size (below_later HB.out)) : w.heap.size ≤ gb197)); have n3_ := Aside0.mk ((by rw [hg]; exact (below_size (below_later HB.out)) : w.heap.size ≤ gb197)); clear HB; have HB := n0_; have BK197 := n1_; have GW197 := n2_; have GE197 := n3_; clear n0_ n1_ n2_ n3_; clear hb hbox hg) | ((with_reducible refine gate_dst (N := 3) rfl ?_); refine box_event ?hg (N := 3) ?hd (cs := #[.string a1_0, .int .i64 a1_1, .int .i64 a1_2, .int .i64 a1_3]) (t := 34) ?hr ?_; (case hd => rfl); (case hg => rfl); (case hr => first | (go_simp; done) | (go_simp; rfl)); intro gb198 hg w8 hbox hb; have n0_ := Aside0.mk (blk_below (blk_later BK197.out) hb); have n1_ := Aside0.mk (below_step (below_later HB.out) hb); have n2_ := Aside0.mk (hbox); have n3_ := Aside0.mk ((by rw [hg]; exact (below_size (below_later HB.out)) : w.heap.size ≤ gb198)); have n4_ := Aside0.mk ((by rw [hg]; exact (below_size (below_later HB.out)) : w.heap.size ≤ gb198)); have n5_ := Aside0.mk ((by rw [hg]; exact Nat.ne_of_lt (blk_lt (blk_later BK197.out)) : gb197 ≠ gb198)); have n6_ := Aside0.mk ((by rw [hg]; exact Nat.ne_of_gt (blk_lt (blk_later BK197.out)) : gb198 ≠ gb197)); clear BK197; clear HB; have BK197 := n0_; have HB := n1_; have BK198 := n2_; have GW198 := n3_; have GE198 := n4_; have NB197_198 := n5_; have NB198_197 := n6_; clear n0_ n1_ n2_ n3_ n4_ n5_ n6_; clear hb hbox hg; have hnb9 := NB197_198.out; have hnc9 := NB198_197.out; have hcz10_0 : w8.cell? ⟨gb197, 0, none⟩ = some (.string a0_0) := (blk_cell BK197.out 0).trans rfl; have hcz10_1 : w8.cell? ⟨gb197, 1, none⟩ = some (.int .i64 a0_1) := (blk_cell BK197.out 1).trans rfl; have hcz10_2 : w8.cell? ⟨gb197, 2, none⟩ = some (.int .i64 a0_2) := (blk_cell BK197.out 2).trans rfl; have hcz10_3 : w8.cell? ⟨gb197, 3, none⟩ = some (.int .i64 a0_3) := (blk_cell BK197.out 3).trans rfl; have hfz10_0 := blk_frozen BK197.out 0; have hfz10_1 := blk_frozen BK197.out 1; have hfz10_2 := blk_frozen BK197.out 2; have hfz10_3 := blk_frozen BK197.out 3; have hcz11_0 : w8.cell? ⟨gb198, 0, none⟩ = some (.string a1_0) := (blk_cell BK198.out 0).trans rfl; have hcz11_1 : w8.cell? ⟨gb198, 1, none⟩ = some (.int .i64 a1_1) := (blk_cell BK198.out 1).trans rfl; have hcz11_2 : w8.cell? ⟨gb198, 2, none⟩ = some (.int .i64 a1_2) := (blk_cell BK198.out 2).trans rfl; have hcz11_3 : w8.cell? ⟨gb198, 3, none⟩ = some (.int .i64 a1_3) := (blk_cell BK198.out 3).trans rfl; have hfz11_0 := blk_frozen BK198.out 0; have hfz11_1 := blk_frozen BK198.out 1; have hfz11_2 := blk_frozen BK198.out 2; have hfz11_3 := blk_frozen BK198.out 3))
          go_ret
          exact fin_ (below_later HB.out)
        · rw [if_neg c6] at H
          cases H
      · rw [if_neg c5] at H
        cases H
    · rw [if_neg c4] at H
      cases H
  · rw [if_neg c3] at H
    cases H
end Go.Proofs.Ytbmcjgkppjnafaa.PFnExactSchemaPrint
