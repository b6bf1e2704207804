/- The machine's side of FnExactMetaTree: each Go function, and what its call comes to. No condition. -/
import Derived.Test.YtjdapaocdkcgdaaPFnExactMetaTreex0
namespace Go.Proofs.Ytjdapaocdkcgdaa.PFnExactMetaTree
open Go.RowKit Go.Proofs.YtjdapaocdkcgdaaW.PrintWords Go.Proofs.YtjdapaocdkcgdaaW.PrintLast Go.Proofs.YtjdapaocdkcgdaaW.PrintMore Go.Proofs.YtjdapaocdkcgdaaW.PrintMore2
attribute [local go_sem] max2_int min2_int max_two min_two max_three min_three max_four min_four
set_option linter.unusedVariables false
set_option linter.unusedSimpArgs false
set_option maxHeartbeats 8000000
set_option maxRecDepth 100000

/-! ### laws_eqNode: function 37 -/
def laws_eqNode.f (aA : Int) (aC : Int) (aD : Int) (aE : ByteArray) (aG : Int) (aH : Int) (aI : Int) (aJ : Int) (aK : ByteArray) (aM : Int) : Option (Bool) := if aA = aH then (if aC = aI then (if aD = aJ then (if aE.toList = aK.toList then (if aG = aM then (some true) else (some false)) else (some false)) else (some false)) else (some false)) else (some false)
theorem laws_eqNode.calls {aC aD aE : Int} {aG : ByteArray} {aH aI aJ aK : Int} {aM : ByteArray} {aN : Int} (r : Bool) {w : World} (h : laws_eqNode.f aC aD aE aG aH aI aJ aK aM aN = some true) :
    Calls Try.prog 37 #[.agg #[.int .i64 aC, .int .i64 aD, .int .i64 aE, .string aG, .int .i64 aH], .agg #[.int .i64 aI, .int .i64 aJ, .int .i64 aK, .string aM, .int .i64 aN]] w fun e w' => e = .returned (.bool true) ∧ Below w.heap.size w w' := by
 have hu49 := Try.underlying49
 have HB := am (Below.refl w.heap.size w)
 have H := h; clear h; unfold laws_eqNode.f at H
 by_cases c3 : aC = aI
 rotate_left
 · rw [if_neg c3] at H
   cases H
 rw [if_pos c3] at H
 have a9 : (aC == aI) = true := beq_iff_eq.mpr c3
 have bA : (aC != aI) = false := bne_eq_false_iff_eq.mpr c3
 clear c3
 by_cases c4 : aD = aJ
 rotate_left
 · rw [if_neg c4] at H
   cases H
 rw [if_pos c4] at H
 have bB : (aD == aJ) = true := beq_iff_eq.mpr c4
 have bC : (aD != aJ) = false := bne_eq_false_iff_eq.mpr c4
 clear c4
 by_cases c5 : aE = aK
 rotate_left
 · rw [if_neg c5] at H
   cases H
 rw [if_pos c5] at H
 have bD : (aE == aK) = true := beq_iff_eq.mpr c5
 have bE : (aE != aK) = false := bne_eq_false_iff_eq.mpr c5
 clear c5
 by_cases c6 : aG.toList = aM.toList
 rotate_left
 · rw [if_neg c6] at H
   cases H
 rw [if_pos c6] at H
 have bF : (aG.toList == aM.toList) = true := beq_iff_eq.mpr c6
 have bG : (aG.toList != aM.toList) = false := bne_eq_false_iff_eq.mpr c6
 clear c6
 by_cases c7 : aH = aN
 rotate_left
 · rw [if_neg c7] at H
   cases H
 rw [if_pos c7] at H
 have bH : (aH == aN) = true := beq_iff_eq.mpr c7
 have bI : (aH != aN) = false := bne_eq_false_iff_eq.mpr c7
 clear c7 H
 go_enter Try.func37, Try.ntmps37
 go_wp2_with (first | ((with_reducible refine gd 2 rfl ?_); refine bxw 2 rfl #[.int .i64 aC, .int .i64 aD, .int .i64 aE, .string aG, .int .i64 aH] 49 HB ?_; clear HB; intro aV w8 aA aW aX HB) | ((with_reducible refine gd 3 rfl ?_); refine bxv 3 rfl #[.int .i64 aI, .int .i64 aJ, .int .i64 aK, .string aM, .int .i64 aN] 49 HB ?_; clear HB; intro aY w9 aU aZ a6 HB hg hb; obtain ⟨aQ, aT⟩ := nbp (nbl aA hg); replace aA := bkb aA hb; clear hg hb; obtain ⟨a7, a8⟩ := nbo aQ; obtain ⟨_, _, _, _, _, _, _, _, _, _⟩ := cl5 aA; obtain ⟨_, _, _, _, _, _, _, _, _, _⟩ := cl5 aU))
 go_ret
 exact fin_ (bL HB)
/-! ### laws_eqNodeS: function 9 -/
def laws_eqNodeS.l0 : Nat → List (S49) → List (S49) → Int → Option (Bool)
  | 0, _, _, _ => none
  | k + 1, x0, x1, x5 => if x5 < (x0.length : Int) then (if 0 ≤ x5 then (if x5 < (x1.length : Int) then ((laws_eqNode.f ((rd_T49 x0 x5).f0) ((rd_T49 x0 x5).f1) ((rd_T49 x0 x5).f2) ((rd_T49 x0 x5).f3) ((rd_T49 x0 x5).f4) ((rd_T49 x1 x5).f0) ((rd_T49 x1 x5).f1) ((rd_T49 x1 x5).f2) ((rd_T49 x1 x5).f3) ((rd_T49 x1 x5).f4)).bind fun aA => (if aA = true then (laws_eqNodeS.l0 k x0 x1 (wrap64 (x5 + 1))) else (some false))) else (none)) else (none)) else (some true)
def laws_eqNodeS.f (k : Nat) (l0 : List (S49)) (l1 : List (S49)) : Option (Bool) := if (l0.length : Int) = (l1.length : Int) then (laws_eqNodeS.l0 k l0 l1 0) else (some false)
def laws_eqNodeS.T6 : Bool × List (List Nat × List Nat) := (true, [([], []), ([], []), ([0, 1], [0, 1]), ([2], [2]), ([], []), ([], []), ([4, 5], [4, 5]), ([6], [6]), ([3, 7], [3, 7]), ([8], [8])])
def laws_eqNodeS.B6 : List Nat := [0, 0, 3, 7, 0, 0, 48, 112, 255, 511]
theorem laws_eqNodeS.tab6 : rtab .any (opsOf Try.f9 6) = laws_eqNodeS.T6 := by kernel_rfl
theorem laws_eqNodeS.bits6 : waitsOk laws_eqNodeS.T6.2 laws_eqNodeS.B6 = true := by kernel_rfl
theorem laws_eqNodeS.calls {k : Nat} {A0 : Option Addr} {c0 : Nat} {l0 : List (S49)} {A1 : Option Addr} {c1 : Nat} {l1 : List (S49)} (r : Bool) {w : World} (hr0 : Kd.C k49 w A0 l0.length l0) (bM : l0.length ≤ c0) (hr1 : Kd.C k49 w A1 l1.length l1) (bN : l1.length ≤ c1) (h : laws_eqNodeS.f k l0 l1 = some true) :
    Calls Try.prog 9 #[.slice A0 l0.length c0, .slice A1 l1.length c1] w fun e w' => e = .returned (.bool true) ∧ Below w.heap.size w w' := by
 have hu49 := Try.underlying49
 have bP := am hr0
 have bT := am bM
 clear hr0 bM
 have bQ := am hr1
 have bU := am bN
 clear hr1 bN
 have HB := am (Below.refl w.heap.size w)
 have H := h; clear h; unfold laws_eqNodeS.f at H
 by_cases c3 : (l0.length : Int) = (l1.length : Int)
 rotate_left
 · rw [if_neg c3] at H
   cases H
 rw [if_pos c3] at H
 have bE : ((l0.length : Int) == (l1.length : Int)) = true := beq_iff_eq.mpr c3
 have bF : ((l0.length : Int) != (l1.length : Int)) = false := bne_eq_false_iff_eq.mpr c3
 have bG : (l0.length == l1.length) = true := by first | simpa using c3 | (simp at c3 ⊢; omega)
 clear c3
 have H' := am H; clear H
 go_enter Try.func9, Try.ntmps9
 go_wp2
 go_loopg [5] k (fun kq v5 w' => ∃ (aA : Int), v5 = .int .i64 aA ∧ Aside0 (laws_eqNodeS.l0 kq l0 l1 aA = some true) ∧ Aside0 (kq ≤ k) ∧ Aside0 (Below w.heap.size w w'))
 case atStart => exact ⟨(0), sr, H', ⟨Nat.le_refl _⟩, ⟨bL HB⟩⟩
 clear H'
 try clear c1 c3 bE bF bG
 obtain ⟨aA, rfl, HA, bO, HB⟩ := hrel
 cases gk with
 | zero => exact absurd HA.out (by simp [laws_eqNodeS.l0])
 | succ k1 => ?_
 have H := HA.out
 clear HA
 simp only [laws_eqNodeS.l0] at H
 replace H := idc H; obtain ⟨bH, H⟩ | ⟨bH, H⟩ := H
 rotate_left
 · clear H
   go_wp2
   go_ret
   exact fin_ (bL HB)
 replace H := if_dd H; obtain ⟨bR, bS, H⟩ := H
 replace H := bnd H; obtain ⟨bI, A7, H⟩ := H
 by_cases c8 : bI = true
 rotate_left
 · replace c8 := Bool.eq_false_iff.mpr c8
   subst c8
   have H1 : (some false) = some true := by rw [if_neg (show ¬ (false = true) by decide)] at H; exact H
   cases H1
 subst c8
 replace H := ifp rfl H
 have H' := am H; clear H
 try go_wp2
 replace HB := bld HB
 have bA : 0 ≤ (aA : Int) := dcd
 have bB : aA < (l0.length : Int) := dcd
 obtain ⟨aC, bJ, aE, aG, aH, aI, aJ⟩ := at_T49 bP.out aA bA bB
 have aU := aJ
 have aV := aI
 have aW := aH
 have aX := aG
 have aY := aE
 cases bJ
 replace aE := crd HB aE
 replace aG := crd HB aG
 replace aH := crd HB aH
 replace aI := crd HB aI
 replace aJ := crd HB aJ
 replace bA := eq_true bA
 replace bB := eq_true bB
 have bC : 0 ≤ (aA : Int) := dcd
 have bD : aA < (l1.length : Int) := dcd
 obtain ⟨aD, bK, aK, aM, aN, aQ, aT⟩ := at_T49 bQ.out aA bC bD
 have aZ := aT
 have a6 := aQ
 have a7 := aN
 have a8 := aM
 have a9 := aK
 cases bK
 replace aK := crd HB aK
 replace aM := crd HB aM
 replace aN := crd HB aN
 replace aQ := crd HB aQ
 replace aT := crd HB aT
 replace bC := eq_true bC
 replace bD := eq_true bD
 refine start_ (n := 10) (S := fun w' => w'.cell? (aC.add ((aA).toNat * 5)) = some (.int .i64 ((rd_T49 l0 aA).f0)) ∧ w'.cell? ⟨(aC.add ((aA).toNat * 5)).block, (aC.add ((aA).toNat * 5)).off + 1, none⟩ = some (.int .i64 ((rd_T49 l0 aA).f1)) ∧ w'.cell? ⟨(aC.add ((aA).toNat * 5)).block, (aC.add ((aA).toNat * 5)).off + 2, none⟩ = some (.int .i64 ((rd_T49 l0 aA).f2)) ∧ w'.cell? ⟨(aC.add ((aA).toNat * 5)).block, (aC.add ((aA).toNat * 5)).off + 3, none⟩ = some (.string ((rd_T49 l0 aA).f3)) ∧ w'.cell? ⟨(aC.add ((aA).toNat * 5)).block, (aC.add ((aA).toNat * 5)).off + 4, none⟩ = some (.int .i64 ((rd_T49 l0 aA).f4)) ∧ w'.cell? (aD.add ((aA).toNat * 5)) = some (.int .i64 ((rd_T49 l1 aA).f0)) ∧ w'.cell? ⟨(aD.add ((aA).toNat * 5)).block, (aD.add ((aA).toNat * 5)).off + 1, none⟩ = some (.int .i64 ((rd_T49 l1 aA).f1)) ∧ w'.cell? ⟨(aD.add ((aA).toNat * 5)).block, (aD.add ((aA).toNat * 5)).off + 2, none⟩ = some (.int .i64 ((rd_T49 l1 aA).f2)) ∧ w'.cell? ⟨(aD.add ((aA).toNat * 5)).block, (aD.add ((aA).toNat * 5)).off + 3, none⟩ = some (.string ((rd_T49 l1 aA).f3)) ∧ w'.cell? ⟨(aD.add ((aA).toNat * 5)).block, (aD.add ((aA).toNat * 5)).off + 4, none⟩ = some (.int .i64 ((rd_T49 l1 aA).f4))) (ds := []) #[false, false, false, false, false, false, false, false, false, false] (by kernel_rfl) rfl rfl ⟨crd HB aY, crd HB aX, crd HB aW, crd HB aV, crd HB aU, crd HB a9, crd HB a8, crd HB a7, crd HB a6, crd HB aZ⟩ (fun hHeld => ?_); refine with_tabW laws_eqNodeS.tab6 laws_eqNodeS.bits6 (fun HT_ HW_ => ?_)
 generalize wr.drew = w9 at HB aE aG aH aI aJ aK aM aN aQ aT hHeld ⊢
 refine pu_ 0 17 ?_; refine pu_ 1 18 ?_; refine pu_ 2 19 ?_; refine pu_ 4 21 ?_; refine pu_ 5 22 ?_; refine pu_ 6 23 ?_; refine tk_ 3 20 hHeld ?_; refine tk_ 7 24 hHeld ?_
 refine on_ 8 25 (fun K hK => ?_)
 refine gs_ Try.func37 #[.agg #[.int .i64 ((rd_T49 l0 aA).f0), .int .i64 ((rd_T49 l0 aA).f1), .int .i64 ((rd_T49 l0 aA).f2), .string ((rd_T49 l0 aA).f3), .int .i64 ((rd_T49 l0 aA).f4)], .agg #[.int .i64 ((rd_T49 l1 aA).f0), .int .i64 ((rd_T49 l1 aA).f1), .int .i64 ((rd_T49 l1 aA).f2), .string ((rd_T49 l1 aA).f3), .int .i64 ((rd_T49 l1 aA).f4)]] rfl ?_
 with_reducible refine (laws_eqNode.calls true A7.out).mono ?_
 rintro e bV ⟨rfl, hb⟩
 refine ⟨_, rfl, ?_⟩
 replace HB := bst HB hb
 (try clear hb)
 (try clear bW)
 (try clear hk)
 (try clear hi)
 refine hK.out _ _ ⟨crd HB aY, crd HB aX, crd HB aW, crd HB aV, crd HB aU, crd HB a9, crd HB a8, crd HB a7, crd HB a6, crd HB aZ⟩ (fun hHeld => ?_)
 clear hK K
 refine no_ (some 25) ?_; refine pu_ 9 26 ?_
 refine done_ (done_of HT_.out (by kernel_rfl)) ?_
 try go_wp2
 go_roundg k1
 case measure => have := bO.out; omega
 case rel => exact ⟨(wrap64 (aA + 1)), sr, H', ⟨by have := bO.out; omega⟩, ⟨bL HB⟩⟩
/-! ### laws_eqCol: function 64 -/
def laws_eqCol.f (aA : ByteArray) (aC : Int) (aD : Int) (aE : Int) (aG : ByteArray) (aH : Int) (aI : Int) (aJ : Int) : Option (Bool) := if aA.toList = aG.toList then (if aC = aH then (if aD = aI then (if aE = aJ then (some true) else (some false)) else (some false)) else (some false)) else (some false)
theorem laws_eqCol.calls {aC : ByteArray} {aD aE aG : Int} {aH : ByteArray} {aI aJ aK : Int} (r : Bool) {w : World} (h : laws_eqCol.f aC aD aE aG aH aI aJ aK = some true) :
    Calls Try.prog 64 #[.agg #[.string aC, .int .i64 aD, .int .i64 aE, .int .i64 aG], .agg #[.string aH, .int .i64 aI, .int .i64 aJ, .int .i64 aK]] w fun e w' => e = .returned (.bool true) ∧ Below w.heap.size w w' := by
 have hu84 := Try.underlying84
 have HB := am (Below.refl w.heap.size w)
 have H := h; clear h; unfold laws_eqCol.f at H
 by_cases c3 : aC.toList = aH.toList
 rotate_left
 · rw [if_neg c3] at H
   cases H
 rw [if_pos c3] at H
 have aZ : (aC.toList == aH.toList) = true := beq_iff_eq.mpr c3
 have a6 : (aC.toList != aH.toList) = false := bne_eq_false_iff_eq.mpr c3
 clear c3
 by_cases c4 : aD = aI
 rotate_left
 · rw [if_neg c4] at H
   cases H
 rw [if_pos c4] at H
 have a7 : (aD == aI) = true := beq_iff_eq.mpr c4
 have a8 : (aD != aI) = false := bne_eq_false_iff_eq.mpr c4
 clear c4
 by_cases c5 : aE = aJ
 rotate_left
 · rw [if_neg c5] at H
   cases H
 rw [if_pos c5] at H
 have a9 : (aE == aJ) = true := beq_iff_eq.mpr c5
 have bA : (aE != aJ) = false := bne_eq_false_iff_eq.mpr c5
 clear c5
 by_cases c6 : aG = aK
 rotate_left
 · rw [if_neg c6] at H
   cases H
 rw [if_pos c6] at H
 have bB : (aG == aK) = true := beq_iff_eq.mpr c6
 have bC : (aG != aK) = false := bne_eq_false_iff_eq.mpr c6
 clear c6 H
 go_enter Try.func64, Try.ntmps64
 go_wp2_with (first | ((with_reducible refine gd 2 rfl ?_); refine bxw 2 rfl #[.string aC, .int .i64 aD, .int .i64 aE, .int .i64 aG] 84 HB ?_; clear HB; intro aT w7 aA aU aV HB) | ((with_reducible refine gd 3 rfl ?_); refine bxv 3 rfl #[.string aH, .int .i64 aI, .int .i64 aJ, .int .i64 aK] 84 HB ?_; clear HB; intro aW w8 aQ aX aY HB hg hb; obtain ⟨aM, aN⟩ := nbp (nbl aA hg); replace aA := bkb aA hb; clear hg hb; obtain ⟨bD, bE⟩ := nbo aM; obtain ⟨_, _, _, _, _, _, _, _⟩ := cl4 aA; obtain ⟨_, _, _, _, _, _, _, _⟩ := cl4 aQ))
 go_ret
 exact fin_ (bL HB)
/-! ### laws_eqColS: function 38 -/
def laws_eqColS.l0 : Nat → List (S84) → List (S84) → Int → Option (Bool)
  | 0, _, _, _ => none
  | k + 1, x0, x1, x5 => if x5 < (x0.length : Int) then (if 0 ≤ x5 then (if x5 < (x1.length : Int) then ((laws_eqCol.f ((rd_T84 x0 x5).f0) ((rd_T84 x0 x5).f1) ((rd_T84 x0 x5).f2) ((rd_T84 x0 x5).f3) ((rd_T84 x1 x5).f0) ((rd_T84 x1 x5).f1) ((rd_T84 x1 x5).f2) ((rd_T84 x1 x5).f3)).bind fun aA => (if aA = true then (laws_eqColS.l0 k x0 x1 (wrap64 (x5 + 1))) else (some false))) else (none)) else (none)) else (some true)
def laws_eqColS.f (k : Nat) (l0 : List (S84)) (l1 : List (S84)) : Option (Bool) := if (l0.length : Int) = (l1.length : Int) then (laws_eqColS.l0 k l0 l1 0) else (some false)
def laws_eqColS.T6 : Bool × List (List Nat × List Nat) := (true, [([], []), ([], []), ([0, 1], [0, 1]), ([2], [2]), ([], []), ([], []), ([4, 5], [4, 5]), ([6], [6]), ([3, 7], [3, 7]), ([8], [8])])
def laws_eqColS.B6 : List Nat := [0, 0, 3, 7, 0, 0, 48, 112, 255, 511]
theorem laws_eqColS.tab6 : rtab .any (opsOf Try.f38 6) = laws_eqColS.T6 := by kernel_rfl
theorem laws_eqColS.bits6 : waitsOk laws_eqColS.T6.2 laws_eqColS.B6 = true := by kernel_rfl
theorem laws_eqColS.calls {k : Nat} {A0 : Option Addr} {c0 : Nat} {l0 : List (S84)} {A1 : Option Addr} {c1 : Nat} {l1 : List (S84)} (r : Bool) {w : World} (hr0 : Kd.C k84 w A0 l0.length l0) (bH : l0.length ≤ c0) (hr1 : Kd.C k84 w A1 l1.length l1) (bI : l1.length ≤ c1) (h : laws_eqColS.f k l0 l1 = some true) :
    Calls Try.prog 38 #[.slice A0 l0.length c0, .slice A1 l1.length c1] w fun e w' => e = .returned (.bool true) ∧ Below w.heap.size w w' := by
 have hu84 := Try.underlying84
 have bK := am hr0
 have bP := am bH
 clear hr0 bH
 have bM := am hr1
 have bQ := am bI
 clear hr1 bI
 have HB := am (Below.refl w.heap.size w)
 have H := h; clear h; unfold laws_eqColS.f at H
 by_cases c3 : (l0.length : Int) = (l1.length : Int)
 rotate_left
 · rw [if_neg c3] at H
   cases H
 rw [if_pos c3] at H
 have bA : ((l0.length : Int) == (l1.length : Int)) = true := beq_iff_eq.mpr c3
 have bB : ((l0.length : Int) != (l1.length : Int)) = false := bne_eq_false_iff_eq.mpr c3
 have bC : (l0.length == l1.length) = true := by first | simpa using c3 | (simp at c3 ⊢; omega)
 clear c3
 have H' := am H; clear H
 go_enter Try.func38, Try.ntmps38
 go_wp2
 go_loopg [5] k (fun kq v5 w' => ∃ (aA : Int), v5 = .int .i64 aA ∧ Aside0 (laws_eqColS.l0 kq l0 l1 aA = some true) ∧ Aside0 (kq ≤ k) ∧ Aside0 (Below w.heap.size w w'))
 case atStart => exact ⟨(0), sr, H', ⟨Nat.le_refl _⟩, ⟨bL HB⟩⟩
 clear H'
 try clear c1 c3 bA bB bC
 obtain ⟨aA, rfl, HA, bJ, HB⟩ := hrel
 cases gk with
 | zero => exact absurd HA.out (by simp [laws_eqColS.l0])
 | succ k1 => ?_
 have H := HA.out
 clear HA
 simp only [laws_eqColS.l0] at H
 replace H := idc H; obtain ⟨bD, H⟩ | ⟨bD, H⟩ := H
 rotate_left
 · clear H
   go_wp2
   go_ret
   exact fin_ (bL HB)
 replace H := if_dd H; obtain ⟨bN, bO, H⟩ := H
 replace H := bnd H; obtain ⟨bE, A7, H⟩ := H
 by_cases c8 : bE = true
 rotate_left
 · replace c8 := Bool.eq_false_iff.mpr c8
   subst c8
   have H1 : (some false) = some true := by rw [if_neg (show ¬ (false = true) by decide)] at H; exact H
   cases H1
 subst c8
 replace H := ifp rfl H
 have H' := am H; clear H
 try go_wp2
 replace HB := bld HB
 have a6 : 0 ≤ (aA : Int) := dcd
 have a7 : aA < (l0.length : Int) := dcd
 obtain ⟨aM, bF, aC, aD, aE, aG⟩ := at_T84 bK.out aA a6 a7
 have aQ := aG
 have aT := aE
 have aU := aD
 have aV := aC
 cases bF
 replace aC := crd HB aC
 replace aD := crd HB aD
 replace aE := crd HB aE
 replace aG := crd HB aG
 replace a6 := eq_true a6
 replace a7 := eq_true a7
 have a8 : 0 ≤ (aA : Int) := dcd
 have a9 : aA < (l1.length : Int) := dcd
 obtain ⟨aN, bG, aH, aI, aJ, aK⟩ := at_T84 bM.out aA a8 a9
 have aW := aK
 have aX := aJ
 have aY := aI
 have aZ := aH
 cases bG
 replace aH := crd HB aH
 replace aI := crd HB aI
 replace aJ := crd HB aJ
 replace aK := crd HB aK
 replace a8 := eq_true a8
 replace a9 := eq_true a9
 refine start_ (n := 10) (S := fun w' => w'.cell? (aM.add ((aA).toNat * 4)) = some (.string ((rd_T84 l0 aA).f0)) ∧ w'.cell? ⟨(aM.add ((aA).toNat * 4)).block, (aM.add ((aA).toNat * 4)).off + 1, none⟩ = some (.int .i64 ((rd_T84 l0 aA).f1)) ∧ w'.cell? ⟨(aM.add ((aA).toNat * 4)).block, (aM.add ((aA).toNat * 4)).off + 2, none⟩ = some (.int .i64 ((rd_T84 l0 aA).f2)) ∧ w'.cell? ⟨(aM.add ((aA).toNat * 4)).block, (aM.add ((aA).toNat * 4)).off + 3, none⟩ = some (.int .i64 ((rd_T84 l0 aA).f3)) ∧ w'.cell? (aN.add ((aA).toNat * 4)) = some (.string ((rd_T84 l1 aA).f0)) ∧ w'.cell? ⟨(aN.add ((aA).toNat * 4)).block, (aN.add ((aA).toNat * 4)).off + 1, none⟩ = some (.int .i64 ((rd_T84 l1 aA).f1)) ∧ w'.cell? ⟨(aN.add ((aA).toNat * 4)).block, (aN.add ((aA).toNat * 4)).off + 2, none⟩ = some (.int .i64 ((rd_T84 l1 aA).f2)) ∧ w'.cell? ⟨(aN.add ((aA).toNat * 4)).block, (aN.add ((aA).toNat * 4)).off + 3, none⟩ = some (.int .i64 ((rd_T84 l1 aA).f3))) (ds := []) #[false, false, false, false, false, false, false, false, false, false] (by kernel_rfl) rfl rfl ⟨crd HB aV, crd HB aU, crd HB aT, crd HB aQ, crd HB aZ, crd HB aY, crd HB aX, crd HB aW⟩ (fun hHeld => ?_); refine with_tabW laws_eqColS.tab6 laws_eqColS.bits6 (fun HT_ HW_ => ?_)
 generalize wr.drew = w9 at HB aC aD aE aG aH aI aJ aK hHeld ⊢
 refine pu_ 0 17 ?_; refine pu_ 1 18 ?_; refine pu_ 2 19 ?_; refine pu_ 4 21 ?_; refine pu_ 5 22 ?_; refine pu_ 6 23 ?_; refine tk_ 3 20 hHeld ?_; refine tk_ 7 24 hHeld ?_
 refine on_ 8 25 (fun K hK => ?_)
 refine gs_ Try.func64 #[.agg #[.string ((rd_T84 l0 aA).f0), .int .i64 ((rd_T84 l0 aA).f1), .int .i64 ((rd_T84 l0 aA).f2), .int .i64 ((rd_T84 l0 aA).f3)], .agg #[.string ((rd_T84 l1 aA).f0), .int .i64 ((rd_T84 l1 aA).f1), .int .i64 ((rd_T84 l1 aA).f2), .int .i64 ((rd_T84 l1 aA).f3)]] rfl ?_
 with_reducible refine (laws_eqCol.calls true A7.out).mono ?_
 rintro e bR ⟨rfl, hb⟩
 refine ⟨_, rfl, ?_⟩
 replace HB := bst HB hb
 (try clear hb)
 (try clear bS)
 (try clear hk)
 (try clear hi)
 refine hK.out _ _ ⟨crd HB aV, crd HB aU, crd HB aT, crd HB aQ, crd HB aZ, crd HB aY, crd HB aX, crd HB aW⟩ (fun hHeld => ?_)
 clear hK K
 refine no_ (some 25) ?_; refine pu_ 9 26 ?_
 refine done_ (done_of HT_.out (by kernel_rfl)) ?_
 try go_wp2
 go_roundg k1
 case measure => have := bJ.out; omega
 case rel => exact ⟨(wrap64 (aA + 1)), sr, H', ⟨by have := bJ.out; omega⟩, ⟨bL HB⟩⟩
/-! ### laws_eqIntS: function 107 -/
def laws_eqIntS.l0 : Nat → List Int → List Int → Int → Option (Bool)
  | 0, _, _, _ => none
  | k + 1, x0, x1, x5 => if x5 < (x0.length : Int) then (if 0 ≤ x5 then (if x5 < (x1.length : Int) then (if (rd x0 x5) = (rd x1 x5) then (laws_eqIntS.l0 k x0 x1 (wrap64 (x5 + 1))) else (some false)) else (none)) else (none)) else (some true)
def laws_eqIntS.f (k : Nat) (l0 : List Int) (l1 : List Int) : Option (Bool) := if (l0.length : Int) = (l1.length : Int) then (laws_eqIntS.l0 k l0 l1 0) else (some false)
theorem laws_eqIntS.calls {k : Nat} {A0 : Option Addr} {c0 : Nat} {l0 : List Int} {A1 : Option Addr} {c1 : Nat} {l1 : List Int} (r : Bool) {w : World} (hr0 : Kd.C (Kd.int .i64) w A0 l0.length l0) (aU : l0.length ≤ c0) (hr1 : Kd.C (Kd.int .i64) w A1 l1.length l1) (aV : l1.length ≤ c1) (h : laws_eqIntS.f k l0 l1 = some true) :
    Calls Try.prog 107 #[.slice A0 l0.length c0, .slice A1 l1.length c1] w fun e w' => e = .returned (.bool true) ∧ Drawn0 w w' := by
 have aZ := am hr0
 have bB := am aU
 clear hr0 aU
 have a6 := am hr1
 have bC := am aV
 clear hr1 aV
 have H := h; clear h; unfold laws_eqIntS.f at H
 by_cases c3 : (l0.length : Int) = (l1.length : Int)
 rotate_left
 · rw [if_neg c3] at H
   cases H
 rw [if_pos c3] at H
 have aJ : ((l0.length : Int) == (l1.length : Int)) = true := beq_iff_eq.mpr c3
 have aK : ((l0.length : Int) != (l1.length : Int)) = false := bne_eq_false_iff_eq.mpr c3
 have aM : (l0.length == l1.length) = true := by first | simpa using c3 | (simp at c3 ⊢; omega)
 clear c3
 have H' := am H; clear H
 go_enter Try.func107, Try.ntmps107
 go_wp2
 repeat (go_quiet (fail); try go_wp2)
 go_loopg [5] k (fun kq v5 w' => ∃ (aA : Int), v5 = .int .i64 aA ∧ Aside0 (laws_eqIntS.l0 kq l0 l1 aA = some true) ∧ Aside0 (kq ≤ k) ∧ Drawn0 w w')
 case atStart => exact ⟨(0), sr, H', ⟨Nat.le_refl _⟩, by repeat (first | exact Drawn0.refl _ | apply Drawn0.step)⟩
 clear H'
 try clear c1 c3 aJ aK aM
 obtain ⟨aA, rfl, HA, aW, ⟨m1, rfl⟩⟩ := hrel
 cases gk with
 | zero => exact absurd HA.out (by simp [laws_eqIntS.l0])
 | succ k1 => ?_
 have H := HA.out
 clear HA
 simp only [laws_eqIntS.l0] at H
 replace H := idc H; obtain ⟨aN, H⟩ | ⟨aN, H⟩ := H
 rotate_left
 · clear H
   go_wp2
   repeat (go_quiet (fail); try go_wp2)
   go_ret
   exact ⟨sr, drl⟩
 replace H := if_dd H; obtain ⟨a7, a8, H⟩ := H
 by_cases c7 : (rd l0 aA) = (rd l1 aA)
 rotate_left
 · rw [if_neg c7] at H
   cases H
 rw [if_pos c7] at H
 have a9 : ((rd l0 aA) == (rd l1 aA)) = true := beq_iff_eq.mpr c7
 have bA : ((rd l0 aA) != (rd l1 aA)) = false := bne_eq_false_iff_eq.mpr c7
 clear c7
 have H' := am H; clear H
 have aC : 0 ≤ (aA : Int) := dcd
 have aD : aA < (l0.length : Int) := dcd
 obtain ⟨aX, aQ, aH⟩ := Kd.at_int aZ.out aA aC aD
 cases aQ
 replace aC := eq_true aC
 replace aD := eq_true aD
 have aE : 0 ≤ (aA : Int) := dcd
 have aG : aA < (l1.length : Int) := dcd
 obtain ⟨aY, aT, aI⟩ := Kd.at_int a6.out aA aE aG
 cases aT
 replace aE := eq_true aE
 replace aG := eq_true aG
 go_wp2
 repeat (go_quiet (fail); try go_wp2)
 go_roundg k1
 case measure => have := aW.out; omega
 case rel => exact ⟨(wrap64 (aA + 1)), sr, H', ⟨by have := aW.out; omega⟩, by repeat (first | exact Drawn0.refl _ | apply Drawn0.step)⟩
/-! ### laws_eqChunk: function 97 -/
def laws_eqChunk.f (k : Nat) (aA : Int) (aC : Int) (aD : Int) (aE : Int) (aG : Int) (aH : List Int) (aI : Int) (aJ : Int) (aK : Int) (aM : Int) (aN : Int) (aQ : List Int) : Option (Bool) := if aA = aI then (if aC = aJ then (if aD = aK then (if aE = aM then (if aG = aN then ((laws_eqIntS.f k aH aQ).bind fun aT => (if aT = true then (some true) else (some false))) else (some false)) else (some false)) else (some false)) else (some false)) else (some false)
theorem laws_eqChunk.calls {k : Nat} {aE aG aH aI aJ : Int} {aV : Option Addr} {aW : Nat} {aA : List Int} {aK aM aN aQ aT : Int} {aX : Option Addr} {aY : Nat} {aC : List Int} (r : Bool) {w : World} (hr0_5 : Kd.C (Kd.int .i64) w aV aA.length aA) (aZ : aA.length ≤ aW) (hr1_5 : Kd.C (Kd.int .i64) w aX aC.length aC) (a6 : aC.length ≤ aY) (h : laws_eqChunk.f k aE aG aH aI aJ aA aK aM aN aQ aT aC = some true) :
    Calls Try.prog 97 #[.agg #[.int .i64 aE, .int .i64 aG, .int .i64 aH, .int .i64 aI, .int .i64 aJ, .slice aV aA.length aW], .agg #[.int .i64 aK, .int .i64 aM, .int .i64 aN, .int .i64 aQ, .int .i64 aT, .slice aX aC.length aY]] w fun e w' => e = .returned (.bool true) ∧ Below w.heap.size w w' := by
 have hu58 := Try.underlying58
 have a8 := am hr0_5
 have a9 := am aZ
 clear hr0_5 aZ
 have bA := am hr1_5
 have bB := am a6
 clear hr1_5 a6
 have HB := am (Below.refl w.heap.size w)
 have H := h; clear h; unfold laws_eqChunk.f at H
 by_cases c3 : aE = aK
 rotate_left
 · rw [if_neg c3] at H
   cases H
 rw [if_pos c3] at H
 have bN : (aE == aK) = true := beq_iff_eq.mpr c3
 have bO : (aE != aK) = false := bne_eq_false_iff_eq.mpr c3
 clear c3
 by_cases c4 : aG = aM
 rotate_left
 · rw [if_neg c4] at H
   cases H
 rw [if_pos c4] at H
 have bP : (aG == aM) = true := beq_iff_eq.mpr c4
 have bQ : (aG != aM) = false := bne_eq_false_iff_eq.mpr c4
 clear c4
 by_cases c5 : aH = aN
 rotate_left
 · rw [if_neg c5] at H
   cases H
 rw [if_pos c5] at H
 have bR : (aH == aN) = true := beq_iff_eq.mpr c5
 have bS : (aH != aN) = false := bne_eq_false_iff_eq.mpr c5
 clear c5
 by_cases c6 : aI = aQ
 rotate_left
 · rw [if_neg c6] at H
   cases H
 rw [if_pos c6] at H
 have bT : (aI == aQ) = true := beq_iff_eq.mpr c6
 have bU : (aI != aQ) = false := bne_eq_false_iff_eq.mpr c6
 clear c6
 by_cases c7 : aJ = aT
 rotate_left
 · rw [if_neg c7] at H
   cases H
 rw [if_pos c7] at H
 have bV : (aJ == aT) = true := beq_iff_eq.mpr c7
 have bW : (aJ != aT) = false := bne_eq_false_iff_eq.mpr c7
 clear c7
 replace H := bnd H; obtain ⟨bD, A8, H⟩ := H
 by_cases c9 : bD = true
 rotate_left
 · replace c9 := Bool.eq_false_iff.mpr c9
   subst c9
   have H1 : (some false) = some true := by rw [if_neg (show ¬ (false = true) by decide)] at H; exact H
   cases H1
 subst c9
 replace H := ifp rfl H
 clear H
 go_enter Try.func97, Try.ntmps97
 go_wp2_with (first | ((with_reducible refine gd 2 rfl ?_); refine bxw 2 rfl #[.int .i64 aE, .int .i64 aG, .int .i64 aH, .int .i64 aI, .int .i64 aJ, .slice aV aA.length aW] 58 HB ?_; clear HB; intro bE bX aD bF bG HB) | ((with_reducible refine gd 3 rfl ?_); refine bxv 3 rfl #[.int .i64 aK, .int .i64 aM, .int .i64 aN, .int .i64 aQ, .int .i64 aT, .slice aX aC.length aY] 58 HB ?_; clear HB; intro bH bY bC bI bJ HB hg hb; obtain ⟨aU, a7⟩ := nbp (nbl aD hg); replace aD := bkb aD hb; clear hg hb; obtain ⟨bK, bM⟩ := nbo aU; obtain ⟨_, _, _, _, _, _, _, _, _, _, _, _⟩ := cl6 aD; obtain ⟨_, _, _, _, _, _, _, _, _, _, _, _⟩ := cl6 bC) | ((with_reducible refine gc 107 rfl ?_); refine gl_ (some 34) Try.func107 #[.slice aV aA.length aW, .slice aX aC.length aY] rfl ?_; (with_reducible refine (laws_eqIntS.calls true ?side1 ?side2 ?side3 ?side4 A8.out).mono ?_); (case side1 => exact cL a8 HB); (case side2 => exact a9.out); (case side3 => exact cL bA HB); (case side4 => exact bB.out); rintro e w' ⟨rfl, ⟨nd, rfl⟩⟩; refine ⟨_, rfl, ?_⟩))
 go_ret
 exact fin_ (bL HB)
/-! ### laws_eqChunkS: function 80 -/
def laws_eqChunkS.l0 : Nat → List (S58) → List (S58) → Int → Option (Bool)
  | 0, _, _, _ => none
  | k + 1, x0, x1, x5 => if x5 < (x0.length : Int) then (if 0 ≤ x5 then (if x5 < (x1.length : Int) then ((laws_eqChunk.f k ((rd_T58 x0 x5).f0) ((rd_T58 x0 x5).f1) ((rd_T58 x0 x5).f2) ((rd_T58 x0 x5).f3) ((rd_T58 x0 x5).f4) ((rd_T58 x0 x5).f5) ((rd_T58 x1 x5).f0) ((rd_T58 x1 x5).f1) ((rd_T58 x1 x5).f2) ((rd_T58 x1 x5).f3) ((rd_T58 x1 x5).f4) ((rd_T58 x1 x5).f5)).bind fun aA => (if aA = true then (laws_eqChunkS.l0 k x0 x1 (wrap64 (x5 + 1))) else (some false))) else (none)) else (none)) else (some true)
def laws_eqChunkS.f (k : Nat) (l0 : List (S58)) (l1 : List (S58)) : Option (Bool) := if (l0.length : Int) = (l1.length : Int) then (laws_eqChunkS.l0 k l0 l1 0) else (some false)
def laws_eqChunkS.T6 : Bool × List (List Nat × List Nat) := (true, [([], []), ([], []), ([0, 1], [0, 1]), ([2], [2]), ([], []), ([], []), ([4, 5], [4, 5]), ([6], [6]), ([3, 7], [3, 7]), ([8], [8])])
def laws_eqChunkS.B6 : List Nat := [0, 0, 3, 7, 0, 0, 48, 112, 255, 511]
theorem laws_eqChunkS.tab6 : rtab .any (opsOf Try.f80 6) = laws_eqChunkS.T6 := by kernel_rfl
theorem laws_eqChunkS.bits6 : waitsOk laws_eqChunkS.T6.2 laws_eqChunkS.B6 = true := by kernel_rfl
theorem laws_eqChunkS.calls {k : Nat} {A0 : Option Addr} {c0 : Nat} {l0 : List (S58)} {A1 : Option Addr} {c1 : Nat} {l1 : List (S58)} (r : Bool) {w : World} (hr0 : Kd.C k58 w A0 l0.length l0) (b8 : l0.length ≤ c0) (hr1 : Kd.C k58 w A1 l1.length l1) (b9 : l1.length ≤ c1) (h : laws_eqChunkS.f k l0 l1 = some true) :
    Calls Try.prog 80 #[.slice A0 l0.length c0, .slice A1 l1.length c1] w fun e w' => e = .returned (.bool true) ∧ Below w.heap.size w w' := by
 have hu58 := Try.underlying58
 have cB := am hr0
 have cF := am b8
 clear hr0 b8
 have cC := am hr1
 have cG := am b9
 clear hr1 b9
 have HB := am (Below.refl w.heap.size w)
 have H := h; clear h; unfold laws_eqChunkS.f at H
 by_cases c3 : (l0.length : Int) = (l1.length : Int)
 rotate_left
 · rw [if_neg c3] at H
   cases H
 rw [if_pos c3] at H
 have bV : ((l0.length : Int) == (l1.length : Int)) = true := beq_iff_eq.mpr c3
 have bW : ((l0.length : Int) != (l1.length : Int)) = false := bne_eq_false_iff_eq.mpr c3
 have bX : (l0.length == l1.length) = true := by first | simpa using c3 | (simp at c3 ⊢; omega)
 clear c3
 have H' := am H; clear H
 go_enter Try.func80, Try.ntmps80
 go_wp2
 go_loopg [5] k (fun kq v5 w' => ∃ (aA : Int), v5 = .int .i64 aA ∧ Aside0 (laws_eqChunkS.l0 kq l0 l1 aA = some true) ∧ Aside0 (kq ≤ k) ∧ Aside0 (Below w.heap.size w w'))
 case atStart => exact ⟨(0), sr, H', ⟨Nat.le_refl _⟩, ⟨bL HB⟩⟩
 clear H'
 try clear c1 c3 bV bW bX
 obtain ⟨aA, rfl, HA, cA, HB⟩ := hrel
 cases gk with
 | zero => exact absurd HA.out (by simp [laws_eqChunkS.l0])
 | succ k1 => ?_
 have H := HA.out
 clear HA
 simp only [laws_eqChunkS.l0] at H
 replace H := idc H; obtain ⟨bY, H⟩ | ⟨bY, H⟩ := H
 rotate_left
 · clear H
   go_wp2
   go_ret
   exact fin_ (bL HB)
 replace H := if_dd H; obtain ⟨cD, cE, H⟩ := H
 replace H := bnd H; obtain ⟨bZ, A7, H⟩ := H
 by_cases c8 : bZ = true
 rotate_left
 · replace c8 := Bool.eq_false_iff.mpr c8
   subst c8
   have H1 : (some false) = some true := by rw [if_neg (show ¬ (false = true) by decide)] at H; exact H
   cases H1
 subst c8
 replace H := ifp rfl H
 have H' := am H; clear H
 try go_wp2
 replace HB := bld HB
 have bR : 0 ≤ (aA : Int) := dcd
 have bS : aA < (l0.length : Int) := dcd
 obtain ⟨aC, bK, bM, b6, aE, aG, aH, aI, aJ, aK, aW, aX⟩ := at_T58 cB.out aA bR bS
 have aY := aK
 have aZ := aJ
 have a6 := aI
 have a7 := aH
 have a8 := aG
 have a9 := aE
 cases b6
 replace aE := crd HB aE
 replace aG := crd HB aG
 replace aH := crd HB aH
 replace aI := crd HB aI
 replace aJ := crd HB aJ
 replace aK := crd HB aK
 have bA := am aX
 have bP := am aW
 clear aX aW
 replace bR := eq_true bR
 replace bS := eq_true bS
 have bT : 0 ≤ (aA : Int) := dcd
 have bU : aA < (l1.length : Int) := dcd
 obtain ⟨aD, bN, bO, b7, aM, aN, aQ, aT, aU, aV, bB, bC⟩ := at_T58 cC.out aA bT bU
 have bD := aV
 have bE := aU
 have bF := aT
 have bG := aQ
 have bH := aN
 have bI := aM
 cases b7
 replace aM := crd HB aM
 replace aN := crd HB aN
 replace aQ := crd HB aQ
 replace aT := crd HB aT
 replace aU := crd HB aU
 replace aV := crd HB aV
 have bJ := am bC
 have bQ := am bB
 clear bC bB
 replace bT := eq_true bT
 replace bU := eq_true bU
 refine start_ (n := 10) (S := fun w' => w'.cell? (aC.add ((aA).toNat * 6)) = some (.int .i64 ((rd_T58 l0 aA).f0)) ∧ w'.cell? ⟨(aC.add ((aA).toNat * 6)).block, (aC.add ((aA).toNat * 6)).off + 1, none⟩ = some (.int .i64 ((rd_T58 l0 aA).f1)) ∧ w'.cell? ⟨(aC.add ((aA).toNat * 6)).block, (aC.add ((aA).toNat * 6)).off + 2, none⟩ = some (.int .i64 ((rd_T58 l0 aA).f2)) ∧ w'.cell? ⟨(aC.add ((aA).toNat * 6)).block, (aC.add ((aA).toNat * 6)).off + 3, none⟩ = some (.int .i64 ((rd_T58 l0 aA).f3)) ∧ w'.cell? ⟨(aC.add ((aA).toNat * 6)).block, (aC.add ((aA).toNat * 6)).off + 4, none⟩ = some (.int .i64 ((rd_T58 l0 aA).f4)) ∧ w'.cell? ⟨(aC.add ((aA).toNat * 6)).block, (aC.add ((aA).toNat * 6)).off + 5, none⟩ = some (.slice bK ((rd_T58 l0 aA).f5).length bM) ∧ w'.cell? (aD.add ((aA).toNat * 6)) = some (.int .i64 ((rd_T58 l1 aA).f0)) ∧ w'.cell? ⟨(aD.add ((aA).toNat * 6)).block, (aD.add ((aA).toNat * 6)).off + 1, none⟩ = some (.int .i64 ((rd_T58 l1 aA).f1)) ∧ w'.cell? ⟨(aD.add ((aA).toNat * 6)).block, (aD.add ((aA).toNat * 6)).off + 2, none⟩ = some (.int .i64 ((rd_T58 l1 aA).f2)) ∧ w'.cell? ⟨(aD.add ((aA).toNat * 6)).block, (aD.add ((aA).toNat * 6)).off + 3, none⟩ = some (.int .i64 ((rd_T58 l1 aA).f3)) ∧ w'.cell? ⟨(aD.add ((aA).toNat * 6)).block, (aD.add ((aA).toNat * 6)).off + 4, none⟩ = some (.int .i64 ((rd_T58 l1 aA).f4)) ∧ w'.cell? ⟨(aD.add ((aA).toNat * 6)).block, (aD.add ((aA).toNat * 6)).off + 5, none⟩ = some (.slice bN ((rd_T58 l1 aA).f5).length bO)) (ds := []) #[false, false, false, false, false, false, false, false, false, false] (by kernel_rfl) rfl rfl ⟨crd HB a9, crd HB a8, crd HB a7, crd HB a6, crd HB aZ, crd HB aY, crd HB bI, crd HB bH, crd HB bG, crd HB bF, crd HB bE, crd HB bD⟩ (fun hHeld => ?_); refine with_tabW laws_eqChunkS.tab6 laws_eqChunkS.bits6 (fun HT_ HW_ => ?_)
 generalize wr.drew = w9 at HB bA bJ aE aG aH aI aJ aK aM aN aQ aT aU aV hHeld ⊢
 refine pu_ 0 17 ?_; refine pu_ 1 18 ?_; refine pu_ 2 19 ?_; refine pu_ 4 21 ?_; refine pu_ 5 22 ?_; refine pu_ 6 23 ?_; refine tk_ 3 20 hHeld ?_; refine tk_ 7 24 hHeld ?_
 refine on_ 8 25 (fun K hK => ?_)
 refine gs_ Try.func97 #[.agg #[.int .i64 ((rd_T58 l0 aA).f0), .int .i64 ((rd_T58 l0 aA).f1), .int .i64 ((rd_T58 l0 aA).f2), .int .i64 ((rd_T58 l0 aA).f3), .int .i64 ((rd_T58 l0 aA).f4), .slice bK ((rd_T58 l0 aA).f5).length bM], .agg #[.int .i64 ((rd_T58 l1 aA).f0), .int .i64 ((rd_T58 l1 aA).f1), .int .i64 ((rd_T58 l1 aA).f2), .int .i64 ((rd_T58 l1 aA).f3), .int .i64 ((rd_T58 l1 aA).f4), .slice bN ((rd_T58 l1 aA).f5).length bO]] rfl ?_
 with_reducible refine (laws_eqChunk.calls true ?side1 ?side2 ?side3 ?side4 A7.out).mono ?_
 (case side1 => exact cL bA HB)
 (case side2 => exact bP.out)
 (case side3 => exact cL bJ HB)
 (case side4 => exact bQ.out)
 rintro e cH ⟨rfl, hb⟩
 refine ⟨_, rfl, ?_⟩
 replace HB := bst HB hb
 (try clear hb)
 (try clear cI)
 (try clear hk)
 (try clear hi)
 refine hK.out _ _ ⟨crd HB a9, crd HB a8, crd HB a7, crd HB a6, crd HB aZ, crd HB aY, crd HB bI, crd HB bH, crd HB bG, crd HB bF, crd HB bE, crd HB bD⟩ (fun hHeld => ?_)
 clear hK K
 refine no_ (some 25) ?_; refine pu_ 9 26 ?_
 refine done_ (done_of HT_.out (by kernel_rfl)) ?_
 try go_wp2
 go_roundg k1
 case measure => have := cA.out; omega
 case rel => exact ⟨(wrap64 (aA + 1)), sr, H', ⟨by have := cA.out; omega⟩, ⟨bL HB⟩⟩
/-! ### laws_eqGroupMeta: function 65 -/
def laws_eqGroupMeta.f (k : Nat) (aA : Int) (aC : List (S58)) (aD : Int) (aE : List (S58)) : Option (Bool) := if aA = aD then ((laws_eqChunkS.f k aC aE).bind fun aG => (if aG = true then (some true) else (some false))) else (some false)
theorem laws_eqGroupMeta.calls {k : Nat} {aE : Int} {aJ : Option Addr} {aK : Nat} {aC : List (S58)} {aG : Int} {aM : Option Addr} {aN : Nat} {aD : List (S58)} (r : Bool) {w : World} (hr0_1 : Kd.C k58 w aJ aC.length aC) (aQ : aC.length ≤ aK) (hr1_1 : Kd.C k58 w aM aD.length aD) (aT : aD.length ≤ aN) (h : laws_eqGroupMeta.f k aE aC aG aD = some true) :
    Calls Try.prog 65 #[.agg #[.int .i64 aE, .slice aJ aC.length aK], .agg #[.int .i64 aG, .slice aM aD.length aN]] w fun e w' => e = .returned (.bool true) ∧ Below w.heap.size w w' := by
 have hu54 := Try.underlying54
 have aV := am hr0_1
 have aW := am aQ
 clear hr0_1 aQ
 have aX := am hr1_1
 have aY := am aT
 clear hr1_1 aT
 have HB := am (Below.refl w.heap.size w)
 have H := h; clear h; unfold laws_eqGroupMeta.f at H
 by_cases c3 : aE = aG
 rotate_left
 · rw [if_neg c3] at H
   cases H
 rw [if_pos c3] at H
 have bC : (aE == aG) = true := beq_iff_eq.mpr c3
 have bD : (aE != aG) = false := bne_eq_false_iff_eq.mpr c3
 clear c3
 replace H := bnd H; obtain ⟨aZ, A4, H⟩ := H
 by_cases c5 : aZ = true
 rotate_left
 · replace c5 := Bool.eq_false_iff.mpr c5
   subst c5
   have H1 : (some false) = some true := by rw [if_neg (show ¬ (false = true) by decide)] at H; exact H
   cases H1
 subst c5
 replace H := ifp rfl H
 clear H
 go_enter Try.func65, Try.ntmps65
 go_wp2_with (first | ((with_reducible refine gd 2 rfl ?_); refine bxw 2 rfl #[.int .i64 aE, .slice aJ aC.length aK] 54 HB ?_; clear HB; intro a6 w6 aA a7 a8 HB) | ((with_reducible refine gd 3 rfl ?_); refine bxv 3 rfl #[.int .i64 aG, .slice aM aD.length aN] 54 HB ?_; clear HB; intro a9 w7 aI bA bB HB hg hb; obtain ⟨aH, aU⟩ := nbp (nbl aA hg); replace aA := bkb aA hb; clear hg hb; obtain ⟨bE, bF⟩ := nbo aH; obtain ⟨_, _, _, _⟩ := cl2 aA; obtain ⟨_, _, _, _⟩ := cl2 aI) | ((with_reducible refine gc 80 rfl ?_); refine gl_ (some 14) Try.func80 #[.slice aJ aC.length aK, .slice aM aD.length aN] rfl ?_; (with_reducible refine (laws_eqChunkS.calls true ?side1 ?side2 ?side3 ?side4 A4.out).mono ?_); (case side1 => exact cL aV HB); (case side2 => exact aW.out); (case side3 => exact cL aX HB); (case side4 => exact aY.out); rintro e bG ⟨rfl, hb⟩; refine ⟨_, rfl, ?_⟩; replace aA := bkb aA hb; replace aI := bkb aI hb; replace HB := bst HB hb; clear hb))
 go_ret
 exact fin_ (bL HB)
/-! ### laws_eqGroupMetaS: function 39 -/
def laws_eqGroupMetaS.l0 : Nat → List (S54) → List (S54) → Int → Option (Bool)
  | 0, _, _, _ => none
  | k + 1, x0, x1, x5 => if x5 < (x0.length : Int) then (if 0 ≤ x5 then (if x5 < (x1.length : Int) then ((laws_eqGroupMeta.f k ((rd_T54 x0 x5).f0) ((rd_T54 x0 x5).f1) ((rd_T54 x1 x5).f0) ((rd_T54 x1 x5).f1)).bind fun aA => (if aA = true then (laws_eqGroupMetaS.l0 k x0 x1 (wrap64 (x5 + 1))) else (some false))) else (none)) else (none)) else (some true)
def laws_eqGroupMetaS.f (k : Nat) (l0 : List (S54)) (l1 : List (S54)) : Option (Bool) := if (l0.length : Int) = (l1.length : Int) then (laws_eqGroupMetaS.l0 k l0 l1 0) else (some false)
def laws_eqGroupMetaS.T6 : Bool × List (List Nat × List Nat) := (true, [([], []), ([], []), ([0, 1], [0, 1]), ([2], [2]), ([], []), ([], []), ([4, 5], [4, 5]), ([6], [6]), ([3, 7], [3, 7]), ([8], [8])])
def laws_eqGroupMetaS.B6 : List Nat := [0, 0, 3, 7, 0, 0, 48, 112, 255, 511]
theorem laws_eqGroupMetaS.tab6 : rtab .any (opsOf Try.f39 6) = laws_eqGroupMetaS.T6 := by kernel_rfl
theorem laws_eqGroupMetaS.bits6 : waitsOk laws_eqGroupMetaS.T6.2 laws_eqGroupMetaS.B6 = true := by kernel_rfl
theorem laws_eqGroupMetaS.calls {k : Nat} {A0 : Option Addr} {c0 : Nat} {l0 : List (S54)} {A1 : Option Addr} {c1 : Nat} {l1 : List (S54)} (r : Bool) {w : World} (hr0 : Kd.C k54 w A0 l0.length l0) (bM : l0.length ≤ c0) (hr1 : Kd.C k54 w A1 l1.length l1) (bN : l1.length ≤ c1) (h : laws_eqGroupMetaS.f k l0 l1 = some true) :
    Calls Try.prog 39 #[.slice A0 l0.length c0, .slice A1 l1.length c1] w fun e w' => e = .returned (.bool true) ∧ Below w.heap.size w w' := by
 have hu54 := Try.underlying54
 have bP := am hr0
 have bT := am bM
 clear hr0 bM
 have bQ := am hr1
 have bU := am bN
 clear hr1 bN
 have HB := am (Below.refl w.heap.size w)
 have H := h; clear h; unfold laws_eqGroupMetaS.f at H
 by_cases c3 : (l0.length : Int) = (l1.length : Int)
 rotate_left
 · rw [if_neg c3] at H
   cases H
 rw [if_pos c3] at H
 have bE : ((l0.length : Int) == (l1.length : Int)) = true := beq_iff_eq.mpr c3
 have bF : ((l0.length : Int) != (l1.length : Int)) = false := bne_eq_false_iff_eq.mpr c3
 have bG : (l0.length == l1.length) = true := by first | simpa using c3 | (simp at c3 ⊢; omega)
 clear c3
 have H' := am H; clear H
 go_enter Try.func39, Try.ntmps39
 go_wp2
 go_loopg [5] k (fun kq v5 w' => ∃ (aA : Int), v5 = .int .i64 aA ∧ Aside0 (laws_eqGroupMetaS.l0 kq l0 l1 aA = some true) ∧ Aside0 (kq ≤ k) ∧ Aside0 (Below w.heap.size w w'))
 case atStart => exact ⟨(0), sr, H', ⟨Nat.le_refl _⟩, ⟨bL HB⟩⟩
 clear H'
 try clear c1 c3 bE bF bG
 obtain ⟨aA, rfl, HA, bO, HB⟩ := hrel
 cases gk with
 | zero => exact absurd HA.out (by simp [laws_eqGroupMetaS.l0])
 | succ k1 => ?_
 have H := HA.out
 clear HA
 simp only [laws_eqGroupMetaS.l0] at H
 replace H := idc H; obtain ⟨bH, H⟩ | ⟨bH, H⟩ := H
 rotate_left
 · clear H
   go_wp2
   go_ret
   exact fin_ (bL HB)
 replace H := if_dd H; obtain ⟨bR, bS, H⟩ := H
 replace H := bnd H; obtain ⟨bI, A7, H⟩ := H
 by_cases c8 : bI = true
 rotate_left
 · replace c8 := Bool.eq_false_iff.mpr c8
   subst c8
   have H1 : (some false) = some true := by rw [if_neg (show ¬ (false = true) by decide)] at H; exact H
   cases H1
 subst c8
 replace H := ifp rfl H
 have H' := am H; clear H
 try go_wp2
 replace HB := bld HB
 have bA : 0 ≤ (aA : Int) := dcd
 have bB : aA < (l0.length : Int) := dcd
 obtain ⟨aW, aX, aY, bJ, aC, aD, aH, aI⟩ := at_T54 bP.out aA bA bB
 have aJ := aD
 have aK := aC
 cases bJ
 replace aC := crd HB aC
 replace aD := crd HB aD
 have aM := am aI
 have a8 := am aH
 clear aI aH
 replace bA := eq_true bA
 replace bB := eq_true bB
 have bC : 0 ≤ (aA : Int) := dcd
 have bD : aA < (l1.length : Int) := dcd
 obtain ⟨aZ, a6, a7, bK, aE, aG, aN, aQ⟩ := at_T54 bQ.out aA bC bD
 have aT := aG
 have aU := aE
 cases bK
 replace aE := crd HB aE
 replace aG := crd HB aG
 have aV := am aQ
 have a9 := am aN
 clear aQ aN
 replace bC := eq_true bC
 replace bD := eq_true bD
 refine start_ (n := 10) (S := fun w' => w'.cell? (aW.add ((aA).toNat * 2)) = some (.int .i64 ((rd_T54 l0 aA).f0)) ∧ w'.cell? ⟨(aW.add ((aA).toNat * 2)).block, (aW.add ((aA).toNat * 2)).off + 1, none⟩ = some (.slice aX ((rd_T54 l0 aA).f1).length aY) ∧ w'.cell? (aZ.add ((aA).toNat * 2)) = some (.int .i64 ((rd_T54 l1 aA).f0)) ∧ w'.cell? ⟨(aZ.add ((aA).toNat * 2)).block, (aZ.add ((aA).toNat * 2)).off + 1, none⟩ = some (.slice a6 ((rd_T54 l1 aA).f1).length a7)) (ds := []) #[false, false, false, false, false, false, false, false, false, false] (by kernel_rfl) rfl rfl ⟨crd HB aK, crd HB aJ, crd HB aU, crd HB aT⟩ (fun hHeld => ?_); refine with_tabW laws_eqGroupMetaS.tab6 laws_eqGroupMetaS.bits6 (fun HT_ HW_ => ?_)
 generalize wr.drew = w9 at HB aM aV aC aD aE aG hHeld ⊢
 refine pu_ 0 17 ?_; refine pu_ 1 18 ?_; refine pu_ 2 19 ?_; refine pu_ 4 21 ?_; refine pu_ 5 22 ?_; refine pu_ 6 23 ?_; refine tk_ 3 20 hHeld ?_; refine tk_ 7 24 hHeld ?_
 refine on_ 8 25 (fun K hK => ?_)
 refine gs_ Try.func65 #[.agg #[.int .i64 ((rd_T54 l0 aA).f0), .slice aX ((rd_T54 l0 aA).f1).length aY], .agg #[.int .i64 ((rd_T54 l1 aA).f0), .slice a6 ((rd_T54 l1 aA).f1).length a7]] rfl ?_
 with_reducible refine (laws_eqGroupMeta.calls true ?side1 ?side2 ?side3 ?side4 A7.out).mono ?_
 (case side1 => exact cL aM HB)
 (case side2 => exact a8.out)
 (case side3 => exact cL aV HB)
 (case side4 => exact a9.out)
 rintro e bV ⟨rfl, hb⟩
 refine ⟨_, rfl, ?_⟩
 replace HB := bst HB hb
 (try clear hb)
 (try clear bW)
 (try clear hk)
 (try clear hi)
 refine hK.out _ _ ⟨crd HB aK, crd HB aJ, crd HB aU, crd HB aT⟩ (fun hHeld => ?_)
 clear hK K
 refine no_ (some 25) ?_; refine pu_ 9 26 ?_
 refine done_ (done_of HT_.out (by kernel_rfl)) ?_
 try go_wp2
 go_roundg k1
 case measure => have := bO.out; omega
 case rel => exact ⟨(wrap64 (aA + 1)), sr, H', ⟨by have := bO.out; omega⟩, ⟨bL HB⟩⟩
/-! ### laws_eqMeta: function 10 -/
def laws_eqMeta.f (k : Nat) (aA : List (S84)) (aC : Int) (aD : List (S54)) (aE : List (S84)) (aG : Int) (aH : List (S54)) : Option (Bool) := (laws_eqColS.f k aA aE).bind fun aI => (if aI = true then (if aC = aG then ((laws_eqGroupMetaS.f k aD aH).bind fun aJ => (if aJ = true then (some true) else (some false))) else (some false)) else (some false))
theorem laws_eqMeta.calls {k : Nat} {aM : Option Addr} {aN : Nat} {aD : List (S84)} {aI : Int} {aQ : Option Addr} {aT : Nat} {aE : List (S54)} {aU : Option Addr} {aV : Nat} {aG : List (S84)} {aJ : Int} {aW : Option Addr} {aX : Nat} {aH : List (S54)} (r : Bool) {w : World} (hr0_0 : Kd.C k84 w aM aD.length aD) (aY : aD.length ≤ aN) (hr0_2 : Kd.C k54 w aQ aE.length aE) (aZ : aE.length ≤ aT) (hr1_0 : Kd.C k84 w aU aG.length aG) (a6 : aG.length ≤ aV) (hr1_2 : Kd.C k54 w aW aH.length aH) (a7 : aH.length ≤ aX) (h : laws_eqMeta.f k aD aI aE aG aJ aH = some true) :
    Calls Try.prog 10 #[.agg #[.slice aM aD.length aN, .int .i64 aI, .slice aQ aE.length aT], .agg #[.slice aU aG.length aV, .int .i64 aJ, .slice aW aH.length aX]] w fun e w' => e = .returned (.bool true) ∧ Below w.heap.size w w' := by
 have hu33 := Try.underlying33
 have bB := am hr0_0
 have bC := am aY
 clear hr0_0 aY
 have bD := am hr0_2
 have bE := am aZ
 clear hr0_2 aZ
 have bF := am hr1_0
 have bG := am a6
 clear hr1_0 a6
 have bH := am hr1_2
 have bI := am a7
 clear hr1_2 a7
 have HB := am (Below.refl w.heap.size w)
 have H : ((laws_eqColS.f k aD aG).bind fun a8 => (if a8 = true then (if aI = aJ then ((laws_eqGroupMetaS.f k aE aH).bind fun a9 => (if a9 = true then (some true) else (some false))) else (some false)) else (some false))) = some true := h
 clear h
 replace H := bnd H; obtain ⟨a8, A3, H⟩ := H
 by_cases c4 : a8 = true
 rotate_left
 · replace c4 := Bool.eq_false_iff.mpr c4
   subst c4
   have H1 : (some false) = some true := by rw [if_neg (show ¬ (false = true) by decide)] at H; exact H
   cases H1
 subst c4
 replace H := ifp rfl H
 by_cases c5 : aI = aJ
 rotate_left
 · rw [if_neg c5] at H
   cases H
 rw [if_pos c5] at H
 have bS : (aI == aJ) = true := beq_iff_eq.mpr c5
 have bT : (aI != aJ) = false := bne_eq_false_iff_eq.mpr c5
 clear c5
 replace H := bnd H; obtain ⟨a9, A6, H⟩ := H
 by_cases c7 : a9 = true
 rotate_left
 · replace c7 := Bool.eq_false_iff.mpr c7
   subst c7
   have H1 : (some false) = some true := by rw [if_neg (show ¬ (false = true) by decide)] at H; exact H
   cases H1
 subst c7
 replace H := ifp rfl H
 clear H
 go_enter Try.func10, Try.ntmps10
 go_wp2_with (first | ((with_reducible refine gd 2 rfl ?_); refine bxw 2 rfl #[.slice aM aD.length aN, .int .i64 aI, .slice aQ aE.length aT] 33 HB ?_; clear HB; intro bJ w8 aA bK bM HB) | ((with_reducible refine gd 3 rfl ?_); refine bxv 3 rfl #[.slice aU aG.length aV, .int .i64 aJ, .slice aW aH.length aX] 33 HB ?_; clear HB; intro bN w9 aC bO bP HB hg hb; obtain ⟨aK, bA⟩ := nbp (nbl aA hg); replace aA := bkb aA hb; clear hg hb; obtain ⟨bQ, bR⟩ := nbo aK; obtain ⟨_, _, _, _, _, _⟩ := cl3 aA; obtain ⟨_, _, _, _, _, _⟩ := cl3 aC) | ((with_reducible refine gc 38 rfl ?_); refine gl_ (some 9) Try.func38 #[.slice aM aD.length aN, .slice aU aG.length aV] rfl ?_; (with_reducible refine (laws_eqColS.calls true ?side1 ?side2 ?side3 ?side4 A3.out).mono ?_); (case side1 => exact cL bB HB); (case side2 => exact bC.out); (case side3 => exact cL bF HB); (case side4 => exact bG.out); rintro e bU ⟨rfl, hb⟩; refine ⟨_, rfl, ?_⟩; replace aA := bkb aA hb; replace aC := bkb aC hb; replace HB := bst HB hb; clear hb; obtain ⟨_, _, _, _, _, _⟩ := cl3 aA; obtain ⟨_, _, _, _, _, _⟩ := cl3 aC) | ((with_reducible refine gc 39 rfl ?_); refine gl_ (some 20) Try.func39 #[.slice aQ aE.length aT, .slice aW aH.length aX] rfl ?_; (with_reducible refine (laws_eqGroupMetaS.calls true ?side1 ?side2 ?side3 ?side4 A6.out).mono ?_); (case side1 => exact cL bD HB); (case side2 => exact bE.out); (case side3 => exact cL bH HB); (case side4 => exact bI.out); rintro e bV ⟨rfl, hb⟩; refine ⟨_, rfl, ?_⟩; replace aA := bkb aA hb; replace aC := bkb aC hb; replace HB := bst HB hb; clear hb))
 go_ret
 exact fin_ (bL HB)
end Go.Proofs.Ytjdapaocdkcgdaa.PFnExactMetaTree
