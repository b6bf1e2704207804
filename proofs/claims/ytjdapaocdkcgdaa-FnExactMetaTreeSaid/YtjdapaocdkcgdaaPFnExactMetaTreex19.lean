/- The machine's side of FnExactMetaTree: each Go function, and what its call comes to. No condition. -/
import Derived.Test.YtjdapaocdkcgdaaPFnExactMetaTreex0
import Derived.Test.YtjdapaocdkcgdaaPFnExactMetaTreex18
namespace Go.Proofs.Ytjdapaocdkcgdaa.PFnExactMetaTree
open Go.RowKit Go.Proofs.YtjdapaocdkcgdaaW.PrintWords Go.Proofs.YtjdapaocdkcgdaaW.PrintLast Go.Proofs.YtjdapaocdkcgdaaW.PrintMore Go.Proofs.YtjdapaocdkcgdaaW.PrintMore2
attribute [local go_sem] max2_int min2_int max_two min_two max_three min_three max_four min_four
set_option linter.unusedVariables false
set_option linter.unusedSimpArgs false
set_option maxHeartbeats 8000000
set_option maxRecDepth 100000

/-! ### laws_heldNodeS: function 13 -/
def laws_heldNodeS.l0 : Nat → List (S49) → Int → Int → Option (Int)
  | 0, _, _, _ => none
  | k + 1, x0, x1, x5 => if x5 < (x0.length : Int) then (if 0 ≤ x5 then (if ((rd_T49 x0 x5).f0) = x1 then (if ((rd_T49 x0 x5).f1) = (wrap64 (x1 + 1)) then (if ((rd_T49 x0 x5).f2) = (wrap64 ((wrap64 (x1 + 1)) + 1)) then ((laws_markText.f k (wrap64 ((wrap64 ((wrap64 (x1 + 1)) + 1)) + 1))).bind fun aA => (if ((rd_T49 x0 x5).f3).toList = aA.toList then (if ((rd_T49 x0 x5).f4) = (wrap64 ((wrap64 ((wrap64 ((wrap64 (x1 + 1)) + 1)) + 1)) + 1)) then (laws_heldNodeS.l0 k x0 (wrap64 ((wrap64 ((wrap64 ((wrap64 ((wrap64 (x1 + 1)) + 1)) + 1)) + 1)) + 1)) (wrap64 (x5 + 1))) else (some (-1))) else (some (-1)))) else (some (-1))) else (some (-1))) else (some (-1))) else (none)) else (some x1)
def laws_heldNodeS.f (k : Nat) (l0 : List (S49)) (a1 : Int) : Option (Int) := laws_heldNodeS.l0 k l0 a1 0
def laws_heldNodeS.T13 : Bool × List (List Nat × List Nat) := (true, [([], []), ([], []), ([0, 1], [0, 1]), ([2], [2]), ([3], [3]), ([], []), ([5], [5]), ([4, 6], [4, 6])])
def laws_heldNodeS.B13 : List Nat := [0, 0, 3, 7, 15, 0, 32, 127]
theorem laws_heldNodeS.tab13 : rtab .any (opsOf Try.f13 13) = laws_heldNodeS.T13 := by kernel_rfl
theorem laws_heldNodeS.bits13 : waitsOk laws_heldNodeS.T13.2 laws_heldNodeS.B13 = true := by kernel_rfl
theorem laws_heldNodeS.calls {k : Nat} {A0 : Option Addr} {c0 : Nat} {l0 : List (S49)} {a1 r : Int} {w : World} (hr0 : Kd.C k49 w A0 l0.length l0) (cN : l0.length ≤ c0) (h : laws_heldNodeS.f k l0 a1 = some r) :
    Calls Try.prog 13 #[.slice A0 l0.length c0, .int .i64 a1] w fun e w' => e = .returned (.int .i64 r) ∧ Below w.heap.size w w' := by
 have bT := am hr0
 have cS := am cN
 clear hr0 cN
 have HB := am (Below.refl w.heap.size w)
 have H := h; clear h; unfold laws_heldNodeS.f at H
 have H' := am H; clear H
 go_enter Try.func13, Try.ntmps13
 go_wp2
 go_loopg [1, 5] k (fun kq v1 v5 w' => ∃ (bW : Int) (aA : Int), v1 = .int .i64 bW ∧ v5 = .int .i64 aA ∧ Aside0 (laws_heldNodeS.l0 kq l0 bW aA = some r) ∧ Aside0 (kq ≤ k) ∧ Aside0 (Below w.heap.size w w'))
 case atStart => exact ⟨(a1), (0), sr, sr, H', ⟨Nat.le_refl _⟩, ⟨bL HB⟩⟩
 clear H'
 obtain ⟨bW, aA, rfl, rfl, HA, cO, HB⟩ := hrel
 cases gk with
 | zero => exact absurd HA.out (by simp [laws_heldNodeS.l0])
 | succ k1 => ?_
 have H := HA.out
 clear HA
 simp only [laws_heldNodeS.l0] at H
 replace H := idc H; obtain ⟨cD, H⟩ | ⟨cD, H⟩ := H
 rotate_left
 · cases H
   go_wp2
   go_ret
   exact fin_ (bL HB)
 replace H := ifd H; obtain ⟨cQ, H⟩ := H
 replace H := ieq H; obtain ⟨cE, cF, H⟩ | ⟨c5, cE, cF, H⟩ := H
 rotate_left
 · cases H
   obtain ⟨b6, b7, aC, bP, bD, bE, bF, bG, bH⟩ := at_T49b HB bT aA; cases bP
   go_wp2
   go_ret
   exact fin_ (bL HB)
 replace H := ieq H; obtain ⟨cG, cH, H⟩ | ⟨c6, cG, cH, H⟩ := H
 rotate_left
 · cases H
   obtain ⟨b6, b7, aC, bP, bD, bE, bF, bG, bH⟩ := at_T49b HB bT aA; cases bP
   have a9 : 0 ≤ (aA : Int) := dcd
   have bA : aA < (l0.length : Int) := dcd
   obtain ⟨bI, bU, aD, aE, aG, aH, aI⟩ := at_T49 bT.out aA a9 bA
   obtain rfl : aC = bI := (by injection bU)
   replace aD := crd HB aD
   replace aE := crd HB aE
   replace aG := crd HB aG
   replace aH := crd HB aH
   replace aI := crd HB aI
   replace a9 := eq_true a9
   replace bA := eq_true bA
   go_wp2
   go_ret
   exact fin_ (bL HB)
 replace H := ieq H; obtain ⟨cI, cJ, H⟩ | ⟨c7, cI, cJ, H⟩ := H
 rotate_left
 · cases H
   obtain ⟨b6, b7, aC, bP, bD, bE, bF, bG, bH⟩ := at_T49b HB bT aA; cases bP
   have a9 : 0 ≤ (aA : Int) := dcd
   have bA : aA < (l0.length : Int) := dcd
   obtain ⟨bI, bU, aD, aE, aG, aH, aI⟩ := at_T49 bT.out aA a9 bA
   obtain rfl : aC = bI := (by injection bU)
   replace aD := crd HB aD
   replace aE := crd HB aE
   replace aG := crd HB aG
   replace aH := crd HB aH
   replace aI := crd HB aI
   replace a9 := eq_true a9
   replace bA := eq_true bA
   have bB : 0 ≤ (aA : Int) := dcd
   have bC : aA < (l0.length : Int) := dcd
   obtain ⟨bQ, bX, aT, aU, aV, aW, aX⟩ := at_T49 bT.out aA bB bC
   obtain rfl : aC = bQ := (by injection bX)
   replace aT := crd HB aT
   replace aU := crd HB aU
   replace aV := crd HB aV
   replace aW := crd HB aW
   replace aX := crd HB aX
   replace bB := eq_true bB
   replace bC := eq_true bC
   go_wp2
   go_ret
   exact fin_ (bL HB)
 replace H := bnd H; obtain ⟨cR, A8, H⟩ := H
 replace H := ieq H; obtain ⟨cK, cM, H⟩ | ⟨c9, cK, cM, H⟩ := H
 rotate_left
 · cases H
   obtain ⟨b6, b7, aC, bP, bD, bE, bF, bG, bH⟩ := at_T49b HB bT aA; cases bP
   have a9 : 0 ≤ (aA : Int) := dcd
   have bA : aA < (l0.length : Int) := dcd
   obtain ⟨bI, bU, aD, aE, aG, aH, aI⟩ := at_T49 bT.out aA a9 bA
   obtain rfl : aC = bI := (by injection bU)
   replace aD := crd HB aD
   replace aE := crd HB aE
   replace aG := crd HB aG
   replace aH := crd HB aH
   replace aI := crd HB aI
   replace a9 := eq_true a9
   replace bA := eq_true bA
   have bB : 0 ≤ (aA : Int) := dcd
   have bC : aA < (l0.length : Int) := dcd
   obtain ⟨bQ, bX, aT, aU, aV, aW, aX⟩ := at_T49 bT.out aA bB bC
   obtain rfl : aC = bQ := (by injection bX)
   replace aT := crd HB aT
   replace aU := crd HB aU
   replace aV := crd HB aV
   replace aW := crd HB aW
   replace aX := crd HB aX
   replace bB := eq_true bB
   replace bC := eq_true bC
   try go_wp2
   replace HB := bld HB
   have bR : 0 ≤ (aA : Int) := dcd
   have bS : aA < (l0.length : Int) := dcd
   obtain ⟨bV, b8, aJ, aK, aM, aN, aQ⟩ := at_T49 bT.out aA bR bS
   have aY := aQ
   have aZ := aN
   have a6 := aM
   have a7 := aK
   have a8 := aJ
   obtain rfl : aC = bV := (by injection b8)
   replace aJ := crd HB aJ
   replace aK := crd HB aK
   replace aM := crd HB aM
   replace aN := crd HB aN
   replace aQ := crd HB aQ
   replace bR := eq_true bR
   replace bS := eq_true bS
   refine start_ (n := 8) (S := fun w' => w'.cell? (aC.add ((aA).toNat * 5)) = some (.int .i64 ((rd_T49 l0 aA).f0)) ∧ w'.cell? ⟨(aC.add ((aA).toNat * 5)).block, (aC.add ((aA).toNat * 5)).off + 1, none⟩ = some (.int .i64 ((rd_T49 l0 aA).f1)) ∧ w'.cell? ⟨(aC.add ((aA).toNat * 5)).block, (aC.add ((aA).toNat * 5)).off + 2, none⟩ = some (.int .i64 ((rd_T49 l0 aA).f2)) ∧ w'.cell? ⟨(aC.add ((aA).toNat * 5)).block, (aC.add ((aA).toNat * 5)).off + 3, none⟩ = some (.string ((rd_T49 l0 aA).f3)) ∧ w'.cell? ⟨(aC.add ((aA).toNat * 5)).block, (aC.add ((aA).toNat * 5)).off + 4, none⟩ = some (.int .i64 ((rd_T49 l0 aA).f4))) (ds := []) #[false, false, false, false, false, false, false, false] (by kernel_rfl) rfl rfl ⟨crd HB a8, crd HB a7, crd HB a6, crd HB aZ, crd HB aY⟩ (fun hHeld => ?_); refine with_tabW laws_heldNodeS.tab13 laws_heldNodeS.bits13 (fun HT_ HW_ => ?_)
   generalize wr.drew = cT at HB aJ aK aM aN aQ hHeld ⊢
   refine pu_ 0 39 ?_; refine pu_ 1 40 ?_; refine pu_ 2 41 ?_; refine pu_ 3 42 ?_; refine pu_ 5 44 ?_; refine tk_ 4 43 hHeld ?_
   refine on_ 6 45 (fun K hK => ?_)
   refine gs_ Try.func42 #[.int .i64 (wrap64 ((wrap64 ((wrap64 (bW + 1)) + 1)) + 1))] rfl ?_
   with_reducible refine (laws_markText.calls A8.out).mono ?_
   rintro e cU ⟨rfl, hb⟩
   refine ⟨_, rfl, ?_⟩
   replace HB := bst HB hb
   (try clear hb)
   (try clear cP)
   (try clear hk)
   (try clear hi)
   refine hK.out _ _ ⟨crd HB a8, crd HB a7, crd HB a6, crd HB aZ, crd HB aY⟩ (fun hHeld => ?_)
   clear hK K
   refine no_ (some 45) ?_; refine pu_ 7 46 ?_
   refine done_ (done_of HT_.out (by kernel_rfl)) ?_
   try go_wp2
   go_ret
   exact fin_ (bL HB)
 replace H := ieq H; obtain ⟨cB, cC, H⟩ | ⟨c10, cB, cC, H⟩ := H
 rotate_left
 · cases H
   obtain ⟨b6, b7, aC, bP, bD, bE, bF, bG, bH⟩ := at_T49b HB bT aA; cases bP
   have a9 : 0 ≤ (aA : Int) := dcd
   have bA : aA < (l0.length : Int) := dcd
   obtain ⟨bI, bU, aD, aE, aG, aH, aI⟩ := at_T49 bT.out aA a9 bA
   obtain rfl : aC = bI := (by injection bU)
   replace aD := crd HB aD
   replace aE := crd HB aE
   replace aG := crd HB aG
   replace aH := crd HB aH
   replace aI := crd HB aI
   replace a9 := eq_true a9
   replace bA := eq_true bA
   have bB : 0 ≤ (aA : Int) := dcd
   have bC : aA < (l0.length : Int) := dcd
   obtain ⟨bQ, bX, aT, aU, aV, aW, aX⟩ := at_T49 bT.out aA bB bC
   obtain rfl : aC = bQ := (by injection bX)
   replace aT := crd HB aT
   replace aU := crd HB aU
   replace aV := crd HB aV
   replace aW := crd HB aW
   replace aX := crd HB aX
   replace bB := eq_true bB
   replace bC := eq_true bC
   try go_wp2
   replace HB := bld HB
   have bR : 0 ≤ (aA : Int) := dcd
   have bS : aA < (l0.length : Int) := dcd
   obtain ⟨bV, b8, aJ, aK, aM, aN, aQ⟩ := at_T49 bT.out aA bR bS
   have aY := aQ
   have aZ := aN
   have a6 := aM
   have a7 := aK
   have a8 := aJ
   obtain rfl : aC = bV := (by injection b8)
   replace aJ := crd HB aJ
   replace aK := crd HB aK
   replace aM := crd HB aM
   replace aN := crd HB aN
   replace aQ := crd HB aQ
   replace bR := eq_true bR
   replace bS := eq_true bS
   refine start_ (n := 8) (S := fun w' => w'.cell? (aC.add ((aA).toNat * 5)) = some (.int .i64 ((rd_T49 l0 aA).f0)) ∧ w'.cell? ⟨(aC.add ((aA).toNat * 5)).block, (aC.add ((aA).toNat * 5)).off + 1, none⟩ = some (.int .i64 ((rd_T49 l0 aA).f1)) ∧ w'.cell? ⟨(aC.add ((aA).toNat * 5)).block, (aC.add ((aA).toNat * 5)).off + 2, none⟩ = some (.int .i64 ((rd_T49 l0 aA).f2)) ∧ w'.cell? ⟨(aC.add ((aA).toNat * 5)).block, (aC.add ((aA).toNat * 5)).off + 3, none⟩ = some (.string ((rd_T49 l0 aA).f3)) ∧ w'.cell? ⟨(aC.add ((aA).toNat * 5)).block, (aC.add ((aA).toNat * 5)).off + 4, none⟩ = some (.int .i64 ((rd_T49 l0 aA).f4))) (ds := []) #[false, false, false, false, false, false, false, false] (by kernel_rfl) rfl rfl ⟨crd HB a8, crd HB a7, crd HB a6, crd HB aZ, crd HB aY⟩ (fun hHeld => ?_); refine with_tabW laws_heldNodeS.tab13 laws_heldNodeS.bits13 (fun HT_ HW_ => ?_)
   generalize wr.drew = cV at HB aJ aK aM aN aQ hHeld ⊢
   refine pu_ 0 39 ?_; refine pu_ 1 40 ?_; refine pu_ 2 41 ?_; refine pu_ 3 42 ?_; refine pu_ 5 44 ?_; refine tk_ 4 43 hHeld ?_
   refine on_ 6 45 (fun K hK => ?_)
   refine gs_ Try.func42 #[.int .i64 (wrap64 ((wrap64 ((wrap64 (bW + 1)) + 1)) + 1))] rfl ?_
   with_reducible refine (laws_markText.calls A8.out).mono ?_
   rintro e cW ⟨rfl, hb⟩
   refine ⟨_, rfl, ?_⟩
   replace HB := bst HB hb
   (try clear hb)
   (try clear cP)
   (try clear hk)
   (try clear hi)
   refine hK.out _ _ ⟨crd HB a8, crd HB a7, crd HB a6, crd HB aZ, crd HB aY⟩ (fun hHeld => ?_)
   clear hK K
   refine no_ (some 45) ?_; refine pu_ 7 46 ?_
   refine done_ (done_of HT_.out (by kernel_rfl)) ?_
   have bY : 0 ≤ (aA : Int) := dcd
   have bZ : aA < (l0.length : Int) := dcd
   obtain ⟨b9, cA, bJ, bK, bM, bN, bO⟩ := at_T49 bT.out aA bY bZ
   obtain rfl : aC = b9 := (by injection cA)
   replace bJ := crd HB bJ
   replace bK := crd HB bK
   replace bM := crd HB bM
   replace bN := crd HB bN
   replace bO := crd HB bO
   replace bY := eq_true bY
   replace bZ := eq_true bZ
   try go_wp2
   go_ret
   exact fin_ (bL HB)
 have H' := am H; clear H
 obtain ⟨b6, b7, aC, bP, bD, bE, bF, bG, bH⟩ := at_T49b HB bT aA; cases bP
 have a9 : 0 ≤ (aA : Int) := dcd
 have bA : aA < (l0.length : Int) := dcd
 obtain ⟨bI, bU, aD, aE, aG, aH, aI⟩ := at_T49 bT.out aA a9 bA
 obtain rfl : aC = bI := (by injection bU)
 replace aD := crd HB aD
 replace aE := crd HB aE
 replace aG := crd HB aG
 replace aH := crd HB aH
 replace aI := crd HB aI
 replace a9 := eq_true a9
 replace bA := eq_true bA
 have bB : 0 ≤ (aA : Int) := dcd
 have bC : aA < (l0.length : Int) := dcd
 obtain ⟨bQ, bX, aT, aU, aV, aW, aX⟩ := at_T49 bT.out aA bB bC
 obtain rfl : aC = bQ := (by injection bX)
 replace aT := crd HB aT
 replace aU := crd HB aU
 replace aV := crd HB aV
 replace aW := crd HB aW
 replace aX := crd HB aX
 replace bB := eq_true bB
 replace bC := eq_true bC
 try go_wp2
 replace HB := bld HB
 have bR : 0 ≤ (aA : Int) := dcd
 have bS : aA < (l0.length : Int) := dcd
 obtain ⟨bV, b8, aJ, aK, aM, aN, aQ⟩ := at_T49 bT.out aA bR bS
 have aY := aQ
 have aZ := aN
 have a6 := aM
 have a7 := aK
 have a8 := aJ
 obtain rfl : aC = bV := (by injection b8)
 replace aJ := crd HB aJ
 replace aK := crd HB aK
 replace aM := crd HB aM
 replace aN := crd HB aN
 replace aQ := crd HB aQ
 replace bR := eq_true bR
 replace bS := eq_true bS
 refine start_ (n := 8) (S := fun w' => w'.cell? (aC.add ((aA).toNat * 5)) = some (.int .i64 ((rd_T49 l0 aA).f0)) ∧ w'.cell? ⟨(aC.add ((aA).toNat * 5)).block, (aC.add ((aA).toNat * 5)).off + 1, none⟩ = some (.int .i64 ((rd_T49 l0 aA).f1)) ∧ w'.cell? ⟨(aC.add ((aA).toNat * 5)).block, (aC.add ((aA).toNat * 5)).off + 2, none⟩ = some (.int .i64 ((rd_T49 l0 aA).f2)) ∧ w'.cell? ⟨(aC.add ((aA).toNat * 5)).block, (aC.add ((aA).toNat * 5)).off + 3, none⟩ = some (.string ((rd_T49 l0 aA).f3)) ∧ w'.cell? ⟨(aC.add ((aA).toNat * 5)).block, (aC.add ((aA).toNat * 5)).off + 4, none⟩ = some (.int .i64 ((rd_T49 l0 aA).f4))) (ds := []) #[false, false, false, false, false, false, false, false] (by kernel_rfl) rfl rfl ⟨crd HB a8, crd HB a7, crd HB a6, crd HB aZ, crd HB aY⟩ (fun hHeld => ?_); refine with_tabW laws_heldNodeS.tab13 laws_heldNodeS.bits13 (fun HT_ HW_ => ?_)
 generalize wr.drew = cX at HB aJ aK aM aN aQ hHeld ⊢
 refine pu_ 0 39 ?_; refine pu_ 1 40 ?_; refine pu_ 2 41 ?_; refine pu_ 3 42 ?_; refine pu_ 5 44 ?_; refine tk_ 4 43 hHeld ?_
 refine on_ 6 45 (fun K hK => ?_)
 refine gs_ Try.func42 #[.int .i64 (wrap64 ((wrap64 ((wrap64 (bW + 1)) + 1)) + 1))] rfl ?_
 with_reducible refine (laws_markText.calls A8.out).mono ?_
 rintro e cY ⟨rfl, hb⟩
 refine ⟨_, rfl, ?_⟩
 replace HB := bst HB hb
 (try clear hb)
 (try clear cP)
 (try clear hk)
 (try clear hi)
 refine hK.out _ _ ⟨crd HB a8, crd HB a7, crd HB a6, crd HB aZ, crd HB aY⟩ (fun hHeld => ?_)
 clear hK K
 refine no_ (some 45) ?_; refine pu_ 7 46 ?_
 refine done_ (done_of HT_.out (by kernel_rfl)) ?_
 have bY : 0 ≤ (aA : Int) := dcd
 have bZ : aA < (l0.length : Int) := dcd
 obtain ⟨b9, cA, bJ, bK, bM, bN, bO⟩ := at_T49 bT.out aA bY bZ
 obtain rfl : aC = b9 := (by injection cA)
 replace bJ := crd HB bJ
 replace bK := crd HB bK
 replace bM := crd HB bM
 replace bN := crd HB bN
 replace bO := crd HB bO
 replace bY := eq_true bY
 replace bZ := eq_true bZ
 try go_wp2
 go_roundg k1
 case measure => have := cO.out; omega
 case rel => exact ⟨(wrap64 ((wrap64 ((wrap64 ((wrap64 ((wrap64 (bW + 1)) + 1)) + 1)) + 1)) + 1)), (wrap64 (aA + 1)), sr, sr, H', ⟨by have := cO.out; omega⟩, ⟨bL HB⟩⟩
end Go.Proofs.Ytjdapaocdkcgdaa.PFnExactMetaTree
