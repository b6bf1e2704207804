/- The machine's side of FnExactMetaTree: each Go function, and what its call comes to. No condition. -/
import Derived.Test.YtjdapaocdkcgdaaPFnExactMetaTreex0
import Derived.Test.YtjdapaocdkcgdaaPFnExactMetaTreex3
import Derived.Test.YtjdapaocdkcgdaaPFnExactMetaTreex4
import Derived.Test.YtjdapaocdkcgdaaPFnExactMetaTreex5
import Derived.Test.YtjdapaocdkcgdaaPFnExactMetaTreex7
namespace Go.Proofs.Ytjdapaocdkcgdaa.PFnExactMetaTree
open Go.RowKit Go.Proofs.YtjdapaocdkcgdaaW.PrintWords Go.Proofs.YtjdapaocdkcgdaaW.PrintLast Go.Proofs.YtjdapaocdkcgdaaW.PrintMore Go.Proofs.YtjdapaocdkcgdaaW.PrintMore2
attribute [local go_sem] max2_int min2_int max_two min_two max_three min_three max_four min_four
set_option linter.unusedVariables false
set_option linter.unusedSimpArgs false
set_option maxHeartbeats 8000000
set_option maxRecDepth 100000

/-! ### spec_MetaTree: function 6 -/
mutual
def spec_MetaTree.j0 : Nat → List (S49) → List (S49) → List (S84) → Int → List (S54) → Int → Int → Int → ByteArray → Int → Option ((List (S49)) × Bool)
  | 0, _, _, _, _, _, _, _, _, _, _ => none
  | k + 1, x4, x5, aA, aC, aD, aE, aG, aH, aI, aJ => if x5.length < 2932031007402 then (spec_MetaTree.l0 k x4 (x5 ++ [(⟨aE, aG, aH, aI, aJ⟩ : S49)]) 0 aA aC aD) else (none)
def spec_MetaTree.l0 : Nat → List (S49) → List (S49) → Int → List (S84) → Int → List (S54) → Option ((List (S49)) × Bool)
  | 0, _, _, _, _, _, _ => none
  | k + 1, x4, x5, x7, aC, aD, aA => if x7 < (aA.length : Int) then (if 0 ≤ x7 then ((some (([(⟨12, 0, 0, (⟨#[]⟩ : ByteArray), 3⟩ : S49), (⟨9, 1, 12, (⟨#[]⟩ : ByteArray), (((rd_T54 aA x7).f1).length : Int)⟩ : S49)] : List (S49)) : List (S49))).bind fun aE => (if x5.length + aE.length < 2932031007402 then (spec_MetaTree.l1 k x4 (x5 ++ aE) x7 0 0 aC aD aA ((rd_T54 aA x7).f0) ((rd_T54 aA x7).f1)) else (none))) else (none)) else ((spec_TreeOk.f k x5).bind fun aG => (if aG = true then (some (x5, true)) else (some (x4, false))))
def spec_MetaTree.l1 : Nat → List (S49) → List (S49) → Int → Int → Int → List (S84) → Int → List (S54) → Int → List (S58) → Option ((List (S49)) × Bool)
  | 0, _, _, _, _, _, _, _, _, _, _ => none
  | k + 1, x4, x5, x7, x9, aJ, aC, aG, aH, aI, aA => if aJ < (aA.length : Int) then (if 0 ≤ aJ then ((spec_l18Nodes.f k aC ((rd_T58 aA aJ).f0) ((rd_T58 aA aJ).f1) ((rd_T58 aA aJ).f2) ((rd_T58 aA aJ).f3) ((rd_T58 aA aJ).f4) ((rd_T58 aA aJ).f5)).bind fun aK => (if x5.length + aK.length < 2932031007402 then (spec_MetaTree.l1 k x4 (x5 ++ aK) x7 (wrap64 (x9 + ((rd_T58 aA aJ).f4))) (wrap64 (aJ + 1)) aC aG aH aI aA) else (none))) else (none)) else ((spec_l18Long.f 2 x9).bind fun aD => ((spec_l18Long.f 3 aI).bind fun aE => ((some (([(⟨aD.1, aD.2.1, aD.2.2.1, aD.2.2.2.1, aD.2.2.2.2⟩ : S49), (⟨aE.1, aE.2.1, aE.2.2.1, aE.2.2.2.1, aE.2.2.2.2⟩ : S49)] : List (S49)) : List (S49))).bind fun aM => (if x5.length + aM.length < 2932031007402 then (spec_MetaTree.l0 k x4 (x5 ++ aM) (wrap64 (x7 + 1)) aC aG aH) else (none)))))
end
def spec_MetaTree.f (k : Nat) (aE : List (S84)) (aG : Int) (aD : List (S54)) : Option ((List (S49)) × Bool) := (some (([] : List (S49)) : List (S49))).bind fun aH => ((spec_MetaOk.f k aE aG aD).bind fun aN => (if aN = true then ((spec_l16Int.f 1 1).bind fun aA => ((some (([(⟨12, 0, 0, (⟨#[]⟩ : ByteArray), 4⟩ : S49), (⟨aA.1, aA.2.1, aA.2.2.1, aA.2.2.2.1, aA.2.2.2.2⟩ : S49)] : List (S49)) : List (S49))).bind fun aI => ((spec_l5Nodes.f k aE 2).bind fun aJ => (if aI.length + aJ.length < 2932031007402 then ((some (aI ++ aJ : List (S49))).bind fun aK => ((spec_l18Long.f 3 aG).bind fun aC => (if aK.length < 2932031007402 then ((some (aK ++ [(⟨aC.1, aC.2.1, aC.2.2.1, aC.2.2.2.1, aC.2.2.2.2⟩ : S49)] : List (S49))).bind fun aM => (if (aD.length : Int) > 0 then (spec_MetaTree.j0 k aH aM aE aG aD 9 4 12 (⟨#[]⟩ : ByteArray) (aD.length : Int)) else (spec_MetaTree.j0 k aH aM aE aG aD 9 4 0 (⟨#[]⟩ : ByteArray) (aD.length : Int)))) else (none)))) else (none))))) else (some (aH, false))))
def spec_MetaTree.T20 : Bool × List (List Nat × List Nat) := (true, [([], []), ([], []), ([1], [1]), ([], []), ([3], [3]), ([], []), ([4, 5], [4, 5]), ([6], [6]), ([2, 7], [2, 7]), ([0, 8, 8], [0, 8]), ([9, 9, 0, 1, 2, 3, 4, 5, 6, 7, 8, 9], [0, 9])])
def spec_MetaTree.B20 : List Nat := [0, 0, 2, 0, 8, 0, 56, 120, 254, 511, 1023]
theorem spec_MetaTree.tab20 : rtab .any (opsOf Try.f6 20) = spec_MetaTree.T20 := by kernel_rfl
theorem spec_MetaTree.bits20 : waitsOk spec_MetaTree.T20.2 spec_MetaTree.B20 = true := by kernel_rfl
def spec_MetaTree.T22 : Bool × List (List Nat × List Nat) := (true, [([], []), ([], []), ([1], [1]), ([], []), ([3], [3]), ([4, 2], [4]), ([2, 5], [2, 5]), ([0, 6, 5], [0, 6]), ([7, 7, 0, 1, 2, 3, 4, 5, 6, 7], [0, 7])])
def spec_MetaTree.B22 : List Nat := [0, 0, 2, 0, 8, 30, 62, 127, 255]
theorem spec_MetaTree.tab22 : rtab .any (opsOf Try.f6 22) = spec_MetaTree.T22 := by kernel_rfl
theorem spec_MetaTree.bits22 : waitsOk spec_MetaTree.T22.2 spec_MetaTree.B22 = true := by kernel_rfl
theorem spec_MetaTree.calls {k : Nat} {bA : Option Addr} {bB : Nat} {aV : List (S84)} {aZ : Int} {dF : Option Addr} {bJ : Nat} {aD : List (S54)} {r1 : List (S49)} {r2 : Bool} {w : World} (hr0_0 : Kd.C k84 w bA aV.length aV) (fY : aV.length ≤ bB) (hr0_2 : Kd.C k54 w dF aD.length aD) (fZ : aD.length ≤ bJ) (h : spec_MetaTree.f k aV aZ aD = some (r1, r2)) :
    Calls Try.prog 6 #[.agg #[.slice bA aV.length bB, .int .i64 aZ, .slice dF aD.length bJ]] w fun e w' => ∃ jC : Value, e = .returned (.tuple #[jC, .bool r2]) ∧ Kd.R k49 49 w' w.heap.size (fun _ => True) jC r1 ∧ Below w.heap.size w w' := by
 have hu33 := Try.underlying33
 have hu49 := Try.underlying49
 have hu54 := Try.underlying54
 have hu58 := Try.underlying58
 have dO := am hr0_0
 have dP := am fY
 clear hr0_0 fY
 have eL := am hr0_2
 have f7 := am fZ
 clear hr0_2 fZ
 have HB := am (Below.refl w.heap.size w)
 have H := h; clear h; unfold spec_MetaTree.f at H
 replace H := bsm H; obtain ⟨eJ, dQ, H⟩ := H
 replace H := bnd H; obtain ⟨kF, A2, H⟩ := H
 replace H := ibt H; obtain ⟨rfl, H⟩ | ⟨rfl, H⟩ := H
 rotate_left
 · replace H := sj2 H; obtain ⟨rfl, rfl⟩ := H
   go_enter Try.func6, Try.ntmps6
   go_wp2_with (first | ((with_reducible refine gd 1 rfl ?_); refine bxw 1 rfl #[.slice bA aV.length bB, .int .i64 aZ, .slice dF aD.length bJ] 33 HB ?_; clear HB; intro bI kY aA gW gX HB) | ((with_reducible refine gd 11 rfl ?_); refine Kd.R_lit k49 _ 49 ?hg (N := 11) ?hd (xs := ([] : List (S49))) (inner := []) (ok := fun _ => True) (okp := fun _ => True) ?hr ?hp (fun _ hk => hk) trivial (Below.refl _ _) (Nat.le_refl _) (by simp) ?_; (case hd => rfl); (case hg => rfl); (case hr => first | (go_simp; done) | (go_simp; rfl)); (case hp => exact (Reps.none _ _)); intro aW kZ eM hb hg_ hnew_; clear hg_ hnew_; (first | rw [← dQ.out] at eM | (simp only [Int.reduceToNat] at eM; rw [← dQ.out] at eM)); have aN := rlb eM HB; replace aA := bkb aA hb; replace HB := bst HB hb; clear hb eM; obtain ⟨_, _, _, _, _, _⟩ := cl3 aA) | ((with_reducible refine gc 21 rfl ?_); refine gl_ (some 13) Try.func21 #[.agg #[.slice bA aV.length bB, .int .i64 aZ, .slice dF aD.length bJ]] rfl ?_; (with_reducible refine (spec_MetaOk.calls ?side1 ?side2 ?side3 ?side4 A2.out).mono ?_); (case side1 => exact cL dO HB); (case side2 => exact dP.out); (case side3 => exact cL eL HB); (case side4 => exact f7.out); rintro e k0 ⟨rfl, hb⟩; refine ⟨_, rfl, ?_⟩; replace aN := rbe aN hb; replace aA := bkb aA hb; replace HB := bst HB hb; clear hb))
   go_ret2
   exact ⟨_, fin_ ⟨rL aN, bL HB⟩⟩
 replace H := bnd5 H; obtain ⟨eN, eO, eP, eQ, eR, A4, H⟩ := H; dsimp only at H
 replace H := bsm H; obtain ⟨iQ, gA, H⟩ := H
 replace H := bnd H; obtain ⟨eS, A5, H⟩ := H
 replace H := ifs H; obtain ⟨c6, H⟩ := H
 have iR := am c6
 clear c6
 replace H := bsm H; obtain ⟨iS, gY, H⟩ := H
 replace H := bnd5 H; obtain ⟨gJ, gK, gL, gM, gN, A7, H⟩ := H; dsimp only at H
 replace H := ifs H; obtain ⟨c8, H⟩ := H
 have iT := am c8
 clear c8
 replace H := bsm H; obtain ⟨fE, gZ, H⟩ := H
 have iU := am H
 clear H
 go_enter Try.func6, Try.ntmps6
 go_upto_if 37 with (first | ((with_reducible refine gd 1 rfl ?_); refine bxw 1 rfl #[.slice bA aV.length bB, .int .i64 aZ, .slice dF aD.length bJ] 33 HB ?_; clear HB; intro bI k5 aA gW gX HB) | ((with_reducible refine gd 11 rfl ?_); refine Kd.R_lit k49 _ 49 ?hg (N := 11) ?hd (xs := ([] : List (S49))) (inner := []) (ok := fun _ => True) (okp := fun _ => True) ?hr ?hp (fun _ hk => hk) trivial (Below.refl _ _) (Nat.le_refl _) (by simp) ?_; (case hd => rfl); (case hg => rfl); (case hr => first | (go_simp; done) | (go_simp; rfl)); (case hp => exact (Reps.none _ _)); intro aW k6 eT hb hg_ hnew_; clear hg_ hnew_; (first | rw [← dQ.out] at eT | (simp only [Int.reduceToNat] at eT; rw [← dQ.out] at eT)); have aN := rlb eT HB; replace aA := bkb aA hb; replace HB := bst HB hb; clear hb eT; obtain ⟨bM, bN, bO, bP, bQ, bR⟩ := cl3 aA) | ((with_reducible refine gc 21 rfl ?_); refine gl_ (some 13) Try.func21 #[.agg #[.slice bA aV.length bB, .int .i64 aZ, .slice dF aD.length bJ]] rfl ?_; (with_reducible refine (spec_MetaOk.calls ?side1 ?side2 ?side3 ?side4 A2.out).mono ?_); (case side1 => exact cL dO HB); (case side2 => exact dP.out); (case side3 => exact cL eL HB); (case side4 => exact f7.out); rintro e k7 ⟨rfl, hb⟩; refine ⟨_, rfl, ?_⟩; replace aN := rbe aN hb; replace aA := bkb aA hb; replace HB := bst HB hb; clear hb) | ((with_reducible refine gc 22 rfl ?_); refine gc1 (some 17) Try.func22 rfl (spec_l16Int.calls A4.out) ?_; rintro k8 hb; replace aN := rbe aN hb; replace aA := bkb aA hb; replace HB := bst HB hb; clear hb) | ((with_reducible refine gd 18 rfl ?_); refine Kd.R_lit k49 _ 49 ?hg (N := 18) ?hd (xs := ([(⟨12, 0, 0, (⟨#[]⟩ : ByteArray), 4⟩ : S49), (⟨eN, eO, eP, eQ, eR⟩ : S49)] : List (S49))) (inner := [.int .i64 12, .int .i64 0, .int .i64 0, .string ⟨#[]⟩, .int .i64 4, .int .i64 eN, .int .i64 eO, .int .i64 eP, .string eQ, .int .i64 eR]) (ok := fun _ => True) (okp := fun _ => True) ?hr ?hp (fun _ hk => hk) trivial (Below.refl _ _) (Nat.le_refl _) (by simp) ?_; (case hd => rfl); (case hg => rfl); (case hr => first | (go_simp; done) | (go_simp; rfl)); (case hp => exact (Reps.c5 (show Kd.M k49 _ _ _ (⟨12, 0, 0, (⟨#[]⟩ : ByteArray), 4⟩ : S49) [.int .i64 12, .int .i64 0, .int .i64 0, .string ⟨#[]⟩, .int .i64 4] from (k49_mkM _ _ _ (⟨12, 0, 0, (⟨#[]⟩ : ByteArray), 4⟩ : S49) )) (Reps.c5 (show Kd.M k49 _ _ _ (⟨eN, eO, eP, eQ, eR⟩ : S49) [.int .i64 eN, .int .i64 eO, .int .i64 eP, .string eQ, .int .i64 eR] from (k49_mkM _ _ _ (⟨eN, eO, eP, eQ, eR⟩ : S49) )) (Reps.none _ _)))); intro iV k9 eK hb hg_ hnew_; clear hg_ hnew_; (first | rw [← gA.out] at eK | (simp only [Int.reduceToNat] at eK; rw [← gA.out] at eK)); have bK := am (Kd.R_lower (Kd.R_new' eK (Kd.R_lt (rL aN))) (below_size (bL HB))); replace aN := am (Kd.R_elder' (rL aN) (Kd.R_base eK) hb); replace aA := bkb aA hb; replace HB := bst HB hb; clear hb eK; obtain ⟨bS, bT, bU, bV, bW, bX⟩ := cl3 aA) | ((with_reducible refine gc 23 rfl ?_); refine gl_ (some 22) Try.func23 #[.slice bA aV.length bB, .int .i64 2] rfl ?_; (with_reducible refine (spec_l5Nodes.calls ?side1 ?side2 A5.out).mono ?_); (case side1 => exact cL dO HB); (case side2 => exact dP.out); rintro e lA ⟨kG, rfl, fF, hb⟩; refine ⟨_, rfl, ?_⟩; have aU := am (Kd.R_lower (Kd.R_new' (Kd.R_new' fF (Kd.R_lt (rL aN))) (Kd.R_lt (rL bK))) (below_size (bL HB))); replace aN := am (Kd.R_elder' (rL aN) (Kd.R_base fF) hb); replace bK := am (Kd.R_elder' (rL bK) (Kd.R_base fF) hb); replace aA := bkb aA hb; replace HB := bst HB hb; clear hb fF; obtain ⟨fG, fH, iW⟩ := Kd.R_slice aU.out; subst iW) | ((with_reducible refine gate_builtin (b := .append) (xs := #[.tmp 19, .tmp 22]) rfl ?_); at_builtin; refine Kd.R_append_rows k49 (w0 := w) w.heap.size rfl (.tmp 19) (.tmp 22) 27 49 (.agg #[(.int .i64 0), (.int .i64 0), (.int .i64 0), (.string ⟨#[]⟩), (.int .i64 0)]) 48 rfl Try.underlying27 info49 rfl (by decide) (by omega) iV iQ eS _ _ _ (fun k_ => some k_ ≠ (aW : Value).ownBlock ∧ some k_ ≠ (.slice fG eS.length fH : Value).ownBlock) (fun _ => False) rfl rfl ?aO ?aR (fun _ _ h => h) (fun _ h => h.elim) ?aF ?aB ?aS ?aL ?_; (case aR => exact C_later (Kd.R_reads' aU.out).2.2); (case aB => exact (bL HB)); (case aF => exact (fun k_ hk => ⟨Kd.fresh' (Kd.R_lt (rL aN)) k_ hk, Kd.fresh' (Kd.R_lt (rL aU)) k_ hk⟩)); (case aO => exact (R_later (Kd.R_mono bK.out (fun _ hk => ⟨hk.1.2, hk.2⟩)))); (case aS => exact (below_size (bL HB))); (case aL => have := iR.out; omega); intro iX lB ho hb hg hat; rw [← gY.out] at ho; have dG := am ho; replace aA := bgr aA hg bK; replace aN := am (Kd.R_after (ok := (fun k_ => some k_ ≠ (.slice fG eS.length fH : Value).ownBlock)) (R_later (Kd.R_mono aN.out (fun _ hk => ⟨hk.2, hk.1.2⟩))) hg hat); replace aU := am (Kd.R_after (ok := (fun k_ => some k_ ≠ (aW : Value).ownBlock)) (R_later (Kd.R_mono aU.out (fun _ hk => ⟨hk.1.2, hk.2⟩))) hg hat); replace HB := am hb; clear bK; clear ho hb hg hat; obtain ⟨bY, bZ, b6, b7, b8, b9⟩ := cl3 aA) | ((with_reducible refine gc 24 rfl ?_); refine gc1 (some 27) Try.func24 rfl (spec_l18Long.calls A7.out) ?_; rintro lC hb; replace aN := rbe aN hb; replace aU := rbe aU hb; replace dG := rbe dG hb; replace aA := bkb aA hb; replace HB := bst HB hb; clear hb) | ((with_reducible refine gate_builtin (b := .append) (xs := #[.tmp 24, .tmp 28]) rfl ?_); at_builtin; refine Kd.R_append k49 (w0 := w) w.heap.size rfl (.tmp 24) (.tmp 28) 27 49 (.agg #[(.int .i64 0), (.int .i64 0), (.int .i64 0), (.string ⟨#[]⟩), (.int .i64 0)]) 48 rfl Try.underlying27 info49 rfl (by decide) (by omega) iX iS (⟨gJ, gK, gL, gM, gN⟩ : S49) [.int .i64 gJ, .int .i64 gK, .int .i64 gL, .string gM, .int .i64 gN] (fun k_ => some k_ ≠ (aW : Value).ownBlock ∧ some k_ ≠ (.slice fG eS.length fH : Value).ownBlock) (fun _ => False) rfl rfl ?aP (fun _ hk => hk.elim) ?aF ?aO ?aB ?aS ?aL ?_; (case aP => exact k49_mkM _ _ _ (⟨gJ, gK, gL, gM, gN⟩ : S49)); (case aB => exact (bL HB)); (case aF => exact (fun k_ hk => ⟨Kd.fresh' (Kd.R_lt (rL aN)) k_ hk, Kd.fresh' (Kd.R_lt (rL aU)) k_ hk⟩)); (case aO => exact (rL dG)); (case aS => exact (below_size (bL HB))); (case aL => have := iT.out; omega); intro gO lD ho hb hg hat; rw [← gZ.out] at ho; have dR := am ho; replace aA := bgr aA hg dG; replace aN := am (Kd.R_after (ok := (fun k_ => some k_ ≠ (.slice fG eS.length fH : Value).ownBlock)) (rL aN) hg hat); replace aU := am (Kd.R_after (ok := (fun k_ => some k_ ≠ (aW : Value).ownBlock)) (rL aU) hg hat); replace HB := am hb; clear dG; clear ho hb hg hat; obtain ⟨cA, cB, cC, cD, cE, cF⟩ := cl3 aA) | ((with_reducible refine gd 6 rfl ?_); refine bxv 6 rfl #[.int .i64 0, .int .i64 0, .int .i64 0, .string ⟨#[]⟩, .int .i64 0] 49 HB ?_; clear HB; intro aC lE aE jD jE HB hg hb; obtain ⟨a6, a7⟩ := nbp (nbl aA hg); replace aN := am (Kd.R_below (Kd.R_elderB (rL aN) aC (Nat.le_of_eq hg.symm)) hb); replace aU := am (Kd.R_below (Kd.R_elderB (rL aU) aC (Nat.le_of_eq hg.symm)) hb); replace dR := am (Kd.R_below (Kd.R_elderB (rL dR) aC (Nat.le_of_eq hg.symm)) hb); replace aA := bkb aA hb; clear hg hb; obtain ⟨jF, jG⟩ := nbo a7; obtain ⟨cG, cH, cI, cJ, cK, cM, cN, cO, cP, cQ⟩ := cl5 aE; obtain ⟨cR, cS, cT, cU, cV, cW⟩ := cl3 aA))
 (try simp only [Act.put, List.setIfInBounds_toArray, List.set_cons_zero, List.set_cons_succ])
 go_cut [] (fun wc => ∃ (kq : Nat) (aH : Int), Aside0 (spec_MetaTree.j0 kq eJ fE aV aZ aD 9 4 aH (⟨#[]⟩ : ByteArray) (aD.length : Int) = some (r1, r2)) ∧ Aside0 (kq ≤ k) ∧ Aside0 (Kd.R k49 49 wc w.heap.size (fun k_ => some k_ ≠ (gO : Value).ownBlock ∧ k_ ≠ aC) aW eJ) ∧ Aside0 (Kd.R k49 49 wc w.heap.size (fun k_ => some k_ ≠ (aW : Value).ownBlock ∧ k_ ≠ aC) gO fE) ∧ Aside0 (wc.heap[bI]? = some (.cells #[(.slice bA aV.length bB), .int .i64 aZ, (.slice dF aD.length bJ)] 33 (0, 0))) ∧ Aside0 (wc.heap[aC]? = some (.cells #[.int .i64 9, .int .i64 4, .int .i64 aH, .string ⟨#[]⟩, .int .i64 (aD.length : Int)] 49 (0, 0))) ∧ Aside0 (Below w.heap.size w wc))
 case first =>
  have H := iU.out
  clear iU
  by_cases gT : (aD.length : Int) > 0
  rotate_left
  · rw [if_neg gT] at H
    have dH : decide (0 < (aD.length : Int)) = false := decide_eq_false gT
    have eU : decide (0 < aD.length) = false := decide_eq_false (by omega)
    clear gT
    (first | rw [dH] | rw [eU] | (simp only [i64_w, i32_w]; rw [dH]) | skip)
    have H' := am H; clear H
    go_wp2
    go_meet
    case rel => exact ⟨_, (0), H', ⟨by first | omega | exact Nat.le_refl _⟩, ⟨R_later (Kd.R_mono (Kd.R_far (p := ⟨aC, 4, none⟩) (Kd.R_far (p := ⟨aC, 3, none⟩) (Kd.R_far (p := ⟨aC, 2, none⟩) (Kd.R_far (p := ⟨aC, 1, none⟩) (Kd.R_far (p := ⟨aC, 0, none⟩) (Kd.R_mono aN.out (fun k_ hk => (⟨hk, hk.2⟩ : _ ∧ k_ ≠ aC))) (fun _ hk => hk.2) (.int .i64 9)) (fun _ hk => hk.2) (.int .i64 4)) (fun _ hk => hk.2) (.int .i64 0)) (fun _ hk => hk.2) (.string ⟨#[]⟩)) (fun _ hk => hk.2) (.int .i64 (aD.length : Int))) (fun _ hk => ⟨hk.1.1.2, hk.1.2⟩))⟩, ⟨R_later (Kd.R_mono (Kd.R_far (p := ⟨aC, 4, none⟩) (Kd.R_far (p := ⟨aC, 3, none⟩) (Kd.R_far (p := ⟨aC, 2, none⟩) (Kd.R_far (p := ⟨aC, 1, none⟩) (Kd.R_far (p := ⟨aC, 0, none⟩) (Kd.R_mono dR.out (fun k_ hk => (⟨hk, hk.2⟩ : _ ∧ k_ ≠ aC))) (fun _ hk => hk.2) (.int .i64 9)) (fun _ hk => hk.2) (.int .i64 4)) (fun _ hk => hk.2) (.int .i64 0)) (fun _ hk => hk.2) (.string ⟨#[]⟩)) (fun _ hk => hk.2) (.int .i64 (aD.length : Int))) (fun _ hk => ⟨hk.1.1.1, hk.1.2⟩))⟩, ⟨kL aA⟩, ⟨kL aE⟩, ⟨bL HB⟩⟩
  rw [if_pos gT] at H
  have dH : decide (0 < (aD.length : Int)) = true := decide_eq_true gT
  have eU : decide (0 < aD.length) = true := decide_eq_true (by omega)
  clear gT
  (first | rw [dH] | rw [eU] | (simp only [i64_w, i32_w]; rw [dH]) | skip)
  have H' := am H; clear H
  obtain ⟨jH, jI⟩ := nbo a7
  obtain ⟨_, _, _, _, _, _, _, _, _, _⟩ := cl5 aE
  go_wp2
  go_meet
  case rel => exact ⟨_, (12), H', ⟨by first | omega | exact Nat.le_refl _⟩, ⟨R_later (Kd.R_mono (Kd.R_far (p := ⟨aC, 2, none⟩) (Kd.R_far (p := ⟨aC, 4, none⟩) (Kd.R_far (p := ⟨aC, 3, none⟩) (Kd.R_far (p := ⟨aC, 2, none⟩) (Kd.R_far (p := ⟨aC, 1, none⟩) (Kd.R_far (p := ⟨aC, 0, none⟩) (Kd.R_mono aN.out (fun k_ hk => (⟨hk, hk.2⟩ : _ ∧ k_ ≠ aC))) (fun _ hk => hk.2) (.int .i64 9)) (fun _ hk => hk.2) (.int .i64 4)) (fun _ hk => hk.2) (.int .i64 0)) (fun _ hk => hk.2) (.string ⟨#[]⟩)) (fun _ hk => hk.2) (.int .i64 (aD.length : Int))) (fun _ hk => hk.2) (.int .i64 12)) (fun _ hk => ⟨hk.1.1.2, hk.1.2⟩))⟩, ⟨R_later (Kd.R_mono (Kd.R_far (p := ⟨aC, 2, none⟩) (Kd.R_far (p := ⟨aC, 4, none⟩) (Kd.R_far (p := ⟨aC, 3, none⟩) (Kd.R_far (p := ⟨aC, 2, none⟩) (Kd.R_far (p := ⟨aC, 1, none⟩) (Kd.R_far (p := ⟨aC, 0, none⟩) (Kd.R_mono dR.out (fun k_ hk => (⟨hk, hk.2⟩ : _ ∧ k_ ≠ aC))) (fun _ hk => hk.2) (.int .i64 9)) (fun _ hk => hk.2) (.int .i64 4)) (fun _ hk => hk.2) (.int .i64 0)) (fun _ hk => hk.2) (.string ⟨#[]⟩)) (fun _ hk => hk.2) (.int .i64 (aD.length : Int))) (fun _ hk => hk.2) (.int .i64 12)) (fun _ hk => ⟨hk.1.1.1, hk.1.2⟩))⟩, ⟨kL aA⟩, ⟨kL aE⟩, ⟨bL HB⟩⟩
 clear iU
 try clear c3 c5 c6 c8 bM bN bO bS bT bU bY bZ b6 cA cB cC cG cH cI cJ cK cR cS cT bP bQ bR bV bW bX b7 b8 b9 cD cE cF cM cN cO cP cQ cU cV cW
 obtain ⟨kq, aH, HA, iJ, aM, aI, aA, aE, HB⟩ := hcut
 cases kq with
 | zero => exact absurd HA.out (by simp [spec_MetaTree.j0])
 | succ kj8 => ?_
 have H := HA.out
 clear HA
 simp only [spec_MetaTree.j0] at H
 replace H := ifs H; obtain ⟨iK, H⟩ := H
 have g2 := am iK
 clear iK
 generalize gB : ((fE ++ [(⟨9, 4, aH, (⟨#[]⟩ : ByteArray), (aD.length : Int)⟩ : S49)]) : List (S49)) = iY at H; have g3 := am gB.symm; clear gB
 have H' := am H; clear H
 obtain ⟨jJ, jK⟩ := nbo a7
 obtain ⟨dS, dT, dU, dV, dW, dX, dY, dZ, d3, d4⟩ := cl5 aE
 go_wp2_with (first | ((with_reducible refine gate_builtin (b := .append) (xs := #[.tmp 39, .tmp 41]) rfl ?_); at_builtin; refine Kd.R_append k49 (w0 := w) w.heap.size rfl (.tmp 39) (.tmp 41) 27 49 (.agg #[(.int .i64 0), (.int .i64 0), (.int .i64 0), (.string ⟨#[]⟩), (.int .i64 0)]) 48 rfl Try.underlying27 info49 rfl (by decide) (by omega) gO fE (⟨9, 4, aH, (⟨#[]⟩ : ByteArray), (aD.length : Int)⟩ : S49) [.int .i64 9, .int .i64 4, .int .i64 aH, .string ⟨#[]⟩, .int .i64 (aD.length : Int)] (fun k_ => some k_ ≠ (aW : Value).ownBlock ∧ k_ ≠ aC) (fun _ => False) rfl rfl ?aP (fun _ hk => hk.elim) ?aF ?aO ?aB ?aS ?aL ?_; (case aP => exact k49_mkM _ _ _ (⟨9, 4, aH, (⟨#[]⟩ : ByteArray), (aD.length : Int)⟩ : S49)); (case aB => exact (bL HB)); (case aF => exact (fun k_ hk => ⟨Kd.fresh' (Kd.R_lt (rL aM)) k_ hk, Kd.freshB (g := aC) (o := .cells #[.int .i64 9, .int .i64 4, .int .i64 aH, .string ⟨#[]⟩, .int .i64 (aD.length : Int)] 49 (0, 0)) (blk_later aE.out) k_ hk⟩)); (case aO => exact (rL aI)); (case aS => exact (below_size (bL HB))); (case aL => have := g2.out; omega); intro kH lF ho hb hg hat; rw [← g3.out] at ho; have g4 := am ho; replace aM := am (Kd.R_after (ok := (fun k_ => k_ ≠ aC)) (R_later (Kd.R_mono aM.out (fun _ hk => ⟨hk.2, hk.1⟩))) hg hat); replace aA := bgr aA hg aI; replace aE := am (blk_grown (g := aC) (o := .cells #[.int .i64 9, .int .i64 4, .int .i64 aH, .string ⟨#[]⟩, .int .i64 (aD.length : Int)] 49 (0, 0)) (blk_later aE.out) hg (Kd.R_away aI.out (fun _ hk => hk.2))); replace HB := am hb; clear aI; clear ho hb hg hat))
 go_loopg [5, 7] kj8 (fun kq v5 v7 w' => ∃ (eV : List (S49)) (aK : Int), v7 = .int .i64 aK ∧ Aside0 (spec_MetaTree.l0 kq eJ eV aK aV aZ aD = some (r1, r2)) ∧ Aside0 (kq ≤ kj8) ∧ Aside0 (Kd.R k49 49 w' w.heap.size (fun k_ => some k_ ≠ (v5 : Value).ownBlock ∧ k_ ≠ aC) aW eJ) ∧ Aside0 (Kd.R k49 49 w' w.heap.size (fun k_ => some k_ ≠ (aW : Value).ownBlock ∧ k_ ≠ aC) v5 eV) ∧ Aside0 (w'.heap[bI]? = some (.cells #[(.slice bA aV.length bB), .int .i64 aZ, (.slice dF aD.length bJ)] 33 (0, 0))) ∧ Aside0 (w'.heap[aC]? = some (.cells #[.int .i64 9, .int .i64 4, .int .i64 aH, .string ⟨#[]⟩, .int .i64 (aD.length : Int)] 49 (0, 0))) ∧ Aside0 (Below w.heap.size w w'))
 case atStart => exact ⟨(iY), (0), sr, H', ⟨Nat.le_refl _⟩, ⟨R_later (Kd.R_mono aM.out (fun _ hk => ⟨hk.2, hk.1⟩))⟩, ⟨rL g4⟩, ⟨kL aA⟩, ⟨kL aE⟩, ⟨bL HB⟩⟩
 clear H'
 try clear c3 c5 c6 c8 iK bM bN bO bS bT bU bY bZ b6 cA cB cC cG cH cI cJ cK cR cS cT dS dT dU dV dW bP bQ bR bV bW bX b7 b8 b9 cD cE cF cM cN cO cP cQ cU cV cW dX dY dZ d3 d4
 obtain ⟨eV, aK, rfl, HA, iL, aM, aI, aA, aE, HB⟩ := hrel
 cases gk with
 | zero => exact absurd HA.out (by simp [spec_MetaTree.l0])
 | succ k2 => ?_
 have H := HA.out
 clear HA
 simp only [spec_MetaTree.l0] at H
 replace H := idc H; obtain ⟨gC, H⟩ | ⟨gC, H⟩ := H
 rotate_left
 · replace H := bnd H; obtain ⟨kI, jL, H⟩ := H
   replace H := ibt H; obtain ⟨rfl, H⟩ | ⟨rfl, H⟩ := H
   · replace H := sj2 H; obtain ⟨rfl, rfl⟩ := H
     obtain ⟨jM, jN⟩ := nbo a6
     obtain ⟨_, _, _, _, _, _⟩ := cl3 aA
     obtain ⟨kJ, kM, iZ⟩ := Kd.R_slice aI.out
     subst iZ
     go_wp2_with (first | ((with_reducible refine gc 26 rfl ?_); refine gc1 (some 97) Try.func26 rfl (spec_TreeOk.calls (C_later (Kd.R_reads' aI.out).2.2) ((Kd.R_reads' aI.out).2.1) jL.out) ?_; rintro lG hb; replace aM := rbe aM hb; replace aI := rbe aI hb; replace aA := bkb aA hb; replace aE := bkb aE hb; replace HB := bst HB hb; clear hb))
     go_ret2
     exact ⟨_, fin_ ⟨R_later (Kd.R_mono aI.out (fun _ hk => trivial)), bL HB⟩⟩
   replace H := sj2 H; obtain ⟨rfl, rfl⟩ := H
   obtain ⟨jO, jP⟩ := nbo a6
   obtain ⟨_, _, _, _, _, _⟩ := cl3 aA
   obtain ⟨kN, kO, i1⟩ := Kd.R_slice aI.out
   subst i1
   go_wp2_with (first | ((with_reducible refine gc 26 rfl ?_); refine gc1 (some 97) Try.func26 rfl (spec_TreeOk.calls (C_later (Kd.R_reads' aI.out).2.2) ((Kd.R_reads' aI.out).2.1) jL.out) ?_; rintro lH hb; replace aM := rbe aM hb; replace aI := rbe aI hb; replace aA := bkb aA hb; replace aE := bkb aE hb; replace HB := bst HB hb; clear hb))
   go_ret2
   exact ⟨_, fin_ ⟨R_later (Kd.R_mono aM.out (fun _ hk => trivial)), bL HB⟩⟩
 replace H := ifd H; obtain ⟨g6, H⟩ := H
 replace H := bsm H; obtain ⟨fI, gD, H⟩ := H
 replace H := ifs H; obtain ⟨i2, H⟩ := H
 have g7 := am i2
 clear i2
 generalize gE : ((eV ++ fI) : List (S49)) = i3 at H; have g8 := am gE.symm; clear gE
 have H' := am H; clear H
 obtain ⟨jQ, jR⟩ := nbo a6
 obtain ⟨fJ, fK, fL, fM, fN, fO⟩ := cl3 aA
 have fP : 0 ≤ (aK : Int) := dcd
 have fQ : aK < (aD.length : Int) := dcd
 obtain ⟨gF, aY, aX, i4, cX, cY, d5, d6⟩ := at_T54 eL.out aK fP fQ
 cases i4
 replace cX := crd HB cX
 replace cY := crd HB cY
 have d7 := am d6
 have iM := am d5
 clear d6 d5
 replace fP := eq_true fP
 replace fQ := eq_true fQ
 go_wp2_with (first | ((with_reducible refine gd 8 rfl ?_); refine bxv 8 rfl #[.int .i64 0, .slice none 0 0] 54 HB ?_; clear HB; intro aQ lI aG jS jT HB hg hb; obtain ⟨gU, a8⟩ := nbp (nbl aA hg); obtain ⟨gV, a9⟩ := nbp (nbl aE hg); replace aM := rbe aM hb; replace aI := rbe aI hb; replace aA := bkb aA hb; replace aE := bkb aE hb; clear hg hb; obtain ⟨jU, jV⟩ := nbo a8; obtain ⟨jW, jX⟩ := nbo a9; obtain ⟨fR, fS, fT, fU⟩ := cl2 aG) | ((with_reducible refine gd 61 rfl ?_); refine Kd.R_lit k49 _ 49 ?hg (N := 61) ?hd (xs := ([(⟨12, 0, 0, (⟨#[]⟩ : ByteArray), 3⟩ : S49), (⟨9, 1, 12, (⟨#[]⟩ : ByteArray), (((rd_T54 aD aK).f1).length : Int)⟩ : S49)] : List (S49))) (inner := [.int .i64 12, .int .i64 0, .int .i64 0, .string ⟨#[]⟩, .int .i64 3, .int .i64 9, .int .i64 1, .int .i64 12, .string ⟨#[]⟩, .int .i64 (((rd_T54 aD aK).f1).length : Int)]) (ok := fun _ => True) (okp := fun _ => True) ?hr ?hp (fun _ hk => hk) trivial (Below.refl _ _) (Nat.le_refl _) (by simp) ?_; (case hd => rfl); (case hg => rfl); (case hr => first | (go_simp; done) | (go_simp; rfl)); (case hp => exact (Reps.c5 (show Kd.M k49 _ _ _ (⟨12, 0, 0, (⟨#[]⟩ : ByteArray), 3⟩ : S49) [.int .i64 12, .int .i64 0, .int .i64 0, .string ⟨#[]⟩, .int .i64 3] from (k49_mkM _ _ _ (⟨12, 0, 0, (⟨#[]⟩ : ByteArray), 3⟩ : S49) )) (Reps.c5 (show Kd.M k49 _ _ _ (⟨9, 1, 12, (⟨#[]⟩ : ByteArray), (((rd_T54 aD aK).f1).length : Int)⟩ : S49) [.int .i64 9, .int .i64 1, .int .i64 12, .string ⟨#[]⟩, .int .i64 (((rd_T54 aD aK).f1).length : Int)] from (k49_mkM _ _ _ (⟨9, 1, 12, (⟨#[]⟩ : ByteArray), (((rd_T54 aD aK).f1).length : Int)⟩ : S49) )) (Reps.none _ _)))); intro kP lJ dL hb hg_ hnew_; clear hg_ hnew_; (first | rw [← gD.out] at dL | (simp only [Int.reduceToNat] at dL; rw [← gD.out] at dL)); have dI := am (Kd.R_lower (Kd.R_newB (Kd.R_new' (Kd.R_new' dL (Kd.R_lt (R_later (Kd.R_mono (Kd.R_far (p := ⟨aQ, 1, none⟩) (Kd.R_far (p := ⟨aQ, 0, none⟩) (Kd.R_types aM.out aG.out (by decide)) (fun _ hk => hk.2) (.int .i64 ((rd_T54 aD aK).f0))) (fun _ hk => hk.2) (.slice aY ((rd_T54 aD aK).f1).length aX)) (fun _ h_ => h_.1))))) (Kd.R_lt (R_later (Kd.R_mono (Kd.R_far (p := ⟨aQ, 1, none⟩) (Kd.R_far (p := ⟨aQ, 0, none⟩) (Kd.R_types aI.out aG.out (by decide)) (fun _ hk => hk.2) (.int .i64 ((rd_T54 aD aK).f0))) (fun _ hk => hk.2) (.slice aY ((rd_T54 aD aK).f1).length aX)) (fun _ h_ => h_.1))))) (g := aC) (o := .cells #[.int .i64 9, .int .i64 4, .int .i64 aH, .string ⟨#[]⟩, .int .i64 (aD.length : Int)] 49 (0, 0)) (blk_later aE.out)) (below_size (bL HB))); replace aM := am (Kd.R_elder' (R_later (Kd.R_mono (Kd.R_far (p := ⟨aQ, 1, none⟩) (Kd.R_far (p := ⟨aQ, 0, none⟩) (Kd.R_types aM.out aG.out (by decide)) (fun _ hk => hk.2) (.int .i64 ((rd_T54 aD aK).f0))) (fun _ hk => hk.2) (.slice aY ((rd_T54 aD aK).f1).length aX)) (fun _ h_ => h_.1))) (Kd.R_base dL) hb); replace aI := am (Kd.R_elder' (R_later (Kd.R_mono (Kd.R_far (p := ⟨aQ, 1, none⟩) (Kd.R_far (p := ⟨aQ, 0, none⟩) (Kd.R_types aI.out aG.out (by decide)) (fun _ hk => hk.2) (.int .i64 ((rd_T54 aD aK).f0))) (fun _ hk => hk.2) (.slice aY ((rd_T54 aD aK).f1).length aX)) (fun _ h_ => h_.1))) (Kd.R_base dL) hb); replace aA := bkb aA hb; replace aE := bkb aE hb; replace aG := am (blk_below (g := aQ) (o := .cells #[.int .i64 ((rd_T54 aD aK).f0), .slice aY ((rd_T54 aD aK).f1).length aX] 54 (0, 0)) (blk_later aG.out) hb); replace HB := bst HB hb; clear hb dL; obtain ⟨g9, hD, i5⟩ := Kd.R_slice dI.out; subst i5) | ((with_reducible refine gate_builtin (b := .append) (xs := #[.tmp 55, .tmp 61]) rfl ?_); at_builtin; refine Kd.R_append_rows k49 (w0 := w) w.heap.size rfl (.tmp 55) (.tmp 61) 27 49 (.agg #[(.int .i64 0), (.int .i64 0), (.int .i64 0), (.string ⟨#[]⟩), (.int .i64 0)]) 48 rfl Try.underlying27 info49 rfl (by decide) (by omega) u5 eV fI _ _ _ (fun k_ => some k_ ≠ (aW : Value).ownBlock ∧ some k_ ≠ (.slice g9 fI.length hD : Value).ownBlock ∧ k_ ≠ aC) (fun _ => False) rfl rfl ?aO ?aR (fun _ _ h => h) (fun _ h => h.elim) ?aF ?aB ?aS ?aL ?_; (case aR => exact C_later (Kd.R_reads' dI.out).2.2); (case aB => exact (bL HB)); (case aF => exact (fun k_ hk => ⟨Kd.fresh' (Kd.R_lt (rL aM)) k_ hk, Kd.fresh' (Kd.R_lt (rL dI)) k_ hk, Kd.freshB (g := aC) (o := .cells #[.int .i64 9, .int .i64 4, .int .i64 aH, .string ⟨#[]⟩, .int .i64 (aD.length : Int)] 49 (0, 0)) (blk_later aE.out) k_ hk⟩)); (case aO => exact (R_later (Kd.R_mono aI.out (fun _ hk => ⟨hk.1.1, ⟨hk.2, hk.1.2⟩⟩)))); (case aS => exact (below_size (bL HB))); (case aL => have := g7.out; omega); intro kQ lK ho hb hg hat; rw [← g8.out] at ho; have hJ := am ho; replace aM := am (Kd.R_after (ok := (fun k_ => some k_ ≠ (.slice g9 fI.length hD : Value).ownBlock ∧ k_ ≠ aC)) (R_later (Kd.R_mono aM.out (fun _ hk => ⟨⟨hk.2, hk.1.2⟩, hk.1.1⟩))) hg hat); replace aA := bgr aA hg aI; replace aE := am (blk_grown (g := aC) (o := .cells #[.int .i64 9, .int .i64 4, .int .i64 aH, .string ⟨#[]⟩, .int .i64 (aD.length : Int)] 49 (0, 0)) (blk_later aE.out) hg (Kd.R_away aI.out (fun _ hk => hk.1.2))); replace aG := bgr aG hg aI; replace dI := am (Kd.R_after (ok := (fun k_ => some k_ ≠ (aW : Value).ownBlock ∧ k_ ≠ aC)) (R_later (Kd.R_mono dI.out (fun _ hk => ⟨⟨hk.1.1.2, hk.2⟩, hk.1.2⟩))) hg hat); replace HB := am hb; clear aI; clear ho hb hg hat))
 go_loopg [5, 9, 10] k2 (fun kq v5 v9 v10 w' => ∃ (dM : List (S49)) (eW : Int) (aJ : Int), v9 = .int .i64 eW ∧ v10 = .int .i64 aJ ∧ Aside0 (spec_MetaTree.l1 kq eJ dM aK eW aJ aV aZ aD ((rd_T54 aD aK).f0) ((rd_T54 aD aK).f1) = some (r1, r2)) ∧ Aside0 (kq ≤ k2) ∧ Aside0 (Kd.R k49 49 w' w.heap.size (fun k_ => some k_ ≠ (v5 : Value).ownBlock ∧ k_ ≠ aC) aW eJ) ∧ Aside0 (Kd.R k49 49 w' w.heap.size (fun k_ => some k_ ≠ (aW : Value).ownBlock ∧ k_ ≠ aC) v5 dM) ∧ Aside0 (w'.heap[bI]? = some (.cells #[(.slice bA aV.length bB), .int .i64 aZ, (.slice (some gF) aD.length bJ)] 33 (0, 0))) ∧ Aside0 (w'.heap[aC]? = some (.cells #[.int .i64 9, .int .i64 4, .int .i64 aH, .string ⟨#[]⟩, .int .i64 (aD.length : Int)] 49 (0, 0))) ∧ Aside0 (w'.heap[aQ]? = some (.cells #[.int .i64 ((rd_T54 aD aK).f0), (.slice aY ((rd_T54 aD aK).f1).length aX)] 54 (0, 0))) ∧ Aside0 (Below w.heap.size w w'))
 case atStart => exact ⟨(i3), (0), (0), sr, sr, H', ⟨Nat.le_refl _⟩, ⟨R_later (Kd.R_mono aM.out (fun _ hk => ⟨hk.2, hk.1.2⟩))⟩, ⟨R_later (Kd.R_mono hJ.out (fun _ hk => ⟨hk.1, hk.2.2⟩))⟩, ⟨kL aA⟩, ⟨kL aE⟩, ⟨kL aG⟩, ⟨bL HB⟩⟩
 clear H'
 try clear c3 c5 c6 c8 iK lL gC g6 i2 bM bN bO bS bT bU bY bZ b6 cA cB cC cG cH cI cJ cK cR cS cT dS dT dU dV dW fJ fK fL fR fS bP bQ bR bV bW bX b7 b8 b9 cD cE cF cM cN cO cP cQ cU cV cW dX dY dZ d3 d4 fM fN fO fT fU cX cY fP fQ
 obtain ⟨dM, eW, aJ, rfl, rfl, HA, iN, aM, aI, aA, aE, aG, HB⟩ := hrel
 cases gk with
 | zero => exact absurd HA.out (by simp [spec_MetaTree.l1])
 | succ k3 => ?_
 have H := HA.out
 clear HA
 simp only [spec_MetaTree.l1] at H
 replace H := idc H; obtain ⟨hU, H⟩ | ⟨hU, H⟩ := H
 rotate_left
 · replace H := bnd5 H; obtain ⟨eX, eY, eZ, e5, e6, kR, H⟩ := H; dsimp only at H
   replace H := bnd5 H; obtain ⟨e7, e8, e9, fA, fB, kS, H⟩ := H; dsimp only at H
   replace H := bsm H; obtain ⟨fV, gG, H⟩ := H
   replace H := ifs H; obtain ⟨jY, H⟩ := H
   have hV := am jY
   clear jY
   generalize gH : ((dM ++ fV) : List (S49)) = i6 at H; have hX := am gH.symm; clear gH
   have H' := am H; clear H
   obtain ⟨jZ, j4⟩ := nbo a8
   obtain ⟨j5, j6⟩ := nbo a9
   obtain ⟨_, _, _, _⟩ := cl2 aG
   try go_wp2
   replace aM := rdr aM
   replace aI := rdr aI
   replace aA := bdr aA
   replace aE := bdr aE
   replace aG := bdr aG
   replace HB := bld HB
   refine start_ (n := 9) (S := fun w' => w'.cell? ⟨aQ, 0, none⟩ = some (.int .i64 ((rd_T54 aD aK).f0)) ∧ w'.cell? ⟨aQ, 1, none⟩ = some (.slice aY ((rd_T54 aD aK).f1).length aX)) (ds := []) #[false, false, false, false, false, false, false, false, false] (by kernel_rfl) rfl rfl ⟨bcl aG 0, bcl aG 1⟩ (fun hHeld => ?_); refine with_tabW spec_MetaTree.tab22 spec_MetaTree.bits22 (fun HT_ HW_ => ?_)
   generalize wr.drew = lM at aM aI aA aE aG HB hHeld ⊢
   refine pu_ 0 88 ?_; refine pu_ 1 89 ?_; refine pu_ 3 91 ?_; refine tk_ 4 92 hHeld ?_
   refine on_ 2 90 (fun K hK => ?_)
   refine gs_ Try.func24 #[.int .i64 2, .int .i64 eW] rfl ?_
   with_reducible refine (spec_l18Long.calls kR.out).mono ?_
   rintro e lN ⟨rfl, hb⟩
   refine ⟨_, rfl, ?_⟩
   replace aM := rbe aM hb
   replace aI := rbe aI hb
   replace aA := bkb aA hb
   replace aE := bkb aE hb
   replace aG := bkb aG hb
   replace HB := bst HB hb
   (try clear hb)
   (try clear j7)
   (try clear hk)
   (try clear hi)
   refine hK.out _ _ ⟨bcl aG 0, bcl aG 1⟩ (fun hHeld => ?_)
   clear hK K
   refine no_ (some 90) ?_
   refine on_ 5 93 (fun K hK => ?_)
   refine gs_ Try.func24 #[.int .i64 3, .int .i64 ((rd_T54 aD aK).f0)] rfl ?_
   with_reducible refine (spec_l18Long.calls kS.out).mono ?_
   rintro e lO ⟨rfl, hb⟩
   refine ⟨_, rfl, ?_⟩
   replace aM := rbe aM hb
   replace aI := rbe aI hb
   replace aA := bkb aA hb
   replace aE := bkb aE hb
   replace aG := bkb aG hb
   replace HB := bst HB hb
   (try clear hb)
   (try clear j7)
   (try clear hk)
   (try clear hi)
   refine hK.out _ _ ⟨bcl aG 0, bcl aG 1⟩ (fun hHeld => ?_)
   clear hK K
   refine no_ (some 93) ?_
   refine on_ 6 94 (fun K hK => ?_)
   refine Kd.R_lit_step k49 _ 49 ?hg (N := 94) ?hd (xs := ([(⟨eX, eY, eZ, e5, e6⟩ : S49), (⟨e7, e8, e9, fA, fB⟩ : S49)] : List (S49))) (inner := [.int .i64 eX, .int .i64 eY, .int .i64 eZ, .string e5, .int .i64 e6, .int .i64 e7, .int .i64 e8, .int .i64 e9, .string fA, .int .i64 fB]) (ok := fun _ => True) (okp := fun _ => True) ?hr ?hp (fun _ hk => hk) trivial (Below.refl _ _) (Nat.le_refl _) (by simp) ?_; (case hd => rfl); (case hg => rfl); (case hr => first | (go_simp; done) | (go_simp; rfl)); (case hp => exact (Reps.c5 (show Kd.M k49 _ _ _ (⟨eX, eY, eZ, e5, e6⟩ : S49) [.int .i64 eX, .int .i64 eY, .int .i64 eZ, .string e5, .int .i64 e6] from (k49_mkM _ _ _ (⟨eX, eY, eZ, e5, e6⟩ : S49) )) (Reps.c5 (show Kd.M k49 _ _ _ (⟨e7, e8, e9, fA, fB⟩ : S49) [.int .i64 e7, .int .i64 e8, .int .i64 e9, .string fA, .int .i64 fB] from (k49_mkM _ _ _ (⟨e7, e8, e9, fA, fB⟩ : S49) )) (Reps.none _ _))))
   intro kT lP dN hb hg_ hnew_
   clear hg_ hnew_
   (first | rw [← gG.out] at dN | (simp only [Int.reduceToNat] at dN; rw [← gG.out] at dN))
   have dJ := am (Kd.R_lower (Kd.R_newB (Kd.R_new' (Kd.R_new' dN (Kd.R_lt (rL aM))) (Kd.R_lt (rL aI))) (g := aC) (o := .cells #[.int .i64 9, .int .i64 4, .int .i64 aH, .string ⟨#[]⟩, .int .i64 (aD.length : Int)] 49 (0, 0)) (blk_later aE.out)) (below_size (bL HB)))
   replace aM := am (Kd.R_elder' (rL aM) (Kd.R_base dN) hb)
   replace aI := am (Kd.R_elder' (rL aI) (Kd.R_base dN) hb)
   replace aA := bkb aA hb
   replace aE := bkb aE hb
   replace aG := bkb aG hb
   replace HB := bst HB hb
   clear hb dN
   obtain ⟨hY, hZ, iA⟩ := Kd.R_slice dJ.out
   (first | subst iA | (injection iA with f1_ f2_ f3_; have f4_ := f1_.symm; have f5_ := f3_.symm; clear f1_ f2_ f3_; subst f4_; subst f5_))
   refine hK.out _ _ ⟨bcl aG 0, bcl aG 1⟩ (fun hHeld => ?_)
   clear hK K
   refine no_ (some 94) ?_
   refine on_ 7 95 (fun K hK => ?_)
   refine Kd.R_append_rows_step k49 (w0 := w) w.heap.size (by rfl) (.tmp 88) (.tmp 94) 27 49 (.agg #[(.int .i64 0), (.int .i64 0), (.int .i64 0), (.string ⟨#[]⟩), (.int .i64 0)]) 48 rfl Try.underlying27 info49 rfl (by decide) (by omega) u5 dM fV _ _ _ (fun k_ => some k_ ≠ (aW : Value).ownBlock ∧ some k_ ≠ (.slice hY fV.length hZ : Value).ownBlock ∧ k_ ≠ aC) (fun _ => False) rfl rfl ?aO ?aR (fun _ _ h => h) (fun _ h => h.elim) ?aF ?aB ?aS ?aL ?_
   (case aR => exact C_later (Kd.R_reads' dJ.out).2.2)
   (case aB => exact (bL HB))
   (case aF => exact (fun k_ hk => ⟨Kd.fresh' (Kd.R_lt (rL aM)) k_ hk, Kd.fresh' (Kd.R_lt (rL dJ)) k_ hk, Kd.freshB (g := aC) (o := .cells #[.int .i64 9, .int .i64 4, .int .i64 aH, .string ⟨#[]⟩, .int .i64 (aD.length : Int)] 49 (0, 0)) (blk_later aE.out) k_ hk⟩))
   (case aO => exact (R_later (Kd.R_mono aI.out (fun _ hk => ⟨hk.1.1, ⟨hk.2, hk.1.2⟩⟩))))
   (case aS => exact (below_size (bL HB)))
   (case aL => have := hV.out; omega)
   intro kU lQ ho hb hg hat
   rw [← hX.out] at ho
   have iB := am ho
   replace aM := am (Kd.R_after (ok := (fun k_ => some k_ ≠ (.slice hY fV.length hZ : Value).ownBlock ∧ k_ ≠ aC)) (R_later (Kd.R_mono aM.out (fun _ hk => ⟨⟨hk.2, hk.1.2⟩, hk.1.1⟩))) hg hat)
   replace aA := bgr aA hg aI
   replace aE := am (blk_grown (g := aC) (o := .cells #[.int .i64 9, .int .i64 4, .int .i64 aH, .string ⟨#[]⟩, .int .i64 (aD.length : Int)] 49 (0, 0)) (blk_later aE.out) hg (Kd.R_away aI.out (fun _ hk => hk.1.2)))
   replace aG := bgr aG hg aI
   replace dJ := am (Kd.R_after (ok := (fun k_ => some k_ ≠ (aW : Value).ownBlock ∧ k_ ≠ aC)) (R_later (Kd.R_mono dJ.out (fun _ hk => ⟨⟨hk.1.1.2, hk.2⟩, hk.1.2⟩))) hg hat)
   replace HB := am hb
   clear aI ho hb hg hat
   refine hK.out _ _ ⟨bcl aG 0, bcl aG 1⟩ (fun hHeld => ?_)
   clear hK K
   refine no_ (some 95) ?_; refine pu_ 8 5 ?_
   refine done_ (done_of HT_.out (by kernel_rfl)) ?_
   try go_wp2
   go_roundg k3
   case measure => have := iJ.out; have := iL.out; have := iN.out; omega
   case rel => exact ⟨(i6), (wrap64 (aK + 1)), sr, H', ⟨by have := iJ.out; have := iL.out; have := iN.out; omega⟩, ⟨R_later (Kd.R_mono aM.out (fun _ hk => ⟨hk.2, hk.1.2⟩))⟩, ⟨R_later (Kd.R_mono iB.out (fun _ hk => ⟨hk.1, hk.2.2⟩))⟩, ⟨kL aA⟩, ⟨kL aE⟩, ⟨bL HB⟩⟩
 replace H := ifd H; obtain ⟨j8, H⟩ := H
 replace H := bnd H; obtain ⟨fW, kV, H⟩ := H
 replace H := ifs H; obtain ⟨j9, H⟩ := H
 have iC := am j9
 clear j9
 generalize gI : ((dM ++ fW) : List (S49)) = i7 at H; have iD := am gI.symm; clear gI
 have H' := am H; clear H
 obtain ⟨kA, kC⟩ := nbo a8
 obtain ⟨kD, kE⟩ := nbo a9
 obtain ⟨_, _, _, _⟩ := cl2 aG
 try go_wp2
 replace aM := rdr aM
 replace aI := rdr aI
 replace aA := bdr aA
 replace aE := bdr aE
 replace aG := bdr aG
 replace HB := bld HB
 have gP : 0 ≤ (aJ : Int) := dcd
 have gQ : aJ < (((rd_T54 aD aK).f1).length : Int) := dcd
 obtain ⟨aT, fC, fD, i8, bC, bD, bE, bF, bG, bH, d8, d9⟩ := at_T58 d7.out aJ gP gQ
 have cZ := bH
 have dA := bG
 have dB := bF
 have dC := bE
 have dD := bD
 have dE := bC
 cases i8
 replace bC := crd HB bC
 replace bD := crd HB bD
 replace bE := crd HB bE
 replace bF := crd HB bF
 replace bG := crd HB bG
 replace bH := crd HB bH
 have eA := am d9
 have fX := am d8
 clear d9 d8
 replace gP := eq_true gP
 replace gQ := eq_true gQ
 refine start_ (n := 11) (S := fun w' => w'.cell? ⟨bI, 0, none⟩ = some (.slice bA aV.length bB) ∧ w'.cell? ⟨bI, 1, none⟩ = some (.int .i64 aZ) ∧ w'.cell? ⟨bI, 2, none⟩ = some (.slice (some gF) aD.length bJ) ∧ w'.cell? ⟨aQ, 0, none⟩ = some (.int .i64 ((rd_T54 aD aK).f0)) ∧ w'.cell? ⟨aQ, 1, none⟩ = some (.slice (some aT) ((rd_T54 aD aK).f1).length aX) ∧ w'.cell? (aT.add ((aJ).toNat * 6)) = some (.int .i64 ((rd_T58 ((rd_T54 aD aK).f1) aJ).f0)) ∧ w'.cell? ⟨(aT.add ((aJ).toNat * 6)).block, (aT.add ((aJ).toNat * 6)).off + 1, none⟩ = some (.int .i64 ((rd_T58 ((rd_T54 aD aK).f1) aJ).f1)) ∧ w'.cell? ⟨(aT.add ((aJ).toNat * 6)).block, (aT.add ((aJ).toNat * 6)).off + 2, none⟩ = some (.int .i64 ((rd_T58 ((rd_T54 aD aK).f1) aJ).f2)) ∧ w'.cell? ⟨(aT.add ((aJ).toNat * 6)).block, (aT.add ((aJ).toNat * 6)).off + 3, none⟩ = some (.int .i64 ((rd_T58 ((rd_T54 aD aK).f1) aJ).f3)) ∧ w'.cell? ⟨(aT.add ((aJ).toNat * 6)).block, (aT.add ((aJ).toNat * 6)).off + 4, none⟩ = some (.int .i64 ((rd_T58 ((rd_T54 aD aK).f1) aJ).f4)) ∧ w'.cell? ⟨(aT.add ((aJ).toNat * 6)).block, (aT.add ((aJ).toNat * 6)).off + 5, none⟩ = some (.slice fC ((rd_T58 ((rd_T54 aD aK).f1) aJ).f5).length fD)) (ds := []) #[false, false, false, false, false, false, false, false, false, false, false] (by kernel_rfl) rfl rfl ⟨bcl aA 0, bcl aA 1, bcl aA 2, bcl aG 0, bcl aG 1, crd HB dE, crd HB dD, crd HB dC, crd HB dB, crd HB dA, crd HB cZ⟩ (fun hHeld => ?_); refine with_tabW spec_MetaTree.tab20 spec_MetaTree.bits20 (fun HT_ HW_ => ?_)
 generalize wr.drew = lR at aM aI aA aE aG HB eA bC bD bE bF bG bH hHeld ⊢
 refine pu_ 0 70 ?_; refine pu_ 1 71 ?_; refine pu_ 3 73 ?_; refine pu_ 5 75 ?_; refine tk_ 2 72 hHeld ?_; refine tk_ 4 74 hHeld ?_; refine pu_ 6 76 ?_; refine tk_ 7 77 hHeld ?_
 refine on_ 8 78 (fun K hK => ?_)
 refine gs_ Try.func25 #[.slice bA aV.length bB, .agg #[.int .i64 ((rd_T58 ((rd_T54 aD aK).f1) aJ).f0), .int .i64 ((rd_T58 ((rd_T54 aD aK).f1) aJ).f1), .int .i64 ((rd_T58 ((rd_T54 aD aK).f1) aJ).f2), .int .i64 ((rd_T58 ((rd_T54 aD aK).f1) aJ).f3), .int .i64 ((rd_T58 ((rd_T54 aD aK).f1) aJ).f4), .slice fC ((rd_T58 ((rd_T54 aD aK).f1) aJ).f5).length fD]] rfl ?_
 with_reducible refine (spec_l18Nodes.calls ?side1 ?side2 ?side3 ?side4 kV.out).mono ?_
 (case side1 => exact cL dO HB)
 (case side2 => exact dP.out)
 (case side3 => exact cL eA HB)
 (case side4 => exact fX.out)
 rintro e lS ⟨kW, rfl, fF, hb⟩
 refine ⟨_, rfl, ?_⟩
 have dK := am (Kd.R_lower (Kd.R_newB (Kd.R_new' (Kd.R_new' fF (Kd.R_lt (rL aM))) (Kd.R_lt (rL aI))) (g := aC) (o := .cells #[.int .i64 9, .int .i64 4, .int .i64 aH, .string ⟨#[]⟩, .int .i64 (aD.length : Int)] 49 (0, 0)) (blk_later aE.out)) (below_size (bL HB)))
 replace aM := am (Kd.R_elder' (rL aM) (Kd.R_base fF) hb)
 replace aI := am (Kd.R_elder' (rL aI) (Kd.R_base fF) hb)
 replace aA := bkb aA hb
 replace aE := bkb aE hb
 replace aG := bkb aG hb
 replace HB := bst HB hb
 (try clear hb)
 (try clear j7)
 (try clear hk)
 (try clear hi)
 (try clear fF)
 obtain ⟨iE, iF, iG⟩ := Kd.R_slice dK.out
 (first | subst iG | (injection iG with f1_ f2_ f3_; have f4_ := f1_.symm; have f5_ := f3_.symm; clear f1_ f2_ f3_; subst f4_; subst f5_))
 refine hK.out _ _ ⟨bcl aA 0, bcl aA 1, bcl aA 2, bcl aG 0, bcl aG 1, crd HB dE, crd HB dD, crd HB dC, crd HB dB, crd HB dA, crd HB cZ⟩ (fun hHeld => ?_)
 clear hK K
 refine no_ (some 78) ?_
 refine on_ 9 79 (fun K hK => ?_)
 refine Kd.R_append_rows_step k49 (w0 := w) w.heap.size (by rfl) (.tmp 70) (.tmp 78) 27 49 (.agg #[(.int .i64 0), (.int .i64 0), (.int .i64 0), (.string ⟨#[]⟩), (.int .i64 0)]) 48 rfl Try.underlying27 info49 rfl (by decide) (by omega) u5 dM fW _ _ _ (fun k_ => some k_ ≠ (aW : Value).ownBlock ∧ some k_ ≠ (.slice iE fW.length iF : Value).ownBlock ∧ k_ ≠ aC) (fun _ => False) rfl rfl ?aO ?aR (fun _ _ h => h) (fun _ h => h.elim) ?aF ?aB ?aS ?aL ?_
 (case aR => exact C_later (Kd.R_reads' dK.out).2.2)
 (case aB => exact (bL HB))
 (case aF => exact (fun k_ hk => ⟨Kd.fresh' (Kd.R_lt (rL aM)) k_ hk, Kd.fresh' (Kd.R_lt (rL dK)) k_ hk, Kd.freshB (g := aC) (o := .cells #[.int .i64 9, .int .i64 4, .int .i64 aH, .string ⟨#[]⟩, .int .i64 (aD.length : Int)] 49 (0, 0)) (blk_later aE.out) k_ hk⟩))
 (case aO => exact (R_later (Kd.R_mono aI.out (fun _ hk => ⟨hk.1.1, ⟨hk.2, hk.1.2⟩⟩))))
 (case aS => exact (below_size (bL HB)))
 (case aL => have := iC.out; omega)
 intro kX lT ho hb hg hat
 rw [← iD.out] at ho
 have iH := am ho
 replace aM := am (Kd.R_after (ok := (fun k_ => some k_ ≠ (.slice iE fW.length iF : Value).ownBlock ∧ k_ ≠ aC)) (R_later (Kd.R_mono aM.out (fun _ hk => ⟨⟨hk.2, hk.1.2⟩, hk.1.1⟩))) hg hat)
 replace aA := bgr aA hg aI
 replace aE := am (blk_grown (g := aC) (o := .cells #[.int .i64 9, .int .i64 4, .int .i64 aH, .string ⟨#[]⟩, .int .i64 (aD.length : Int)] 49 (0, 0)) (blk_later aE.out) hg (Kd.R_away aI.out (fun _ hk => hk.1.2)))
 replace aG := bgr aG hg aI
 replace dK := am (Kd.R_after (ok := (fun k_ => some k_ ≠ (aW : Value).ownBlock ∧ k_ ≠ aC)) (R_later (Kd.R_mono dK.out (fun _ hk => ⟨⟨hk.1.1.2, hk.2⟩, hk.1.2⟩))) hg hat)
 replace HB := am hb
 clear aI ho hb hg hat
 refine hK.out _ _ ⟨bcl aA 0, bcl aA 1, bcl aA 2, bcl aG 0, bcl aG 1, crd HB dE, crd HB dD, crd HB dC, crd HB dB, crd HB dA, crd HB cZ⟩ (fun hHeld => ?_)
 clear hK K
 refine no_ (some 79) ?_; refine pu_ 10 5 ?_
 refine done_ (done_of HT_.out (by kernel_rfl)) ?_
 obtain ⟨_, _, _, _⟩ := cl2 aG
 have gR : 0 ≤ (aJ : Int) := dcd
 have gS : aJ < (((rd_T54 aD aK).f1).length : Int) := dcd
 obtain ⟨iI, i9, jA, jB, eB, eC, eD, eE, eF, eG, eH, eI⟩ := at_T58 d7.out aJ gR gS
 obtain rfl : aT = iI := (by injection jB)
 replace eB := crd HB eB
 replace eC := crd HB eC
 replace eD := crd HB eD
 replace eE := crd HB eE
 replace eF := crd HB eF
 replace eG := crd HB eG
 have iO := am eI
 have iP := am eH
 clear eI eH
 replace gR := eq_true gR
 replace gS := eq_true gS
 try go_wp2
 go_roundg k3
 case measure => have := iJ.out; have := iL.out; have := iN.out; omega
 case rel => exact ⟨(i7), (wrap64 (eW + ((rd_T58 ((rd_T54 aD aK).f1) aJ).f4))), (wrap64 (aJ + 1)), sr, sr, H', ⟨by have := iJ.out; have := iL.out; have := iN.out; omega⟩, ⟨R_later (Kd.R_mono aM.out (fun _ hk => ⟨hk.2, hk.1.2⟩))⟩, ⟨R_later (Kd.R_mono iH.out (fun _ hk => ⟨hk.1, hk.2.2⟩))⟩, ⟨kL aA⟩, ⟨kL aE⟩, ⟨kL aG⟩, ⟨bL HB⟩⟩
/-! ### laws_toCol: function 54 -/
def laws_toCol.f (aA : ByteArray) (aC : Int) (aD : Int) (aE : Int) : Option (ByteArray × Int × Int × Int) := some (aA, aC, aD, aE)
theorem laws_toCol.calls {aH : ByteArray} {aI aJ aK : Int} {r1 : ByteArray} {r2 r3 r4 : Int} {w : World} (h : laws_toCol.f aH aI aJ aK = some (r1, r2, r3, r4)) :
    Calls Try.prog 54 #[.agg #[.string aH, .int .i64 aI, .int .i64 aJ, .int .i64 aK]] w fun e w' => e = .returned (.agg #[.string r1, .int .i64 r2, .int .i64 r3, .int .i64 r4]) ∧ Below w.heap.size w w' := by
 have hu75 := Try.underlying75
 have hu84 := Try.underlying84
 have HB := am (Below.refl w.heap.size w)
 have H := h; clear h; unfold laws_toCol.f at H
 replace H := sj4 H; obtain ⟨rfl, rfl, rfl, rfl⟩ := H
 go_enter Try.func54, Try.ntmps54
 go_wp2_with (first | ((with_reducible refine gd 1 rfl ?_); refine bxw 1 rfl #[.string aH, .int .i64 aI, .int .i64 aJ, .int .i64 aK] 75 HB ?_; clear HB; intro aV w2 aA aW aX HB) | ((with_reducible refine gd 2 rfl ?_); refine bxv 2 rfl #[.string ⟨#[]⟩, .int .i64 0, .int .i64 0, .int .i64 0] 84 HB ?_; clear HB; intro aT w3 aC aY aZ HB hg hb; obtain ⟨aD, aM⟩ := nbp (nbl aA hg); replace aA := bkb aA hb; clear hg hb) | ((with_reducible refine gd 3 rfl ?_); refine bxv 3 rfl #[.string ⟨#[]⟩, .int .i64 0, .int .i64 0, .int .i64 0] 84 HB ?_; clear HB; intro a6 w4 aU a7 a8 HB hg hb; obtain ⟨aE, aN⟩ := nbp (nbl aA hg); obtain ⟨aQ, aG⟩ := nbp (nbl aC hg); replace aA := bkb aA hb; replace aC := bkb aC hb; clear hg hb; obtain ⟨a9, bA⟩ := nbo aD; obtain ⟨bB, bC⟩ := nbo aE; obtain ⟨_, _, _, _, _, _, _, _⟩ := cl4 aA; obtain ⟨bD, bE⟩ := nbo aG; obtain ⟨_, _, _, _, _, _, _, _⟩ := cl4 aU; obtain ⟨_, _, _, _, _, _, _, _⟩ := cl4 aC))
 refine bodyPost_ret (results_cell_row rfl _ _ aT 84 #[.string aH, .int .i64 aI, .int .i64 aJ, .int .i64 aK] (0, 0) _ rfl (kL aC) Try.underlying84 rfl (by kernel_rfl)) rfl ?_
 exact fin_ (bL HB)
/-! ### laws_toColS: function 27 -/
def laws_toColS.l0 : Nat → List (S75) → List (S84) → Int → Option ((List (S84)))
  | 0, _, _, _ => none
  | k + 1, x0, x3, x4 => if x4 < (x0.length : Int) then (if 0 ≤ x4 then ((laws_toCol.f ((rd_T75 x0 x4).f0) ((rd_T75 x0 x4).f1) ((rd_T75 x0 x4).f2) ((rd_T75 x0 x4).f3)).bind fun aA => (if x4 < (x3.length : Int) then (laws_toColS.l0 k x0 (x3.set (x4 : Int).toNat (⟨aA.1, aA.2.1, aA.2.2.1, aA.2.2.2⟩ : S84)) (wrap64 (x4 + 1))) else (none))) else (none)) else (some x3)
def laws_toColS.f (k : Nat) (l0 : List (S75)) : Option ((List (S84))) := if 0 ≤ (l0.length : Int) then (if ((l0.length : Int) : Int).toNat ≤ 7036874417766 then (laws_toColS.l0 k l0 (List.replicate ((l0.length : Int) : Int).toNat z84) 0) else (none)) else (none)
theorem laws_toColS.calls {k : Nat} {A0 : Option Addr} {c0 : Nat} {l0 : List (S75)} {r : List (S84)} {w : World} (hr0 : Kd.C k75 w A0 l0.length l0) (cB : l0.length ≤ c0) (h : laws_toColS.f k l0 = some r) :
    Calls Try.prog 27 #[.slice A0 l0.length c0] w fun e w' => ∃ cC : Value, e = .returned (cC) ∧ Kd.R k84 84 w' w.heap.size (fun _ => True) cC r ∧ Below w.heap.size w w' := by
 have hu75 := Try.underlying75
 have hu84 := Try.underlying84
 have cF := am hr0
 have cK := am cB
 clear hr0 cB
 have HB := am (Below.refl w.heap.size w)
 have H := h; clear h; unfold laws_toColS.f at H
 replace H := ifs H; obtain ⟨c2, H⟩ := H
 have bM := eq_true c2
 have bN := decide_eq_true c2
 clear c2
 replace H := ifs H; obtain ⟨c3, H⟩ := H
 have bO := eq_true c3
 have bP := decide_eq_true c3
 clear c3
 generalize aT : ((List.replicate ((l0.length : Int) : Int).toNat z84) : List (S84)) = bQ at H; have aU := am aT.symm; clear aT
 have H' := am H; clear H
 go_enter Try.func27, Try.ntmps27
 go_wp2_with (first | ((with_reducible refine gd 7 rfl ?_); refine Kd.R_make k84 _ 84 rfl (N := 7) rfl 30 _ _ rfl (l0.length : Int) rfl rfl Try.underlying30 (.agg #[(.string ⟨#[]⟩), (.int .i64 0), (.int .i64 0), (.int .i64 0)]) 40 info84 rfl (by decide) (by omega) z84 (ok := fun _ => True) (okp := fun _ => True) (k84_mkM _ _ _ z84 ) (fun _ hk => hk) trivial (dcd) (Nat.le_trans (Nat.mul_le_mul_right _ (dcd : (l0.length : Int).toNat ≤ 7036874417766)) (by omega)) (Below.refl _ _) (Nat.le_refl _) ?_; intro bR w4 bA hb hg_ hnew_; clear hg_ hnew_; (first | rw [← aU.out] at bA | (simp only [Int.reduceToNat] at bA; rw [← aU.out] at bA)); have bB := rlb bA HB; replace HB := bst HB hb; clear hb bA))
 go_loopg [4] k (fun kq v4 w' => ∃ (aC : List (S84)) (aA : Int), v4 = .int .i64 aA ∧ Aside0 (laws_toColS.l0 kq l0 aC aA = some r) ∧ Aside0 (kq ≤ k) ∧ Aside0 (Kd.R k84 84 w' w.heap.size (fun _ => True) bR aC) ∧ Aside0 (Below w.heap.size w w'))
 case atStart => exact ⟨(bQ), (0), sr, H', ⟨Nat.le_refl _⟩, ⟨rL bB⟩, ⟨bL HB⟩⟩
 clear H'
 try clear c2 bM bN c3 bO bP
 obtain ⟨aC, aA, rfl, HA, cD, aD, HB⟩ := hrel
 cases gk with
 | zero => exact absurd HA.out (by simp [laws_toColS.l0])
 | succ k1 => ?_
 have H := HA.out
 clear HA
 simp only [laws_toColS.l0] at H
 replace H := idc H; obtain ⟨bS, H⟩ | ⟨bS, H⟩ := H
 rotate_left
 · cases H
   go_wp2
   go_ret
   exact ⟨_, fin_ ⟨rL aD, bL HB⟩⟩
 replace H := ifd H; obtain ⟨cG, H⟩ := H
 replace H := bnd4 H; obtain ⟨aJ, aK, aM, aN, A8, H⟩ := H; dsimp only at H
 replace H := ifd H; obtain ⟨cH, H⟩ := H
 generalize aV : ((aC.set (aA : Int).toNat (⟨aJ, aK, aM, aN⟩ : S84)) : List (S84)) = bC at H; have bD := am aV.symm; clear aV
 have H' := am H; clear H
 obtain ⟨cI, cJ, cE, bT, bH, bI, bJ, bK⟩ := at_T75b HB cF aA; cases bT
 go_wp2_with (first | ((with_reducible refine gc 54 rfl ?_); refine gc1 (some 20) Try.func54 rfl (laws_toCol.calls A8.out) ?_; rintro aQ hb; replace aD := rbe aD hb; replace HB := bst HB hb; clear hb; have bU : 0 ≤ (aA : Int) := dcd; have bV : (aA : Int) < ((aC.length : Int) : Int) := dcd; obtain ⟨go10, bE, bF, bG, gl10, cl10, HG10⟩ := Kd.R_form aD.out (by omega); (first | cases bF | (injection bF with ea_ en_ ec_; (first | subst ea_ | (injection ea_ with ea_; subst ea_)); subst ec_; clear en_)); have GB10 := am bG; have GG10 := am HG10; clear bG gl10 HG10; obtain ⟨ce10, hcl10, hM10, aG, aH⟩ := Kd.R_elem aD.out z84 (aA : Int) bU bV; obtain rfl := k84_openM hM10; have bW : aQ.cell? ⟨go10, (aA : Int).toNat * 4, none⟩ = some (.string ((rd_T84 aC aA).f0)) := aG 0 _ rfl; have bX : aQ.cell? ⟨go10, (aA : Int).toNat * 4 + 1, none⟩ = some (.int .i64 ((rd_T84 aC aA).f1)) := aG 1 _ rfl; have bY : aQ.cell? ⟨go10, (aA : Int).toNat * 4 + 2, none⟩ = some (.int .i64 ((rd_T84 aC aA).f2)) := aG 2 _ rfl; have bZ : aQ.cell? ⟨go10, (aA : Int).toNat * 4 + 3, none⟩ = some (.int .i64 ((rd_T84 aC aA).f3)) := aG 3 _ rfl; have b6 : aQ.frozen? ⟨go10, (aA : Int).toNat * 4, none⟩ = false := aH 0; have b7 : aQ.frozen? ⟨go10, (aA : Int).toNat * 4 + 1, none⟩ = false := aH 1; have b8 : aQ.frozen? ⟨go10, (aA : Int).toNat * 4 + 2, none⟩ = false := aH 2; have b9 : aQ.frozen? ⟨go10, (aA : Int).toNat * 4 + 3, none⟩ = false := aH 3; clear hcl10 aG aH hM10; replace bU := eq_true bU; replace bV := eq_true bV; have HX12 := am (show Kd.R k84 84 aQ w.heap.size (fun _ => True) (.slice (some ⟨go10, 0, none⟩) aC.length bE) aC from (rL aD)); obtain ⟨ce12, hcl12, hM12, aE, aI⟩ := Kd.R_elem HX12.out z84 (aA : Int) (dcd) (by have h_ : (aA : Int) < ((aC.length : Int) : Int) := dcd; first | exact h_ | (have e_ := (Kd.R_reads' aD.out).1; omega) | simpa using h_); obtain rfl := k84_openM hM12; have HP12 := Kd.R_seg HX12.out (aA : Int) (dcd) (by have h_ : (aA : Int) < ((aC.length : Int) : Int) := dcd; first | exact h_ | (have e_ := (Kd.R_reads' aD.out).1; omega) | simpa using h_) (seg := [.string aJ, .int .i64 aK, .int .i64 aM, .int .i64 aN]) (j := 0) hcl12 aE (show 4 ≤ 4 from by decide) (x' := (⟨aJ, aK, aM, aN⟩ : S84)) (k84_mkM _ _ _ (⟨aJ, aK, aM, aN⟩ : S84) ) (fun _ hk => hk); have aW := aE 0 _ rfl; (try simp only [show (k84).sz = 4 from rfl, Nat.mul_one, Nat.add_zero] at aW); have aX := aI 0; (try simp only [show (k84).sz = 4 from rfl, Nat.mul_one, Nat.add_zero] at aX); have aY := aE 1 _ rfl; (try simp only [show (k84).sz = 4 from rfl, Nat.mul_one, Nat.add_zero] at aY); have aZ := aI 1; (try simp only [show (k84).sz = 4 from rfl, Nat.mul_one, Nat.add_zero] at aZ); have a6 := aE 2 _ rfl; (try simp only [show (k84).sz = 4 from rfl, Nat.mul_one, Nat.add_zero] at a6); have a7 := aI 2; (try simp only [show (k84).sz = 4 from rfl, Nat.mul_one, Nat.add_zero] at a7); have a8 := aE 3 _ rfl; (try simp only [show (k84).sz = 4 from rfl, Nat.mul_one, Nat.add_zero] at a8); have a9 := aI 3; (try simp only [show (k84).sz = 4 from rfl, Nat.mul_one, Nat.add_zero] at a9); clear hcl12 aE aI hM12) | ((with_reducible refine gate_store (t := 84) (p := 21) rfl ?_); refine st_ 84 21 ((((aQ.setCell ⟨go10, (aA : Int).toNat * 4, none⟩ (.string aJ)).setCell ⟨go10, (aA : Int).toNat * 4 + 1, none⟩ (.int .i64 aK)).setCell ⟨go10, (aA : Int).toNat * 4 + 2, none⟩ (.int .i64 aM)).setCell ⟨go10, (aA : Int).toNat * 4 + 3, none⟩ (.int .i64 aN)) ?_; intro cA hw; have hg : aQ.grownBy cA (some go10) := (by rw [hw]; exact HP12.2); have hp_ : Kd.R k84 84 cA w.heap.size (fun _ => True) (.slice (some ⟨go10, 0, none⟩) aC.length bE) bC := (by rw [hw, bD.out]; exact HP12.1); clear HP12; replace aD := am hp_; replace HB := am ((by rw [hw]; exact below_set (below_set (below_set (below_set (HB.out) GB10.out) GB10.out) GB10.out) GB10.out : Below w.heap.size w cA)); clear hg hw hp_))
 go_roundg k1
 case measure => have := cD.out; omega
 case rel => exact ⟨(bC), (wrap64 (aA + 1)), sr, H', ⟨by have := cD.out; omega⟩, ⟨rL aD⟩, ⟨bL HB⟩⟩
end Go.Proofs.Ytjdapaocdkcgdaa.PFnExactMetaTree
