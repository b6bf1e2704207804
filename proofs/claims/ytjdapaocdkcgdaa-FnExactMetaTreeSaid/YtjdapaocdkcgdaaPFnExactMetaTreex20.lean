/- The machine's side of FnExactMetaTree: each Go function, and what its call comes to. No condition. -/
import Derived.Test.YtjdapaocdkcgdaaPFnExactMetaTreex0
import Derived.Test.YtjdapaocdkcgdaaPFnExactMetaTreex1
import Derived.Test.YtjdapaocdkcgdaaPFnExactMetaTreex8
import Derived.Test.YtjdapaocdkcgdaaPFnExactMetaTreex9
import Derived.Test.YtjdapaocdkcgdaaPFnExactMetaTreex16
import Derived.Test.YtjdapaocdkcgdaaPFnExactMetaTreex17
import Derived.Test.YtjdapaocdkcgdaaPFnExactMetaTreex18
import Derived.Test.YtjdapaocdkcgdaaPFnExactMetaTreex19
namespace Go.Proofs.Ytjdapaocdkcgdaa.PFnExactMetaTree
open Go.RowKit Go.Proofs.YtjdapaocdkcgdaaW.PrintWords Go.Proofs.YtjdapaocdkcgdaaW.PrintLast Go.Proofs.YtjdapaocdkcgdaaW.PrintMore Go.Proofs.YtjdapaocdkcgdaaW.PrintMore2
attribute [local go_sem] max2_int min2_int max_two min_two max_three min_three max_four min_four
set_option linter.unusedVariables false
set_option linter.unusedSimpArgs false
set_option maxHeartbeats 8000000
set_option maxRecDepth 100000

/-! ### laws_FnExactMetaTree: function 3 -/
mutual
def laws_FnExactMetaTree.j0 : Nat → List (S49) → Bool → List (S49) → Bool → Bool → List (S75) → Int → List (S79) → List (S84) → Int → List (S54) → Option (Bool)
  | 0, _, _, _, _, _, _, _, _, _, _, _ => none
  | k + 1, x4, x5, x7, x8, aN, aA, aC, aD, aE, aG, aH => if aN = true then (some false) else ((laws_toMeta.f k aA aC aD).bind fun aI => ((laws_eqMeta.f k aE aG aH aI.1 aI.2.1 aI.2.2).bind fun aK => (if aK = true then ((laws_markMeta.f k aE aG aH 1).bind fun aJ => (if aJ.1 < 0 then (laws_FnExactMetaTree.j1 k x4 x5 x7 true aA aC aD) else ((laws_eqNodeS.f k x7 x4).bind fun aM => (if aM = true then (laws_FnExactMetaTree.j1 k x4 x5 x7 (x8 != x5) aA aC aD) else (laws_FnExactMetaTree.j1 k x4 x5 x7 true aA aC aD))))) else (some false))))
def laws_FnExactMetaTree.j1 : Nat → List (S49) → Bool → List (S49) → Bool → List (S75) → Int → List (S79) → Option (Bool)
  | 0, _, _, _, _, _, _, _ => none
  | k + 1, x4, x5, x7, aK, aD, aE, aG => if aK = true then (some false) else ((laws_markNodeS.f k x7 1).bind fun aA => ((laws_heldNodeS.f k aA.2 1).bind fun aI => (if aI < 0 then (some false) else (if aI = aA.1 then ((laws_toMeta.f k aD aE aG).bind fun aC => ((impl_MetaTree.f k aC.1 aC.2.1 aC.2.2).bind fun aH => ((laws_eqNodeS.f k aH.1 x4).bind fun aJ => (if aJ = true then (laws_FnExactMetaTree.j2 k aA.2 aA.1 (aH.2 != x5)) else (laws_FnExactMetaTree.j2 k aA.2 aA.1 true))))) else (some false)))))
def laws_FnExactMetaTree.j2 : Nat → List (S49) → Int → Bool → Option (Bool)
  | 0, _, _, _ => none
  | k + 1, x7, aC, aD => if aD = true then (some false) else ((laws_heldNodeS.f k x7 1).bind fun aA => (if aA < 0 then (some false) else (if aA = aC then (some true) else (some false))))
end
def laws_FnExactMetaTree.f (k : Nat) (aE : List (S75)) (aG : Int) (aH : List (S79)) : Option (Bool) := (laws_szMeta.f k aE aG aH 1048576).bind fun aJ => (if aJ < 0 then (some true) else ((laws_toMeta.f k aE aG aH).bind fun aI => ((spec_MetaTree.f k aI.1 aI.2.1 aI.2.2).bind fun aC => ((laws_toMeta.f k aE aG aH).bind fun aA => ((impl_MetaTree.f k aA.1 aA.2.1 aA.2.2).bind fun aD => ((laws_eqNodeS.f k aD.1 aC.1).bind fun aK => (if aK = true then (laws_FnExactMetaTree.j0 k aC.1 aC.2 aD.1 aD.2 (aD.2 != aC.2) aE aG aH aA.1 aA.2.1 aA.2.2) else (laws_FnExactMetaTree.j0 k aC.1 aC.2 aD.1 aD.2 true aE aG aH aA.1 aA.2.1 aA.2.2))))))))
theorem R_markedB {α : Type} {d : Kd α} {e base e' base2 : Nat} {ok ok2 : Nat → Prop} {v u : Value} {xs : List α} {l : List Nat} {W W2 W3 : World} (h : d.R e W base ok v xs) (hk : Kept W W2 (fun k => some k = u.ownBlock ∨ (ok2 k ∧ base2 ≤ k ∧ k < W3.heap.size ∧ ∃ q, q ∈ l ∧ ∃ cells, W.heap[k]? = some (.cells cells q (0, 0))))) (hty : ∀ k, u.ownBlock = some k → ∃ cells, W.heap[k]? = some (.cells cells e' (0, 0))) (ht : ∀ q, q ∈ e :: d.E → ∀ q', q' ∈ e' :: l → q' ≠ q) : d.R e W2 base ok v xs :=
  R_marked h (hk.mono (fun k h_ => h_.elim .inl (fun h_ => .inr h_.2.2.2))) hty ht
theorem blk_markedB {e' g t base2 : Nat} {ok2 : Nat → Prop} {u : Value} {cs : Array Value} {l : List Nat} {W W2 W3 : World} (h : W.heap[g]? = some (.cells cs t (0, 0))) (hk : Kept W W2 (fun k => some k = u.ownBlock ∨ (ok2 k ∧ base2 ≤ k ∧ k < W3.heap.size ∧ ∃ q, q ∈ l ∧ ∃ cells, W.heap[k]? = some (.cells cells q (0, 0))))) (hty : ∀ k, u.ownBlock = some k → ∃ cells, W.heap[k]? = some (.cells cells e' (0, 0))) (ht : ∀ q', q' ∈ e' :: l → q' ≠ t) : W2.heap[g]? = some (.cells cs t (0, 0)) :=
  blk_marked h (hk.mono (fun k h_ => h_.elim .inl (fun h_ => .inr h_.2.2.2))) hty ht
theorem laws_FnExactMetaTree.calls (k : Nat) (bA : Option Addr) (bB : Nat) (aN : List (S75)) (aY : Int) (bC : Option Addr) (bD : Nat) (aQ : List (S79)) (r : Bool) (w : World) (hr0_0 : Kd.C k75 w bA aN.length aN) (dU : aN.length ≤ bB) (hr0_2 : Kd.C k79 w bC aQ.length aQ) (dV : aQ.length ≤ bD) (h : laws_FnExactMetaTree.f k aN aY aQ = some true) :
    Calls Try.prog 3 #[.agg #[.slice bA aN.length bB, .int .i64 aY, .slice bC aQ.length bD]] w fun e w' => e = .returned (.bool true) ∧ Below w.heap.size w w' := by
 have hu25 := Try.underlying25
 have hu33 := Try.underlying33
 have bK := am hr0_0
 have bM := am dU
 clear hr0_0 dU
 have bN := am hr0_2
 have bO := am dV
 clear hr0_2 dV
 have HB := am (Below.refl w.heap.size w)
 have H := h; clear h; unfold laws_FnExactMetaTree.f at H
 replace H := bnd H; obtain ⟨fY, A2, H⟩ := H
 replace H := idc H; obtain ⟨dF, H⟩ | ⟨dF, H⟩ := H
 · clear H
   go_enter Try.func3, Try.ntmps3
   go_wp2_with (first | ((with_reducible refine gd 1 rfl ?_); refine bxw 1 rfl #[.slice bA aN.length bB, .int .i64 aY, .slice bC aQ.length bD] 25 HB ?_; clear HB; intro bF w4 aC d6 d7 HB; obtain ⟨_, _, _, _, _, _⟩ := cl3 aC) | ((with_reducible refine gc 5 rfl ?_); refine gl_ (some 16) Try.func5 #[.agg #[.slice bA aN.length bB, .int .i64 aY, .slice bC aQ.length bD], .int .i64 1048576] rfl ?_; (with_reducible refine (laws_szMeta.calls ?side1 ?side2 ?side3 ?side4 A2.out).mono ?_); (case side1 => exact cL bK HB); (case side2 => exact bM.out); (case side3 => exact cL bN HB); (case side4 => exact bO.out); rintro e w6 ⟨rfl, hb⟩; refine ⟨_, rfl, ?_⟩; replace aC := bkb aC hb; replace HB := bst HB hb; clear hb))
   go_ret
   exact fin_ (bL HB)
 replace H := bnd3 H; obtain ⟨eM, fZ, eN, A7, H⟩ := H; dsimp only at H
 replace H := bnd2 H; obtain ⟨dB, cU, A8, H⟩ := H; dsimp only at H
 replace H := bnd3 H; obtain ⟨aT, aZ, aU, A9, H⟩ := H; dsimp only at H
 replace H := bnd2 H; obtain ⟨bG, dG, f7, H⟩ := H; dsimp only at H
 have dW := am H
 clear H
 go_enter Try.func3, Try.ntmps3
 go_upto_region 8 with (first | ((with_reducible refine gd 1 rfl ?_); refine bxw 1 rfl #[.slice bA aN.length bB, .int .i64 aY, .slice bC aQ.length bD] 25 HB ?_; clear HB; intro bF iD aC d6 d7 HB; obtain ⟨bT, bU, bV, bW, bX, bY⟩ := cl3 aC) | ((with_reducible refine gc 5 rfl ?_); refine gl_ (some 16) Try.func5 #[.agg #[.slice bA aN.length bB, .int .i64 aY, .slice bC aQ.length bD], .int .i64 1048576] rfl ?_; (with_reducible refine (laws_szMeta.calls ?side1 ?side2 ?side3 ?side4 A2.out).mono ?_); (case side1 => exact cL bK HB); (case side2 => exact bM.out); (case side3 => exact cL bN HB); (case side4 => exact bO.out); rintro e iE ⟨rfl, hb⟩; refine ⟨_, rfl, ?_⟩; replace aC := bkb aC hb; replace HB := bst HB hb; clear hb; obtain ⟨bZ, b6, b7, b8, b9, cA⟩ := cl3 aC) | ((with_reducible refine gc 7 rfl ?_); refine gl_ (some 21) Try.func7 #[.agg #[.slice bA aN.length bB, .int .i64 aY, .slice bC aQ.length bD]] rfl ?_; (with_reducible refine (laws_toMeta.calls ?side1 ?side2 ?side3 ?side4 A7.out).mono ?_); (case side1 => exact cL bK HB); (case side2 => exact bM.out); (case side3 => exact cL bN HB); (case side4 => exact bO.out); rintro e iF ⟨gA, gB, rfl, bE, dC, hb⟩; refine ⟨_, rfl, ?_⟩; have aK := rlb bE HB; have aM := rlb (Kd.S_R dC) HB; replace aC := bkb aC hb; replace HB := bst HB hb; clear hb bE dC; obtain ⟨eO, eP, eQ⟩ := Kd.R_slice aK.out; subst eQ; obtain ⟨eR, eS, eT⟩ := Kd.R_slice aM.out; subst eT) | ((with_reducible refine gc 6 rfl ?_); refine gc2 (some 22) Try.func6 rfl (spec_MetaTree.calls (C_later (Kd.R_reads' aK.out).2.2) ((Kd.R_reads' aK.out).2.1) (C_later (Kd.R_reads' aM.out).2.2) ((Kd.R_reads' aM.out).2.1) A8.out) ?_; rintro dH iG ⟨bE, hb⟩; have aV := rlb bE HB; replace aK := rbe aK hb; replace aM := rbe aM hb; replace aC := bkb aC hb; replace HB := bst HB hb; clear hb bE; obtain ⟨cB, cC, cD, cE, cF, cG⟩ := cl3 aC) | ((with_reducible refine gc 7 rfl ?_); refine gl_ (some 26) Try.func7 #[.agg #[.slice bA aN.length bB, .int .i64 aY, .slice bC aQ.length bD]] rfl ?_; (with_reducible refine (laws_toMeta.calls ?side1 ?side2 ?side3 ?side4 A9.out).mono ?_); (case side1 => exact cL bK HB); (case side2 => exact bM.out); (case side3 => exact cL bN HB); (case side4 => exact bO.out); rintro e iH ⟨gC, gD, rfl, bE, dC, hb⟩; refine ⟨_, rfl, ?_⟩; have a8 := am (Kd.R_lower (Kd.R_new' bE (Kd.R_lt (rL aK))) (below_size (bL HB))); have a9 := am (Kd.S_lower (Kd.S_new' dC (Kd.R_lt (rL aM))) (below_size (bL HB))); replace aK := am (Kd.R_elder' (rL aK) (Kd.R_base bE) hb); replace aM := am (Kd.R_elder' (rL aM) (Kd.S_base dC) hb); replace aV := rbe aV hb; replace aC := bkb aC hb; replace HB := bst HB hb; clear hb bE dC) | ((with_reducible refine gd 6 rfl ?_); refine bxv 6 rfl #[.slice none 0 0, .int .i64 0, .slice none 0 0] 33 HB ?_; clear HB; intro aG iI aD fN fO HB hg hb; obtain ⟨dD, bP⟩ := nbp (nbl aC hg); replace aK := rbe aK hb; replace aM := rbe aM hb; replace aV := rbe aV hb; replace a8 := rbe a8 hb; replace a9 := am (Kd.S_below (S_later a9.out) hb); replace aC := bkb aC hb; clear hg hb; obtain ⟨aX, aW, eU⟩ := Kd.R_slice a8.out; subst eU; obtain ⟨fP, fQ⟩ := nbo bP; obtain ⟨cH, cI, cJ, cK, cM, cN⟩ := cl3 aD; obtain ⟨a7, a6, eV⟩ := Kd.S_slice a9.out; subst eV) | ((with_reducible refine gc 8 rfl ?_); refine gl_ (some 29) Try.func8 #[.agg #[.slice aX aT.length aW, .int .i64 aZ, .slice a7 aU.length a6]] rfl ?_; (with_reducible refine (impl_MetaTree.calls ?side1 ?side2 ?side3 ?side4 f7.out).mono ?_); (case side1 => refine (Kd.R_reads' (e := 84) (base := w.heap.size) (ok := fun k_ => (True ∧ some k_ ≠ (.slice eO eM.length eP : Value).ownBlock)) (n := aT.length) (c := aW) ?_).2.2; exact (R_later (Kd.R_mono (Kd.R_far (p := ⟨aG, 2, none⟩) (Kd.R_far (p := ⟨aG, 1, none⟩) (Kd.R_far (p := ⟨aG, 0, none⟩) (Kd.R_types a8.out aD.out (by decide)) (fun _ hk => hk.2) (.slice aX aT.length aW)) (fun _ hk => hk.2) (.int .i64 aZ)) (fun _ hk => hk.2) (.slice a7 aU.length a6)) (fun _ h_ => h_.1)))); (case side2 => exact (Kd.R_reads' a8.out).2.1); (case side3 => refine (Kd.R_reads' (e := 54) (base := w.heap.size) (ok := fun k_ => (True ∧ some k_ ≠ (.slice eR eN.length eS : Value).ownBlock)) (n := aU.length) (c := a6) ?_).2.2; exact (R_later (Kd.R_mono (Kd.R_far (p := ⟨aG, 2, none⟩) (Kd.R_far (p := ⟨aG, 1, none⟩) (Kd.R_far (p := ⟨aG, 0, none⟩) (Kd.R_types (Kd.S_R a9.out) aD.out (by decide)) (fun _ hk => hk.2) (.slice aX aT.length aW)) (fun _ hk => hk.2) (.int .i64 aZ)) (fun _ hk => hk.2) (.slice a7 aU.length a6)) (fun _ h_ => h_.1)))); (case side4 => exact (Kd.S_reads' a9.out).2.1); rintro e iJ ⟨dI, rfl, bE, hb⟩; refine ⟨_, rfl, ?_⟩; have bQ := am (Kd.R_lower (Kd.R_new' bE (Kd.R_lt (R_later (Kd.R_mono (Kd.R_far (p := ⟨aG, 2, none⟩) (Kd.R_far (p := ⟨aG, 1, none⟩) (Kd.R_far (p := ⟨aG, 0, none⟩) (Kd.R_types aV.out aD.out (by decide)) (fun _ hk => hk.2) (.slice aX aT.length aW)) (fun _ hk => hk.2) (.int .i64 aZ)) (fun _ hk => hk.2) (.slice a7 aU.length a6)) (fun _ h_ => h_.1))))) (below_size (bL HB))); replace aK := am (Kd.R_below (R_later (Kd.R_mono (Kd.R_far (p := ⟨aG, 2, none⟩) (Kd.R_far (p := ⟨aG, 1, none⟩) (Kd.R_far (p := ⟨aG, 0, none⟩) (Kd.R_types aK.out aD.out (by decide)) (fun _ hk => hk.2) (.slice aX aT.length aW)) (fun _ hk => hk.2) (.int .i64 aZ)) (fun _ hk => hk.2) (.slice a7 aU.length a6)) (fun _ h_ => h_.1))) hb); replace aM := am (Kd.R_below (R_later (Kd.R_mono (Kd.R_far (p := ⟨aG, 2, none⟩) (Kd.R_far (p := ⟨aG, 1, none⟩) (Kd.R_far (p := ⟨aG, 0, none⟩) (Kd.R_types aM.out aD.out (by decide)) (fun _ hk => hk.2) (.slice aX aT.length aW)) (fun _ hk => hk.2) (.int .i64 aZ)) (fun _ hk => hk.2) (.slice a7 aU.length a6)) (fun _ h_ => h_.1))) hb); replace aV := am (Kd.R_elder' (R_later (Kd.R_mono (Kd.R_far (p := ⟨aG, 2, none⟩) (Kd.R_far (p := ⟨aG, 1, none⟩) (Kd.R_far (p := ⟨aG, 0, none⟩) (Kd.R_types aV.out aD.out (by decide)) (fun _ hk => hk.2) (.slice aX aT.length aW)) (fun _ hk => hk.2) (.int .i64 aZ)) (fun _ hk => hk.2) (.slice a7 aU.length a6)) (fun _ h_ => h_.1))) (Kd.R_base bE) hb); replace a8 := am (Kd.R_below (R_later (Kd.R_mono (Kd.R_far (p := ⟨aG, 2, none⟩) (Kd.R_far (p := ⟨aG, 1, none⟩) (Kd.R_far (p := ⟨aG, 0, none⟩) (Kd.R_types a8.out aD.out (by decide)) (fun _ hk => hk.2) (.slice aX aT.length aW)) (fun _ hk => hk.2) (.int .i64 aZ)) (fun _ hk => hk.2) (.slice a7 aU.length a6)) (fun _ h_ => h_.1))) hb); replace a9 := am (Kd.S_below (S_later (Kd.S_mono (Kd.S_far (p := ⟨aG, 2, none⟩) (Kd.S_far (p := ⟨aG, 1, none⟩) (Kd.S_far (p := ⟨aG, 0, none⟩) (Kd.S_types a9.out aD.out (by decide)) (fun _ hk => hk.2) (.slice aX aT.length aW)) (fun _ hk => hk.2) (.int .i64 aZ)) (fun _ hk => hk.2) (.slice a7 aU.length a6)) (fun _ h_ => h_.1))) hb); replace aC := bkb aC hb; replace aD := am (blk_below (g := aG) (o := .cells #[.slice aX aT.length aW, .int .i64 aZ, .slice a7 aU.length a6] 33 (0, 0)) (blk_later aD.out) hb); replace HB := bst HB hb; clear hb; (try clear hk); clear bE))
 (try simp only [Act.put, List.setIfInBounds_toArray, List.set_cons_zero, List.set_cons_succ])
 go_cut [40] (fun v40 wc => ∃ (kq : Nat) (cO : Bool), v40 = .bool cO ∧ Aside0 (laws_FnExactMetaTree.j0 kq dB cU bG dG cO aN aY aQ aT aZ aU = some true) ∧ Aside0 (kq ≤ k) ∧ Aside0 (Kd.R k49 49 wc w.heap.size (fun k_ => some k_ ≠ (dI : Value).ownBlock) dH dB) ∧ Aside0 (Kd.R k49 49 wc w.heap.size (fun k_ => some k_ ≠ (dH : Value).ownBlock) dI bG) ∧ Aside0 (Kd.R k84 84 wc w.heap.size (fun _ => True) (.slice aX aT.length aW) aT) ∧ Aside0 (Kd.S k54 54 wc w.heap.size (fun _ => True) (.slice a7 aU.length a6) aU) ∧ Aside0 (wc.heap[bF]? = some (.cells #[(.slice bA aN.length bB), .int .i64 aY, (.slice bC aQ.length bD)] 25 (0, 0))) ∧ Aside0 (wc.heap[aG]? = some (.cells #[(.slice aX aT.length aW), .int .i64 aZ, (.slice a7 aU.length a6)] 33 (0, 0))) ∧ Aside0 (Below w.heap.size w wc))
 case first =>
  have H := dW.out
  clear dW
  replace H := bnd H; obtain ⟨eW, gE, H⟩ := H
  by_cases eH : eW = true
  rotate_left
  · replace eH := Bool.eq_false_iff.mpr eH
    subst eH
    have H1 : (laws_FnExactMetaTree.j0 k dB cU bG dG true aN aY aQ aT aZ aU) = some true := by rw [if_neg (show ¬ (false = true) by decide)] at H; exact H
    exact absurd H1 (by cases k <;> simp [laws_FnExactMetaTree.j0])
  subst eH
  replace H := ifp rfl H
  have H' := am H; clear H
  obtain ⟨gF, gG, eX⟩ := Kd.R_slice bQ.out
  subst eX
  obtain ⟨gH, gI, eY⟩ := Kd.R_slice aV.out
  subst eY
  go_wp2_with (first | ((with_reducible refine gc 9 rfl ?_); refine gc1 (some 34) Try.func9 rfl (laws_eqNodeS.calls true (C_later (Kd.R_reads' bQ.out).2.2) ((Kd.R_reads' bQ.out).2.1) (C_later (Kd.R_reads' aV.out).2.2) ((Kd.R_reads' aV.out).2.1) gE.out) ?_; rintro iK hb; replace aK := rbe aK hb; replace aM := rbe aM hb; replace aV := rbe aV hb; replace a8 := rbe a8 hb; replace a9 := am (Kd.S_below (S_later a9.out) hb); replace bQ := rbe bQ hb; replace aC := bkb aC hb; replace aD := bkb aD hb; replace HB := bst HB hb; clear hb))
  go_meet
  case rel => exact ⟨_, ((dG != cU)), sr, H', ⟨by first | omega | exact Nat.le_refl _⟩, ⟨R_later (Kd.R_mono aV.out (fun _ hk => hk.2))⟩, ⟨R_later (Kd.R_mono bQ.out (fun _ hk => hk.2))⟩, ⟨R_later (Kd.R_mono a8.out (fun _ hk => trivial))⟩, ⟨S_later (Kd.S_mono a9.out (fun _ hk => trivial))⟩, ⟨kL aC⟩, ⟨kL aD⟩, ⟨bL HB⟩⟩
 clear dW
 try clear c3 dF bT bU bV bZ b6 b7 cB cC cD cH cI cJ bW bX bY b8 b9 cA cE cF cG cK cM cN
 obtain ⟨kq, cO, rfl, HA, dX, aJ, aH, aA, aI, aC, aD, HB⟩ := hcut
 cases kq with
 | zero => exact absurd HA.out (by simp [laws_FnExactMetaTree.j0])
 | succ kj10 => ?_
 have H := HA.out
 clear HA
 simp only [laws_FnExactMetaTree.j0] at H
 by_cases d3 : cO = true
 · subst d3
   have H1 : (some false) = some true := by rw [if_pos rfl] at H; exact H
   cases H1
 replace d3 := Bool.eq_false_iff.mpr d3
 subst d3
 replace H := ifn Bool.false_ne_true H
 replace H := bnd3 H; obtain ⟨eZ, e5, e6, gJ, H⟩ := H; dsimp only at H
 replace H := bnd H; obtain ⟨e7, gK, H⟩ := H
 by_cases d4 : e7 = true
 rotate_left
 · replace d4 := Bool.eq_false_iff.mpr d4
   subst d4
   have H1 : (some false) = some true := by rw [if_neg (show ¬ (false = true) by decide)] at H; exact H
   cases H1
 subst d4
 replace H := ifp rfl H
 replace H := bnd2 H; obtain ⟨gL, dJ, gM, H⟩ := H; dsimp only at H
 have dY := am H
 clear H
 try go_wp2
 replace aJ := rdr aJ
 replace aH := rdr aH
 replace aA := rdr aA
 replace aI := am (Kd.S_drew aI.out)
 replace aC := bdr aC
 replace aD := bdr aD
 replace HB := bld HB
 refine start_ (n := 5) (S := fun w' => w'.cell? ⟨aG, 0, none⟩ = some (.slice aX aT.length aW) ∧ w'.cell? ⟨aG, 1, none⟩ = some (.int .i64 aZ) ∧ w'.cell? ⟨aG, 2, none⟩ = some (.slice a7 aU.length a6) ∧ w'.cell? ⟨bF, 0, none⟩ = some (.slice bA aN.length bB) ∧ w'.cell? ⟨bF, 1, none⟩ = some (.int .i64 aY) ∧ w'.cell? ⟨bF, 2, none⟩ = some (.slice bC aQ.length bD)) (ds := []) #[false, false, false, false, false] (by kernel_rfl) rfl rfl ⟨bcl aD 0, bcl aD 1, bcl aD 2, bcl aC 0, bcl aC 1, bcl aC 2⟩ (fun hHeld => ?_)
 generalize wc.drew = iL at aJ aH aA aI aC aD HB hHeld ⊢
 refine take_ (i := 0) (N := some 41) (v := ?_) (a' := ?_) #[true, false, false, false, false] rfl rfl (by kernel_rfl) (fun _ _ _ h => h) (Or.inl ⟨by rfl, ?_⟩) hHeld ?_ ?_
 rotate_left
 · rintro w' ⟨s0, s1, s2, s3, s4, s5⟩
   go_simp
   with_reducible rfl
 rotate_left
 · simp only [Act.put, List.setIfInBounds_toArray, List.set_cons_zero, List.set_cons_succ, i64_w, i32_w]
   rfl
 refine take_ (i := 1) (N := some 42) (v := ?_) (a' := ?_) #[true, true, false, false, false] rfl rfl (by kernel_rfl) (fun _ _ _ h => h) (Or.inl ⟨by rfl, ?_⟩) hHeld ?_ ?_
 rotate_left
 · rintro w' ⟨s0, s1, s2, s3, s4, s5⟩
   go_simp
   with_reducible rfl
 rotate_left
 · simp only [Act.put, List.setIfInBounds_toArray, List.set_cons_zero, List.set_cons_succ, i64_w, i32_w]
   rfl
 refine one_ (i := 2) (N := some 43) #[true, true, true, false, false] rfl rfl (by kernel_rfl) (by decide) (fun K hK => ?_)
 refine gs_ Try.func7 #[.agg #[.slice bA aN.length bB, .int .i64 aY, .slice bC aQ.length bD]] rfl ?_
 with_reducible refine (laws_toMeta.calls ?side1 ?side2 ?side3 ?side4 gJ.out).mono ?_
 (case side1 => exact cL bK HB)
 (case side2 => exact bM.out)
 (case side3 => exact cL bN HB)
 (case side4 => exact bO.out)
 rintro e iM ⟨gN, gO, rfl, bE, dC, hb⟩
 refine ⟨_, rfl, ?_⟩
 have bR := am (Kd.R_lower (Kd.R_new' bE (Kd.R_lt (rL aA))) (below_size (bL HB)))
 have bS := am (Kd.R_lower (Kd.R_new' (Kd.S_R dC) (Kd.S_lt (S_later aI.out))) (below_size (bL HB)))
 replace aJ := rbe aJ hb
 replace aH := rbe aH hb
 replace aA := am (Kd.R_elder' (rL aA) (Kd.R_base bE) hb)
 replace aI := am (Kd.S_elder' (S_later aI.out) (Kd.S_base dC) hb)
 replace aC := bkb aC hb
 replace aD := bkb aD hb
 replace HB := bst HB hb
 (try clear hb)
 (try clear gP)
 (try clear hk)
 (try clear hi)
 (try clear bE)
 (try clear dC)
 obtain ⟨e8, e9, d8⟩ := Kd.R_slice bR.out
 (first | subst d8 | (injection d8 with f1_ f2_ f3_; have f4_ := f1_.symm; have f5_ := f3_.symm; clear f1_ f2_ f3_; subst f4_; subst f5_))
 obtain ⟨fA, fB, d9⟩ := Kd.R_slice bS.out
 (first | subst d9 | (injection d9 with f1_ f2_ f3_; have f4_ := f1_.symm; have f5_ := f3_.symm; clear f1_ f2_ f3_; subst f4_; subst f5_))
 refine hK.out _ _ ⟨bcl aD 0, bcl aD 1, bcl aD 2, bcl aC 0, bcl aC 1, bcl aC 2⟩ (fun hHeld => ?_)
 clear hK K
 refine no_ (some 43) ?_
 refine one_ (i := 3) (N := some 44) #[true, true, true, true, false] rfl rfl (by kernel_rfl) (by decide) (fun K hK => ?_)
 refine gs_ Try.func10 #[.agg #[.slice aX aT.length aW, .int .i64 aZ, .slice a7 aU.length a6], .agg #[.slice e8 eZ.length e9, .int .i64 e5, .slice fA e6.length fB]] rfl ?_
 with_reducible refine (laws_eqMeta.calls true ?side1 ?side2 ?side3 ?side4 ?side5 ?side6 ?side7 ?side8 gK.out).mono ?_
 (case side1 => exact C_later (Kd.R_reads' aA.out).2.2)
 (case side2 => exact (Kd.R_reads' aA.out).2.1)
 (case side3 => exact C_later (Kd.S_reads' aI.out).2.2)
 (case side4 => exact (Kd.S_reads' aI.out).2.1)
 (case side5 => exact C_later (Kd.R_reads' bR.out).2.2)
 (case side6 => exact (Kd.R_reads' bR.out).2.1)
 (case side7 => exact C_later (Kd.R_reads' bS.out).2.2)
 (case side8 => exact (Kd.R_reads' bS.out).2.1)
 rintro e iN ⟨rfl, hb⟩
 refine ⟨_, rfl, ?_⟩
 replace aJ := rbe aJ hb
 replace aH := rbe aH hb
 replace aA := rbe aA hb
 replace aI := am (Kd.S_below (S_later aI.out) hb)
 replace bR := rbe bR hb
 replace bS := rbe bS hb
 replace aC := bkb aC hb
 replace aD := bkb aD hb
 replace HB := bst HB hb
 (try clear hb)
 (try clear gP)
 (try clear hk)
 (try clear hi)
 refine hK.out _ _ ⟨bcl aD 0, bcl aD 1, bcl aD 2, bcl aC 0, bcl aC 1, bcl aC 2⟩ (fun hHeld => ?_)
 clear hK K
 refine no_ (some 44) ?_
 refine pure_ (i := 4) (N := some 45) (v := ?_) (a' := ?_) #[true, true, true, true, true] rfl rfl (by kernel_rfl) (fun _ _ _ h => h) (Or.inl ⟨by rfl, ?_⟩) ?_ ?_
 rotate_left
 · intro w'
   go_simp
   with_reducible rfl
 rotate_left
 · simp only [Act.put, List.setIfInBounds_toArray, List.set_cons_zero, List.set_cons_succ, i64_w, i32_w]
   rfl
 refine done_ (by kernel_rfl) ?_
 obtain ⟨fR, fS⟩ := nbo bP
 obtain ⟨cV, cW, cX, cY, cZ, dA⟩ := cl3 aD
 go_upto_region 14 with (first | ((with_reducible refine gc 11 rfl ?_); refine gc1 (some 48) Try.func11 rfl (laws_markMeta.calls (fun k_ => some k_ = (.slice aX aT.length aW : Value).ownBlock) (bL HB) (Kd.R_tight rfl aA.out) (Kd.S_bound (Kd.S_apart' aI.out (Kd.R_typed aA.out) (by decide))) (fun k_ h_ e_ => h_.1.2 e_) gM.out) ?_; rintro iO ⟨eA, hb, hkp⟩; replace aJ := am (R_markedB aJ.out hkp (Kd.R_typed aA.out) (by decide)); replace aH := am (R_markedB aH.out hkp (Kd.R_typed aA.out) (by decide)); replace aC := am (blk_markedB (blk_later aC.out) hkp (Kd.R_typed aA.out) (by decide)); replace aD := am (blk_markedB (blk_later aD.out) hkp (Kd.R_typed aA.out) (by decide)); clear bR bS aI; replace aA := am (Kd.R_reok rfl eA (fun k_ e_ => aA.out.1 k_ e_)); replace HB := am hb; clear hb hkp eA))
 (try simp only [Act.put, List.setIfInBounds_toArray, List.set_cons_zero, List.set_cons_succ])
 go_cut [61] (fun v61 wc => ∃ (kq : Nat) (cP : Bool), v61 = .bool cP ∧ Aside0 (laws_FnExactMetaTree.j1 kq dB cU bG cP aN aY aQ = some true) ∧ Aside0 (kq ≤ kj10) ∧ Aside0 (Kd.R k49 49 wc w.heap.size (fun k_ => some k_ ≠ (dI : Value).ownBlock) dH dB) ∧ Aside0 (Kd.R k49 49 wc w.heap.size (fun k_ => some k_ ≠ (dH : Value).ownBlock) dI bG) ∧ Aside0 (Kd.R k84 84 wc w.heap.size (fun _ => True) (.slice aX aT.length aW) dJ) ∧ Aside0 (wc.heap[bF]? = some (.cells #[(.slice bA aN.length bB), .int .i64 aY, (.slice bC aQ.length bD)] 25 (0, 0))) ∧ Aside0 (wc.heap[aG]? = some (.cells #[(.slice aX aT.length aW), .int .i64 aZ, (.slice a7 aU.length a6)] 33 (0, 0))) ∧ Aside0 (Below w.heap.size w wc))
 case first =>
  have H := dY.out
  clear dY
  replace H := idc H; obtain ⟨cR, H⟩ | ⟨cR, H⟩ := H
  · (first | rw [cR] | (simp only [i64_w, i32_w]; rw [cR]) | skip)
    have H' := am H; clear H
    go_wp2
    go_meet
    case rel => exact ⟨_, (true), sr, H', ⟨by have := dX.out; first | omega | exact Nat.le_refl _⟩, ⟨rL aJ⟩, ⟨rL aH⟩, ⟨R_later (Kd.R_mono aA.out (fun _ hk => trivial))⟩, ⟨kL aC⟩, ⟨kL aD⟩, ⟨bL HB⟩⟩
  (first | rw [cR] | (simp only [i64_w, i32_w]; rw [cR]) | skip)
  replace H := bnd H; obtain ⟨fC, gQ, H⟩ := H
  by_cases eI : fC = true
  rotate_left
  · replace eI := Bool.eq_false_iff.mpr eI
    subst eI
    have H1 : (laws_FnExactMetaTree.j1 kj10 dB cU bG true aN aY aQ) = some true := by rw [if_neg (show ¬ (false = true) by decide)] at H; exact H
    exact absurd H1 (by cases kj10 <;> simp [laws_FnExactMetaTree.j1])
  subst eI
  replace H := ifp rfl H
  have H' := am H; clear H
  obtain ⟨gR, gS, fD⟩ := Kd.R_slice aH.out
  subst fD
  obtain ⟨gT, gU, fE⟩ := Kd.R_slice aJ.out
  subst fE
  go_wp2_with (first | (go_at_call 9; (with_reducible refine (laws_eqNodeS.calls true ?side1 ?side2 ?side3 ?side4 gQ.out).mono ?_); (case side1 => exact C_later (Kd.R_reads' aH.out).2.2); (case side2 => exact (Kd.R_reads' aH.out).2.1); (case side3 => exact C_later (Kd.R_reads' aJ.out).2.2); (case side4 => exact (Kd.R_reads' aJ.out).2.1); rintro e iP ⟨rfl, hb⟩; replace aJ := rbe aJ hb; replace aH := rbe aH hb; replace aA := rbe aA hb; replace aC := bkb aC hb; replace aD := bkb aD hb; replace HB := bst HB hb; clear hb))
  go_meet
  case rel => exact ⟨_, ((dG != cU)), sr, H', ⟨by have := dX.out; first | omega | exact Nat.le_refl _⟩, ⟨rL aJ⟩, ⟨rL aH⟩, ⟨R_later (Kd.R_mono aA.out (fun _ hk => trivial))⟩, ⟨kL aC⟩, ⟨kL aD⟩, ⟨bL HB⟩⟩
 clear dY
 try clear c3 dF d3 d4 bT bU bV bZ b6 b7 cB cC cD cH cI cJ cV cW cX bW bX bY b8 b9 cA cE cF cG cK cM cN cY cZ dA
 obtain ⟨kq, cP, rfl, HA, fF, aJ, aH, aA, aC, aD, HB⟩ := hcut
 have aE := (Kd.R_reads' aA.out).1
 rw [aE] at aA
 (try simp only [aE])
 (try simp only [aE] at aC)
 (try simp only [aE] at aD)
 (try simp only [aE] at aJ)
 (try simp only [aE] at aH)
 cases kq with
 | zero => exact absurd HA.out (by simp [laws_FnExactMetaTree.j1])
 | succ kj40 => ?_
 have H := HA.out
 clear HA
 simp only [laws_FnExactMetaTree.j1] at H
 by_cases eB : cP = true
 · subst eB
   have H1 : (some false) = some true := by rw [if_pos rfl] at H; exact H
   cases H1
 replace eB := Bool.eq_false_iff.mpr eB
 subst eB
 replace H := ifn Bool.false_ne_true H
 replace H := bnd2 H; obtain ⟨cS, dE, gV, H⟩ := H; dsimp only at H
 replace H := bnd H; obtain ⟨dK, gW, H⟩ := H
 by_cases eC : dK < 0
 · rw [if_pos eC] at H
   cases H
 rw [if_neg eC] at H
 have eD := decide_eq_false eC
 clear eC
 by_cases d5 : dK = cS
 rotate_left
 · rw [if_neg d5] at H
   cases H
 rw [if_pos d5] at H
 have eE : (dK == cS) = true := beq_iff_eq.mpr d5
 have eF : (dK != cS) = false := bne_eq_false_iff_eq.mpr d5
 clear d5
 replace H := bnd3 H; obtain ⟨gX, gY, gZ, g2, H⟩ := H; dsimp only at H
 replace H := bnd2 H; obtain ⟨g3, fG, g4, H⟩ := H; dsimp only at H
 have dZ := am H
 clear H
 obtain ⟨dL, dM, fH⟩ := Kd.R_slice aH.out
 subst fH
 go_upto_region 25 with (first | ((with_reducible refine gc 12 rfl ?_); refine gc1 (some 64) Try.func12 rfl (laws_markNodeS.calls (fun k_ => some k_ = (.slice dL bG.length dM : Value).ownBlock) (bL HB) (Kd.R_tight rfl aH.out) gV.out) ?_; rintro iQ ⟨eA, hb, hkp⟩; replace aJ := am (Kd.R_mono (ok' := fun k_ => some k_ ≠ (.slice dL bG.length dM : Value).ownBlock) (Kd.R_keptB (aJ.out) hkp (fun k_ hk_ hs_ => (hk_) hs_)) (fun k_ hk_ => hk_.1)); replace aA := am (Kd.R_mono (ok' := fun k_ => True) (Kd.R_keptB ((Kd.R_apart' aA.out (Kd.R_typed aH.out) (by decide))) hkp (fun k_ hk_ hs_ => (hk_.2) hs_)) (fun k_ hk_ => trivial)); replace aC := am (blk_kept (blk_later aC.out) hkp (fun hs_ => (fun e_ => (Kd.R_ne aH.out aC.out (by decide)) e_) hs_)); replace aD := am (blk_kept (blk_later aD.out) hkp (fun hs_ => (fun e_ => (Kd.R_ne aH.out aD.out (by decide)) e_) hs_)); replace aH := am (Kd.R_reok rfl eA (fun k_ e_ => aH.out.1 k_ e_)); replace HB := am hb; clear hb hkp eA) | ((with_reducible refine gc 13 rfl ?_); refine goesL_ (some 67) rfl rfl Try.func13 (by kernel_rfl) rfl #[.slice dL dE.length dM, .int .i64 1] rfl (by (try simp only [List.map_toArray, List.map_cons, List.map_nil]); first | done | (rw [show dE.length = bG.length from (Kd.R_reads' aH.out).1.symm] <;> rfl) | rfl | (simp only [List.length_drop, List.length_take]; rfl)) ?_; (with_reducible refine (laws_heldNodeS.calls ?side1 ?side2 gW.out).mono ?_); (case side1 => exact C_later (Kd.R_reads' aH.out).2.2); (case side2 => rw [show dE.length = bG.length from (Kd.R_reads' aH.out).1.symm]; exact (Kd.R_reads' aH.out).2.1); rintro e iR ⟨rfl, hb⟩; refine ⟨_, rfl, ?_⟩; replace aJ := rbe aJ hb; replace aH := rbe aH hb; replace aA := rbe aA hb; replace aC := bkb aC hb; replace aD := bkb aD hb; replace HB := bst HB hb; clear hb; obtain ⟨fT, fU⟩ := nbo dD; obtain ⟨dN, dO, dP, dQ, dR, dS⟩ := cl3 aC) | ((with_reducible refine gc 7 rfl ?_); refine gl_ (some 75) Try.func7 #[.agg #[.slice bA aN.length bB, .int .i64 aY, .slice bC aQ.length bD]] rfl ?_; (with_reducible refine (laws_toMeta.calls ?side1 ?side2 ?side3 ?side4 g2.out).mono ?_); (case side1 => exact cL bK HB); (case side2 => exact bM.out); (case side3 => exact cL bN HB); (case side4 => exact bO.out); rintro e iS ⟨g6, g7, rfl, bE, dC, hb⟩; refine ⟨_, rfl, ?_⟩; have bH := am (Kd.R_lower (Kd.R_new' bE (Kd.R_lt (rL aA))) (below_size (bL HB))); have bI := rlb (Kd.S_R dC) HB; replace aJ := rbe aJ hb; replace aH := rbe aH hb; replace aA := am (Kd.R_elder' (rL aA) (Kd.R_base bE) hb); replace aC := bkb aC hb; replace aD := bkb aD hb; replace HB := bst HB hb; clear hb bE dC; obtain ⟨g8, g9, fI⟩ := Kd.R_slice bH.out; subst fI; obtain ⟨hD, hJ, fJ⟩ := Kd.R_slice bI.out; subst fJ) | ((with_reducible refine gc 8 rfl ?_); refine gc2 (some 76) Try.func8 rfl (impl_MetaTree.calls (C_later (Kd.R_reads' bH.out).2.2) ((Kd.R_reads' bH.out).2.1) (C_later (Kd.R_reads' bI.out).2.2) ((Kd.R_reads' bI.out).2.1) g4.out) ?_; rintro hU iT ⟨bE, hb⟩; have cT := am (Kd.R_lower (Kd.R_new' (Kd.R_new' bE (Kd.R_lt (rL aJ))) (Kd.R_lt (rL aH))) (below_size (bL HB))); replace aJ := am (Kd.R_elder' (rL aJ) (Kd.R_base bE) hb); replace aH := am (Kd.R_elder' (rL aH) (Kd.R_base bE) hb); replace aA := rbe aA hb; replace bH := rbe bH hb; replace bI := rbe bI hb; replace aC := bkb aC hb; replace aD := bkb aD hb; replace HB := bst HB hb; clear hb bE))
 (try simp only [Act.put, List.setIfInBounds_toArray, List.set_cons_zero, List.set_cons_succ])
 go_cut [87] (fun v87 wc => ∃ (kq : Nat) (cQ : Bool), v87 = .bool cQ ∧ Aside0 (laws_FnExactMetaTree.j2 kq dE cS cQ = some true) ∧ Aside0 (kq ≤ kj40) ∧ Aside0 (Kd.R k49 49 wc w.heap.size (fun _ => True) (.slice dL bG.length dM) dE) ∧ Aside0 (Kd.R k84 84 wc w.heap.size (fun _ => True) (.slice aX dJ.length aW) dJ) ∧ Aside0 (wc.heap[bF]? = some (.cells #[(.slice bA aN.length bB), .int .i64 aY, (.slice bC aQ.length bD)] 25 (0, 0))) ∧ Aside0 (wc.heap[aG]? = some (.cells #[(.slice aX dJ.length aW), .int .i64 aZ, (.slice a7 aU.length a6)] 33 (0, 0))) ∧ Aside0 (Below w.heap.size w wc))
 case first =>
  have H := dZ.out
  clear dZ
  replace H := bnd H; obtain ⟨fK, hV, H⟩ := H
  by_cases eJ : fK = true
  rotate_left
  · replace eJ := Bool.eq_false_iff.mpr eJ
    subst eJ
    have H1 : (laws_FnExactMetaTree.j2 kj40 dE cS true) = some true := by rw [if_neg (show ¬ (false = true) by decide)] at H; exact H
    exact absurd H1 (by cases kj40 <;> simp [laws_FnExactMetaTree.j2])
  subst eJ
  replace H := ifp rfl H
  have H' := am H; clear H
  obtain ⟨hX, hY, fL⟩ := Kd.R_slice cT.out
  subst fL
  obtain ⟨hZ, iA, fM⟩ := Kd.R_slice aJ.out
  subst fM
  go_wp2_with (first | ((with_reducible refine gc 9 rfl ?_); refine gc1 (some 81) Try.func9 rfl (laws_eqNodeS.calls true (C_later (Kd.R_reads' cT.out).2.2) ((Kd.R_reads' cT.out).2.1) (C_later (Kd.R_reads' aJ.out).2.2) ((Kd.R_reads' aJ.out).2.1) hV.out) ?_; rintro iU hb; replace aJ := rbe aJ hb; replace aH := rbe aH hb; replace aA := rbe aA hb; replace bH := rbe bH hb; replace bI := rbe bI hb; replace cT := rbe cT hb; replace aC := bkb aC hb; replace aD := bkb aD hb; replace HB := bst HB hb; clear hb))
  go_meet
  case rel => exact ⟨_, ((fG != cU)), sr, H', ⟨by have := dX.out; have := fF.out; first | omega | exact Nat.le_refl _⟩, ⟨by (try simp only [aE]); (with_reducible repeat (first | apply Kd.R_alloc | apply Kd.R_drewN | apply Kd.R_drew)); exact Kd.R_mono aH.out (fun _ hk => trivial)⟩, ⟨by (try simp only [aE]); (with_reducible repeat (first | apply Kd.R_alloc | apply Kd.R_drewN | apply Kd.R_drew)); exact Kd.R_mono aA.out (fun _ hk => trivial)⟩, ⟨by (try simp only [aE]); (with_reducible repeat (first | refine blk_drewN ?_ _ | refine blk_drew ?_ | refine blk_alloc ?_ _)); exact aC.out⟩, ⟨by (try simp only [aE]); (with_reducible repeat (first | refine blk_drewN ?_ _ | refine blk_drew ?_ | refine blk_alloc ?_ _)); exact aD.out⟩, ⟨bL HB⟩⟩
 clear dZ
 try clear c3 dF d3 d4 eB eC eD d5 eE eF bT bU bV bZ b6 b7 cB cC cD cH cI cJ cV cW cX dN dO dP bW bX bY b8 b9 cA cE cF cG cK cM cN cY cZ dA dQ dR dS
 obtain ⟨kq, cQ, rfl, HA, iB, aH, aA, aC, aD, HB⟩ := hcut
 have bJ := (Kd.R_reads' aH.out).1
 rw [bJ] at aH
 (try simp only [bJ])
 (try simp only [bJ] at aC)
 (try simp only [bJ] at aD)
 (try simp only [bJ] at aA)
 cases kq with
 | zero => exact absurd HA.out (by simp [laws_FnExactMetaTree.j2])
 | succ kj68 => ?_
 have H := HA.out
 clear HA
 simp only [laws_FnExactMetaTree.j2] at H
 by_cases eK : cQ = true
 · subst eK
   have H1 : (some false) = some true := by rw [if_pos rfl] at H; exact H
   cases H1
 replace eK := Bool.eq_false_iff.mpr eK
 subst eK
 replace H := ifn Bool.false_ne_true H
 replace H := bnd H; obtain ⟨dT, iC, H⟩ := H
 by_cases eL : dT < 0
 · rw [if_pos eL] at H
   cases H
 rw [if_neg eL] at H
 have fV := decide_eq_false eL
 clear eL
 by_cases eG : dT = cS
 rotate_left
 · rw [if_neg eG] at H
   cases H
 rw [if_pos eG] at H
 have fW : (dT == cS) = true := beq_iff_eq.mpr eG
 have fX : (dT != cS) = false := bne_eq_false_iff_eq.mpr eG
 clear eG H
 go_wp2_with (first | ((with_reducible refine gc 13 rfl ?_); refine gc1 (some 90) Try.func13 rfl (laws_heldNodeS.calls (C_later (Kd.R_reads' aH.out).2.2) ((Kd.R_reads' aH.out).2.1) iC.out) ?_; rintro iV hb; replace aH := rbe aH hb; replace aA := rbe aA hb; replace aC := bkb aC hb; replace aD := bkb aD hb; replace HB := bst HB hb; clear hb))
 go_ret
 exact fin_ (bL HB)
end Go.Proofs.Ytjdapaocdkcgdaa.PFnExactMetaTree
