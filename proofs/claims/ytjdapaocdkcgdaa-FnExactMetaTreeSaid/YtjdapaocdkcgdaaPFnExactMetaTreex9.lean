/- The machine's side of FnExactMetaTree: each Go function, and what its call comes to. No condition. -/
import Derived.Test.YtjdapaocdkcgdaaPFnExactMetaTreex0
import Derived.Test.YtjdapaocdkcgdaaPFnExactMetaTreex8
namespace Go.Proofs.Ytjdapaocdkcgdaa.PFnExactMetaTree
open Go.RowKit Go.Proofs.YtjdapaocdkcgdaaW.PrintWords Go.Proofs.YtjdapaocdkcgdaaW.PrintLast Go.Proofs.YtjdapaocdkcgdaaW.PrintMore Go.Proofs.YtjdapaocdkcgdaaW.PrintMore2
attribute [local go_sem] max2_int min2_int max_two min_two max_three min_three max_four min_four
set_option linter.unusedVariables false
set_option linter.unusedSimpArgs false
set_option maxHeartbeats 8000000
set_option maxRecDepth 100000

/-! ### laws_toIntS: function 103 -/
def laws_toIntS.l0 : Nat → List Int → List Int → Int → Option (List Int)
  | 0, _, _, _ => none
  | k + 1, x0, x3, x4 => if x4 < (x0.length : Int) then (if 0 ≤ x4 then (if x4 < (x3.length : Int) then (laws_toIntS.l0 k x0 (x3.set (x4 : Int).toNat (rd x0 x4)) (wrap64 (x4 + 1))) else (none)) else (none)) else (some x3)
def laws_toIntS.f (k : Nat) (l0 : List Int) : Option (List Int) := if 0 ≤ (l0.length : Int) then (if ((l0.length : Int) : Int).toNat ≤ 35184372088832 then (laws_toIntS.l0 k l0 (List.replicate ((l0.length : Int) : Int).toNat 0) 0) else (none)) else (none)
theorem laws_toIntS.calls {k : Nat} {A0 : Option Addr} {c0 : Nat} {l0 r : List Int} {w : World} (hr0 : Kd.C (Kd.int .i64) w A0 l0.length l0) (a9 : l0.length ≤ c0) (h : laws_toIntS.f k l0 = some r) :
    Calls Try.prog 103 #[.slice A0 l0.length c0] w fun e w' => ∃ bA : Value, e = .returned (bA) ∧ Kd.R (Kd.int .i64) 3 w' w.heap.size (fun _ => True) bA r ∧ Below w.heap.size w w' := by
 have bH := am hr0
 have bM := am a9
 clear hr0 a9
 have HB := am (Below.refl w.heap.size w)
 have H := h; clear h; unfold laws_toIntS.f at H
 replace H := ifs H; obtain ⟨c2, H⟩ := H
 have aU := eq_true c2
 have aV := decide_eq_true c2
 clear c2
 replace H := ifs H; obtain ⟨c3, H⟩ := H
 have aW := eq_true c3
 have aX := decide_eq_true c3
 clear c3
 generalize aG : ((List.replicate ((l0.length : Int) : Int).toNat 0) : List Int) = aY at H; have aH := am aG.symm; clear aG
 have H' := am H; clear H
 go_enter Try.func103, Try.ntmps103
 go_wp2_with (first | ((with_reducible refine gd 7 rfl ?_); refine Kd.R_make (Kd.int .i64) _ 3 rfl (N := 7) rfl 56 _ _ rfl (l0.length : Int) rfl rfl Try.underlying56 (.int .i64 0) 8 info3 rfl (by decide) (by omega) 0 (ok := fun _ => True) (okp := fun _ => True) rfl (fun _ hk => hk) trivial (dcd) (Nat.le_trans (Nat.mul_le_mul_right _ (dcd : (l0.length : Int).toNat ≤ 35184372088832)) (by omega)) (Below.refl _ _) (Nat.le_refl _) ?_; intro aZ w4 aM hb hg_ hnew_; clear hg_ hnew_; (first | rw [← aH.out] at aM | (simp only [Int.reduceToNat] at aM; rw [← aH.out] at aM)); have aN := rlb aM HB; replace HB := bst HB hb; clear hb aM))
 go_loopg [4] k (fun kq v4 w' => ∃ (aD : List Int) (aA : Int), v4 = .int .i64 aA ∧ Aside0 (laws_toIntS.l0 kq l0 aD aA = some r) ∧ Aside0 (kq ≤ k) ∧ Aside0 (Kd.R (Kd.int .i64) 3 w' w.heap.size (fun _ => True) aZ aD) ∧ Aside0 (Below w.heap.size w w'))
 case atStart => exact ⟨(aY), (0), sr, H', ⟨Nat.le_refl _⟩, ⟨rL aN⟩, ⟨bL HB⟩⟩
 clear H'
 try clear c2 aU aV c3 aW aX
 obtain ⟨aD, aA, rfl, HA, bB, aE, HB⟩ := hrel
 cases gk with
 | zero => exact absurd HA.out (by simp [laws_toIntS.l0])
 | succ k1 => ?_
 have H := HA.out
 clear HA
 simp only [laws_toIntS.l0] at H
 replace H := idc H; obtain ⟨a6, H⟩ | ⟨a6, H⟩ := H
 rotate_left
 · cases H
   go_wp2
   go_ret
   exact ⟨_, fin_ ⟨rL aE, bL HB⟩⟩
 replace H := if_dd H; obtain ⟨bI, bJ, H⟩ := H
 generalize aI : ((aD.set (aA : Int).toNat (rd l0 aA)) : List Int) = aQ at H; have aT := am aI.symm; clear aI
 have H' := am H; clear H
 have aJ : 0 ≤ (aA : Int) := dcd
 have aK : aA < (l0.length : Int) := dcd
 obtain ⟨bC, a7, aC⟩ := Kd.at_int bH.out aA aJ aK
 cases a7
 replace aC := crd HB aC
 replace aJ := eq_true aJ
 replace aK := eq_true aK
 have p9 : 0 ≤ (aA : Int) := dcd
 have q9 : (aA : Int) < ((aD.length : Int) : Int) := dcd
 obtain ⟨go9, bK, bD, bE, gl9, cl9, HG9⟩ := Kd.R_form aE.out (by omega)
 (first | cases bD | (injection bD with ea_ en_ ec_; (first | subst ea_ | (injection ea_ with ea_; subst ea_)); subst ec_; clear en_))
 have GB9 := am bE
 have GG9 := am HG9
 clear bE gl9 HG9
 obtain ⟨bF, bG⟩ := Kd.R_celln 0 aE.out (aA : Int) p9 q9
 replace p9 := eq_true p9
 replace q9 := eq_true q9
 have HP10 := Kd.R_putg aE.out (aA : Int) (rd l0 aA)
 go_wp2_with (first | ((with_reducible refine gate_store (t := 3) (p := 20) rfl ?_); refine st_ 3 20 (wr.setCell ⟨go9, (aA : Int).toNat, none⟩ (.int .i64 (rd l0 aA))) ?_; intro a8 hw; have hg : wr.grownBy a8 (some go9) := (by rw [hw]; exact HP10.2); have hp_ : Kd.R (Kd.int .i64) 3 a8 w.heap.size (fun _ => True) (.slice (some ⟨go9, 0, none⟩) aD.length bK) aQ := (by rw [hw, aT.out]; exact HP10.1); clear HP10; replace aE := am hp_; replace HB := am ((by rw [hw]; exact below_set (HB.out) GB9.out : Below w.heap.size w a8)); clear hg hw hp_))
 go_roundg k1
 case measure => have := bB.out; omega
 case rel => exact ⟨(aQ), (wrap64 (aA + 1)), sr, H', ⟨by have := bB.out; omega⟩, ⟨rL aE⟩, ⟨bL HB⟩⟩
/-! ### laws_toChunk: function 93 -/
def laws_toChunk.f (k : Nat) (aA : Int) (aC : Int) (aD : Int) (aE : Int) (aG : Int) (aH : List Int) : Option (Int × Int × Int × Int × Int × List Int) := (laws_toIntS.f k aH).bind fun aI => (some (aA, aC, aD, aE, aG, aI))
theorem laws_toChunk.calls {k : Nat} {aG aH aI aJ aK : Int} {aX : Option Addr} {aY : Nat} {aM : List Int} {r1 r2 r3 r4 r5 : Int} {r6 : List Int} {w : World} (hr0_5 : Kd.C (Kd.int .i64) w aX aM.length aM) (aU : aM.length ≤ aY) (h : laws_toChunk.f k aG aH aI aJ aK aM = some (r1, r2, r3, r4, r5, r6)) :
    Calls Try.prog 93 #[.agg #[.int .i64 aG, .int .i64 aH, .int .i64 aI, .int .i64 aJ, .int .i64 aK, .slice aX aM.length aY]] w fun e w' => ∃ bE : Value, e = .returned (.agg #[.int .i64 r1, .int .i64 r2, .int .i64 r3, .int .i64 r4, .int .i64 r5, bE]) ∧ Kd.R (Kd.int .i64) 3 w' w.heap.size (fun _ => True) bE r6 ∧ Below w.heap.size w w' := by
 have hu119 := Try.underlying119
 have hu58 := Try.underlying58
 have bB := am hr0_5
 have bC := am aU
 clear hr0_5 aU
 have HB := am (Below.refl w.heap.size w)
 have H := h; clear h; unfold laws_toChunk.f at H
 replace H := bnd H; obtain ⟨aZ, A2, H⟩ := H
 replace H := sj6 H; obtain ⟨rfl, rfl, rfl, rfl, rfl, rfl⟩ := H
 go_enter Try.func93, Try.ntmps93
 go_wp2_with (first | ((with_reducible refine gd 1 rfl ?_); refine bxw 1 rfl #[.int .i64 aG, .int .i64 aH, .int .i64 aI, .int .i64 aJ, .int .i64 aK, .slice aX aM.length aY] 119 HB ?_; clear HB; intro bF w3 aA bG bH HB) | ((with_reducible refine gd 2 rfl ?_); refine bxv 2 rfl #[.int .i64 0, .int .i64 0, .int .i64 0, .int .i64 0, .int .i64 0, .slice none 0 0] 58 HB ?_; clear HB; intro aD w4 aC bI bJ HB hg hb; obtain ⟨aN, a8⟩ := nbp (nbl aA hg); replace aA := bkb aA hb; clear hg hb) | ((with_reducible refine gd 3 rfl ?_); refine bxv 3 rfl #[.int .i64 0, .int .i64 0, .int .i64 0, .int .i64 0, .int .i64 0, .slice none 0 0] 58 HB ?_; clear HB; intro aV w5 aE bK bM HB hg hb; obtain ⟨aQ, a9⟩ := nbp (nbl aA hg); obtain ⟨bA, aT⟩ := nbp (nbl aC hg); replace aA := bkb aA hb; replace aC := bkb aC hb; clear hg hb; obtain ⟨bO, bP⟩ := nbo aN; obtain ⟨bQ, bR⟩ := nbo aQ; obtain ⟨_, _, _, _, _, _, _, _, _, _, _, _⟩ := cl6 aA; obtain ⟨bS, bT⟩ := nbo aT; obtain ⟨_, _, _, _, _, _, _, _, _, _, _, _⟩ := cl6 aE) | ((with_reducible refine gc 103 rfl ?_); refine gc2 (some 21) Try.func103 rfl (laws_toIntS.calls (Kd.C_below bB.out (bL HB)) bC.out A2.out) ?_; rintro bU bV ⟨bN, hb⟩; have aW := rlb bN HB; replace aA := bkb aA hb; replace aC := bkb aC hb; replace aE := am (blk_below (g := aV) (o := .cells #[.int .i64 aG, .int .i64 aH, .int .i64 aI, .int .i64 aJ, .int .i64 aK, .slice none 0 0] 58 (0, 0)) (blk_later aE.out) hb); replace HB := bst HB hb; clear hb bN; obtain ⟨a6, a7, bD⟩ := Kd.R_slice aW.out; subst bD; obtain ⟨_, _, _, _, _, _, _, _, _, _, _, _⟩ := cl6 aE; obtain ⟨_, _, _, _, _, _, _, _, _, _, _, _⟩ := cl6 aC))
 refine bodyPost_ret (results_cell_row rfl _ _ aD 58 #[.int .i64 aG, .int .i64 aH, .int .i64 aI, .int .i64 aJ, .int .i64 aK, .slice a6 aZ.length a7] (0, 0) _ rfl (kL aC) Try.underlying58 rfl (by kernel_rfl)) rfl ?_
 exact ⟨_, fin_ ⟨R_later (Kd.R_mono (Kd.R_far (p := ⟨aD, 5, none⟩) (Kd.R_far (p := ⟨aD, 4, none⟩) (Kd.R_far (p := ⟨aD, 3, none⟩) (Kd.R_far (p := ⟨aD, 2, none⟩) (Kd.R_far (p := ⟨aD, 1, none⟩) (Kd.R_far (p := ⟨aD, 0, none⟩) (Kd.R_far (p := ⟨aV, 5, none⟩) (Kd.R_types (Kd.R_types aW.out aE.out (by decide)) aC.out (by decide)) (fun _ hk => hk.1.2) (.slice a6 aZ.length a7)) (fun _ hk => hk.2) (.int .i64 aG)) (fun _ hk => hk.2) (.int .i64 aH)) (fun _ hk => hk.2) (.int .i64 aI)) (fun _ hk => hk.2) (.int .i64 aJ)) (fun _ hk => hk.2) (.int .i64 aK)) (fun _ hk => hk.2) (.slice a6 aZ.length a7)) (fun _ hk => trivial)), bL HB⟩⟩
/-! ### laws_toChunkS: function 73 -/
def laws_toChunkS.l0 : Nat → List (S119) → List (S58) → Int → Option ((List (S58)))
  | 0, _, _, _ => none
  | k + 1, x0, x3, x4 => if x4 < (x0.length : Int) then (if 0 ≤ x4 then ((laws_toChunk.f k ((rd_T119 x0 x4).f0) ((rd_T119 x0 x4).f1) ((rd_T119 x0 x4).f2) ((rd_T119 x0 x4).f3) ((rd_T119 x0 x4).f4) ((rd_T119 x0 x4).f5)).bind fun aA => (if x4 < (x3.length : Int) then (laws_toChunkS.l0 k x0 (x3.set (x4 : Int).toNat (⟨aA.1, aA.2.1, aA.2.2.1, aA.2.2.2.1, aA.2.2.2.2.1, aA.2.2.2.2.2⟩ : S58)) (wrap64 (x4 + 1))) else (none))) else (none)) else (some x3)
def laws_toChunkS.f (k : Nat) (l0 : List (S119)) : Option ((List (S58))) := if 0 ≤ (l0.length : Int) then (if ((l0.length : Int) : Int).toNat ≤ 4398046511104 then (laws_toChunkS.l0 k l0 (List.replicate ((l0.length : Int) : Int).toNat z58) 0) else (none)) else (none)
theorem laws_toChunkS.calls {k : Nat} {A0 : Option Addr} {c0 : Nat} {l0 : List (S119)} {r : List (S58)} {w : World} (hr0 : Kd.C k119 w A0 l0.length l0) (cZ : l0.length ≤ c0) (h : laws_toChunkS.f k l0 = some r) :
    Calls Try.prog 73 #[.slice A0 l0.length c0] w fun e w' => ∃ dA : Value, e = .returned (dA) ∧ Kd.S k58 58 w' w.heap.size (fun _ => True) dA r ∧ Below w.heap.size w w' := by
 have hu119 := Try.underlying119
 have hu58 := Try.underlying58
 have dD := am hr0
 have dG := am cZ
 clear hr0 cZ
 have HB := am (Below.refl w.heap.size w)
 have H := h; clear h; unfold laws_toChunkS.f at H
 replace H := ifs H; obtain ⟨c2, H⟩ := H
 have cA := eq_true c2
 have cB := decide_eq_true c2
 clear c2
 replace H := ifs H; obtain ⟨c3, H⟩ := H
 have cC := eq_true c3
 have cD := decide_eq_true c3
 clear c3
 generalize bC : ((List.replicate ((l0.length : Int) : Int).toNat z58) : List (S58)) = cE at H; have bD := am bC.symm; clear bC
 have H' := am H; clear H
 go_enter Try.func73, Try.ntmps73
 go_wp2_with (first | ((with_reducible refine gd 7 rfl ?_); refine Kd.S_make k58 _ 58 rfl (N := 7) rfl 52 _ _ rfl (l0.length : Int) rfl rfl Try.underlying52 (.agg #[(.int .i64 0), (.int .i64 0), (.int .i64 0), (.int .i64 0), (.int .i64 0), (.slice none 0 0)]) 64 info58 rfl (by decide) (by omega) z58 (ok := fun _ => True) (okp := fun _ => True) (k58_mkM _ _ _ z58 (Kd.R_nil _ _ _ _ _)) (fun _ hk => hk) trivial (dcd) (Nat.le_trans (Nat.mul_le_mul_right _ (dcd : (l0.length : Int).toNat ≤ 4398046511104)) (by omega)) (Below.refl _ _) (Nat.le_refl _) ?_; intro cF w4 bX hb hg_ hnew_; clear hg_ hnew_; (first | rw [← bD.out] at bX | (simp only [Int.reduceToNat] at bX; rw [← bD.out] at bX)); have bY := am (Kd.S_lower bX (below_size (bL HB))); replace HB := bst HB hb; clear hb bX))
 go_loopg [4] k (fun kq v4 w' => ∃ (aC : List (S58)) (aA : Int), v4 = .int .i64 aA ∧ Aside0 (laws_toChunkS.l0 kq l0 aC aA = some r) ∧ Aside0 (kq ≤ k) ∧ Aside0 (Kd.S k58 58 w' w.heap.size (fun _ => True) cF aC) ∧ Aside0 (Below w.heap.size w w'))
 case atStart => exact ⟨(cE), (0), sr, H', ⟨Nat.le_refl _⟩, ⟨S_later bY.out⟩, ⟨bL HB⟩⟩
 clear H'
 try clear c2 cA cB c3 cC cD
 obtain ⟨aC, aA, rfl, HA, dB, aD, HB⟩ := hrel
 cases gk with
 | zero => exact absurd HA.out (by simp [laws_toChunkS.l0])
 | succ k1 => ?_
 have H := HA.out
 clear HA
 simp only [laws_toChunkS.l0] at H
 replace H := idc H; obtain ⟨cG, H⟩ | ⟨cG, H⟩ := H
 rotate_left
 · cases H
   go_wp2
   go_ret
   exact ⟨_, fin_ ⟨sL aD, bL HB⟩⟩
 replace H := ifd H; obtain ⟨dE, H⟩ := H
 replace H := bnd6 H; obtain ⟨aY, aZ, a6, a7, a8, bF, A8, H⟩ := H; dsimp only at H
 replace H := ifd H; obtain ⟨dF, H⟩ := H
 generalize bE : ((aC.set (aA : Int).toNat (⟨aY, aZ, a6, a7, a8, bF⟩ : S58)) : List (S58)) = bZ at H; have b6 := am bE.symm; clear bE
 have H' := am H; clear H
 have bG : 0 ≤ (aA : Int) := dcd
 have bH : aA < (l0.length : Int) := dcd
 obtain ⟨dC, bI, bJ, cH, aM, aN, aQ, aT, aU, aV, aW, aX⟩ := at_T119 dD.out aA bG bH
 cases cH
 replace aM := crd HB aM
 replace aN := crd HB aN
 replace aQ := crd HB aQ
 replace aT := crd HB aT
 replace aU := crd HB aU
 replace aV := crd HB aV
 have a9 := am aX
 have bA := am aW
 clear aX aW
 replace bG := eq_true bG
 replace bH := eq_true bH
 go_wp2_with (first | ((with_reducible refine gc 93 rfl ?_); refine gl_ (some 20) Try.func93 #[.agg #[.int .i64 ((rd_T119 l0 aA).f0), .int .i64 ((rd_T119 l0 aA).f1), .int .i64 ((rd_T119 l0 aA).f2), .int .i64 ((rd_T119 l0 aA).f3), .int .i64 ((rd_T119 l0 aA).f4), .slice bI ((rd_T119 l0 aA).f5).length bJ]] rfl ?_; (with_reducible refine (laws_toChunk.calls ?side1 ?side2 A8.out).mono ?_); (case side1 => exact cL a9 HB); (case side2 => exact bA.out); rintro e aK ⟨bB, rfl, cI, hb⟩; refine ⟨_, rfl, ?_⟩; have aE := rlb cI HB; replace aD := am (Kd.S_elder' (S_later aD.out) (Kd.R_base cI) hb); replace HB := bst HB hb; clear hb cI; have cJ : 0 ≤ (aA : Int) := dcd; have cK : (aA : Int) < ((aC.length : Int) : Int) := dcd; obtain ⟨go10, b7, b8, b9, gl10, cl10, HG10⟩ := Kd.S_form aD.out (by omega); (first | cases b8 | (injection b8 with ea_ en_ ec_; (first | subst ea_ | (injection ea_ with ea_; subst ea_)); subst ec_; clear en_)); have GB10 := am b9; have GG10 := am HG10; clear b9 gl10 HG10; obtain ⟨_, ce10, hcl10, hM10, aG, aH, _, _⟩ := Kd.S_elem aD.out z58 (aA : Int) cJ cK; obtain ⟨ve10_5, rfl, ge10_5⟩ := k58_openM hM10; have cM : aK.cell? ⟨go10, (aA : Int).toNat * 6, none⟩ = some (.int .i64 ((rd_T58 aC aA).f0)) := aG 0 _ rfl; have cN : aK.cell? ⟨go10, (aA : Int).toNat * 6 + 1, none⟩ = some (.int .i64 ((rd_T58 aC aA).f1)) := aG 1 _ rfl; have cO : aK.cell? ⟨go10, (aA : Int).toNat * 6 + 2, none⟩ = some (.int .i64 ((rd_T58 aC aA).f2)) := aG 2 _ rfl; have cP : aK.cell? ⟨go10, (aA : Int).toNat * 6 + 3, none⟩ = some (.int .i64 ((rd_T58 aC aA).f3)) := aG 3 _ rfl; have cQ : aK.cell? ⟨go10, (aA : Int).toNat * 6 + 4, none⟩ = some (.int .i64 ((rd_T58 aC aA).f4)) := aG 4 _ rfl; have cR : aK.cell? ⟨go10, (aA : Int).toNat * 6 + 5, none⟩ = some (ve10_5) := aG 5 _ rfl; have cS : aK.frozen? ⟨go10, (aA : Int).toNat * 6, none⟩ = false := aH 0; have cT : aK.frozen? ⟨go10, (aA : Int).toNat * 6 + 1, none⟩ = false := aH 1; have cU : aK.frozen? ⟨go10, (aA : Int).toNat * 6 + 2, none⟩ = false := aH 2; have cV : aK.frozen? ⟨go10, (aA : Int).toNat * 6 + 3, none⟩ = false := aH 3; have cW : aK.frozen? ⟨go10, (aA : Int).toNat * 6 + 4, none⟩ = false := aH 4; have cX : aK.frozen? ⟨go10, (aA : Int).toNat * 6 + 5, none⟩ = false := aH 5; clear hcl10 aG aH hM10; replace cJ := eq_true cJ; replace cK := eq_true cK; have n_ := am (Kd.S_mono (ok' := (fun k_ => some k_ ≠ (bB : Value).ownBlock)) aD.out (fun k_ hk => hk.2)); clear aD; have aD := n_; clear n_; have HX12 := am (show Kd.S k58 58 aK w.heap.size (fun k_ => ((fun _ => True)) k_ ∧ ¬ ((fun k_ => some k_ = (bB : Value).ownBlock)) k_) (.slice (some ⟨go10, 0, none⟩) aC.length b7) aC from (S_later (Kd.S_mono aD.out (fun k_ hk => ⟨trivial, fun e_ => hk e_⟩)))); obtain ⟨oki12, ce12, hcl12, hM12, aI, aJ, hoki12, hH12⟩ := Kd.S_elem HX12.out z58 (aA : Int) (dcd) (by have h_ : (aA : Int) < ((aC.length : Int) : Int) := dcd; first | exact h_ | (have e_ := (Kd.S_reads' aD.out).1; omega) | simpa using h_); obtain ⟨ve12_5, rfl, ge12_5⟩ := k58_openM hM12; have HP12 := Kd.S_seg hH12 (dcd) (by have h_ : (aA : Int) < ((aC.length : Int) : Int) := dcd; first | exact h_ | (have e_ := (Kd.S_reads' aD.out).1; omega) | simpa using h_) (seg := [.int .i64 aY, .int .i64 aZ, .int .i64 a6, .int .i64 a7, .int .i64 a8, bB]) (j := 0) (show 6 ≤ 6 from by decide) (x' := (⟨aY, aZ, a6, a7, a8, bF⟩ : S58)) (k58_mkM _ _ _ (⟨aY, aZ, a6, a7, a8, bF⟩ : S58) (Kd.R_mono (Kd.R_tight rfl (Kd.R_mono (ok' := fun k_ => ((fun _ => True)) k_ ∧ k_ ≠ go10) (Kd.R_apart' (aE.out) (Kd.S_typed aD.out) (by decide)) (fun k_ hk => ⟨trivial, fun e_ => (hk.2) (by rw [e_]; rfl)⟩))) (fun _ h_ => Or.inr (h_)))) (fun _ hk => hk) (fun k_ hk_ => ((Kd.R_mono (ok' := fun k_ => ((fun _ => True)) k_ ∧ k_ ≠ go10) (Kd.R_apart' (aE.out) (Kd.S_typed aD.out) (by decide)) (fun k_ hk => ⟨trivial, fun e_ => (hk.2) (by rw [e_]; rfl)⟩))).1 k_ hk_.symm); have bK := aI 0 _ rfl; (try simp only [show (k58).sz = 6 from rfl, Nat.mul_one, Nat.add_zero] at bK); have bM := aJ 0; (try simp only [show (k58).sz = 6 from rfl, Nat.mul_one, Nat.add_zero] at bM); have bN := aI 1 _ rfl; (try simp only [show (k58).sz = 6 from rfl, Nat.mul_one, Nat.add_zero] at bN); have bO := aJ 1; (try simp only [show (k58).sz = 6 from rfl, Nat.mul_one, Nat.add_zero] at bO); have bP := aI 2 _ rfl; (try simp only [show (k58).sz = 6 from rfl, Nat.mul_one, Nat.add_zero] at bP); have bQ := aJ 2; (try simp only [show (k58).sz = 6 from rfl, Nat.mul_one, Nat.add_zero] at bQ); have bR := aI 3 _ rfl; (try simp only [show (k58).sz = 6 from rfl, Nat.mul_one, Nat.add_zero] at bR); have bS := aJ 3; (try simp only [show (k58).sz = 6 from rfl, Nat.mul_one, Nat.add_zero] at bS); have bT := aI 4 _ rfl; (try simp only [show (k58).sz = 6 from rfl, Nat.mul_one, Nat.add_zero] at bT); have bU := aJ 4; (try simp only [show (k58).sz = 6 from rfl, Nat.mul_one, Nat.add_zero] at bU); have bV := aI 5 _ rfl; (try simp only [show (k58).sz = 6 from rfl, Nat.mul_one, Nat.add_zero] at bV); have bW := aJ 5; (try simp only [show (k58).sz = 6 from rfl, Nat.mul_one, Nat.add_zero] at bW); clear hcl12 aI aJ hM12 hoki12 hH12) | ((with_reducible refine gate_store (t := 58) (p := 21) rfl ?_); refine store_event (t := 58) (p := 21) (v := ?vo_w13) (w1 := ((((((aK.setCell ⟨go10, (aA : Int).toNat * 6, none⟩ (.int .i64 aY)).setCell ⟨go10, (aA : Int).toNat * 6 + 1, none⟩ (.int .i64 aZ)).setCell ⟨go10, (aA : Int).toNat * 6 + 2, none⟩ (.int .i64 a6)).setCell ⟨go10, (aA : Int).toNat * 6 + 3, none⟩ (.int .i64 a7)).setCell ⟨go10, (aA : Int).toNat * 6 + 4, none⟩ (.int .i64 a8)).setCell ⟨go10, (aA : Int).toNat * 6 + 5, none⟩ (bB))) ?hg ?ho ?hn ?hr ?_; (case ho => rfl); (case hg => rfl); (case hn => rfl); (case hr => first | (go_simp; done) | (go_simp; rfl) | (obtain ⟨A_, c_, e_⟩ := Kd.R_slice aE.out; subst e_; go_simp; done) | (obtain ⟨A_, c_, e_⟩ := Kd.R_slice aE.out; subst e_; go_simp; rfl) | (obtain ⟨A_, c_, e_⟩ := Kd.S_slice aE.out; subst e_; go_simp; done) | (obtain ⟨A_, c_, e_⟩ := Kd.S_slice aE.out; subst e_; go_simp; rfl)); intro cY hw; have hg : aK.grownBy cY (some go10) := (by rw [hw]; exact HP12.2); have hp_ : Kd.S k58 58 cY w.heap.size (fun _ => True) (.slice (some ⟨go10, 0, none⟩) aC.length b7) bZ := (by rw [hw, b6.out]; exact HP12.1); clear HP12; replace aD := am hp_; replace HB := am ((by rw [hw]; exact below_set (below_set (below_set (below_set (below_set (below_set (HB.out) GB10.out) GB10.out) GB10.out) GB10.out) GB10.out) GB10.out : Below w.heap.size w cY)); clear aE; clear hg hw hp_))
 go_roundg k1
 case measure => have := dB.out; omega
 case rel => exact ⟨(bZ), (wrap64 (aA + 1)), sr, H', ⟨by have := dB.out; omega⟩, ⟨S_later aD.out⟩, ⟨bL HB⟩⟩
/-! ### laws_toGroupMeta: function 55 -/
def laws_toGroupMeta.f (k : Nat) (aA : Int) (aC : List (S119)) : Option (Int × (List (S58))) := (laws_toChunkS.f k aC).bind fun aD => (some (aA, aD))
theorem laws_toGroupMeta.calls {k : Nat} {aE : Int} {aT : Option Addr} {aU : Nat} {aG : List (S119)} {r1 : Int} {r2 : List (S58)} {w : World} (hr0_1 : Kd.C k119 w aT aG.length aG) (aM : aG.length ≤ aU) (h : laws_toGroupMeta.f k aE aG = some (r1, r2)) :
    Calls Try.prog 55 #[.agg #[.int .i64 aE, .slice aT aG.length aU]] w fun e w' => ∃ bA : Value, e = .returned (.agg #[.int .i64 r1, bA]) ∧ Kd.S k58 58 w' w.heap.size (fun _ => True) bA r2 ∧ Below w.heap.size w w' := by
 have hu79 := Try.underlying79
 have hu54 := Try.underlying54
 have a7 := am hr0_1
 have a8 := am aM
 clear hr0_1 aM
 have HB := am (Below.refl w.heap.size w)
 have H := h; clear h; unfold laws_toGroupMeta.f at H
 replace H := bnd H; obtain ⟨aV, A2, H⟩ := H
 replace H := sj2 H; obtain ⟨rfl, rfl⟩ := H
 go_enter Try.func55, Try.ntmps55
 go_wp2_with (first | ((with_reducible refine gd 1 rfl ?_); refine bxw 1 rfl #[.int .i64 aE, .slice aT aG.length aU] 79 HB ?_; clear HB; intro bB w3 aA bC bD HB) | ((with_reducible refine gd 2 rfl ?_); refine bxv 2 rfl #[.int .i64 0, .slice none 0 0] 54 HB ?_; clear HB; intro aK w4 aC bE bF HB hg hb; obtain ⟨aH, aY⟩ := nbp (nbl aA hg); replace aA := bkb aA hb; clear hg hb) | ((with_reducible refine gd 3 rfl ?_); refine bxv 3 rfl #[.int .i64 0, .slice none 0 0] 54 HB ?_; clear HB; intro aN w5 aD bG bH HB hg hb; obtain ⟨aI, aZ⟩ := nbp (nbl aA hg); obtain ⟨a6, aJ⟩ := nbp (nbl aC hg); replace aA := bkb aA hb; replace aC := bkb aC hb; clear hg hb; obtain ⟨bJ, bK⟩ := nbo aH; obtain ⟨bM, bN⟩ := nbo aI; obtain ⟨_, _, _, _⟩ := cl2 aA; obtain ⟨bO, bP⟩ := nbo aJ; obtain ⟨_, _, _, _⟩ := cl2 aD) | ((with_reducible refine gc 73 rfl ?_); refine gc2 (some 9) Try.func73 rfl (laws_toChunkS.calls (Kd.C_below a7.out (bL HB)) a8.out A2.out) ?_; rintro bQ bR ⟨bI, hb⟩; have aQ := am (Kd.S_lower bI (below_size (bL HB))); replace aA := bkb aA hb; replace aC := bkb aC hb; replace aD := am (blk_below (g := aN) (o := .cells #[.int .i64 aE, .slice none 0 0] 54 (0, 0)) (blk_later aD.out) hb); replace HB := bst HB hb; clear hb bI; obtain ⟨aW, aX, a9⟩ := Kd.S_slice aQ.out; subst a9; obtain ⟨_, _, _, _⟩ := cl2 aD; obtain ⟨_, _, _, _⟩ := cl2 aC))
 refine bodyPost_ret (results_cell_row rfl _ _ aK 54 #[.int .i64 aE, .slice aW aV.length aX] (0, 0) _ rfl (kL aC) Try.underlying54 rfl (by kernel_rfl)) rfl ?_
 exact ⟨_, fin_ ⟨S_later (Kd.S_mono (Kd.S_far (p := ⟨aK, 1, none⟩) (Kd.S_far (p := ⟨aK, 0, none⟩) (Kd.S_far (p := ⟨aN, 1, none⟩) (Kd.S_types (Kd.S_types aQ.out aD.out (by decide)) aC.out (by decide)) (fun _ hk => hk.1.2) (.slice aW aV.length aX)) (fun _ hk => hk.2) (.int .i64 aE)) (fun _ hk => hk.2) (.slice aW aV.length aX)) (fun _ hk => trivial)), bL HB⟩⟩
/-! ### laws_toGroupMetaS: function 28 -/
theorem infoG : (Try.prog.info? 54).map (fun i => (i.zero, i.size, i.bytes)) = some (some (.agg #[(.int .i64 0), (.slice none 0 0)]), 2, 32) := by kernel_rfl
def laws_toGroupMetaS.l0 : Nat → List (S79) → List (S54) → Int → Option ((List (S54)))
  | 0, _, _, _ => none
  | k + 1, x0, x3, x4 => if x4 < (x0.length : Int) then (if 0 ≤ x4 then ((laws_toGroupMeta.f k ((rd_T79 x0 x4).f0) ((rd_T79 x0 x4).f1)).bind fun aA => (if x4 < (x3.length : Int) then (laws_toGroupMetaS.l0 k x0 (x3.set (x4 : Int).toNat (⟨aA.1, aA.2⟩ : S54)) (wrap64 (x4 + 1))) else (none))) else (none)) else (some x3)
def laws_toGroupMetaS.f (k : Nat) (l0 : List (S79)) : Option ((List (S54))) := if 0 ≤ (l0.length : Int) then (if ((l0.length : Int) : Int).toNat ≤ 8796093022208 then (laws_toGroupMetaS.l0 k l0 (List.replicate ((l0.length : Int) : Int).toNat z54) 0) else (none)) else (none)
/-- An elder row, and one that was made behind it. -/
theorem tg_apart {α β : Type} {d : Kd α} {d' : Kd β} {e e' : Nat} {u v : Value} {xs : List α} {ys : List β} {w W w1 : World} (hO : Kd.S d e W w.heap.size (fun _ => True) u xs) (ho : Kd.S d' e' w1 W.heap.size (fun _ => True) v ys) (hb : Below W.heap.size W w1) (hB : w.heap.size ≤ W.heap.size) :
    ∃ N, Kd.S d e w1 w.heap.size (fun k => True ∧ ¬ N ≤ k) u xs ∧ Kd.S d' e' w1 w.heap.size (fun k => N ≤ k) v ys ∧ w.heap.size ≤ N :=
  ⟨W.heap.size, Kd.S_mono (Kd.S_old hO hb) (fun _ h => ⟨trivial, by have := h.2; omega⟩), Kd.S_lower (Kd.S_mono (Kd.S_bound ho) (fun _ h => h.2.1)) hB, hB⟩
theorem laws_toGroupMetaS.calls {k : Nat} {A0 : Option Addr} {c0 : Nat} {l0 : List (S79)} {r : List (S54)} {w : World} (hr0 : Kd.C k79 w A0 l0.length l0) (bD : l0.length ≤ c0) (h : laws_toGroupMetaS.f k l0 = some r) :
    Calls Try.prog 28 #[.slice A0 l0.length c0] w fun e w' => ∃ bE : Value, e = .returned (bE) ∧ Kd.S k54 54 w' w.heap.size (fun _ => True) bE r ∧ Below w.heap.size w w' := by
 have hu79 := Try.underlying79
 have hu54 := Try.underlying54
 have bK := am hr0
 have bS := am bD
 clear hr0 bD
 have HB := am (Below.refl w.heap.size w)
 unfold laws_toGroupMetaS.f at h
 obtain ⟨c2, h⟩ := ifs h
 have bM := eq_true c2
 have bN := decide_eq_true c2
 obtain ⟨c3, h⟩ := ifs h
 have bO := eq_true c3
 have bP := decide_eq_true c3
 have H' := am h
 clear c2 c3 h
 go_enter Try.func28, Try.ntmps28
 go_wp2_with (first | ((with_reducible refine gd 7 rfl ?_); refine Kd.S_make k54 _ 54 rfl (N := 7) rfl 31 _ _ rfl (l0.length : Int) rfl rfl Try.underlying31 (.agg #[(.int .i64 0), (.slice none 0 0)]) 32 infoG rfl (by decide) (by omega) z54 (ok := fun _ => True) (okp := fun _ => True) (k54_mkM _ _ _ z54 (Kd.S_nil _ _ _ _ _)) (fun _ hk => hk) trivial (dcd) (Nat.le_trans (Nat.mul_le_mul_right _ (dcd : (l0.length : Int).toNat ≤ 8796093022208)) (by omega)) (Below.refl _ _) (Nat.le_refl _) ?_; intro a6 w4 bF hb hg_ hnew_; clear hg_ hnew_; have aK := am (Kd.S_lower bF (below_size (bL HB))); replace HB := bst HB hb; clear hb bF))
 go_loopg [4] k (fun kq v4 w' => ∃ (aD : List (S54)) (aA : Int), v4 = .int .i64 aA ∧ Aside0 (laws_toGroupMetaS.l0 kq l0 aD aA = some r) ∧ Aside0 (kq ≤ k) ∧ Aside0 (Kd.S k54 54 w' w.heap.size (fun _ => True) a6 aD) ∧ Aside0 (Below w.heap.size w w'))
 case atStart => exact ⟨_, (0), sr, H', ⟨Nat.le_refl _⟩, ⟨S_later aK.out⟩, ⟨bL HB⟩⟩
 clear H'
 obtain ⟨aD, aA, rfl, HA, bG, aC, HB⟩ := hrel
 cases gk with
 | zero => exact absurd HA.out (by simp [laws_toGroupMetaS.l0])
 | succ k1 => ?_
 have H := HA.out
 clear HA aK
 simp only [laws_toGroupMetaS.l0] at H
 replace H := idc H
 obtain ⟨a7, H⟩ | ⟨a7, H⟩ := H
 rotate_left
 · cases H
   go_wp2
   go_ret
   exact ⟨_, fin_ ⟨S_later aC.out, bL HB⟩⟩
 replace H := ifd H; obtain ⟨bQ, H⟩ := H
 obtain ⟨⟨aJ, aM⟩, h8, H⟩ := Option.bind_eq_some_iff.mp H
 have A8 := am h8
 dsimp only at H
 replace H := ifd H; obtain ⟨bR, H⟩ := H
 have H' := am H
 clear H h8
 have aN : 0 ≤ (aA : Int) := dcd
 have aQ : aA < (l0.length : Int) := dcd
 obtain ⟨bH, a8, a9, bA, aE, aG, aH, aI⟩ := at_T79 bK.out aA aN aQ
 cases bA
 replace aE := crd HB aE
 replace aG := crd HB aG
 have aT := am aI
 have aU := am aH
 clear aI aH
 replace aN := eq_true aN
 replace aQ := eq_true aQ
 go_wp2_with (first | (go_at_call 55; (refine (laws_toGroupMeta.calls (Kd.C_below aT.out HB.out) aU.out A8.out).mono ?_); rintro e aV ⟨aW, rfl, bI, hb⟩; obtain ⟨N, hx, hy, hn⟩ := tg_apart aC.out bI hb HB.out.size; replace aC := am hx; have HY := am hy; have HN := am hn; replace HB := bst HB hb; clear hx hy hn hb bI; have aY : 0 ≤ (aA : Int) := dcd; have aZ : (aA : Int) < (aD.length : Int) := dcd; obtain ⟨go10, bB, bC, aX, gl10, cl10, HG10⟩ := Kd.S_form aC.out (by omega); cases bC; have GB10 := am aX; have hgo : go10 < N := (by have := aC.out.choose_spec.1 go10 rfl; omega); obtain ⟨oki, ce, hcl, hM, hcc, hfr, hoki, hH⟩ := Kd.S_elem aC.out z54 (aA : Int) aY aZ; obtain ⟨ve, rfl, ge⟩ := k54_openM hM; have bT : aV.cell? ⟨go10, (aA : Int).toNat * 2, none⟩ = some (.int .i64 ((rd_T54 aD aA).f0)) := hcc 0 _ rfl; have bU : aV.cell? ⟨go10, (aA : Int).toNat * 2 + 1, none⟩ = some ve := hcc 1 _ rfl; have bV : aV.frozen? ⟨go10, (aA : Int).toNat * 2, none⟩ = false := hfr 0; have bW : aV.frozen? ⟨go10, (aA : Int).toNat * 2 + 1, none⟩ = false := hfr 1; have HP := Kd.S_seg (okg := fun k_ => N ≤ k_) (ok := fun _ => True) hH aY aZ (seg := [.int .i64 aJ, aW]) (j := 0) (show 2 ≤ 2 from by decide) (x' := (⟨aJ, aM⟩ : S54)) (k54_mkM _ _ _ (⟨aJ, aM⟩ : S54) (Kd.S_mono HY.out (fun _ h_ => Or.inr h_))) (fun _ hk => hk) (fun k_ hk_ => ⟨trivial, fun e_ => by omega⟩); clear hcl hcc hfr hM hoki hH ge cl10 HG10 gl10 hgo aX; replace aY := eq_true aY; replace aZ := eq_true aZ) | ((with_reducible refine gate_store (t := 54) (p := 21) rfl ?_); refine store_event (t := 54) (p := 21) (v := ?vo) (w1 := ((aV.setCell ⟨go10, (aA : Int).toNat * 2, none⟩ (.int .i64 aJ)).setCell ⟨go10, (aA : Int).toNat * 2 + 1, none⟩ (aW))) ?hg ?ho ?hn ?hr ?_; (case ho => rfl); (case hg => rfl); (case hn => rfl); (case hr => first | (obtain ⟨A_, c_, e_⟩ := Kd.S_slice HY.out; subst e_; go_simp; done) | (obtain ⟨A_, c_, e_⟩ := Kd.S_slice HY.out; subst e_; go_simp; rfl)); intro bJ hw; have hp_ : Kd.S k54 54 bJ w.heap.size (fun _ => True) (.slice (some ⟨go10, 0, none⟩) aD.length bB) (aD.set (aA : Int).toNat (⟨aJ, aM⟩ : S54)) := (by rw [hw]; exact HP.1); clear HP; replace aC := am hp_; replace HB := am ((by rw [hw]; exact below_set (below_set (HB.out) GB10.out) GB10.out : Below w.heap.size w bJ)); clear HY hw hp_))
 go_roundg k1
 case measure => have := bG.out; omega
 case rel => exact ⟨_, (wrap64 (aA + 1)), sr, H', ⟨by have := bG.out; omega⟩, ⟨S_later aC.out⟩, ⟨bL HB⟩⟩
/-! ### laws_toMeta: function 7 -/
def laws_toMeta.f (k : Nat) (aA : List (S75)) (aC : Int) (aD : List (S79)) : Option ((List (S84)) × Int × (List (S54))) := (laws_toColS.f k aA).bind fun aE => ((laws_toGroupMetaS.f k aD).bind fun aG => (some (aE, aC, aG)))
theorem laws_toMeta.calls {k : Nat} {aZ : Option Addr} {a6 : Nat} {aI : List (S75)} {aG : Int} {bA : Option Addr} {bB : Nat} {aK : List (S79)} {r1 : List (S84)} {r2 : Int} {r3 : List (S54)} {w : World} (hr0_0 : Kd.C k75 w aZ aI.length aI) (a7 : aI.length ≤ a6) (hr0_2 : Kd.C k79 w bA aK.length aK) (a8 : aK.length ≤ bB) (h : laws_toMeta.f k aI aG aK = some (r1, r2, r3)) :
    Calls Try.prog 7 #[.agg #[.slice aZ aI.length a6, .int .i64 aG, .slice bA aK.length bB]] w fun e w' => ∃ bN bO : Value, e = .returned (.agg #[bN, .int .i64 r2, bO]) ∧ Kd.R k84 84 w' w.heap.size (fun _ => True) bN r1 ∧ Kd.S k54 54 w' w.heap.size (fun _ => True) bO r3 ∧ Below w.heap.size w w' := by
 have hu25 := Try.underlying25
 have hu33 := Try.underlying33
 have bF := am hr0_0
 have bG := am a7
 clear hr0_0 a7
 have bH := am hr0_2
 have bI := am a8
 clear hr0_2 a8
 have HB := am (Below.refl w.heap.size w)
 have H := h; clear h; unfold laws_toMeta.f at H
 replace H := bnd H; obtain ⟨aT, A2, H⟩ := H
 replace H := bnd H; obtain ⟨aU, A3, H⟩ := H
 replace H := sj3 H; obtain ⟨rfl, rfl, rfl⟩ := H
 go_enter Try.func7, Try.ntmps7
 go_wp2_with (first | ((with_reducible refine gd 1 rfl ?_); refine bxw 1 rfl #[.slice aZ aI.length a6, .int .i64 aG, .slice bA aK.length bB] 25 HB ?_; clear HB; intro bP w4 aA bQ bR HB) | ((with_reducible refine gd 2 rfl ?_); refine bxv 2 rfl #[.slice none 0 0, .int .i64 0, .slice none 0 0] 33 HB ?_; clear HB; intro aE w5 aC bS bT HB hg hb; obtain ⟨aM, bC⟩ := nbp (nbl aA hg); replace aA := bkb aA hb; clear hg hb) | ((with_reducible refine gd 3 rfl ?_); refine bxv 3 rfl #[.slice none 0 0, .int .i64 0, .slice none 0 0] 33 HB ?_; clear HB; intro aH w6 aD bU bV HB hg hb; obtain ⟨aN, bD⟩ := nbp (nbl aA hg); obtain ⟨bE, aQ⟩ := nbp (nbl aC hg); replace aA := bkb aA hb; replace aC := bkb aC hb; clear hg hb; obtain ⟨bY, bZ⟩ := nbo aM; obtain ⟨b6, b7⟩ := nbo aN; obtain ⟨_, _, _, _, _, _⟩ := cl3 aA) | ((with_reducible refine gc 27 rfl ?_); refine gl_ (some 6) Try.func27 #[.slice aZ aI.length a6] rfl ?_; (with_reducible refine (laws_toColS.calls ?side1 ?side2 A2.out).mono ?_); (case side1 => exact cL bF HB); (case side2 => exact bG.out); rintro e cA ⟨b8, rfl, bJ, hb⟩; refine ⟨_, rfl, ?_⟩; have aJ := rlb bJ HB; replace aA := bkb aA hb; replace aC := bkb aC hb; replace aD := bkb aD hb; replace HB := bst HB hb; clear hb bJ; obtain ⟨aV, aW, bK⟩ := Kd.R_slice aJ.out; subst bK; obtain ⟨bW, bX⟩ := nbo aQ; obtain ⟨_, _, _, _, _, _⟩ := cl3 aD; obtain ⟨_, _, _, _, _, _⟩ := cl3 aA) | ((with_reducible refine gc 28 rfl ?_); refine gc2 (some 13) Try.func28 rfl (laws_toGroupMetaS.calls (Kd.C_below bH.out (bL HB)) bI.out A3.out) ?_; rintro b9 cB ⟨bJ, hb⟩; have a9 := am (Kd.S_lower bJ (below_size (bL HB))); replace aJ := am (Kd.R_below (R_later (Kd.R_mono (Kd.R_far (p := ⟨aH, 1, none⟩) (Kd.R_far (p := ⟨aH, 0, none⟩) (Kd.R_types aJ.out aD.out (by decide)) (fun _ hk => hk.2) (.slice aV aT.length aW)) (fun _ hk => hk.2) (.int .i64 aG)) (fun _ h_ => h_.1))) hb); replace aA := bkb aA hb; replace aC := bkb aC hb; replace aD := am (blk_below (g := aH) (o := .cells #[.slice aV aT.length aW, .int .i64 aG, .slice none 0 0] 33 (0, 0)) (blk_later aD.out) hb); replace HB := bst HB hb; clear hb; (try clear hk); clear bJ; obtain ⟨aX, aY, bM⟩ := Kd.S_slice a9.out; subst bM; obtain ⟨_, _, _, _, _, _⟩ := cl3 aD; obtain ⟨_, _, _, _, _, _⟩ := cl3 aC))
 refine bodyPost_ret (results_cell_row rfl _ _ aE 33 #[.slice aV aT.length aW, .int .i64 aG, .slice aX aU.length aY] (0, 0) _ rfl (kL aC) Try.underlying33 rfl (by kernel_rfl)) rfl ?_
 exact ⟨_, _, fin_ ⟨R_later (Kd.R_mono (Kd.R_far (p := ⟨aE, 2, none⟩) (Kd.R_far (p := ⟨aE, 1, none⟩) (Kd.R_far (p := ⟨aE, 0, none⟩) (Kd.R_far (p := ⟨aH, 2, none⟩) (Kd.R_types (Kd.R_types aJ.out aD.out (by decide)) aC.out (by decide)) (fun _ hk => hk.1.2) (.slice aX aU.length aY)) (fun _ hk => hk.2) (.slice aV aT.length aW)) (fun _ hk => hk.2) (.int .i64 aG)) (fun _ hk => hk.2) (.slice aX aU.length aY)) (fun _ hk => trivial)), S_later (Kd.S_mono (Kd.S_far (p := ⟨aE, 2, none⟩) (Kd.S_far (p := ⟨aE, 1, none⟩) (Kd.S_far (p := ⟨aE, 0, none⟩) (Kd.S_far (p := ⟨aH, 2, none⟩) (Kd.S_types (Kd.S_types a9.out aD.out (by decide)) aC.out (by decide)) (fun _ hk => hk.1.2) (.slice aX aU.length aY)) (fun _ hk => hk.2) (.slice aV aT.length aW)) (fun _ hk => hk.2) (.int .i64 aG)) (fun _ hk => hk.2) (.slice aX aU.length aY)) (fun _ hk => trivial)), bL HB⟩⟩
/-! ### impl_within: function 57 -/
def impl_within.f (a0 : Int) (a1 : Int) (a2 : Int) : Option (Bool) := if a0 ≥ a1 then (some (decide (a0 ≤ a2))) else (some false)
theorem impl_within.calls {a0 a1 a2 : Int} {r : Bool} {w : World} (h : impl_within.f a0 a1 a2 = some r) :
    Calls Try.prog 57 #[.int .i64 a0, .int .i64 a1, .int .i64 a2] w fun e w' => e = .returned (.bool r) ∧ Drawn0 w w' := by
 have H := h; clear h; unfold impl_within.f at H
 replace H := ige H; obtain ⟨aA, H⟩ | ⟨aA, H⟩ := H
 · cases H
   go_enter Try.func57, Try.ntmps57
   go_wp2
   go_ret
   exact ⟨sr, drl⟩
 cases H
 go_enter Try.func57, Try.ntmps57
 go_wp2
 go_ret
 exact ⟨sr, drl⟩
/-! ### impl_TypeOk: function 104 -/
def impl_TypeOk.f (a0 : Int) : Option (Bool) := (impl_within.f a0 0 2).bind fun aA => (if aA = true then (some true) else (if a0 = 5 then (some true) else (some (a0 == 6))))
theorem impl_TypeOk.calls {a0 : Int} {r : Bool} {w : World} (h : impl_TypeOk.f a0 = some r) :
    Calls Try.prog 104 #[.int .i64 a0] w fun e w' => e = .returned (.bool r) ∧ Drawn0 w w' := by
 have H := h; clear h; unfold impl_TypeOk.f at H
 replace H := bnd H; obtain ⟨aD, A2, H⟩ := H
 replace H := ibt H; obtain ⟨rfl, H⟩ | ⟨rfl, H⟩ := H
 · cases H
   go_enter Try.func104, Try.ntmps104
   go_wp2_with (first | ((with_reducible refine gc 57 rfl ?_); refine gc1 (some 4) Try.func57 rfl (impl_within.calls A2.out) ?_; rintro w' ⟨nd, rfl⟩))
   go_ret
   exact ⟨sr, drl⟩
 replace H := ieq H; obtain ⟨aA, aC, H⟩ | ⟨c4, aA, aC, H⟩ := H
 · cases H
   go_enter Try.func104, Try.ntmps104
   go_wp2_with (first | ((with_reducible refine gc 57 rfl ?_); refine gc1 (some 4) Try.func57 rfl (impl_within.calls A2.out) ?_; rintro w' ⟨nd, rfl⟩))
   go_ret
   exact ⟨sr, drl⟩
 cases H
 go_enter Try.func104, Try.ntmps104
 go_wp2_with (first | ((with_reducible refine gc 57 rfl ?_); refine gc1 (some 4) Try.func57 rfl (impl_within.calls A2.out) ?_; rintro w' ⟨nd, rfl⟩))
 go_ret
 exact ⟨sr, drl⟩
/-! ### impl_colOk: function 94 -/
def impl_colOk.f (aM : ByteArray) (aD : Int) (aA : Int) (aC : Int) : Option (Bool) := if aD = 7 then ((impl_TypeOk.f aD).bind fun aE => (if aE = true then (if aC > 0 then ((impl_within.f aA 0 2).bind fun aG => (some aG)) else (if aC = 0 then ((impl_within.f aA 0 2).bind fun aH => (some aH)) else (some false))) else (if aC > 0 then ((impl_within.f aA 0 2).bind fun aI => (some aI)) else (some false)))) else ((impl_TypeOk.f aD).bind fun aJ => (if aJ = true then (if aC = 0 then ((impl_within.f aA 0 2).bind fun aK => (some aK)) else (some false)) else (some false)))
theorem impl_colOk.calls {aG : ByteArray} {aH aI aJ : Int} {r : Bool} {w : World} (h : impl_colOk.f aG aH aI aJ = some r) :
    Calls Try.prog 94 #[.agg #[.string aG, .int .i64 aH, .int .i64 aI, .int .i64 aJ]] w fun e w' => e = .returned (.bool r) ∧ Below w.heap.size w w' := by
 have hu84 := Try.underlying84
 have HB := am (Below.refl w.heap.size w)
 have H := h; clear h; unfold impl_colOk.f at H
 replace H := ieq H; obtain ⟨aQ, aT, H⟩ | ⟨c2, aQ, aT, H⟩ := H
 rotate_left
 · replace H := bnd H; obtain ⟨aY, aU, H⟩ := H
   replace H := ibt H; obtain ⟨rfl, H⟩ | ⟨rfl, H⟩ := H
   rotate_left
   · cases H
     go_enter Try.func94, Try.ntmps94
     go_wp2_with (first | ((with_reducible refine gd 1 rfl ?_); refine bxw 1 rfl #[.string aG, .int .i64 aH, .int .i64 aI, .int .i64 aJ] 84 HB ?_; clear HB; intro aC bD aA aD aE HB; obtain ⟨_, _, _, _, _, _, _, _⟩ := cl4 aA) | ((with_reducible refine gc 104 rfl ?_); refine gc1 (some 15) Try.func104 rfl (impl_TypeOk.calls aU.out) ?_; rintro w' ⟨nd, rfl⟩))
     go_ret
     exact fin_ (bL HB)
   replace H := ieq H; obtain ⟨aK, aM, H⟩ | ⟨bE, aK, aM, H⟩ := H
   rotate_left
   · cases H
     go_enter Try.func94, Try.ntmps94
     go_wp2_with (first | ((with_reducible refine gd 1 rfl ?_); refine bxw 1 rfl #[.string aG, .int .i64 aH, .int .i64 aI, .int .i64 aJ] 84 HB ?_; clear HB; intro aC bF aA aD aE HB; obtain ⟨_, _, _, _, _, _, _, _⟩ := cl4 aA) | ((with_reducible refine gc 104 rfl ?_); refine gc1 (some 15) Try.func104 rfl (impl_TypeOk.calls aU.out) ?_; rintro w' ⟨nd, rfl⟩))
     go_ret
     exact fin_ (bL HB)
   replace H := bnd H; obtain ⟨aZ, a6, H⟩ := H
   cases H
   go_enter Try.func94, Try.ntmps94
   go_wp2_with (first | ((with_reducible refine gd 1 rfl ?_); refine bxw 1 rfl #[.string aG, .int .i64 aH, .int .i64 aI, .int .i64 aJ] 84 HB ?_; clear HB; intro aC bG aA aD aE HB; obtain ⟨_, _, _, _, _, _, _, _⟩ := cl4 aA) | ((with_reducible refine gc 104 rfl ?_); refine gc1 (some 15) Try.func104 rfl (impl_TypeOk.calls aU.out) ?_; rintro w' ⟨nd, rfl⟩) | (go_at_call 57; (with_reducible refine (impl_within.calls a6.out).mono ?_); rintro e w' ⟨rfl, ⟨nd, rfl⟩⟩))
   go_ret
   exact fin_ (bL HB)
 replace H := bnd H; obtain ⟨a7, A3, H⟩ := H
 replace H := ibt H; obtain ⟨rfl, H⟩ | ⟨rfl, H⟩ := H
 rotate_left
 · replace H := igt H; obtain ⟨aN, H⟩ | ⟨aN, H⟩ := H
   rotate_left
   · cases H
     go_enter Try.func94, Try.ntmps94
     go_wp2_with (first | ((with_reducible refine gd 1 rfl ?_); refine bxw 1 rfl #[.string aG, .int .i64 aH, .int .i64 aI, .int .i64 aJ] 84 HB ?_; clear HB; intro aC bH aA aD aE HB; obtain ⟨_, _, _, _, _, _, _, _⟩ := cl4 aA) | ((with_reducible refine gc 104 rfl ?_); refine gc1 (some 15) Try.func104 rfl (impl_TypeOk.calls A3.out) ?_; rintro w' ⟨nd, rfl⟩))
     go_ret
     exact fin_ (bL HB)
   replace H := bnd H; obtain ⟨a8, a9, H⟩ := H
   cases H
   go_enter Try.func94, Try.ntmps94
   go_wp2_with (first | ((with_reducible refine gd 1 rfl ?_); refine bxw 1 rfl #[.string aG, .int .i64 aH, .int .i64 aI, .int .i64 aJ] 84 HB ?_; clear HB; intro aC bI aA aD aE HB; obtain ⟨_, _, _, _, _, _, _, _⟩ := cl4 aA) | ((with_reducible refine gc 104 rfl ?_); refine gc1 (some 15) Try.func104 rfl (impl_TypeOk.calls A3.out) ?_; rintro w' ⟨nd, rfl⟩) | (go_at_call 57; (with_reducible refine (impl_within.calls a9.out).mono ?_); rintro e w' ⟨rfl, ⟨nd, rfl⟩⟩))
   go_ret
   exact fin_ (bL HB)
 replace H := igt H; obtain ⟨aV, H⟩ | ⟨aV, H⟩ := H
 · replace H := bnd H; obtain ⟨bA, A6, H⟩ := H
   cases H
   go_enter Try.func94, Try.ntmps94
   go_wp2_with (first | ((with_reducible refine gd 1 rfl ?_); refine bxw 1 rfl #[.string aG, .int .i64 aH, .int .i64 aI, .int .i64 aJ] 84 HB ?_; clear HB; intro aC w7 aA aD aE HB; obtain ⟨_, _, _, _, _, _, _, _⟩ := cl4 aA) | ((with_reducible refine gc 104 rfl ?_); refine gc1 (some 15) Try.func104 rfl (impl_TypeOk.calls A3.out) ?_; rintro w' ⟨nd, rfl⟩) | (go_at_call 57; (with_reducible refine (impl_within.calls A6.out).mono ?_); rintro e w' ⟨rfl, ⟨nd, rfl⟩⟩))
   go_ret
   exact fin_ (bL HB)
 replace H := ieq H; obtain ⟨aW, aX, H⟩ | ⟨c9, aW, aX, H⟩ := H
 rotate_left
 · cases H
   go_enter Try.func94, Try.ntmps94
   go_wp2_with (first | ((with_reducible refine gd 1 rfl ?_); refine bxw 1 rfl #[.string aG, .int .i64 aH, .int .i64 aI, .int .i64 aJ] 84 HB ?_; clear HB; intro aC bJ aA aD aE HB; obtain ⟨_, _, _, _, _, _, _, _⟩ := cl4 aA) | ((with_reducible refine gc 104 rfl ?_); refine gc1 (some 15) Try.func104 rfl (impl_TypeOk.calls A3.out) ?_; rintro w' ⟨nd, rfl⟩))
   go_ret
   exact fin_ (bL HB)
 replace H := bnd H; obtain ⟨bB, bC, H⟩ := H
 cases H
 go_enter Try.func94, Try.ntmps94
 go_wp2_with (first | ((with_reducible refine gd 1 rfl ?_); refine bxw 1 rfl #[.string aG, .int .i64 aH, .int .i64 aI, .int .i64 aJ] 84 HB ?_; clear HB; intro aC bK aA aD aE HB; obtain ⟨_, _, _, _, _, _, _, _⟩ := cl4 aA) | ((with_reducible refine gc 104 rfl ?_); refine gc1 (some 15) Try.func104 rfl (impl_TypeOk.calls A3.out) ?_; rintro w' ⟨nd, rfl⟩) | (go_at_call 57; (with_reducible refine (impl_within.calls bC.out).mono ?_); rintro e w' ⟨rfl, ⟨nd, rfl⟩⟩))
 go_ret
 exact fin_ (bL HB)
/-! ### impl_isColName: function 95 -/
def impl_isColName.l0 : Nat → ByteArray → Int → Int → Option (Bool)
  | 0, _, _, _ => none
  | k + 1, x0, x5, x6 => if x6 < x5 then (if 0 ≤ x6 then (if x6 < (x0.size : Int) then ((impl_within.f (wrap64 (bt x0 x6)) 97 122).bind fun aA => (if aA = true then (impl_isColName.l0 k x0 x5 (wrap64 (x6 + 1))) else (some false))) else (none)) else (none)) else ((impl_within.f (x0.size : Int) 1 20).bind fun aC => (some aC))
def impl_isColName.f (k : Nat) (a0 : ByteArray) : Option (Bool) := impl_isColName.l0 k a0 (a0.size : Int) 0
theorem impl_isColName.calls {k : Nat} {a0 : ByteArray} {r : Bool} {w : World} (h : impl_isColName.f k a0 = some r) :
    Calls Try.prog 95 #[.string a0] w fun e w' => e = .returned (.bool r) ∧ Drawn0 w w' := by
 have H := h; clear h; unfold impl_isColName.f at H
 have H' := am H; clear H
 go_enter Try.func95, Try.ntmps95
 go_wp2
 go_loopg [6] k (fun kq v6 w' => ∃ (aA : Int), v6 = .int .i64 aA ∧ Aside0 (impl_isColName.l0 kq a0 (a0.size : Int) aA = some r) ∧ Aside0 (kq ≤ k) ∧ Drawn0 w w')
 case atStart => exact ⟨(0), sr, H', ⟨Nat.le_refl _⟩, by repeat (first | exact Drawn0.refl _ | apply Drawn0.step)⟩
 clear H'
 obtain ⟨aA, rfl, HA, aD, ⟨m1, rfl⟩⟩ := hrel
 cases gk with
 | zero => exact absurd HA.out (by simp [impl_isColName.l0])
 | succ k1 => ?_
 have H := HA.out
 clear HA
 simp only [impl_isColName.l0] at H
 replace H := idc H; obtain ⟨aC, H⟩ | ⟨aC, H⟩ := H
 rotate_left
 · replace H := bnd H; obtain ⟨aE, A8, H⟩ := H
   cases H
   go_wp2_with (first | ((with_reducible refine gc 57 rfl ?_); refine gc1 (some 18) Try.func57 rfl (impl_within.calls A8.out) ?_; rintro w' ⟨nd, rfl⟩))
   go_ret
   exact ⟨sr, drl⟩
 replace H := if_dd H; obtain ⟨aG, aH, H⟩ := H
 replace H := bnd H; obtain ⟨aI, A6, H⟩ := H
 replace H := ibt H; obtain ⟨rfl, H⟩ | ⟨rfl, H⟩ := H
 rotate_left
 · cases H
   have p5 : 0 ≤ (aA : Int) := dcd
   have q5 : aA < (a0.size : Int) := dcd
   have aJ := bt_at a0 aA
   replace p5 := eq_true p5
   replace q5 := eq_true q5
   go_wp2_with (first | ((with_reducible refine gc 57 rfl ?_); refine gc1 (some 13) Try.func57 rfl (impl_within.calls A6.out) ?_; rintro w' ⟨nd, rfl⟩))
   go_ret
   exact ⟨sr, drl⟩
 have H' := am H; clear H
 have p5 : 0 ≤ (aA : Int) := dcd
 have q5 : aA < (a0.size : Int) := dcd
 have aJ := bt_at a0 aA
 replace p5 := eq_true p5
 replace q5 := eq_true q5
 go_wp2_with (first | ((with_reducible refine gc 57 rfl ?_); refine gc1 (some 13) Try.func57 rfl (impl_within.calls A6.out) ?_; rintro w' ⟨nd, rfl⟩))
 go_roundg k1
 case measure => have := aD.out; omega
 case rel => exact ⟨(wrap64 (aA + 1)), sr, H', ⟨by have := aD.out; omega⟩, by repeat (first | exact Drawn0.refl _ | apply Drawn0.step)⟩
end Go.Proofs.Ytjdapaocdkcgdaa.PFnExactMetaTree
