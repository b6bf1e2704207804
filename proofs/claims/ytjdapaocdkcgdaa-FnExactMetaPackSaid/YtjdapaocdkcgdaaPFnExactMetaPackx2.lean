/- The machine's side of FnExactMetaPack: each Go function, and what its call comes to. No condition. -/
import Derived.Test.YtjdapaocdkcgdaaPFnExactMetaPackx0
import Derived.Test.YtjdapaocdkcgdaaPFnExactMetaPackx1
namespace Go.Proofs.Ytjdapaocdkcgdaa.PFnExactMetaPack
open Go.RowKit Go.Proofs.YtjdapaocdkcgdaaW.PrintWords Go.Proofs.YtjdapaocdkcgdaaW.PrintLast Go.Proofs.YtjdapaocdkcgdaaW.PrintMore Go.Proofs.YtjdapaocdkcgdaaW.PrintMore2
attribute [local go_sem] max2_int min2_int max_two min_two max_three min_three max_four min_four
set_option linter.unusedVariables false
set_option linter.unusedSimpArgs false
set_option maxHeartbeats 8000000
set_option maxRecDepth 100000

/-! ### laws_toMeta: function 7 -/
def laws_toMeta.f (k:Nat)(aA:List (S75))(aC:Int)(aD:List (S79)):Option ((List (S84)) × Int × (List (S54))):=(laws_toColS.f k aA).bind fun aE=>((laws_toGroupMetaS.f k aD).bind fun aG=>(some (aE,aC,aG)))
theorem laws_toMeta.calls {k : Nat} {aZ : Option Addr} {a6 : Nat} {aI : List (S75)} {aG : Int} {bA : Option Addr} {bB : Nat} {aK : List (S79)} {r1 : List (S84)} {r2 : Int} {r3 : List (S54)} {w : World} (hr0_0 : Kd.C k75 w aZ aI.length aI) (a7 : aI.length ≤ a6) (hr0_2 : Kd.C k79 w bA aK.length aK) (a8 : aK.length ≤ bB) (h : laws_toMeta.f k aI aG aK = some (r1, r2, r3)) :
    Calls Try.prog 7 #[.agg #[.slice aZ aI.length a6,.int .i64 aG,.slice bA aK.length bB]] w fun e w'=>∃ bN bO:Value,e=.returned (.agg #[bN,.int .i64 r2,bO])∧Kd.R k84 84 w' w.heap.size (fun _=>True) bN r1∧Kd.S k54 54 w' w.heap.size (fun _=>True) bO r3∧Below w.heap.size w w':=by
 have hu25:=Try.underlying25
 have hu33:=Try.underlying33
 have bF:=am hr0_0
 have bG:=am a7
 clear hr0_0 a7
 have bH:=am hr0_2
 have bI:=am a8
 clear hr0_2 a8
 have HB:=am (Below.refl w.heap.size w)
 have H:=h;clear h;unfold laws_toMeta.f at H
 replace H:=bnd H;obtain⟨aT,A2,H⟩:=H
 replace H:=bnd H;obtain⟨aU,A3,H⟩:=H
 replace H:=sj3 H;obtain⟨rfl,rfl,rfl⟩:=H
 go_enter Try.func7,Try.ntmps7
 go_wp2_with (first | ((with_reducible refine gd 1 rfl ?_);refine bxw 1 rfl #[.slice aZ aI.length a6,.int .i64 aG,.slice bA aK.length bB] 25 HB ?_;clear HB;intro bP w4 aA bQ bR HB) | ((with_reducible refine gd 2 rfl ?_);refine bxv 2 rfl #[.slice none 0 0,.int .i64 0,.slice none 0 0] 33 HB ?_;clear HB;intro aE w5 aC bS bT HB hg hb;obtain⟨aM,bC⟩:=nbp (nbl aA hg);replace aA:=bkb aA hb;clear hg hb) | ((with_reducible refine gd 3 rfl ?_);refine bxv 3 rfl #[.slice none 0 0,.int .i64 0,.slice none 0 0] 33 HB ?_;clear HB;intro aH w6 aD bU bV HB hg hb;obtain⟨aN,bD⟩:=nbp (nbl aA hg);obtain⟨bE,aQ⟩:=nbp (nbl aC hg);replace aA:=bkb aA hb;replace aC:=bkb aC hb;clear hg hb;obtain⟨bY,bZ⟩:=nbo aM;obtain⟨b6,b7⟩:=nbo aN;obtain⟨_,_,_,_,_,_⟩:=cl3 aA) | ((with_reducible refine gc 27 rfl ?_);refine gl_ (some 6) Try.func27 #[.slice aZ aI.length a6] rfl ?_;(with_reducible refine (laws_toColS.calls ?side1 ?side2 A2.out).mono ?_);(case side1=>exact cL bF HB);(case side2=>exact bG.out);rintro e cA ⟨b8,rfl,bJ,hb⟩;refine⟨_,rfl,?_⟩;have aJ:=rlb bJ HB;replace aA:=bkb aA hb;replace aC:=bkb aC hb;replace aD:=bkb aD hb;replace HB:=bst HB hb;clear hb bJ;obtain⟨aV,aW,bK⟩:=Kd.R_slice aJ.out;subst bK;obtain⟨bW,bX⟩:=nbo aQ;obtain⟨_,_,_,_,_,_⟩:=cl3 aD;obtain⟨_,_,_,_,_,_⟩:=cl3 aA) | ((with_reducible refine gc 28 rfl ?_);refine gc2 (some 13) Try.func28 rfl (laws_toGroupMetaS.calls (Kd.C_below bH.out (bL HB)) bI.out A3.out) ?_;rintro b9 cB ⟨bJ,hb⟩;have a9:=am (Kd.S_lower bJ (below_size (bL HB)));replace aJ:=am (Kd.R_below (R_later (Kd.R_mono (Kd.R_far (p:=⟨aH,1,none⟩) (Kd.R_far (p:=⟨aH,0,none⟩) (Kd.R_types aJ.out aD.out (by decide)) (fun _ hk=>hk.2) (.slice aV aT.length aW)) (fun _ hk=>hk.2) (.int .i64 aG)) (fun _ h_=>h_.1))) hb);replace aA:=bkb aA hb;replace aC:=bkb aC hb;replace aD:=am (blk_below (g:=aH) (o:=.cells #[.slice aV aT.length aW,.int .i64 aG,.slice none 0 0] 33 (0,0)) (blk_later aD.out) hb);replace HB:=bst HB hb;clear hb;(try clear hk);clear bJ;obtain⟨aX,aY,bM⟩:=Kd.S_slice a9.out;subst bM;obtain⟨_,_,_,_,_,_⟩:=cl3 aD;obtain⟨_,_,_,_,_,_⟩:=cl3 aC))
 refine bodyPost_ret (results_cell_row rfl _ _ aE 33 #[.slice aV aT.length aW,.int .i64 aG,.slice aX aU.length aY] (0,0) _ rfl (kL aC) Try.underlying33 rfl (by kernel_rfl)) rfl ?_
 exact⟨_,_,fin_ ⟨R_later (Kd.R_mono (Kd.R_far (p:=⟨aE,2,none⟩) (Kd.R_far (p:=⟨aE,1,none⟩) (Kd.R_far (p:=⟨aE,0,none⟩) (Kd.R_far (p:=⟨aH,2,none⟩) (Kd.R_types (Kd.R_types aJ.out aD.out (by decide)) aC.out (by decide)) (fun _ hk=>hk.1.2) (.slice aX aU.length aY)) (fun _ hk=>hk.2) (.slice aV aT.length aW)) (fun _ hk=>hk.2) (.int .i64 aG)) (fun _ hk=>hk.2) (.slice aX aU.length aY)) (fun _ hk=>trivial)),S_later (Kd.S_mono (Kd.S_far (p:=⟨aE,2,none⟩) (Kd.S_far (p:=⟨aE,1,none⟩) (Kd.S_far (p:=⟨aE,0,none⟩) (Kd.S_far (p:=⟨aH,2,none⟩) (Kd.S_types (Kd.S_types a9.out aD.out (by decide)) aC.out (by decide)) (fun _ hk=>hk.1.2) (.slice aX aU.length aY)) (fun _ hk=>hk.2) (.slice aV aT.length aW)) (fun _ hk=>hk.2) (.int .i64 aG)) (fun _ hk=>hk.2) (.slice aX aU.length aY)) (fun _ hk=>trivial)),bL HB⟩⟩
/-! ### laws_eqCol: function 64 -/
def laws_eqCol.f (aA:ByteArray)(aC:Int)(aD:Int)(aE:Int)(aG:ByteArray)(aH:Int)(aI:Int)(aJ:Int):Option (Bool):=if aA.toList=aG.toList then (if aC=aH then (if aD=aI then (if aE=aJ then (some true) else (some false)) else (some false)) else (some false)) else (some false)
theorem laws_eqCol.calls {aC : ByteArray} {aD aE aG : Int} {aH : ByteArray} {aI aJ aK : Int} (r : Bool) {w : World} (h : laws_eqCol.f aC aD aE aG aH aI aJ aK = some true) :
    Calls Try.prog 64 #[.agg #[.string aC,.int .i64 aD,.int .i64 aE,.int .i64 aG],.agg #[.string aH,.int .i64 aI,.int .i64 aJ,.int .i64 aK]] w fun e w'=>e=.returned (.bool true)∧Below w.heap.size w w':=by
 have hu84:=Try.underlying84
 have HB:=am (Below.refl w.heap.size w)
 have H:=h;clear h;unfold laws_eqCol.f at H
 by_cases c3:aC.toList=aH.toList
 rotate_left
 · rw [if_neg c3] at H
   cases H
 rw [if_pos c3] at H
 have aZ:(aC.toList == aH.toList)=true:=beq_iff_eq.mpr c3
 have a6:(aC.toList != aH.toList)=false:=bne_eq_false_iff_eq.mpr c3
 clear c3
 by_cases c4:aD=aI
 rotate_left
 · rw [if_neg c4] at H
   cases H
 rw [if_pos c4] at H
 have a7:(aD == aI)=true:=beq_iff_eq.mpr c4
 have a8:(aD != aI)=false:=bne_eq_false_iff_eq.mpr c4
 clear c4
 by_cases c5:aE=aJ
 rotate_left
 · rw [if_neg c5] at H
   cases H
 rw [if_pos c5] at H
 have a9:(aE == aJ)=true:=beq_iff_eq.mpr c5
 have bA:(aE != aJ)=false:=bne_eq_false_iff_eq.mpr c5
 clear c5
 by_cases c6:aG=aK
 rotate_left
 · rw [if_neg c6] at H
   cases H
 rw [if_pos c6] at H
 have bB:(aG == aK)=true:=beq_iff_eq.mpr c6
 have bC:(aG != aK)=false:=bne_eq_false_iff_eq.mpr c6
 clear c6 H
 go_enter Try.func64,Try.ntmps64
 go_wp2_with (first | ((with_reducible refine gd 2 rfl ?_);refine bxw 2 rfl #[.string aC,.int .i64 aD,.int .i64 aE,.int .i64 aG] 84 HB ?_;clear HB;intro aT w7 aA aU aV HB) | ((with_reducible refine gd 3 rfl ?_);refine bxv 3 rfl #[.string aH,.int .i64 aI,.int .i64 aJ,.int .i64 aK] 84 HB ?_;clear HB;intro aW w8 aQ aX aY HB hg hb;obtain⟨aM,aN⟩:=nbp (nbl aA hg);replace aA:=bkb aA hb;clear hg hb;obtain⟨bD,bE⟩:=nbo aM;obtain⟨_,_,_,_,_,_,_,_⟩:=cl4 aA;obtain⟨_,_,_,_,_,_,_,_⟩:=cl4 aQ))
 go_ret
 exact fin_ (bL HB)
/-! ### laws_eqColS: function 38 -/
def laws_eqColS.l0:Nat→List (S84)→List (S84)→Int→Option (Bool)
  | 0,_,_,_=>none
  | k + 1,x0,x1,x5=>if x5 < (x0.length:Int) then (if 0≤x5 then (if x5 < (x1.length:Int) then ((laws_eqCol.f ((rd_T84 x0 x5).f0) ((rd_T84 x0 x5).f1) ((rd_T84 x0 x5).f2) ((rd_T84 x0 x5).f3) ((rd_T84 x1 x5).f0) ((rd_T84 x1 x5).f1) ((rd_T84 x1 x5).f2) ((rd_T84 x1 x5).f3)).bind fun aA=>(if aA=true then (laws_eqColS.l0 k x0 x1 (wrap64 (x5 + 1))) else (some false))) else (none)) else (none)) else (some true)
def laws_eqColS.f (k:Nat)(l0:List (S84))(l1:List (S84)):Option (Bool):=if (l0.length:Int)=(l1.length:Int) then (laws_eqColS.l0 k l0 l1 0) else (some false)
def laws_eqColS.T6:Bool × List (List Nat × List Nat):=(true,[([],[]),([],[]),([0,1],[0,1]),([2],[2]),([],[]),([],[]),([4,5],[4,5]),([6],[6]),([3,7],[3,7]),([8],[8])])
def laws_eqColS.B6:List Nat:=[0,0,3,7,0,0,48,112,255,511]
theorem laws_eqColS.tab6:rtab .any (opsOf Try.f38 6)=laws_eqColS.T6:=by kernel_rfl
theorem laws_eqColS.bits6:waitsOk laws_eqColS.T6.2 laws_eqColS.B6=true:=by kernel_rfl
theorem laws_eqColS.calls {k : Nat} {A0 : Option Addr} {c0 : Nat} {l0 : List (S84)} {A1 : Option Addr} {c1 : Nat} {l1 : List (S84)} (r : Bool) {w : World} (hr0 : Kd.C k84 w A0 l0.length l0) (bH : l0.length ≤ c0) (hr1 : Kd.C k84 w A1 l1.length l1) (bI : l1.length ≤ c1) (h : laws_eqColS.f k l0 l1 = some true) :
    Calls Try.prog 38 #[.slice A0 l0.length c0,.slice A1 l1.length c1] w fun e w'=>e=.returned (.bool true)∧Below w.heap.size w w':=by
 have hu84:=Try.underlying84
 have bK:=am hr0
 have bP:=am bH
 clear hr0 bH
 have bM:=am hr1
 have bQ:=am bI
 clear hr1 bI
 have HB:=am (Below.refl w.heap.size w)
 have H:=h;clear h;unfold laws_eqColS.f at H
 by_cases c3:(l0.length:Int)=(l1.length:Int)
 rotate_left
 · rw [if_neg c3] at H
   cases H
 rw [if_pos c3] at H
 have bA:((l0.length:Int) == (l1.length:Int))=true:=beq_iff_eq.mpr c3
 have bB:((l0.length:Int) != (l1.length:Int))=false:=bne_eq_false_iff_eq.mpr c3
 have bC:(l0.length == l1.length)=true:=by first | simpa using c3 | (simp at c3 ⊢;omega)
 clear c3
 have H':=am H;clear H
 go_enter Try.func38,Try.ntmps38
 go_wp2
 go_loopg [5] k (fun kq v5 w'=>∃ (aA:Int),v5=.int .i64 aA∧Aside0 (laws_eqColS.l0 kq l0 l1 aA=some true)∧Aside0 (kq≤k)∧Aside0 (Below w.heap.size w w'))
 case atStart=>exact⟨(0),sr,H',⟨Nat.le_refl _⟩,⟨bL HB⟩⟩
 clear H'
 try clear c1 c3 bA bB bC
 obtain⟨aA,rfl,HA,bJ,HB⟩:=hrel
 cases gk with
 | zero=>exact absurd HA.out (by simp [laws_eqColS.l0])
 | succ k1=>?_
 have H:=HA.out
 clear HA
 simp only [laws_eqColS.l0] at H
 replace H:=idc H;obtain⟨bD,H⟩ | ⟨bD,H⟩:=H
 rotate_left
 · clear H
   go_wp2
   go_ret
   exact fin_ (bL HB)
 replace H:=if_dd H;obtain⟨bN,bO,H⟩:=H
 replace H:=bnd H;obtain⟨bE,A7,H⟩:=H
 by_cases c8:bE=true
 rotate_left
 · replace c8:=Bool.eq_false_iff.mpr c8
   subst c8
   have H1:(some false)=some true:=by rw [if_neg (show ¬ (false=true) by decide)] at H;exact H
   cases H1
 subst c8
 replace H:=ifp rfl H
 have H':=am H;clear H
 try go_wp2
 replace HB:=bld HB
 have a6:0≤(aA:Int):=dcd
 have a7:aA < (l0.length:Int):=dcd
 obtain⟨aM,bF,aC,aD,aE,aG⟩:=at_T84 bK.out aA a6 a7
 have aQ:=aG
 have aT:=aE
 have aU:=aD
 have aV:=aC
 cases bF
 replace aC:=crd HB aC
 replace aD:=crd HB aD
 replace aE:=crd HB aE
 replace aG:=crd HB aG
 replace a6:=eq_true a6
 replace a7:=eq_true a7
 have a8:0≤(aA:Int):=dcd
 have a9:aA < (l1.length:Int):=dcd
 obtain⟨aN,bG,aH,aI,aJ,aK⟩:=at_T84 bM.out aA a8 a9
 have aW:=aK
 have aX:=aJ
 have aY:=aI
 have aZ:=aH
 cases bG
 replace aH:=crd HB aH
 replace aI:=crd HB aI
 replace aJ:=crd HB aJ
 replace aK:=crd HB aK
 replace a8:=eq_true a8
 replace a9:=eq_true a9
 refine start_ (n:=10) (S:=fun w'=>w'.cell? (aM.add ((aA).toNat * 4))=some (.string ((rd_T84 l0 aA).f0))∧w'.cell? ⟨(aM.add ((aA).toNat * 4)).block,(aM.add ((aA).toNat * 4)).off + 1,none⟩=some (.int .i64 ((rd_T84 l0 aA).f1))∧w'.cell? ⟨(aM.add ((aA).toNat * 4)).block,(aM.add ((aA).toNat * 4)).off + 2,none⟩=some (.int .i64 ((rd_T84 l0 aA).f2))∧w'.cell? ⟨(aM.add ((aA).toNat * 4)).block,(aM.add ((aA).toNat * 4)).off + 3,none⟩=some (.int .i64 ((rd_T84 l0 aA).f3))∧w'.cell? (aN.add ((aA).toNat * 4))=some (.string ((rd_T84 l1 aA).f0))∧w'.cell? ⟨(aN.add ((aA).toNat * 4)).block,(aN.add ((aA).toNat * 4)).off + 1,none⟩=some (.int .i64 ((rd_T84 l1 aA).f1))∧w'.cell? ⟨(aN.add ((aA).toNat * 4)).block,(aN.add ((aA).toNat * 4)).off + 2,none⟩=some (.int .i64 ((rd_T84 l1 aA).f2))∧w'.cell? ⟨(aN.add ((aA).toNat * 4)).block,(aN.add ((aA).toNat * 4)).off + 3,none⟩=some (.int .i64 ((rd_T84 l1 aA).f3))) (ds:=[]) #[false,false,false,false,false,false,false,false,false,false] (by kernel_rfl) rfl rfl ⟨crd HB aV,crd HB aU,crd HB aT,crd HB aQ,crd HB aZ,crd HB aY,crd HB aX,crd HB aW⟩ (fun hHeld=>?_);refine with_tabW laws_eqColS.tab6 laws_eqColS.bits6 (fun HT_ HW_=>?_)
 generalize wr.drew=w9 at HB aC aD aE aG aH aI aJ aK hHeld ⊢
 refine pu_ 0 17 ?_;refine pu_ 1 18 ?_;refine pu_ 2 19 ?_;refine pu_ 4 21 ?_;refine pu_ 5 22 ?_;refine pu_ 6 23 ?_;refine tk_ 3 20 hHeld ?_;refine tk_ 7 24 hHeld ?_
 refine on_ 8 25 (fun K hK=>?_)
 refine gs_ Try.func64 #[.agg #[.string ((rd_T84 l0 aA).f0),.int .i64 ((rd_T84 l0 aA).f1),.int .i64 ((rd_T84 l0 aA).f2),.int .i64 ((rd_T84 l0 aA).f3)],.agg #[.string ((rd_T84 l1 aA).f0),.int .i64 ((rd_T84 l1 aA).f1),.int .i64 ((rd_T84 l1 aA).f2),.int .i64 ((rd_T84 l1 aA).f3)]] rfl ?_
 with_reducible refine (laws_eqCol.calls true A7.out).mono ?_
 rintro e bR ⟨rfl,hb⟩
 refine⟨_,rfl,?_⟩
 replace HB:=bst HB hb
 (try clear hb)
 (try clear bS)
 (try clear hk)
 (try clear hi)
 refine hK.out _ _ ⟨crd HB aV,crd HB aU,crd HB aT,crd HB aQ,crd HB aZ,crd HB aY,crd HB aX,crd HB aW⟩ (fun hHeld=>?_)
 clear hK K
 refine no_ (some 25) ?_;refine pu_ 9 26 ?_
 refine done_ (done_of HT_.out (by kernel_rfl)) ?_
 try go_wp2
 go_roundg k1
 case measure=>have:=bJ.out;omega
 case rel=>exact⟨(wrap64 (aA + 1)),sr,H',⟨by have:=bJ.out;omega⟩,⟨bL HB⟩⟩
/-! ### laws_eqIntS: function 107 -/
def laws_eqIntS.l0:Nat→List Int→List Int→Int→Option (Bool)
  | 0,_,_,_=>none
  | k + 1,x0,x1,x5=>if x5 < (x0.length:Int) then (if 0≤x5 then (if x5 < (x1.length:Int) then (if (rd x0 x5)=(rd x1 x5) then (laws_eqIntS.l0 k x0 x1 (wrap64 (x5 + 1))) else (some false)) else (none)) else (none)) else (some true)
def laws_eqIntS.f (k:Nat)(l0:List Int)(l1:List Int):Option (Bool):=if (l0.length:Int)=(l1.length:Int) then (laws_eqIntS.l0 k l0 l1 0) else (some false)
theorem laws_eqIntS.calls {k : Nat} {A0 : Option Addr} {c0 : Nat} {l0 : List Int} {A1 : Option Addr} {c1 : Nat} {l1 : List Int} (r : Bool) {w : World} (hr0 : Kd.C (Kd.int .i64) w A0 l0.length l0) (aU : l0.length ≤ c0) (hr1 : Kd.C (Kd.int .i64) w A1 l1.length l1) (aV : l1.length ≤ c1) (h : laws_eqIntS.f k l0 l1 = some true) :
    Calls Try.prog 107 #[.slice A0 l0.length c0,.slice A1 l1.length c1] w fun e w'=>e=.returned (.bool true)∧Drawn0 w w':=by
 have aZ:=am hr0
 have bB:=am aU
 clear hr0 aU
 have a6:=am hr1
 have bC:=am aV
 clear hr1 aV
 have H:=h;clear h;unfold laws_eqIntS.f at H
 by_cases c3:(l0.length:Int)=(l1.length:Int)
 rotate_left
 · rw [if_neg c3] at H
   cases H
 rw [if_pos c3] at H
 have aJ:((l0.length:Int) == (l1.length:Int))=true:=beq_iff_eq.mpr c3
 have aK:((l0.length:Int) != (l1.length:Int))=false:=bne_eq_false_iff_eq.mpr c3
 have aM:(l0.length == l1.length)=true:=by first | simpa using c3 | (simp at c3 ⊢;omega)
 clear c3
 have H':=am H;clear H
 go_enter Try.func107,Try.ntmps107
 go_wp2
 repeat (go_quiet (fail);try go_wp2)
 go_loopg [5] k (fun kq v5 w'=>∃ (aA:Int),v5=.int .i64 aA∧Aside0 (laws_eqIntS.l0 kq l0 l1 aA=some true)∧Aside0 (kq≤k)∧Drawn0 w w')
 case atStart=>exact⟨(0),sr,H',⟨Nat.le_refl _⟩,by repeat (first | exact Drawn0.refl _ | apply Drawn0.step)⟩
 clear H'
 try clear c1 c3 aJ aK aM
 obtain⟨aA,rfl,HA,aW,⟨m1,rfl⟩⟩:=hrel
 cases gk with
 | zero=>exact absurd HA.out (by simp [laws_eqIntS.l0])
 | succ k1=>?_
 have H:=HA.out
 clear HA
 simp only [laws_eqIntS.l0] at H
 replace H:=idc H;obtain⟨aN,H⟩ | ⟨aN,H⟩:=H
 rotate_left
 · clear H
   go_wp2
   repeat (go_quiet (fail);try go_wp2)
   go_ret
   exact⟨sr,drl⟩
 replace H:=if_dd H;obtain⟨a7,a8,H⟩:=H
 by_cases c7:(rd l0 aA)=(rd l1 aA)
 rotate_left
 · rw [if_neg c7] at H
   cases H
 rw [if_pos c7] at H
 have a9:((rd l0 aA) == (rd l1 aA))=true:=beq_iff_eq.mpr c7
 have bA:((rd l0 aA) != (rd l1 aA))=false:=bne_eq_false_iff_eq.mpr c7
 clear c7
 have H':=am H;clear H
 have aC:0≤(aA:Int):=dcd
 have aD:aA < (l0.length:Int):=dcd
 obtain⟨aX,aQ,aH⟩:=Kd.at_int aZ.out aA aC aD
 cases aQ
 replace aC:=eq_true aC
 replace aD:=eq_true aD
 have aE:0≤(aA:Int):=dcd
 have aG:aA < (l1.length:Int):=dcd
 obtain⟨aY,aT,aI⟩:=Kd.at_int a6.out aA aE aG
 cases aT
 replace aE:=eq_true aE
 replace aG:=eq_true aG
 go_wp2
 repeat (go_quiet (fail);try go_wp2)
 go_roundg k1
 case measure=>have:=aW.out;omega
 case rel=>exact⟨(wrap64 (aA + 1)),sr,H',⟨by have:=aW.out;omega⟩,by repeat (first | exact Drawn0.refl _ | apply Drawn0.step)⟩
/-! ### laws_eqChunk: function 97 -/
def laws_eqChunk.f (k:Nat)(aA:Int)(aC:Int)(aD:Int)(aE:Int)(aG:Int)(aH:List Int)(aI:Int)(aJ:Int)(aK:Int)(aM:Int)(aN:Int)(aQ:List Int):Option (Bool):=if aA=aI then (if aC=aJ then (if aD=aK then (if aE=aM then (if aG=aN then ((laws_eqIntS.f k aH aQ).bind fun aT=>(if aT=true then (some true) else (some false))) else (some false)) else (some false)) else (some false)) else (some false)) else (some false)
theorem laws_eqChunk.calls {k : Nat} {aE aG aH aI aJ : Int} {aV : Option Addr} {aW : Nat} {aA : List Int} {aK aM aN aQ aT : Int} {aX : Option Addr} {aY : Nat} {aC : List Int} (r : Bool) {w : World} (hr0_5 : Kd.C (Kd.int .i64) w aV aA.length aA) (aZ : aA.length ≤ aW) (hr1_5 : Kd.C (Kd.int .i64) w aX aC.length aC) (a6 : aC.length ≤ aY) (h : laws_eqChunk.f k aE aG aH aI aJ aA aK aM aN aQ aT aC = some true) :
    Calls Try.prog 97 #[.agg #[.int .i64 aE,.int .i64 aG,.int .i64 aH,.int .i64 aI,.int .i64 aJ,.slice aV aA.length aW],.agg #[.int .i64 aK,.int .i64 aM,.int .i64 aN,.int .i64 aQ,.int .i64 aT,.slice aX aC.length aY]] w fun e w'=>e=.returned (.bool true)∧Below w.heap.size w w':=by
 have hu58:=Try.underlying58
 have a8:=am hr0_5
 have a9:=am aZ
 clear hr0_5 aZ
 have bA:=am hr1_5
 have bB:=am a6
 clear hr1_5 a6
 have HB:=am (Below.refl w.heap.size w)
 have H:=h;clear h;unfold laws_eqChunk.f at H
 by_cases c3:aE=aK
 rotate_left
 · rw [if_neg c3] at H
   cases H
 rw [if_pos c3] at H
 have bN:(aE == aK)=true:=beq_iff_eq.mpr c3
 have bO:(aE != aK)=false:=bne_eq_false_iff_eq.mpr c3
 clear c3
 by_cases c4:aG=aM
 rotate_left
 · rw [if_neg c4] at H
   cases H
 rw [if_pos c4] at H
 have bP:(aG == aM)=true:=beq_iff_eq.mpr c4
 have bQ:(aG != aM)=false:=bne_eq_false_iff_eq.mpr c4
 clear c4
 by_cases c5:aH=aN
 rotate_left
 · rw [if_neg c5] at H
   cases H
 rw [if_pos c5] at H
 have bR:(aH == aN)=true:=beq_iff_eq.mpr c5
 have bS:(aH != aN)=false:=bne_eq_false_iff_eq.mpr c5
 clear c5
 by_cases c6:aI=aQ
 rotate_left
 · rw [if_neg c6] at H
   cases H
 rw [if_pos c6] at H
 have bT:(aI == aQ)=true:=beq_iff_eq.mpr c6
 have bU:(aI != aQ)=false:=bne_eq_false_iff_eq.mpr c6
 clear c6
 by_cases c7:aJ=aT
 rotate_left
 · rw [if_neg c7] at H
   cases H
 rw [if_pos c7] at H
 have bV:(aJ == aT)=true:=beq_iff_eq.mpr c7
 have bW:(aJ != aT)=false:=bne_eq_false_iff_eq.mpr c7
 clear c7
 replace H:=bnd H;obtain⟨bD,A8,H⟩:=H
 by_cases c9:bD=true
 rotate_left
 · replace c9:=Bool.eq_false_iff.mpr c9
   subst c9
   have H1:(some false)=some true:=by rw [if_neg (show ¬ (false=true) by decide)] at H;exact H
   cases H1
 subst c9
 replace H:=ifp rfl H
 clear H
 go_enter Try.func97,Try.ntmps97
 go_wp2_with (first | ((with_reducible refine gd 2 rfl ?_);refine bxw 2 rfl #[.int .i64 aE,.int .i64 aG,.int .i64 aH,.int .i64 aI,.int .i64 aJ,.slice aV aA.length aW] 58 HB ?_;clear HB;intro bE bX aD bF bG HB) | ((with_reducible refine gd 3 rfl ?_);refine bxv 3 rfl #[.int .i64 aK,.int .i64 aM,.int .i64 aN,.int .i64 aQ,.int .i64 aT,.slice aX aC.length aY] 58 HB ?_;clear HB;intro bH bY bC bI bJ HB hg hb;obtain⟨aU,a7⟩:=nbp (nbl aD hg);replace aD:=bkb aD hb;clear hg hb;obtain⟨bK,bM⟩:=nbo aU;obtain⟨_,_,_,_,_,_,_,_,_,_,_,_⟩:=cl6 aD;obtain⟨_,_,_,_,_,_,_,_,_,_,_,_⟩:=cl6 bC) | ((with_reducible refine gc 107 rfl ?_);refine gl_ (some 34) Try.func107 #[.slice aV aA.length aW,.slice aX aC.length aY] rfl ?_;(with_reducible refine (laws_eqIntS.calls true ?side1 ?side2 ?side3 ?side4 A8.out).mono ?_);(case side1=>exact cL a8 HB);(case side2=>exact a9.out);(case side3=>exact cL bA HB);(case side4=>exact bB.out);rintro e w' ⟨rfl,⟨nd,rfl⟩⟩;refine⟨_,rfl,?_⟩))
 go_ret
 exact fin_ (bL HB)
/-! ### laws_eqChunkS: function 80 -/
def laws_eqChunkS.l0:Nat→List (S58)→List (S58)→Int→Option (Bool)
  | 0,_,_,_=>none
  | k + 1,x0,x1,x5=>if x5 < (x0.length:Int) then (if 0≤x5 then (if x5 < (x1.length:Int) then ((laws_eqChunk.f k ((rd_T58 x0 x5).f0) ((rd_T58 x0 x5).f1) ((rd_T58 x0 x5).f2) ((rd_T58 x0 x5).f3) ((rd_T58 x0 x5).f4) ((rd_T58 x0 x5).f5) ((rd_T58 x1 x5).f0) ((rd_T58 x1 x5).f1) ((rd_T58 x1 x5).f2) ((rd_T58 x1 x5).f3) ((rd_T58 x1 x5).f4) ((rd_T58 x1 x5).f5)).bind fun aA=>(if aA=true then (laws_eqChunkS.l0 k x0 x1 (wrap64 (x5 + 1))) else (some false))) else (none)) else (none)) else (some true)
def laws_eqChunkS.f (k:Nat)(l0:List (S58))(l1:List (S58)):Option (Bool):=if (l0.length:Int)=(l1.length:Int) then (laws_eqChunkS.l0 k l0 l1 0) else (some false)
def laws_eqChunkS.T6:Bool × List (List Nat × List Nat):=(true,[([],[]),([],[]),([0,1],[0,1]),([2],[2]),([],[]),([],[]),([4,5],[4,5]),([6],[6]),([3,7],[3,7]),([8],[8])])
def laws_eqChunkS.B6:List Nat:=[0,0,3,7,0,0,48,112,255,511]
theorem laws_eqChunkS.tab6:rtab .any (opsOf Try.f80 6)=laws_eqChunkS.T6:=by kernel_rfl
theorem laws_eqChunkS.bits6:waitsOk laws_eqChunkS.T6.2 laws_eqChunkS.B6=true:=by kernel_rfl
theorem laws_eqChunkS.calls {k : Nat} {A0 : Option Addr} {c0 : Nat} {l0 : List (S58)} {A1 : Option Addr} {c1 : Nat} {l1 : List (S58)} (r : Bool) {w : World} (hr0 : Kd.C k58 w A0 l0.length l0) (b8 : l0.length ≤ c0) (hr1 : Kd.C k58 w A1 l1.length l1) (b9 : l1.length ≤ c1) (h : laws_eqChunkS.f k l0 l1 = some true) :
    Calls Try.prog 80 #[.slice A0 l0.length c0,.slice A1 l1.length c1] w fun e w'=>e=.returned (.bool true)∧Below w.heap.size w w':=by
 have hu58:=Try.underlying58
 have cB:=am hr0
 have cF:=am b8
 clear hr0 b8
 have cC:=am hr1
 have cG:=am b9
 clear hr1 b9
 have HB:=am (Below.refl w.heap.size w)
 have H:=h;clear h;unfold laws_eqChunkS.f at H
 by_cases c3:(l0.length:Int)=(l1.length:Int)
 rotate_left
 · rw [if_neg c3] at H
   cases H
 rw [if_pos c3] at H
 have bV:((l0.length:Int) == (l1.length:Int))=true:=beq_iff_eq.mpr c3
 have bW:((l0.length:Int) != (l1.length:Int))=false:=bne_eq_false_iff_eq.mpr c3
 have bX:(l0.length == l1.length)=true:=by first | simpa using c3 | (simp at c3 ⊢;omega)
 clear c3
 have H':=am H;clear H
 go_enter Try.func80,Try.ntmps80
 go_wp2
 go_loopg [5] k (fun kq v5 w'=>∃ (aA:Int),v5=.int .i64 aA∧Aside0 (laws_eqChunkS.l0 kq l0 l1 aA=some true)∧Aside0 (kq≤k)∧Aside0 (Below w.heap.size w w'))
 case atStart=>exact⟨(0),sr,H',⟨Nat.le_refl _⟩,⟨bL HB⟩⟩
 clear H'
 try clear c1 c3 bV bW bX
 obtain⟨aA,rfl,HA,cA,HB⟩:=hrel
 cases gk with
 | zero=>exact absurd HA.out (by simp [laws_eqChunkS.l0])
 | succ k1=>?_
 have H:=HA.out
 clear HA
 simp only [laws_eqChunkS.l0] at H
 replace H:=idc H;obtain⟨bY,H⟩ | ⟨bY,H⟩:=H
 rotate_left
 · clear H
   go_wp2
   go_ret
   exact fin_ (bL HB)
 replace H:=if_dd H;obtain⟨cD,cE,H⟩:=H
 replace H:=bnd H;obtain⟨bZ,A7,H⟩:=H
 by_cases c8:bZ=true
 rotate_left
 · replace c8:=Bool.eq_false_iff.mpr c8
   subst c8
   have H1:(some false)=some true:=by rw [if_neg (show ¬ (false=true) by decide)] at H;exact H
   cases H1
 subst c8
 replace H:=ifp rfl H
 have H':=am H;clear H
 try go_wp2
 replace HB:=bld HB
 have bR:0≤(aA:Int):=dcd
 have bS:aA < (l0.length:Int):=dcd
 obtain⟨aC,bK,bM,b6,aE,aG,aH,aI,aJ,aK,aW,aX⟩:=at_T58 cB.out aA bR bS
 have aY:=aK
 have aZ:=aJ
 have a6:=aI
 have a7:=aH
 have a8:=aG
 have a9:=aE
 cases b6
 replace aE:=crd HB aE
 replace aG:=crd HB aG
 replace aH:=crd HB aH
 replace aI:=crd HB aI
 replace aJ:=crd HB aJ
 replace aK:=crd HB aK
 have bA:=am aX
 have bP:=am aW
 clear aX aW
 replace bR:=eq_true bR
 replace bS:=eq_true bS
 have bT:0≤(aA:Int):=dcd
 have bU:aA < (l1.length:Int):=dcd
 obtain⟨aD,bN,bO,b7,aM,aN,aQ,aT,aU,aV,bB,bC⟩:=at_T58 cC.out aA bT bU
 have bD:=aV
 have bE:=aU
 have bF:=aT
 have bG:=aQ
 have bH:=aN
 have bI:=aM
 cases b7
 replace aM:=crd HB aM
 replace aN:=crd HB aN
 replace aQ:=crd HB aQ
 replace aT:=crd HB aT
 replace aU:=crd HB aU
 replace aV:=crd HB aV
 have bJ:=am bC
 have bQ:=am bB
 clear bC bB
 replace bT:=eq_true bT
 replace bU:=eq_true bU
 refine start_ (n:=10) (S:=fun w'=>w'.cell? (aC.add ((aA).toNat * 6))=some (.int .i64 ((rd_T58 l0 aA).f0))∧w'.cell? ⟨(aC.add ((aA).toNat * 6)).block,(aC.add ((aA).toNat * 6)).off + 1,none⟩=some (.int .i64 ((rd_T58 l0 aA).f1))∧w'.cell? ⟨(aC.add ((aA).toNat * 6)).block,(aC.add ((aA).toNat * 6)).off + 2,none⟩=some (.int .i64 ((rd_T58 l0 aA).f2))∧w'.cell? ⟨(aC.add ((aA).toNat * 6)).block,(aC.add ((aA).toNat * 6)).off + 3,none⟩=some (.int .i64 ((rd_T58 l0 aA).f3))∧w'.cell? ⟨(aC.add ((aA).toNat * 6)).block,(aC.add ((aA).toNat * 6)).off + 4,none⟩=some (.int .i64 ((rd_T58 l0 aA).f4))∧w'.cell? ⟨(aC.add ((aA).toNat * 6)).block,(aC.add ((aA).toNat * 6)).off + 5,none⟩=some (.slice bK ((rd_T58 l0 aA).f5).length bM)∧w'.cell? (aD.add ((aA).toNat * 6))=some (.int .i64 ((rd_T58 l1 aA).f0))∧w'.cell? ⟨(aD.add ((aA).toNat * 6)).block,(aD.add ((aA).toNat * 6)).off + 1,none⟩=some (.int .i64 ((rd_T58 l1 aA).f1))∧w'.cell? ⟨(aD.add ((aA).toNat * 6)).block,(aD.add ((aA).toNat * 6)).off + 2,none⟩=some (.int .i64 ((rd_T58 l1 aA).f2))∧w'.cell? ⟨(aD.add ((aA).toNat * 6)).block,(aD.add ((aA).toNat * 6)).off + 3,none⟩=some (.int .i64 ((rd_T58 l1 aA).f3))∧w'.cell? ⟨(aD.add ((aA).toNat * 6)).block,(aD.add ((aA).toNat * 6)).off + 4,none⟩=some (.int .i64 ((rd_T58 l1 aA).f4))∧w'.cell? ⟨(aD.add ((aA).toNat * 6)).block,(aD.add ((aA).toNat * 6)).off + 5,none⟩=some (.slice bN ((rd_T58 l1 aA).f5).length bO)) (ds:=[]) #[false,false,false,false,false,false,false,false,false,false] (by kernel_rfl) rfl rfl ⟨crd HB a9,crd HB a8,crd HB a7,crd HB a6,crd HB aZ,crd HB aY,crd HB bI,crd HB bH,crd HB bG,crd HB bF,crd HB bE,crd HB bD⟩ (fun hHeld=>?_);refine with_tabW laws_eqChunkS.tab6 laws_eqChunkS.bits6 (fun HT_ HW_=>?_)
 generalize wr.drew=w9 at HB bA bJ aE aG aH aI aJ aK aM aN aQ aT aU aV hHeld ⊢
 refine pu_ 0 17 ?_;refine pu_ 1 18 ?_;refine pu_ 2 19 ?_;refine pu_ 4 21 ?_;refine pu_ 5 22 ?_;refine pu_ 6 23 ?_;refine tk_ 3 20 hHeld ?_;refine tk_ 7 24 hHeld ?_
 refine on_ 8 25 (fun K hK=>?_)
 refine gs_ Try.func97 #[.agg #[.int .i64 ((rd_T58 l0 aA).f0),.int .i64 ((rd_T58 l0 aA).f1),.int .i64 ((rd_T58 l0 aA).f2),.int .i64 ((rd_T58 l0 aA).f3),.int .i64 ((rd_T58 l0 aA).f4),.slice bK ((rd_T58 l0 aA).f5).length bM],.agg #[.int .i64 ((rd_T58 l1 aA).f0),.int .i64 ((rd_T58 l1 aA).f1),.int .i64 ((rd_T58 l1 aA).f2),.int .i64 ((rd_T58 l1 aA).f3),.int .i64 ((rd_T58 l1 aA).f4),.slice bN ((rd_T58 l1 aA).f5).length bO]] rfl ?_
 with_reducible refine (laws_eqChunk.calls true ?side1 ?side2 ?side3 ?side4 A7.out).mono ?_
 (case side1=>exact cL bA HB)
 (case side2=>exact bP.out)
 (case side3=>exact cL bJ HB)
 (case side4=>exact bQ.out)
 rintro e cH ⟨rfl,hb⟩
 refine⟨_,rfl,?_⟩
 replace HB:=bst HB hb
 (try clear hb)
 (try clear cI)
 (try clear hk)
 (try clear hi)
 refine hK.out _ _ ⟨crd HB a9,crd HB a8,crd HB a7,crd HB a6,crd HB aZ,crd HB aY,crd HB bI,crd HB bH,crd HB bG,crd HB bF,crd HB bE,crd HB bD⟩ (fun hHeld=>?_)
 clear hK K
 refine no_ (some 25) ?_;refine pu_ 9 26 ?_
 refine done_ (done_of HT_.out (by kernel_rfl)) ?_
 try go_wp2
 go_roundg k1
 case measure=>have:=cA.out;omega
 case rel=>exact⟨(wrap64 (aA + 1)),sr,H',⟨by have:=cA.out;omega⟩,⟨bL HB⟩⟩
/-! ### laws_eqGroupMeta: function 65 -/
def laws_eqGroupMeta.f (k:Nat)(aA:Int)(aC:List (S58))(aD:Int)(aE:List (S58)):Option (Bool):=if aA=aD then ((laws_eqChunkS.f k aC aE).bind fun aG=>(if aG=true then (some true) else (some false))) else (some false)
theorem laws_eqGroupMeta.calls {k : Nat} {aE : Int} {aJ : Option Addr} {aK : Nat} {aC : List (S58)} {aG : Int} {aM : Option Addr} {aN : Nat} {aD : List (S58)} (r : Bool) {w : World} (hr0_1 : Kd.C k58 w aJ aC.length aC) (aQ : aC.length ≤ aK) (hr1_1 : Kd.C k58 w aM aD.length aD) (aT : aD.length ≤ aN) (h : laws_eqGroupMeta.f k aE aC aG aD = some true) :
    Calls Try.prog 65 #[.agg #[.int .i64 aE,.slice aJ aC.length aK],.agg #[.int .i64 aG,.slice aM aD.length aN]] w fun e w'=>e=.returned (.bool true)∧Below w.heap.size w w':=by
 have hu54:=Try.underlying54
 have aV:=am hr0_1
 have aW:=am aQ
 clear hr0_1 aQ
 have aX:=am hr1_1
 have aY:=am aT
 clear hr1_1 aT
 have HB:=am (Below.refl w.heap.size w)
 have H:=h;clear h;unfold laws_eqGroupMeta.f at H
 by_cases c3:aE=aG
 rotate_left
 · rw [if_neg c3] at H
   cases H
 rw [if_pos c3] at H
 have bC:(aE == aG)=true:=beq_iff_eq.mpr c3
 have bD:(aE != aG)=false:=bne_eq_false_iff_eq.mpr c3
 clear c3
 replace H:=bnd H;obtain⟨aZ,A4,H⟩:=H
 by_cases c5:aZ=true
 rotate_left
 · replace c5:=Bool.eq_false_iff.mpr c5
   subst c5
   have H1:(some false)=some true:=by rw [if_neg (show ¬ (false=true) by decide)] at H;exact H
   cases H1
 subst c5
 replace H:=ifp rfl H
 clear H
 go_enter Try.func65,Try.ntmps65
 go_wp2_with (first | ((with_reducible refine gd 2 rfl ?_);refine bxw 2 rfl #[.int .i64 aE,.slice aJ aC.length aK] 54 HB ?_;clear HB;intro a6 w6 aA a7 a8 HB) | ((with_reducible refine gd 3 rfl ?_);refine bxv 3 rfl #[.int .i64 aG,.slice aM aD.length aN] 54 HB ?_;clear HB;intro a9 w7 aI bA bB HB hg hb;obtain⟨aH,aU⟩:=nbp (nbl aA hg);replace aA:=bkb aA hb;clear hg hb;obtain⟨bE,bF⟩:=nbo aH;obtain⟨_,_,_,_⟩:=cl2 aA;obtain⟨_,_,_,_⟩:=cl2 aI) | ((with_reducible refine gc 80 rfl ?_);refine gl_ (some 14) Try.func80 #[.slice aJ aC.length aK,.slice aM aD.length aN] rfl ?_;(with_reducible refine (laws_eqChunkS.calls true ?side1 ?side2 ?side3 ?side4 A4.out).mono ?_);(case side1=>exact cL aV HB);(case side2=>exact aW.out);(case side3=>exact cL aX HB);(case side4=>exact aY.out);rintro e bG ⟨rfl,hb⟩;refine⟨_,rfl,?_⟩;replace aA:=bkb aA hb;replace aI:=bkb aI hb;replace HB:=bst HB hb;clear hb))
 go_ret
 exact fin_ (bL HB)
/-! ### laws_eqGroupMetaS: function 39 -/
def laws_eqGroupMetaS.l0:Nat→List (S54)→List (S54)→Int→Option (Bool)
  | 0,_,_,_=>none
  | k + 1,x0,x1,x5=>if x5 < (x0.length:Int) then (if 0≤x5 then (if x5 < (x1.length:Int) then ((laws_eqGroupMeta.f k ((rd_T54 x0 x5).f0) ((rd_T54 x0 x5).f1) ((rd_T54 x1 x5).f0) ((rd_T54 x1 x5).f1)).bind fun aA=>(if aA=true then (laws_eqGroupMetaS.l0 k x0 x1 (wrap64 (x5 + 1))) else (some false))) else (none)) else (none)) else (some true)
def laws_eqGroupMetaS.f (k:Nat)(l0:List (S54))(l1:List (S54)):Option (Bool):=if (l0.length:Int)=(l1.length:Int) then (laws_eqGroupMetaS.l0 k l0 l1 0) else (some false)
def laws_eqGroupMetaS.T6:Bool × List (List Nat × List Nat):=(true,[([],[]),([],[]),([0,1],[0,1]),([2],[2]),([],[]),([],[]),([4,5],[4,5]),([6],[6]),([3,7],[3,7]),([8],[8])])
def laws_eqGroupMetaS.B6:List Nat:=[0,0,3,7,0,0,48,112,255,511]
theorem laws_eqGroupMetaS.tab6:rtab .any (opsOf Try.f39 6)=laws_eqGroupMetaS.T6:=by kernel_rfl
theorem laws_eqGroupMetaS.bits6:waitsOk laws_eqGroupMetaS.T6.2 laws_eqGroupMetaS.B6=true:=by kernel_rfl
theorem laws_eqGroupMetaS.calls {k : Nat} {A0 : Option Addr} {c0 : Nat} {l0 : List (S54)} {A1 : Option Addr} {c1 : Nat} {l1 : List (S54)} (r : Bool) {w : World} (hr0 : Kd.C k54 w A0 l0.length l0) (bM : l0.length ≤ c0) (hr1 : Kd.C k54 w A1 l1.length l1) (bN : l1.length ≤ c1) (h : laws_eqGroupMetaS.f k l0 l1 = some true) :
    Calls Try.prog 39 #[.slice A0 l0.length c0,.slice A1 l1.length c1] w fun e w'=>e=.returned (.bool true)∧Below w.heap.size w w':=by
 have hu54:=Try.underlying54
 have bP:=am hr0
 have bT:=am bM
 clear hr0 bM
 have bQ:=am hr1
 have bU:=am bN
 clear hr1 bN
 have HB:=am (Below.refl w.heap.size w)
 have H:=h;clear h;unfold laws_eqGroupMetaS.f at H
 by_cases c3:(l0.length:Int)=(l1.length:Int)
 rotate_left
 · rw [if_neg c3] at H
   cases H
 rw [if_pos c3] at H
 have bE:((l0.length:Int) == (l1.length:Int))=true:=beq_iff_eq.mpr c3
 have bF:((l0.length:Int) != (l1.length:Int))=false:=bne_eq_false_iff_eq.mpr c3
 have bG:(l0.length == l1.length)=true:=by first | simpa using c3 | (simp at c3 ⊢;omega)
 clear c3
 have H':=am H;clear H
 go_enter Try.func39,Try.ntmps39
 go_wp2
 go_loopg [5] k (fun kq v5 w'=>∃ (aA:Int),v5=.int .i64 aA∧Aside0 (laws_eqGroupMetaS.l0 kq l0 l1 aA=some true)∧Aside0 (kq≤k)∧Aside0 (Below w.heap.size w w'))
 case atStart=>exact⟨(0),sr,H',⟨Nat.le_refl _⟩,⟨bL HB⟩⟩
 clear H'
 try clear c1 c3 bE bF bG
 obtain⟨aA,rfl,HA,bO,HB⟩:=hrel
 cases gk with
 | zero=>exact absurd HA.out (by simp [laws_eqGroupMetaS.l0])
 | succ k1=>?_
 have H:=HA.out
 clear HA
 simp only [laws_eqGroupMetaS.l0] at H
 replace H:=idc H;obtain⟨bH,H⟩ | ⟨bH,H⟩:=H
 rotate_left
 · clear H
   go_wp2
   go_ret
   exact fin_ (bL HB)
 replace H:=if_dd H;obtain⟨bR,bS,H⟩:=H
 replace H:=bnd H;obtain⟨bI,A7,H⟩:=H
 by_cases c8:bI=true
 rotate_left
 · replace c8:=Bool.eq_false_iff.mpr c8
   subst c8
   have H1:(some false)=some true:=by rw [if_neg (show ¬ (false=true) by decide)] at H;exact H
   cases H1
 subst c8
 replace H:=ifp rfl H
 have H':=am H;clear H
 try go_wp2
 replace HB:=bld HB
 have bA:0≤(aA:Int):=dcd
 have bB:aA < (l0.length:Int):=dcd
 obtain⟨aW,aX,aY,bJ,aC,aD,aH,aI⟩:=at_T54 bP.out aA bA bB
 have aJ:=aD
 have aK:=aC
 cases bJ
 replace aC:=crd HB aC
 replace aD:=crd HB aD
 have aM:=am aI
 have a8:=am aH
 clear aI aH
 replace bA:=eq_true bA
 replace bB:=eq_true bB
 have bC:0≤(aA:Int):=dcd
 have bD:aA < (l1.length:Int):=dcd
 obtain⟨aZ,a6,a7,bK,aE,aG,aN,aQ⟩:=at_T54 bQ.out aA bC bD
 have aT:=aG
 have aU:=aE
 cases bK
 replace aE:=crd HB aE
 replace aG:=crd HB aG
 have aV:=am aQ
 have a9:=am aN
 clear aQ aN
 replace bC:=eq_true bC
 replace bD:=eq_true bD
 refine start_ (n:=10) (S:=fun w'=>w'.cell? (aW.add ((aA).toNat * 2))=some (.int .i64 ((rd_T54 l0 aA).f0))∧w'.cell? ⟨(aW.add ((aA).toNat * 2)).block,(aW.add ((aA).toNat * 2)).off + 1,none⟩=some (.slice aX ((rd_T54 l0 aA).f1).length aY)∧w'.cell? (aZ.add ((aA).toNat * 2))=some (.int .i64 ((rd_T54 l1 aA).f0))∧w'.cell? ⟨(aZ.add ((aA).toNat * 2)).block,(aZ.add ((aA).toNat * 2)).off + 1,none⟩=some (.slice a6 ((rd_T54 l1 aA).f1).length a7)) (ds:=[]) #[false,false,false,false,false,false,false,false,false,false] (by kernel_rfl) rfl rfl ⟨crd HB aK,crd HB aJ,crd HB aU,crd HB aT⟩ (fun hHeld=>?_);refine with_tabW laws_eqGroupMetaS.tab6 laws_eqGroupMetaS.bits6 (fun HT_ HW_=>?_)
 generalize wr.drew=w9 at HB aM aV aC aD aE aG hHeld ⊢
 refine pu_ 0 17 ?_;refine pu_ 1 18 ?_;refine pu_ 2 19 ?_;refine pu_ 4 21 ?_;refine pu_ 5 22 ?_;refine pu_ 6 23 ?_;refine tk_ 3 20 hHeld ?_;refine tk_ 7 24 hHeld ?_
 refine on_ 8 25 (fun K hK=>?_)
 refine gs_ Try.func65 #[.agg #[.int .i64 ((rd_T54 l0 aA).f0),.slice aX ((rd_T54 l0 aA).f1).length aY],.agg #[.int .i64 ((rd_T54 l1 aA).f0),.slice a6 ((rd_T54 l1 aA).f1).length a7]] rfl ?_
 with_reducible refine (laws_eqGroupMeta.calls true ?side1 ?side2 ?side3 ?side4 A7.out).mono ?_
 (case side1=>exact cL aM HB)
 (case side2=>exact a8.out)
 (case side3=>exact cL aV HB)
 (case side4=>exact a9.out)
 rintro e bV ⟨rfl,hb⟩
 refine⟨_,rfl,?_⟩
 replace HB:=bst HB hb
 (try clear hb)
 (try clear bW)
 (try clear hk)
 (try clear hi)
 refine hK.out _ _ ⟨crd HB aK,crd HB aJ,crd HB aU,crd HB aT⟩ (fun hHeld=>?_)
 clear hK K
 refine no_ (some 25) ?_;refine pu_ 9 26 ?_
 refine done_ (done_of HT_.out (by kernel_rfl)) ?_
 try go_wp2
 go_roundg k1
 case measure=>have:=bO.out;omega
 case rel=>exact⟨(wrap64 (aA + 1)),sr,H',⟨by have:=bO.out;omega⟩,⟨bL HB⟩⟩
/-! ### laws_eqMeta: function 10 -/
def laws_eqMeta.f (k:Nat)(aA:List (S84))(aC:Int)(aD:List (S54))(aE:List (S84))(aG:Int)(aH:List (S54)):Option (Bool):=(laws_eqColS.f k aA aE).bind fun aI=>(if aI=true then (if aC=aG then ((laws_eqGroupMetaS.f k aD aH).bind fun aJ=>(if aJ=true then (some true) else (some false))) else (some false)) else (some false))
theorem laws_eqMeta.calls {k : Nat} {aM : Option Addr} {aN : Nat} {aD : List (S84)} {aI : Int} {aQ : Option Addr} {aT : Nat} {aE : List (S54)} {aU : Option Addr} {aV : Nat} {aG : List (S84)} {aJ : Int} {aW : Option Addr} {aX : Nat} {aH : List (S54)} (r : Bool) {w : World} (hr0_0 : Kd.C k84 w aM aD.length aD) (aY : aD.length ≤ aN) (hr0_2 : Kd.C k54 w aQ aE.length aE) (aZ : aE.length ≤ aT) (hr1_0 : Kd.C k84 w aU aG.length aG) (a6 : aG.length ≤ aV) (hr1_2 : Kd.C k54 w aW aH.length aH) (a7 : aH.length ≤ aX) (h : laws_eqMeta.f k aD aI aE aG aJ aH = some true) :
    Calls Try.prog 10 #[.agg #[.slice aM aD.length aN,.int .i64 aI,.slice aQ aE.length aT],.agg #[.slice aU aG.length aV,.int .i64 aJ,.slice aW aH.length aX]] w fun e w'=>e=.returned (.bool true)∧Below w.heap.size w w':=by
 have hu33:=Try.underlying33
 have bB:=am hr0_0
 have bC:=am aY
 clear hr0_0 aY
 have bD:=am hr0_2
 have bE:=am aZ
 clear hr0_2 aZ
 have bF:=am hr1_0
 have bG:=am a6
 clear hr1_0 a6
 have bH:=am hr1_2
 have bI:=am a7
 clear hr1_2 a7
 have HB:=am (Below.refl w.heap.size w)
 have H:((laws_eqColS.f k aD aG).bind fun a8=>(if a8=true then (if aI=aJ then ((laws_eqGroupMetaS.f k aE aH).bind fun a9=>(if a9=true then (some true) else (some false))) else (some false)) else (some false)))=some true:=h
 clear h
 replace H:=bnd H;obtain⟨a8,A3,H⟩:=H
 by_cases c4:a8=true
 rotate_left
 · replace c4:=Bool.eq_false_iff.mpr c4
   subst c4
   have H1:(some false)=some true:=by rw [if_neg (show ¬ (false=true) by decide)] at H;exact H
   cases H1
 subst c4
 replace H:=ifp rfl H
 by_cases c5:aI=aJ
 rotate_left
 · rw [if_neg c5] at H
   cases H
 rw [if_pos c5] at H
 have bS:(aI == aJ)=true:=beq_iff_eq.mpr c5
 have bT:(aI != aJ)=false:=bne_eq_false_iff_eq.mpr c5
 clear c5
 replace H:=bnd H;obtain⟨a9,A6,H⟩:=H
 by_cases c7:a9=true
 rotate_left
 · replace c7:=Bool.eq_false_iff.mpr c7
   subst c7
   have H1:(some false)=some true:=by rw [if_neg (show ¬ (false=true) by decide)] at H;exact H
   cases H1
 subst c7
 replace H:=ifp rfl H
 clear H
 go_enter Try.func10,Try.ntmps10
 go_wp2_with (first | ((with_reducible refine gd 2 rfl ?_);refine bxw 2 rfl #[.slice aM aD.length aN,.int .i64 aI,.slice aQ aE.length aT] 33 HB ?_;clear HB;intro bJ w8 aA bK bM HB) | ((with_reducible refine gd 3 rfl ?_);refine bxv 3 rfl #[.slice aU aG.length aV,.int .i64 aJ,.slice aW aH.length aX] 33 HB ?_;clear HB;intro bN w9 aC bO bP HB hg hb;obtain⟨aK,bA⟩:=nbp (nbl aA hg);replace aA:=bkb aA hb;clear hg hb;obtain⟨bQ,bR⟩:=nbo aK;obtain⟨_,_,_,_,_,_⟩:=cl3 aA;obtain⟨_,_,_,_,_,_⟩:=cl3 aC) | ((with_reducible refine gc 38 rfl ?_);refine gl_ (some 9) Try.func38 #[.slice aM aD.length aN,.slice aU aG.length aV] rfl ?_;(with_reducible refine (laws_eqColS.calls true ?side1 ?side2 ?side3 ?side4 A3.out).mono ?_);(case side1=>exact cL bB HB);(case side2=>exact bC.out);(case side3=>exact cL bF HB);(case side4=>exact bG.out);rintro e bU ⟨rfl,hb⟩;refine⟨_,rfl,?_⟩;replace aA:=bkb aA hb;replace aC:=bkb aC hb;replace HB:=bst HB hb;clear hb;obtain⟨_,_,_,_,_,_⟩:=cl3 aA;obtain⟨_,_,_,_,_,_⟩:=cl3 aC) | ((with_reducible refine gc 39 rfl ?_);refine gl_ (some 20) Try.func39 #[.slice aQ aE.length aT,.slice aW aH.length aX] rfl ?_;(with_reducible refine (laws_eqGroupMetaS.calls true ?side1 ?side2 ?side3 ?side4 A6.out).mono ?_);(case side1=>exact cL bD HB);(case side2=>exact bE.out);(case side3=>exact cL bH HB);(case side4=>exact bI.out);rintro e bV ⟨rfl,hb⟩;refine⟨_,rfl,?_⟩;replace aA:=bkb aA hb;replace aC:=bkb aC hb;replace HB:=bst HB hb;clear hb))
 go_ret
 exact fin_ (bL HB)
/-! ### laws_markText: function 42 -/
def laws_markText.l0:Nat→Int→ByteArray→Option (ByteArray)
  | 0,_,_=>none
  | k + 1,x0,x3=>if x0 > 0 then ((some (([(wrap64 (48 + (Int.tmod x0 10))) % 256]:List Int):List Int)).bind fun aA=>(if (strOfNums aA).size + x3.size≤9223372036854775807 then (laws_markText.l0 k (wrap64 (Int.tdiv x0 10)) ((strOfNums aA) ++ x3)) else (none))) else (if 1 + x3.size≤9223372036854775807 then (some ((⟨#[109]⟩:ByteArray) ++ x3)) else (none))
def laws_markText.f (k:Nat)(a0:Int):Option (ByteArray):=if a0≤0 then (some (⟨#[109,48]⟩:ByteArray)) else (laws_markText.l0 k a0 (⟨#[]⟩:ByteArray))
theorem laws_markText.calls {k : Nat} {a0 : Int} {r : ByteArray} {w : World} (h : laws_markText.f k a0 = some r) :
    Calls Try.prog 42 #[.int .i64 a0] w fun e w'=>e=.returned (.string r)∧Below w.heap.size w w':=by
 have HB:=am (Below.refl w.heap.size w)
 have H:=h;clear h;unfold laws_markText.f at H
 replace H:=idc H;obtain⟨aE,H⟩ | ⟨aE,H⟩:=H
 · cases H
   go_enter Try.func42,Try.ntmps42
   go_wp2
   go_ret
   exact fin_ (bL HB)
 have H':=am H;clear H
 go_enter Try.func42,Try.ntmps42
 go_wp2
 go_loopg [0,3] k (fun kq v0 v3 w'=>∃ (aA:Int) (aC:ByteArray),v0=.int .i64 aA∧v3=.string aC∧Aside0 (laws_markText.l0 kq aA aC=some r)∧Aside0 (kq≤k)∧Aside0 (Below w.heap.size w w'))
 case atStart=>exact⟨(a0),((⟨#[]⟩:ByteArray)),sr,sr,H',⟨Nat.le_refl _⟩,⟨bL HB⟩⟩
 clear H'
 try clear c2 aE
 obtain⟨aA,aC,rfl,rfl,HA,aK,HB⟩:=hrel
 cases gk with
 | zero=>exact absurd HA.out (by simp [laws_markText.l0])
 | succ k1=>?_
 have H:=HA.out
 clear HA
 simp only [laws_markText.l0] at H
 replace H:=igt H;obtain⟨aJ,H⟩ | ⟨aJ,H⟩:=H
 rotate_left
 · replace H:=ifs H;obtain⟨c8,H⟩:=H
   have aM:=eq_true c8
   have aN:=decide_eq_true c8
   try have aQ:(9223372036854775807 < 1 + aC.size)=False:=eq_false (Nat.not_lt.2 c8)
   cases H
   go_wp2
   go_ret
   exact fin_ (bL HB)
 replace H:=bsm H;obtain⟨aG,aD,H⟩:=H
 replace H:=ifs H;obtain⟨c4,H⟩:=H
 have aT:=eq_true c4
 have aU:=decide_eq_true c4
 try have aV:(9223372036854775807 < (strOfNums aG).size + aC.size)=False:=eq_false (Nat.not_lt.2 c4)
 have H':=am H;clear H
 go_wp2_with (first | ((with_reducible refine gd 12 rfl ?_);refine Kd.R_lit (Kd.int .u8) _ 5 ?hg (N:=12) ?hd (xs:=([(wrap64 (48 + (Int.tmod aA 10))) % 256]:List Int)) (inner:=[.int .u8 ((wrap64 (48 + (Int.tmod aA 10))) % 256)]) (ok:=fun _=>True) (okp:=fun _=>True) ?hr ?hp (fun _ hk=>hk) trivial (Below.refl _ _) (Nat.le_refl _) (by simp) ?_;(case hd=>rfl);(case hg=>rfl);(case hr=>first | (go_simp;done) | (go_simp;rfl));(case hp=>exact (Reps.one (show Kd.M (Kd.int .u8) _ _ _ ((wrap64 (48 + (Int.tmod aA 10))) % 256) [.int .u8 ((wrap64 (48 + (Int.tmod aA 10))) % 256)] from rfl) (Reps.none _ _)));intro aW w5 aH hb hg_ hnew_;clear hg_ hnew_;(first | rw [← aD.out] at aH | (simp only [Int.reduceToNat] at aH;rw [← aD.out] at aH));have aI:=rlb aH HB;replace HB:=bst HB hb;clear hb aH;have hcv7:=own_string (P:=Try.prog) Try.underlying40 Try.underlying5 Try.underlying9 (Kd.own_of_R aI.out)))
 go_roundg k1
 case measure=>have:=aK.out;omega
 case rel=>exact⟨(wrap64 (Int.tdiv aA 10)),((strOfNums aG) ++ aC),sr,sr,H',⟨by have:=aK.out;omega⟩,⟨bL HB⟩⟩
/-! ### laws_markColS: function 40 -/
def laws_markColS.l0:Nat→List (S84)→Int→Int→Option (Int × (List (S84)))
  | 0,_,_,_=>none
  | k + 1,x0,x1,x5=>if x5 < (x0.length:Int) then ((laws_markText.f k x1).bind fun aE=>(if 0≤x5 then ((some (x0.set (x5:Int).toNat (⟨aE,(rd_T84 x0 x5).f1,(rd_T84 x0 x5).f2,(rd_T84 x0 x5).f3⟩:S84):List (S84))).bind fun aA=>((some (aA.set (x5:Int).toNat (⟨(rd_T84 aA x5).f0,wrap64 (x1 + 1),(rd_T84 aA x5).f2,(rd_T84 aA x5).f3⟩:S84):List (S84))).bind fun aC=>((some (aC.set (x5:Int).toNat (⟨(rd_T84 aC x5).f0,(rd_T84 aC x5).f1,wrap64 ((wrap64 (x1 + 1)) + 1),(rd_T84 aC x5).f3⟩:S84):List (S84))).bind fun aD=>(laws_markColS.l0 k (aD.set (x5:Int).toNat (⟨(rd_T84 aD x5).f0,(rd_T84 aD x5).f1,(rd_T84 aD x5).f2,wrap64 ((wrap64 ((wrap64 (x1 + 1)) + 1)) + 1)⟩:S84)) (wrap64 ((wrap64 ((wrap64 ((wrap64 (x1 + 1)) + 1)) + 1)) + 1)) (wrap64 (x5 + 1)))))) else (none))) else (some (x1,x0))
def laws_markColS.f (k:Nat)(l0:List (S84))(a1:Int):Option (Int × (List (S84))):=laws_markColS.l0 k l0 a1 0
theorem laws_markColS.calls {k : Nat} (P0_ : Nat → Prop) {u9000_ : Value} {l0 : List (S84)} {a1 r1 : Int} {r2 : List (S84)} {w0 w : World} (hB : Below w0.heap.size w0 w) (dF : Kd.R k84 84 w w0.heap.size P0_ u9000_ l0) (h : laws_markColS.f k l0 a1 = some (r1, r2)) :
    Calls Try.prog 40 #[u9000_,.int .i64 a1] w fun e w'=>e=.returned (.int .i64 r1)∧Kd.R k84 84 w' w0.heap.size (fun k_=>(P0_ k_∨w.heap.size≤k_)) u9000_ r2∧Below w0.heap.size w0 w'∧Kept w w' (fun k_=>P0_ k_):=by
 have dG:=am (show Kd.R k84 84 w w0.heap.size (fun k_=>(P0_ k_∨w.heap.size≤k_)) u9000_ l0 from Kd.R_mono dF (fun k_ hk=>(.inl hk)))
 have HK:=am (Kept.refl w (fun k_=>P0_ k_))
 have HW0:=am hB.size
 have HB:=am hB
 clear hB
 have H:=h;clear h;unfold laws_markColS.f at H
 have H':=am H;clear H
 go_enter Try.func40,Try.ntmps40
 go_wp2
 go_loopg [1,5] k (fun kq v1 v5 w'=>∃ (aC:List (S84)) (aE:Int) (aA:Int),v1=.int .i64 aE∧v5=.int .i64 aA∧Aside0 (laws_markColS.l0 kq aC aE aA=some (r1,r2))∧Aside0 (kq≤k)∧Aside0 (Kd.R k84 84 w' w0.heap.size (fun k_=>(P0_ k_∨w.heap.size≤k_)) u9000_ aC)∧Aside0 (Kept w w' (fun k_=>P0_ k_))∧Aside0 (Below w0.heap.size w0 w'))
 case atStart=>exact⟨(l0),(a1),(0),sr,sr,H',⟨Nat.le_refl _⟩,⟨rL dG⟩,⟨kept_later HK.out⟩,⟨bL HB⟩⟩
 clear H'
 obtain⟨aC,aE,aA,rfl,rfl,HA,bZ,aD,HK,HB⟩:=hrel
 cases gk with
 | zero=>exact absurd HA.out (by simp [laws_markColS.l0])
 | succ k1=>?_
 have H:=HA.out
 clear HA
 simp only [laws_markColS.l0] at H
 replace H:=idc H;obtain⟨bV,H⟩ | ⟨bV,H⟩:=H
 rotate_left
 · replace H:=sj2 H;obtain⟨rfl,rfl⟩:=H
   obtain⟨dH,dI,bW⟩:=Kd.R_slice aD.out
   subst bW
   go_wp2
   go_ret
   exact fin_ ⟨rL aD,bL HB,kept_later HK.out⟩
 replace H:=bnd H;obtain⟨bB,A4,H⟩:=H
 replace H:=ifd H;obtain⟨dJ,H⟩:=H
 replace H:=bsm H;obtain⟨aH,bQ,H⟩:=H
 replace H:=bsm H;obtain⟨aI,bR,H⟩:=H
 replace H:=bsm H;obtain⟨aG,bS,H⟩:=H
 generalize bC:((aG.set (aA:Int).toNat (⟨(rd_T84 aG aA).f0,(rd_T84 aG aA).f1,(rd_T84 aG aA).f2,wrap64 ((wrap64 ((wrap64 (aE + 1)) + 1)) + 1)⟩:S84)):List (S84))=bT at H;have bU:=am bC.symm;clear bC
 have H':=am H;clear H
 obtain⟨dK,aJ,bX⟩:=Kd.R_slice aD.out
 subst bX
 go_wp2_with (first | ((with_reducible refine gc 42 rfl ?_);refine gc1 (some 15) Try.func42 rfl (laws_markText.calls A4.out) ?_;rintro aQ hb;replace aD:=rbe aD hb;replace HK:=am (Kept.below (S:=(fun k_=>P0_ k_)) (kept_later HK.out) hb);replace HB:=bst HB hb;clear hb;have p6:0≤(aA:Int):=dcd;have q6:(aA:Int) < ((aC.length:Int):Int):=dcd;obtain⟨go6,dL,b6,b7,gl6,cl6,HG6⟩:=Kd.R_form aD.out (by omega);(first | cases b6 | (injection b6 with ea_ en_ ec_;(first | subst ea_ | (injection ea_ with ea_;subst ea_));subst ec_;clear en_));have GB6:=am b7;have GG6:=am HG6;clear b7 gl6 HG6;have HMgo6:=am (show (P0_ go6∨w.heap.size≤go6) from (aD.out.1 _ rfl));obtain⟨ce6,hcl6,hM6,aT,aU⟩:=Kd.R_elem aD.out z84 (aA:Int) p6 q6;obtain rfl:=k84_openM hM6;have b8:aQ.cell? ⟨go6,(aA:Int).toNat * 4,none⟩=some (.string ((rd_T84 aC aA).f0)):=aT 0 _ rfl;have b9:aQ.cell? ⟨go6,(aA:Int).toNat * 4 + 1,none⟩=some (.int .i64 ((rd_T84 aC aA).f1)):=aT 1 _ rfl;have cA:aQ.cell? ⟨go6,(aA:Int).toNat * 4 + 2,none⟩=some (.int .i64 ((rd_T84 aC aA).f2)):=aT 2 _ rfl;have cB:aQ.cell? ⟨go6,(aA:Int).toNat * 4 + 3,none⟩=some (.int .i64 ((rd_T84 aC aA).f3)):=aT 3 _ rfl;have cC:aQ.frozen? ⟨go6,(aA:Int).toNat * 4,none⟩=false:=aU 0;have cD:aQ.frozen? ⟨go6,(aA:Int).toNat * 4 + 1,none⟩=false:=aU 1;have cE:aQ.frozen? ⟨go6,(aA:Int).toNat * 4 + 2,none⟩=false:=aU 2;have cF:aQ.frozen? ⟨go6,(aA:Int).toNat * 4 + 3,none⟩=false:=aU 3;clear hcl6 aT aU hM6;replace p6:=eq_true p6;replace q6:=eq_true q6;have HX12:=am (show Kd.R k84 84 aQ w0.heap.size (fun k_=>(P0_ k_∨w.heap.size≤k_)) (.slice (some ⟨go6,0,none⟩) aC.length aJ) aC from (rL aD));obtain⟨ce12,hcl12,hM12,aV,bD⟩:=Kd.R_elem HX12.out z84 (aA:Int) (dcd) (by have h_:(aA:Int) < ((aC.length:Int):Int):=dcd;first | exact h_ | (have e_:=(Kd.R_reads' aD.out).1;omega) | simpa using h_);obtain rfl:=k84_openM hM12;have HP12:=Kd.R_seg HX12.out (aA:Int) (dcd) (by have h_:(aA:Int) < ((aC.length:Int):Int):=dcd;first | exact h_ | (have e_:=(Kd.R_reads' aD.out).1;omega) | simpa using h_) (seg:=[.string bB]) (j:=0) hcl12 aV (show 1≤4 from by decide) (x':=(⟨bB,(rd_T84 aC aA).f1,(rd_T84 aC aA).f2,(rd_T84 aC aA).f3⟩:S84)) (k84_mkM _ _ _ (⟨bB,(rd_T84 aC aA).f1,(rd_T84 aC aA).f2,(rd_T84 aC aA).f3⟩:S84) ) (fun _ hk=>hk);have bH:=aV 0 _ rfl;(try simp only [show (k84).sz=4 from rfl,Nat.mul_one,Nat.add_zero] at bH);have bI:=bD 0;(try simp only [show (k84).sz=4 from rfl,Nat.mul_one,Nat.add_zero] at bI);clear hcl12 aV bD hM12) | ((with_reducible refine gate_store (t:=9) (p:=17) rfl ?_);refine st_ 9 17 (aQ.setCell ⟨go6,(aA:Int).toNat * 4,none⟩ (.string bB)) ?_;intro aK hw;have hg:aQ.grownBy aK (some go6):=(by rw [hw];exact HP12.2);have hp_:Kd.R k84 84 aK w0.heap.size (fun k_=>(P0_ k_∨w.heap.size≤k_)) (.slice (some ⟨go6,0,none⟩) aC.length aJ) aH:=(by rw [hw,bQ.out];exact HP12.1);clear HP12;replace HB:=am ((by rw [hw];exact below_set (HB.out) GB6.out:Below w0.heap.size w0 aK));replace HK:=am (Kept.of_grown (S:=(fun k_=>P0_ k_)) hg (kept_later HK.out) (fun k_ e_=>(aD.out.1 k_ e_)));replace aD:=am hp_;clear hg hw hp_;have p7:0≤(aA:Int):=dcd;have q7:(aA:Int) < ((aC.length:Int):Int):=dcd;obtain⟨ce7,hcl7,hM7,aW,aX⟩:=Kd.R_elem aD.out z84 (aA:Int) p7 q7;obtain rfl:=k84_openM hM7;have cG:aK.cell? ⟨go6,(aA:Int).toNat * 4,none⟩=some (.string ((rd_T84 aH aA).f0)):=aW 0 _ rfl;have cH:aK.cell? ⟨go6,(aA:Int).toNat * 4 + 1,none⟩=some (.int .i64 ((rd_T84 aH aA).f1)):=aW 1 _ rfl;have cI:aK.cell? ⟨go6,(aA:Int).toNat * 4 + 2,none⟩=some (.int .i64 ((rd_T84 aH aA).f2)):=aW 2 _ rfl;have cJ:aK.cell? ⟨go6,(aA:Int).toNat * 4 + 3,none⟩=some (.int .i64 ((rd_T84 aH aA).f3)):=aW 3 _ rfl;have cK:aK.frozen? ⟨go6,(aA:Int).toNat * 4,none⟩=false:=aX 0;have cM:aK.frozen? ⟨go6,(aA:Int).toNat * 4 + 1,none⟩=false:=aX 1;have cN:aK.frozen? ⟨go6,(aA:Int).toNat * 4 + 2,none⟩=false:=aX 2;have cO:aK.frozen? ⟨go6,(aA:Int).toNat * 4 + 3,none⟩=false:=aX 3;clear hcl7 aW aX hM7;replace p7:=eq_true p7;replace q7:=eq_true q7;have HX14:=am (show Kd.R k84 84 aK w0.heap.size (fun k_=>(P0_ k_∨w.heap.size≤k_)) (.slice (some ⟨go6,0,none⟩) aC.length aJ) aH from (rL aD));obtain⟨ce14,hcl14,hM14,aY,bE⟩:=Kd.R_elem HX14.out z84 (aA:Int) (dcd) (by have h_:(aA:Int) < ((aC.length:Int):Int):=dcd;first | exact h_ | (have e_:=(Kd.R_reads' aD.out).1;omega) | simpa using h_);obtain rfl:=k84_openM hM14;have HP14:=Kd.R_seg HX14.out (aA:Int) (dcd) (by have h_:(aA:Int) < ((aC.length:Int):Int):=dcd;first | exact h_ | (have e_:=(Kd.R_reads' aD.out).1;omega) | simpa using h_) (seg:=[.int .i64 (wrap64 (aE + 1))]) (j:=1) hcl14 aY (show 2≤4 from by decide) (x':=(⟨(rd_T84 aH aA).f0,wrap64 (aE + 1),(rd_T84 aH aA).f2,(rd_T84 aH aA).f3⟩:S84)) (k84_mkM _ _ _ (⟨(rd_T84 aH aA).f0,wrap64 (aE + 1),(rd_T84 aH aA).f2,(rd_T84 aH aA).f3⟩:S84) ) (fun _ hk=>hk);have bJ:=aY 1 _ rfl;(try simp only [show (k84).sz=4 from rfl,Nat.mul_one,Nat.add_zero] at bJ);have bK:=bE 1;(try simp only [show (k84).sz=4 from rfl,Nat.mul_one,Nat.add_zero] at bK);clear hcl14 aY bE hM14) | ((with_reducible refine gate_store (t:=3) (p:=24) rfl ?_);refine st_ 3 24 (aK.setCell ⟨go6,(aA:Int).toNat * 4 + 1,none⟩ (.int .i64 (wrap64 (aE + 1)))) ?_;intro aM hw;have hg:aK.grownBy aM (some go6):=(by rw [hw];exact HP14.2);have hp_:Kd.R k84 84 aM w0.heap.size (fun k_=>(P0_ k_∨w.heap.size≤k_)) (.slice (some ⟨go6,0,none⟩) aC.length aJ) aI:=(by rw [hw,bR.out];exact HP14.1);clear HP14;replace HB:=am ((by rw [hw];exact below_set (HB.out) GB6.out:Below w0.heap.size w0 aM));replace HK:=am (Kept.of_grown (S:=(fun k_=>P0_ k_)) hg (kept_later HK.out) (fun k_ e_=>(aD.out.1 k_ e_)));replace aD:=am hp_;clear hg hw hp_;have p8:0≤(aA:Int):=dcd;have q8:(aA:Int) < ((aC.length:Int):Int):=dcd;obtain⟨ce8,hcl8,hM8,aZ,a6⟩:=Kd.R_elem aD.out z84 (aA:Int) p8 q8;obtain rfl:=k84_openM hM8;have cP:aM.cell? ⟨go6,(aA:Int).toNat * 4,none⟩=some (.string ((rd_T84 aI aA).f0)):=aZ 0 _ rfl;have cQ:aM.cell? ⟨go6,(aA:Int).toNat * 4 + 1,none⟩=some (.int .i64 ((rd_T84 aI aA).f1)):=aZ 1 _ rfl;have cR:aM.cell? ⟨go6,(aA:Int).toNat * 4 + 2,none⟩=some (.int .i64 ((rd_T84 aI aA).f2)):=aZ 2 _ rfl;have cS:aM.cell? ⟨go6,(aA:Int).toNat * 4 + 3,none⟩=some (.int .i64 ((rd_T84 aI aA).f3)):=aZ 3 _ rfl;have cT:aM.frozen? ⟨go6,(aA:Int).toNat * 4,none⟩=false:=a6 0;have cU:aM.frozen? ⟨go6,(aA:Int).toNat * 4 + 1,none⟩=false:=a6 1;have cV:aM.frozen? ⟨go6,(aA:Int).toNat * 4 + 2,none⟩=false:=a6 2;have cW:aM.frozen? ⟨go6,(aA:Int).toNat * 4 + 3,none⟩=false:=a6 3;clear hcl8 aZ a6 hM8;replace p8:=eq_true p8;replace q8:=eq_true q8;have HX16:=am (show Kd.R k84 84 aM w0.heap.size (fun k_=>(P0_ k_∨w.heap.size≤k_)) (.slice (some ⟨go6,0,none⟩) aC.length aJ) aI from (rL aD));obtain⟨ce16,hcl16,hM16,a7,bF⟩:=Kd.R_elem HX16.out z84 (aA:Int) (dcd) (by have h_:(aA:Int) < ((aC.length:Int):Int):=dcd;first | exact h_ | (have e_:=(Kd.R_reads' aD.out).1;omega) | simpa using h_);obtain rfl:=k84_openM hM16;have HP16:=Kd.R_seg HX16.out (aA:Int) (dcd) (by have h_:(aA:Int) < ((aC.length:Int):Int):=dcd;first | exact h_ | (have e_:=(Kd.R_reads' aD.out).1;omega) | simpa using h_) (seg:=[.int .i64 (wrap64 ((wrap64 (aE + 1)) + 1))]) (j:=2) hcl16 a7 (show 3≤4 from by decide) (x':=(⟨(rd_T84 aI aA).f0,(rd_T84 aI aA).f1,wrap64 ((wrap64 (aE + 1)) + 1),(rd_T84 aI aA).f3⟩:S84)) (k84_mkM _ _ _ (⟨(rd_T84 aI aA).f0,(rd_T84 aI aA).f1,wrap64 ((wrap64 (aE + 1)) + 1),(rd_T84 aI aA).f3⟩:S84) ) (fun _ hk=>hk);have bM:=a7 2 _ rfl;(try simp only [show (k84).sz=4 from rfl,Nat.mul_one,Nat.add_zero] at bM);have bN:=bF 2;(try simp only [show (k84).sz=4 from rfl,Nat.mul_one,Nat.add_zero] at bN);clear hcl16 a7 bF hM16) | ((with_reducible refine gate_store (t:=3) (p:=31) rfl ?_);refine st_ 3 31 (aM.setCell ⟨go6,(aA:Int).toNat * 4 + 2,none⟩ (.int .i64 (wrap64 ((wrap64 (aE + 1)) + 1)))) ?_;intro aN hw;have hg:aM.grownBy aN (some go6):=(by rw [hw];exact HP16.2);have hp_:Kd.R k84 84 aN w0.heap.size (fun k_=>(P0_ k_∨w.heap.size≤k_)) (.slice (some ⟨go6,0,none⟩) aC.length aJ) aG:=(by rw [hw,bS.out];exact HP16.1);clear HP16;replace HB:=am ((by rw [hw];exact below_set (HB.out) GB6.out:Below w0.heap.size w0 aN));replace HK:=am (Kept.of_grown (S:=(fun k_=>P0_ k_)) hg (kept_later HK.out) (fun k_ e_=>(aD.out.1 k_ e_)));replace aD:=am hp_;clear hg hw hp_;have p9:0≤(aA:Int):=dcd;have q9:(aA:Int) < ((aC.length:Int):Int):=dcd;obtain⟨ce9,hcl9,hM9,a8,a9⟩:=Kd.R_elem aD.out z84 (aA:Int) p9 q9;obtain rfl:=k84_openM hM9;have cX:aN.cell? ⟨go6,(aA:Int).toNat * 4,none⟩=some (.string ((rd_T84 aG aA).f0)):=a8 0 _ rfl;have cY:aN.cell? ⟨go6,(aA:Int).toNat * 4 + 1,none⟩=some (.int .i64 ((rd_T84 aG aA).f1)):=a8 1 _ rfl;have cZ:aN.cell? ⟨go6,(aA:Int).toNat * 4 + 2,none⟩=some (.int .i64 ((rd_T84 aG aA).f2)):=a8 2 _ rfl;have dA:aN.cell? ⟨go6,(aA:Int).toNat * 4 + 3,none⟩=some (.int .i64 ((rd_T84 aG aA).f3)):=a8 3 _ rfl;have dB:aN.frozen? ⟨go6,(aA:Int).toNat * 4,none⟩=false:=a9 0;have dC:aN.frozen? ⟨go6,(aA:Int).toNat * 4 + 1,none⟩=false:=a9 1;have dD:aN.frozen? ⟨go6,(aA:Int).toNat * 4 + 2,none⟩=false:=a9 2;have dE:aN.frozen? ⟨go6,(aA:Int).toNat * 4 + 3,none⟩=false:=a9 3;clear hcl9 a8 a9 hM9;replace p9:=eq_true p9;replace q9:=eq_true q9;have HX18:=am (show Kd.R k84 84 aN w0.heap.size (fun k_=>(P0_ k_∨w.heap.size≤k_)) (.slice (some ⟨go6,0,none⟩) aC.length aJ) aG from (rL aD));obtain⟨ce18,hcl18,hM18,bA,bG⟩:=Kd.R_elem HX18.out z84 (aA:Int) (dcd) (by have h_:(aA:Int) < ((aC.length:Int):Int):=dcd;first | exact h_ | (have e_:=(Kd.R_reads' aD.out).1;omega) | simpa using h_);obtain rfl:=k84_openM hM18;have HP18:=Kd.R_seg HX18.out (aA:Int) (dcd) (by have h_:(aA:Int) < ((aC.length:Int):Int):=dcd;first | exact h_ | (have e_:=(Kd.R_reads' aD.out).1;omega) | simpa using h_) (seg:=[.int .i64 (wrap64 ((wrap64 ((wrap64 (aE + 1)) + 1)) + 1))]) (j:=3) hcl18 bA (show 4≤4 from by decide) (x':=(⟨(rd_T84 aG aA).f0,(rd_T84 aG aA).f1,(rd_T84 aG aA).f2,wrap64 ((wrap64 ((wrap64 (aE + 1)) + 1)) + 1)⟩:S84)) (k84_mkM _ _ _ (⟨(rd_T84 aG aA).f0,(rd_T84 aG aA).f1,(rd_T84 aG aA).f2,wrap64 ((wrap64 ((wrap64 (aE + 1)) + 1)) + 1)⟩:S84) ) (fun _ hk=>hk);have bO:=bA 3 _ rfl;(try simp only [show (k84).sz=4 from rfl,Nat.mul_one,Nat.add_zero] at bO);have bP:=bG 3;(try simp only [show (k84).sz=4 from rfl,Nat.mul_one,Nat.add_zero] at bP);clear hcl18 bA bG hM18) | ((with_reducible refine gate_store (t:=3) (p:=38) rfl ?_);refine st_ 3 38 (aN.setCell ⟨go6,(aA:Int).toNat * 4 + 3,none⟩ (.int .i64 (wrap64 ((wrap64 ((wrap64 (aE + 1)) + 1)) + 1)))) ?_;intro bY hw;have hg:aN.grownBy bY (some go6):=(by rw [hw];exact HP18.2);have hp_:Kd.R k84 84 bY w0.heap.size (fun k_=>(P0_ k_∨w.heap.size≤k_)) (.slice (some ⟨go6,0,none⟩) aC.length aJ) bT:=(by rw [hw,bU.out];exact HP18.1);clear HP18;replace HB:=am ((by rw [hw];exact below_set (HB.out) GB6.out:Below w0.heap.size w0 bY));replace HK:=am (Kept.of_grown (S:=(fun k_=>P0_ k_)) hg (kept_later HK.out) (fun k_ e_=>(aD.out.1 k_ e_)));replace aD:=am hp_;clear hg hw hp_))
 go_roundg k1
 case measure=>have:=bZ.out;omega
 case rel=>exact⟨(bT),(wrap64 ((wrap64 ((wrap64 ((wrap64 (aE + 1)) + 1)) + 1)) + 1)),(wrap64 (aA + 1)),sr,sr,H',⟨by have:=bZ.out;omega⟩,⟨rL aD⟩,⟨kept_later HK.out⟩,⟨bL HB⟩⟩
end Go.Proofs.Ytjdapaocdkcgdaa.PFnExactMetaPack
