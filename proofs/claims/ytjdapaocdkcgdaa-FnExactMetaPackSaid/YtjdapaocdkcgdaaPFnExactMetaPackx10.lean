/- The machine's side of FnExactMetaPack: each Go function, and what its call comes to. No condition. -/
import Derived.Test.YtjdapaocdkcgdaaPFnExactMetaPackx0
import Derived.Test.YtjdapaocdkcgdaaPFnExactMetaPackx5
import Derived.Test.YtjdapaocdkcgdaaPFnExactMetaPackx6
import Derived.Test.YtjdapaocdkcgdaaPFnExactMetaPackx7
import Derived.Test.YtjdapaocdkcgdaaPFnExactMetaPackx9
namespace Go.Proofs.Ytjdapaocdkcgdaa.PFnExactMetaPack
open Go.RowKit Go.Proofs.YtjdapaocdkcgdaaW.PrintWords Go.Proofs.YtjdapaocdkcgdaaW.PrintLast Go.Proofs.YtjdapaocdkcgdaaW.PrintMore Go.Proofs.YtjdapaocdkcgdaaW.PrintMore2
attribute [local go_sem] max2_int min2_int max_two min_two max_three min_three max_four min_four
set_option linter.unusedVariables false
set_option linter.unusedSimpArgs false
set_option maxHeartbeats 8000000
set_option maxRecDepth 100000

/-! ### spec_MetaTree: function 6 -/
mutual
def spec_MetaTree.j0:Nat→List (S49)→List (S49)→List (S84)→Int→List (S54)→Int→Int→Int→ByteArray→Int→Option ((List (S49)) × Bool)
  | 0,_,_,_,_,_,_,_,_,_,_=>none
  | k + 1,x4,x5,aA,aC,aD,aE,aG,aH,aI,aJ=>if x5.length < 2932031007402 then (spec_MetaTree.l0 k x4 (x5 ++ [(⟨aE,aG,aH,aI,aJ⟩:S49)]) 0 aA aC aD) else (none)
def spec_MetaTree.l0:Nat→List (S49)→List (S49)→Int→List (S84)→Int→List (S54)→Option ((List (S49)) × Bool)
  | 0,_,_,_,_,_,_=>none
  | k + 1,x4,x5,x7,aC,aD,aA=>if x7 < (aA.length:Int) then (if 0≤x7 then ((some (([(⟨12,0,0,(⟨#[]⟩:ByteArray),3⟩:S49),(⟨9,1,12,(⟨#[]⟩:ByteArray),(((rd_T54 aA x7).f1).length:Int)⟩:S49)]:List (S49)):List (S49))).bind fun aE=>(if x5.length + aE.length < 2932031007402 then (spec_MetaTree.l1 k x4 (x5 ++ aE) x7 0 0 aC aD aA ((rd_T54 aA x7).f0) ((rd_T54 aA x7).f1)) else (none))) else (none)) else ((spec_TreeOk.f k x5).bind fun aG=>(if aG=true then (some (x5,true)) else (some (x4,false))))
def spec_MetaTree.l1:Nat→List (S49)→List (S49)→Int→Int→Int→List (S84)→Int→List (S54)→Int→List (S58)→Option ((List (S49)) × Bool)
  | 0,_,_,_,_,_,_,_,_,_,_=>none
  | k + 1,x4,x5,x7,x9,aJ,aC,aG,aH,aI,aA=>if aJ < (aA.length:Int) then (if 0≤aJ then ((spec_l18Nodes.f k aC ((rd_T58 aA aJ).f0) ((rd_T58 aA aJ).f1) ((rd_T58 aA aJ).f2) ((rd_T58 aA aJ).f3) ((rd_T58 aA aJ).f4) ((rd_T58 aA aJ).f5)).bind fun aK=>(if x5.length + aK.length < 2932031007402 then (spec_MetaTree.l1 k x4 (x5 ++ aK) x7 (wrap64 (x9 + ((rd_T58 aA aJ).f4))) (wrap64 (aJ + 1)) aC aG aH aI aA) else (none))) else (none)) else ((spec_l18Long.f 2 x9).bind fun aD=>((spec_l18Long.f 3 aI).bind fun aE=>((some (([(⟨aD.1,aD.2.1,aD.2.2.1,aD.2.2.2.1,aD.2.2.2.2⟩:S49),(⟨aE.1,aE.2.1,aE.2.2.1,aE.2.2.2.1,aE.2.2.2.2⟩:S49)]:List (S49)):List (S49))).bind fun aM=>(if x5.length + aM.length < 2932031007402 then (spec_MetaTree.l0 k x4 (x5 ++ aM) (wrap64 (x7 + 1)) aC aG aH) else (none)))))
end
def spec_MetaTree.f (k:Nat)(aE:List (S84))(aG:Int)(aD:List (S54)):Option ((List (S49)) × Bool):=(some (([]:List (S49)):List (S49))).bind fun aH=>((spec_MetaOk.f k aE aG aD).bind fun aN=>(if aN=true then ((spec_l16Int.f 1 1).bind fun aA=>((some (([(⟨12,0,0,(⟨#[]⟩:ByteArray),4⟩:S49),(⟨aA.1,aA.2.1,aA.2.2.1,aA.2.2.2.1,aA.2.2.2.2⟩:S49)]:List (S49)):List (S49))).bind fun aI=>((spec_l5Nodes.f k aE 2).bind fun aJ=>(if aI.length + aJ.length < 2932031007402 then ((some (aI ++ aJ:List (S49))).bind fun aK=>((spec_l18Long.f 3 aG).bind fun aC=>(if aK.length < 2932031007402 then ((some (aK ++ [(⟨aC.1,aC.2.1,aC.2.2.1,aC.2.2.2.1,aC.2.2.2.2⟩:S49)]:List (S49))).bind fun aM=>(if (aD.length:Int) > 0 then (spec_MetaTree.j0 k aH aM aE aG aD 9 4 12 (⟨#[]⟩:ByteArray) (aD.length:Int)) else (spec_MetaTree.j0 k aH aM aE aG aD 9 4 0 (⟨#[]⟩:ByteArray) (aD.length:Int)))) else (none)))) else (none))))) else (some (aH,false))))
def spec_MetaTree.T20:Bool × List (List Nat × List Nat):=(true,[([],[]),([],[]),([1],[1]),([],[]),([3],[3]),([],[]),([4,5],[4,5]),([6],[6]),([2,7],[2,7]),([0,8,8],[0,8]),([9,9,0,1,2,3,4,5,6,7,8,9],[0,9])])
def spec_MetaTree.B20:List Nat:=[0,0,2,0,8,0,56,120,254,511,1023]
theorem spec_MetaTree.tab20:rtab .any (opsOf Try.f6 20)=spec_MetaTree.T20:=by kernel_rfl
theorem spec_MetaTree.bits20:waitsOk spec_MetaTree.T20.2 spec_MetaTree.B20=true:=by kernel_rfl
def spec_MetaTree.T22:Bool × List (List Nat × List Nat):=(true,[([],[]),([],[]),([1],[1]),([],[]),([3],[3]),([4,2],[4]),([2,5],[2,5]),([0,6,5],[0,6]),([7,7,0,1,2,3,4,5,6,7],[0,7])])
def spec_MetaTree.B22:List Nat:=[0,0,2,0,8,30,62,127,255]
theorem spec_MetaTree.tab22:rtab .any (opsOf Try.f6 22)=spec_MetaTree.T22:=by kernel_rfl
theorem spec_MetaTree.bits22:waitsOk spec_MetaTree.T22.2 spec_MetaTree.B22=true:=by kernel_rfl
theorem spec_MetaTree.calls {k : Nat} {bA : Option Addr} {bB : Nat} {aV : List (S84)} {aZ : Int} {dF : Option Addr} {bJ : Nat} {aD : List (S54)} {r1 : List (S49)} {r2 : Bool} {w : World} (hr0_0 : Kd.C k84 w bA aV.length aV) (fX : aV.length ≤ bB) (hr0_2 : Kd.C k54 w dF aD.length aD) (fY : aD.length ≤ bJ) (h : spec_MetaTree.f k aV aZ aD = some (r1, r2)) :
    Calls Try.prog 6 #[.agg #[.slice bA aV.length bB,.int .i64 aZ,.slice dF aD.length bJ]] w fun e w'=>∃ jA:Value,e=.returned (.tuple #[jA,.bool r2])∧Kd.R k49 49 w' w.heap.size (fun _=>True) jA r1∧Below w.heap.size w w':=by
 have hu33:=Try.underlying33
 have hu49:=Try.underlying49
 have hu54:=Try.underlying54
 have hu58:=Try.underlying58
 have dO:=am hr0_0
 have dP:=am fX
 clear hr0_0 fX
 have eK:=am hr0_2
 have fZ:=am fY
 clear hr0_2 fY
 have HB:=am (Below.refl w.heap.size w)
 have H:=h;clear h;unfold spec_MetaTree.f at H
 replace H:=bsm H;obtain⟨eI,dQ,H⟩:=H
 replace H:=bnd H;obtain⟨kD,A2,H⟩:=H
 replace H:=ibt H;obtain⟨rfl,H⟩ | ⟨rfl,H⟩:=H
 rotate_left
 · replace H:=sj2 H;obtain⟨rfl,rfl⟩:=H
   go_enter Try.func6,Try.ntmps6
   go_wp2_with (first | ((with_reducible refine gd 1 rfl ?_);refine bxw 1 rfl #[.slice bA aV.length bB,.int .i64 aZ,.slice dF aD.length bJ] 33 HB ?_;clear HB;intro bI kX aA gU gV HB) | ((with_reducible refine gd 11 rfl ?_);refine Kd.R_lit k49 _ 49 ?hg (N:=11) ?hd (xs:=([]:List (S49))) (inner:=[]) (ok:=fun _=>True) (okp:=fun _=>True) ?hr ?hp (fun _ hk=>hk) trivial (Below.refl _ _) (Nat.le_refl _) (by simp) ?_;(case hd=>rfl);(case hg=>rfl);(case hr=>first | (go_simp;done) | (go_simp;rfl));(case hp=>exact (Reps.none _ _));intro aW kY eL hb hg_ hnew_;clear hg_ hnew_;(first | rw [← dQ.out] at eL | (simp only [Int.reduceToNat] at eL;rw [← dQ.out] at eL));have aN:=rlb eL HB;replace aA:=bkb aA hb;replace HB:=bst HB hb;clear hb eL;obtain⟨_,_,_,_,_,_⟩:=cl3 aA) | ((with_reducible refine gc 21 rfl ?_);refine gl_ (some 13) Try.func21 #[.agg #[.slice bA aV.length bB,.int .i64 aZ,.slice dF aD.length bJ]] rfl ?_;(with_reducible refine (spec_MetaOk.calls ?side1 ?side2 ?side3 ?side4 A2.out).mono ?_);(case side1=>exact cL dO HB);(case side2=>exact dP.out);(case side3=>exact cL eK HB);(case side4=>exact fZ.out);rintro e kZ ⟨rfl,hb⟩;refine⟨_,rfl,?_⟩;replace aN:=rbe aN hb;replace aA:=bkb aA hb;replace HB:=bst HB hb;clear hb))
   go_ret2
   exact⟨_,fin_ ⟨rL aN,bL HB⟩⟩
 replace H:=bnd5 H;obtain⟨eM,eN,eO,eP,eQ,A4,H⟩:=H;dsimp only at H
 replace H:=bsm H;obtain⟨iO,f7,H⟩:=H
 replace H:=bnd H;obtain⟨eR,A5,H⟩:=H
 replace H:=ifs H;obtain⟨c6,H⟩:=H
 have iP:=am c6
 clear c6
 replace H:=bsm H;obtain⟨iQ,gW,H⟩:=H
 replace H:=bnd5 H;obtain⟨gH,gI,gJ,gK,gL,A7,H⟩:=H;dsimp only at H
 replace H:=ifs H;obtain⟨c8,H⟩:=H
 have iR:=am c8
 clear c8
 replace H:=bsm H;obtain⟨fD,gX,H⟩:=H
 have iS:=am H
 clear H
 go_enter Try.func6,Try.ntmps6
 go_upto_if 37 with (first | ((with_reducible refine gd 1 rfl ?_);refine bxw 1 rfl #[.slice bA aV.length bB,.int .i64 aZ,.slice dF aD.length bJ] 33 HB ?_;clear HB;intro bI k0 aA gU gV HB) | ((with_reducible refine gd 11 rfl ?_);refine Kd.R_lit k49 _ 49 ?hg (N:=11) ?hd (xs:=([]:List (S49))) (inner:=[]) (ok:=fun _=>True) (okp:=fun _=>True) ?hr ?hp (fun _ hk=>hk) trivial (Below.refl _ _) (Nat.le_refl _) (by simp) ?_;(case hd=>rfl);(case hg=>rfl);(case hr=>first | (go_simp;done) | (go_simp;rfl));(case hp=>exact (Reps.none _ _));intro aW k5 eS hb hg_ hnew_;clear hg_ hnew_;(first | rw [← dQ.out] at eS | (simp only [Int.reduceToNat] at eS;rw [← dQ.out] at eS));have aN:=rlb eS HB;replace aA:=bkb aA hb;replace HB:=bst HB hb;clear hb eS;obtain⟨bM,bN,bO,bP,bQ,bR⟩:=cl3 aA) | ((with_reducible refine gc 21 rfl ?_);refine gl_ (some 13) Try.func21 #[.agg #[.slice bA aV.length bB,.int .i64 aZ,.slice dF aD.length bJ]] rfl ?_;(with_reducible refine (spec_MetaOk.calls ?side1 ?side2 ?side3 ?side4 A2.out).mono ?_);(case side1=>exact cL dO HB);(case side2=>exact dP.out);(case side3=>exact cL eK HB);(case side4=>exact fZ.out);rintro e k6 ⟨rfl,hb⟩;refine⟨_,rfl,?_⟩;replace aN:=rbe aN hb;replace aA:=bkb aA hb;replace HB:=bst HB hb;clear hb) | ((with_reducible refine gc 22 rfl ?_);refine gc1 (some 17) Try.func22 rfl (spec_l16Int.calls A4.out) ?_;rintro k7 hb;replace aN:=rbe aN hb;replace aA:=bkb aA hb;replace HB:=bst HB hb;clear hb) | ((with_reducible refine gd 18 rfl ?_);refine Kd.R_lit k49 _ 49 ?hg (N:=18) ?hd (xs:=([(⟨12,0,0,(⟨#[]⟩:ByteArray),4⟩:S49),(⟨eM,eN,eO,eP,eQ⟩:S49)]:List (S49))) (inner:=[.int .i64 12,.int .i64 0,.int .i64 0,.string ⟨#[]⟩,.int .i64 4,.int .i64 eM,.int .i64 eN,.int .i64 eO,.string eP,.int .i64 eQ]) (ok:=fun _=>True) (okp:=fun _=>True) ?hr ?hp (fun _ hk=>hk) trivial (Below.refl _ _) (Nat.le_refl _) (by simp) ?_;(case hd=>rfl);(case hg=>rfl);(case hr=>first | (go_simp;done) | (go_simp;rfl));(case hp=>exact (Reps.c5 (show Kd.M k49 _ _ _ (⟨12,0,0,(⟨#[]⟩:ByteArray),4⟩:S49) [.int .i64 12,.int .i64 0,.int .i64 0,.string ⟨#[]⟩,.int .i64 4] from (k49_mkM _ _ _ (⟨12,0,0,(⟨#[]⟩:ByteArray),4⟩:S49) )) (Reps.c5 (show Kd.M k49 _ _ _ (⟨eM,eN,eO,eP,eQ⟩:S49) [.int .i64 eM,.int .i64 eN,.int .i64 eO,.string eP,.int .i64 eQ] from (k49_mkM _ _ _ (⟨eM,eN,eO,eP,eQ⟩:S49) )) (Reps.none _ _))));intro iT k8 eJ hb hg_ hnew_;clear hg_ hnew_;(first | rw [← f7.out] at eJ | (simp only [Int.reduceToNat] at eJ;rw [← f7.out] at eJ));have bK:=am (Kd.R_lower (Kd.R_new' eJ (Kd.R_lt (rL aN))) (below_size (bL HB)));replace aN:=am (Kd.R_elder' (rL aN) (Kd.R_base eJ) hb);replace aA:=bkb aA hb;replace HB:=bst HB hb;clear hb eJ;obtain⟨bS,bT,bU,bV,bW,bX⟩:=cl3 aA) | ((with_reducible refine gc 23 rfl ?_);refine gl_ (some 22) Try.func23 #[.slice bA aV.length bB,.int .i64 2] rfl ?_;(with_reducible refine (spec_l5Nodes.calls ?side1 ?side2 A5.out).mono ?_);(case side1=>exact cL dO HB);(case side2=>exact dP.out);rintro e k9 ⟨kE,rfl,fE,hb⟩;refine⟨_,rfl,?_⟩;have aU:=am (Kd.R_lower (Kd.R_new' (Kd.R_new' fE (Kd.R_lt (rL aN))) (Kd.R_lt (rL bK))) (below_size (bL HB)));replace aN:=am (Kd.R_elder' (rL aN) (Kd.R_base fE) hb);replace bK:=am (Kd.R_elder' (rL bK) (Kd.R_base fE) hb);replace aA:=bkb aA hb;replace HB:=bst HB hb;clear hb fE;obtain⟨fF,fG,iU⟩:=Kd.R_slice aU.out;subst iU) | ((with_reducible refine gate_builtin (b:=.append) (xs:=#[.tmp 19,.tmp 22]) rfl ?_);at_builtin;refine Kd.R_append_rows k49 (w0:=w) w.heap.size rfl (.tmp 19) (.tmp 22) 27 49 (.agg #[(.int .i64 0),(.int .i64 0),(.int .i64 0),(.string ⟨#[]⟩),(.int .i64 0)]) 48 rfl Try.underlying27 info49 rfl (by decide) (by omega) iT iO eR _ _ _ (fun k_=>some k_≠(aW:Value).ownBlock∧some k_≠(.slice fF eR.length fG:Value).ownBlock) (fun _=>False) rfl rfl ?aO ?aR (fun _ _ h=>h) (fun _ h=>h.elim) ?aF ?aB ?aS ?aL ?_;(case aR=>exact C_later (Kd.R_reads' aU.out).2.2);(case aB=>exact (bL HB));(case aF=>exact (fun k_ hk=>⟨Kd.fresh' (Kd.R_lt (rL aN)) k_ hk,Kd.fresh' (Kd.R_lt (rL aU)) k_ hk⟩));(case aO=>exact (R_later (Kd.R_mono bK.out (fun _ hk=>⟨hk.1.2,hk.2⟩))));(case aS=>exact (below_size (bL HB)));(case aL=>have:=iP.out;omega);intro iV lA ho hb hg hat;rw [← gW.out] at ho;have dG:=am ho;replace aA:=bgr aA hg bK;replace aN:=am (Kd.R_after (ok:=(fun k_=>some k_≠(.slice fF eR.length fG:Value).ownBlock)) (R_later (Kd.R_mono aN.out (fun _ hk=>⟨hk.2,hk.1.2⟩))) hg hat);replace aU:=am (Kd.R_after (ok:=(fun k_=>some k_≠(aW:Value).ownBlock)) (R_later (Kd.R_mono aU.out (fun _ hk=>⟨hk.1.2,hk.2⟩))) hg hat);replace HB:=am hb;clear bK;clear ho hb hg hat;obtain⟨bY,bZ,b6,b7,b8,b9⟩:=cl3 aA) | ((with_reducible refine gc 24 rfl ?_);refine gc1 (some 27) Try.func24 rfl (spec_l18Long.calls A7.out) ?_;rintro lB hb;replace aN:=rbe aN hb;replace aU:=rbe aU hb;replace dG:=rbe dG hb;replace aA:=bkb aA hb;replace HB:=bst HB hb;clear hb) | ((with_reducible refine gate_builtin (b:=.append) (xs:=#[.tmp 24,.tmp 28]) rfl ?_);at_builtin;refine Kd.R_append k49 (w0:=w) w.heap.size rfl (.tmp 24) (.tmp 28) 27 49 (.agg #[(.int .i64 0),(.int .i64 0),(.int .i64 0),(.string ⟨#[]⟩),(.int .i64 0)]) 48 rfl Try.underlying27 info49 rfl (by decide) (by omega) iV iQ (⟨gH,gI,gJ,gK,gL⟩:S49) [.int .i64 gH,.int .i64 gI,.int .i64 gJ,.string gK,.int .i64 gL] (fun k_=>some k_≠(aW:Value).ownBlock∧some k_≠(.slice fF eR.length fG:Value).ownBlock) (fun _=>False) rfl rfl ?aP (fun _ hk=>hk.elim) ?aF ?aO ?aB ?aS ?aL ?_;(case aP=>exact k49_mkM _ _ _ (⟨gH,gI,gJ,gK,gL⟩:S49));(case aB=>exact (bL HB));(case aF=>exact (fun k_ hk=>⟨Kd.fresh' (Kd.R_lt (rL aN)) k_ hk,Kd.fresh' (Kd.R_lt (rL aU)) k_ hk⟩));(case aO=>exact (rL dG));(case aS=>exact (below_size (bL HB)));(case aL=>have:=iR.out;omega);intro gM lC ho hb hg hat;rw [← gX.out] at ho;have dR:=am ho;replace aA:=bgr aA hg dG;replace aN:=am (Kd.R_after (ok:=(fun k_=>some k_≠(.slice fF eR.length fG:Value).ownBlock)) (rL aN) hg hat);replace aU:=am (Kd.R_after (ok:=(fun k_=>some k_≠(aW:Value).ownBlock)) (rL aU) hg hat);replace HB:=am hb;clear dG;clear ho hb hg hat;obtain⟨cA,cB,cC,cD,cE,cF⟩:=cl3 aA) | ((with_reducible refine gd 6 rfl ?_);refine bxv 6 rfl #[.int .i64 0,.int .i64 0,.int .i64 0,.string ⟨#[]⟩,.int .i64 0] 49 HB ?_;clear HB;intro aC lD aE jB jC HB hg hb;obtain⟨a6,a7⟩:=nbp (nbl aA hg);replace aN:=am (Kd.R_below (Kd.R_elderB (rL aN) aC (Nat.le_of_eq hg.symm)) hb);replace aU:=am (Kd.R_below (Kd.R_elderB (rL aU) aC (Nat.le_of_eq hg.symm)) hb);replace dR:=am (Kd.R_below (Kd.R_elderB (rL dR) aC (Nat.le_of_eq hg.symm)) hb);replace aA:=bkb aA hb;clear hg hb;obtain⟨jD,jE⟩:=nbo a7;obtain⟨cG,cH,cI,cJ,cK,cM,cN,cO,cP,cQ⟩:=cl5 aE;obtain⟨cR,cS,cT,cU,cV,cW⟩:=cl3 aA))
 (try simp only [Act.put,List.setIfInBounds_toArray,List.set_cons_zero,List.set_cons_succ])
 go_cut [] (fun wc=>∃ (kq:Nat) (aH:Int),Aside0 (spec_MetaTree.j0 kq eI fD aV aZ aD 9 4 aH (⟨#[]⟩:ByteArray) (aD.length:Int)=some (r1,r2))∧Aside0 (kq≤k)∧Aside0 (Kd.R k49 49 wc w.heap.size (fun k_=>some k_≠(gM:Value).ownBlock∧k_≠aC) aW eI)∧Aside0 (Kd.R k49 49 wc w.heap.size (fun k_=>some k_≠(aW:Value).ownBlock∧k_≠aC) gM fD)∧Aside0 (wc.heap[bI]?=some (.cells #[(.slice bA aV.length bB),.int .i64 aZ,(.slice dF aD.length bJ)] 33 (0,0)))∧Aside0 (wc.heap[aC]?=some (.cells #[.int .i64 9,.int .i64 4,.int .i64 aH,.string ⟨#[]⟩,.int .i64 (aD.length:Int)] 49 (0,0)))∧Aside0 (Below w.heap.size w wc))
 case first =>
  have H:=iS.out
  clear iS
  by_cases gR:(aD.length:Int) > 0
  rotate_left
  · rw [if_neg gR] at H
    have dH:decide (0 < (aD.length:Int))=false:=decide_eq_false gR
    have eT:decide (0 < aD.length)=false:=decide_eq_false (by omega)
    clear gR
    (first | rw [dH] | rw [eT] | (simp only [i64_w,i32_w];rw [dH]) | skip)
    have H':=am H;clear H
    go_wp2
    go_meet
    case rel=>exact⟨_,(0),H',⟨by first | omega | exact Nat.le_refl _⟩,⟨R_later (Kd.R_mono (Kd.R_far (p:=⟨aC,4,none⟩) (Kd.R_far (p:=⟨aC,3,none⟩) (Kd.R_far (p:=⟨aC,2,none⟩) (Kd.R_far (p:=⟨aC,1,none⟩) (Kd.R_far (p:=⟨aC,0,none⟩) (Kd.R_mono aN.out (fun k_ hk=>(⟨hk,hk.2⟩:_∧k_≠aC))) (fun _ hk=>hk.2) (.int .i64 9)) (fun _ hk=>hk.2) (.int .i64 4)) (fun _ hk=>hk.2) (.int .i64 0)) (fun _ hk=>hk.2) (.string ⟨#[]⟩)) (fun _ hk=>hk.2) (.int .i64 (aD.length:Int))) (fun _ hk=>⟨hk.1.1.2,hk.1.2⟩))⟩,⟨R_later (Kd.R_mono (Kd.R_far (p:=⟨aC,4,none⟩) (Kd.R_far (p:=⟨aC,3,none⟩) (Kd.R_far (p:=⟨aC,2,none⟩) (Kd.R_far (p:=⟨aC,1,none⟩) (Kd.R_far (p:=⟨aC,0,none⟩) (Kd.R_mono dR.out (fun k_ hk=>(⟨hk,hk.2⟩:_∧k_≠aC))) (fun _ hk=>hk.2) (.int .i64 9)) (fun _ hk=>hk.2) (.int .i64 4)) (fun _ hk=>hk.2) (.int .i64 0)) (fun _ hk=>hk.2) (.string ⟨#[]⟩)) (fun _ hk=>hk.2) (.int .i64 (aD.length:Int))) (fun _ hk=>⟨hk.1.1.1,hk.1.2⟩))⟩,⟨kL aA⟩,⟨kL aE⟩,⟨bL HB⟩⟩
  rw [if_pos gR] at H
  have dH:decide (0 < (aD.length:Int))=true:=decide_eq_true gR
  have eT:decide (0 < aD.length)=true:=decide_eq_true (by omega)
  clear gR
  (first | rw [dH] | rw [eT] | (simp only [i64_w,i32_w];rw [dH]) | skip)
  have H':=am H;clear H
  obtain⟨jF,jG⟩:=nbo a7
  obtain⟨_,_,_,_,_,_,_,_,_,_⟩:=cl5 aE
  go_wp2
  go_meet
  case rel=>exact⟨_,(12),H',⟨by first | omega | exact Nat.le_refl _⟩,⟨R_later (Kd.R_mono (Kd.R_far (p:=⟨aC,2,none⟩) (Kd.R_far (p:=⟨aC,4,none⟩) (Kd.R_far (p:=⟨aC,3,none⟩) (Kd.R_far (p:=⟨aC,2,none⟩) (Kd.R_far (p:=⟨aC,1,none⟩) (Kd.R_far (p:=⟨aC,0,none⟩) (Kd.R_mono aN.out (fun k_ hk=>(⟨hk,hk.2⟩:_∧k_≠aC))) (fun _ hk=>hk.2) (.int .i64 9)) (fun _ hk=>hk.2) (.int .i64 4)) (fun _ hk=>hk.2) (.int .i64 0)) (fun _ hk=>hk.2) (.string ⟨#[]⟩)) (fun _ hk=>hk.2) (.int .i64 (aD.length:Int))) (fun _ hk=>hk.2) (.int .i64 12)) (fun _ hk=>⟨hk.1.1.2,hk.1.2⟩))⟩,⟨R_later (Kd.R_mono (Kd.R_far (p:=⟨aC,2,none⟩) (Kd.R_far (p:=⟨aC,4,none⟩) (Kd.R_far (p:=⟨aC,3,none⟩) (Kd.R_far (p:=⟨aC,2,none⟩) (Kd.R_far (p:=⟨aC,1,none⟩) (Kd.R_far (p:=⟨aC,0,none⟩) (Kd.R_mono dR.out (fun k_ hk=>(⟨hk,hk.2⟩:_∧k_≠aC))) (fun _ hk=>hk.2) (.int .i64 9)) (fun _ hk=>hk.2) (.int .i64 4)) (fun _ hk=>hk.2) (.int .i64 0)) (fun _ hk=>hk.2) (.string ⟨#[]⟩)) (fun _ hk=>hk.2) (.int .i64 (aD.length:Int))) (fun _ hk=>hk.2) (.int .i64 12)) (fun _ hk=>⟨hk.1.1.1,hk.1.2⟩))⟩,⟨kL aA⟩,⟨kL aE⟩,⟨bL HB⟩⟩
 clear iS
 try clear c3 c5 c6 c8 bM bN bO bS bT bU bY bZ b6 cA cB cC cG cH cI cJ cK cR cS cT bP bQ bR bV bW bX b7 b8 b9 cD cE cF cM cN cO cP cQ cU cV cW
 obtain⟨kq,aH,HA,iH,aM,aI,aA,aE,HB⟩:=hcut
 cases kq with
 | zero=>exact absurd HA.out (by simp [spec_MetaTree.j0])
 | succ kj8=>?_
 have H:=HA.out
 clear HA
 simp only [spec_MetaTree.j0] at H
 replace H:=ifs H;obtain⟨iI,H⟩:=H
 have gY:=am iI
 clear iI
 generalize f9:((fD ++ [(⟨9,4,aH,(⟨#[]⟩:ByteArray),(aD.length:Int)⟩:S49)]):List (S49))=iW at H;have gZ:=am f9.symm;clear f9
 have H':=am H;clear H
 obtain⟨jH,jI⟩:=nbo a7
 obtain⟨dS,dT,dU,dV,dW,dX,dY,dZ,d2,d3⟩:=cl5 aE
 go_wp2_with (first | ((with_reducible refine gate_builtin (b:=.append) (xs:=#[.tmp 39,.tmp 41]) rfl ?_);at_builtin;refine Kd.R_append k49 (w0:=w) w.heap.size rfl (.tmp 39) (.tmp 41) 27 49 (.agg #[(.int .i64 0),(.int .i64 0),(.int .i64 0),(.string ⟨#[]⟩),(.int .i64 0)]) 48 rfl Try.underlying27 info49 rfl (by decide) (by omega) gM fD (⟨9,4,aH,(⟨#[]⟩:ByteArray),(aD.length:Int)⟩:S49) [.int .i64 9,.int .i64 4,.int .i64 aH,.string ⟨#[]⟩,.int .i64 (aD.length:Int)] (fun k_=>some k_≠(aW:Value).ownBlock∧k_≠aC) (fun _=>False) rfl rfl ?aP (fun _ hk=>hk.elim) ?aF ?aO ?aB ?aS ?aL ?_;(case aP=>exact k49_mkM _ _ _ (⟨9,4,aH,(⟨#[]⟩:ByteArray),(aD.length:Int)⟩:S49));(case aB=>exact (bL HB));(case aF=>exact (fun k_ hk=>⟨Kd.fresh' (Kd.R_lt (rL aM)) k_ hk,Kd.freshB (g:=aC) (o:=.cells #[.int .i64 9,.int .i64 4,.int .i64 aH,.string ⟨#[]⟩,.int .i64 (aD.length:Int)] 49 (0,0)) (blk_later aE.out) k_ hk⟩));(case aO=>exact (rL aI));(case aS=>exact (below_size (bL HB)));(case aL=>have:=gY.out;omega);intro kF lE ho hb hg hat;rw [← gZ.out] at ho;have g2:=am ho;replace aM:=am (Kd.R_after (ok:=(fun k_=>k_≠aC)) (R_later (Kd.R_mono aM.out (fun _ hk=>⟨hk.2,hk.1⟩))) hg hat);replace aA:=bgr aA hg aI;replace aE:=am (blk_grown (g:=aC) (o:=.cells #[.int .i64 9,.int .i64 4,.int .i64 aH,.string ⟨#[]⟩,.int .i64 (aD.length:Int)] 49 (0,0)) (blk_later aE.out) hg (Kd.R_away aI.out (fun _ hk=>hk.2)));replace HB:=am hb;clear aI;clear ho hb hg hat))
 go_loopg [5,7] kj8 (fun kq v5 v7 w'=>∃ (eU:List (S49)) (aK:Int),v7=.int .i64 aK∧Aside0 (spec_MetaTree.l0 kq eI eU aK aV aZ aD=some (r1,r2))∧Aside0 (kq≤kj8)∧Aside0 (Kd.R k49 49 w' w.heap.size (fun k_=>some k_≠(v5:Value).ownBlock∧k_≠aC) aW eI)∧Aside0 (Kd.R k49 49 w' w.heap.size (fun k_=>some k_≠(aW:Value).ownBlock∧k_≠aC) v5 eU)∧Aside0 (w'.heap[bI]?=some (.cells #[(.slice bA aV.length bB),.int .i64 aZ,(.slice dF aD.length bJ)] 33 (0,0)))∧Aside0 (w'.heap[aC]?=some (.cells #[.int .i64 9,.int .i64 4,.int .i64 aH,.string ⟨#[]⟩,.int .i64 (aD.length:Int)] 49 (0,0)))∧Aside0 (Below w.heap.size w w'))
 case atStart=>exact⟨(iW),(0),sr,H',⟨Nat.le_refl _⟩,⟨R_later (Kd.R_mono aM.out (fun _ hk=>⟨hk.2,hk.1⟩))⟩,⟨rL g2⟩,⟨kL aA⟩,⟨kL aE⟩,⟨bL HB⟩⟩
 clear H'
 try clear c3 c5 c6 c8 iI bM bN bO bS bT bU bY bZ b6 cA cB cC cG cH cI cJ cK cR cS cT dS dT dU dV dW bP bQ bR bV bW bX b7 b8 b9 cD cE cF cM cN cO cP cQ cU cV cW dX dY dZ d2 d3
 obtain⟨eU,aK,rfl,HA,iJ,aM,aI,aA,aE,HB⟩:=hrel
 cases gk with
 | zero=>exact absurd HA.out (by simp [spec_MetaTree.l0])
 | succ k2=>?_
 have H:=HA.out
 clear HA
 simp only [spec_MetaTree.l0] at H
 replace H:=idc H;obtain⟨gA,H⟩ | ⟨gA,H⟩:=H
 rotate_left
 · replace H:=bnd H;obtain⟨kG,jJ,H⟩:=H
   replace H:=ibt H;obtain⟨rfl,H⟩ | ⟨rfl,H⟩:=H
   · replace H:=sj2 H;obtain⟨rfl,rfl⟩:=H
     obtain⟨jK,jL⟩:=nbo a6
     obtain⟨_,_,_,_,_,_⟩:=cl3 aA
     obtain⟨kH,kJ,iX⟩:=Kd.R_slice aI.out
     subst iX
     go_wp2_with (first | ((with_reducible refine gc 26 rfl ?_);refine gc1 (some 97) Try.func26 rfl (spec_TreeOk.calls (C_later (Kd.R_reads' aI.out).2.2) ((Kd.R_reads' aI.out).2.1) jJ.out) ?_;rintro lF hb;replace aM:=rbe aM hb;replace aI:=rbe aI hb;replace aA:=bkb aA hb;replace aE:=bkb aE hb;replace HB:=bst HB hb;clear hb))
     go_ret2
     exact⟨_,fin_ ⟨R_later (Kd.R_mono aI.out (fun _ hk=>trivial)),bL HB⟩⟩
   replace H:=sj2 H;obtain⟨rfl,rfl⟩:=H
   obtain⟨jM,jN⟩:=nbo a6
   obtain⟨_,_,_,_,_,_⟩:=cl3 aA
   obtain⟨kM,kN,iY⟩:=Kd.R_slice aI.out
   subst iY
   go_wp2_with (first | ((with_reducible refine gc 26 rfl ?_);refine gc1 (some 97) Try.func26 rfl (spec_TreeOk.calls (C_later (Kd.R_reads' aI.out).2.2) ((Kd.R_reads' aI.out).2.1) jJ.out) ?_;rintro lG hb;replace aM:=rbe aM hb;replace aI:=rbe aI hb;replace aA:=bkb aA hb;replace aE:=bkb aE hb;replace HB:=bst HB hb;clear hb))
   go_ret2
   exact⟨_,fin_ ⟨R_later (Kd.R_mono aM.out (fun _ hk=>trivial)),bL HB⟩⟩
 replace H:=ifd H;obtain⟨g3,H⟩:=H
 replace H:=bsm H;obtain⟨fH,gB,H⟩:=H
 replace H:=ifs H;obtain⟨iZ,H⟩:=H
 have g4:=am iZ
 clear iZ
 generalize gC:((eU ++ fH):List (S49))=i1 at H;have g6:=am gC.symm;clear gC
 have H':=am H;clear H
 obtain⟨jO,jP⟩:=nbo a6
 obtain⟨fI,fJ,fK,fL,fM,fN⟩:=cl3 aA
 have fO:0≤(aK:Int):=dcd
 have fP:aK < (aD.length:Int):=dcd
 obtain⟨gD,aY,aX,i2,cX,cY,d4,d5⟩:=at_T54 eK.out aK fO fP
 cases i2
 replace cX:=crd HB cX
 replace cY:=crd HB cY
 have d6:=am d5
 have iK:=am d4
 clear d5 d4
 replace fO:=eq_true fO
 replace fP:=eq_true fP
 go_wp2_with (first | ((with_reducible refine gd 8 rfl ?_);refine bxv 8 rfl #[.int .i64 0,.slice none 0 0] 54 HB ?_;clear HB;intro aQ lH aG jQ jR HB hg hb;obtain⟨gS,a8⟩:=nbp (nbl aA hg);obtain⟨gT,a9⟩:=nbp (nbl aE hg);replace aM:=rbe aM hb;replace aI:=rbe aI hb;replace aA:=bkb aA hb;replace aE:=bkb aE hb;clear hg hb;obtain⟨jS,jT⟩:=nbo a8;obtain⟨jU,jV⟩:=nbo a9;obtain⟨fQ,fR,fS,fT⟩:=cl2 aG) | ((with_reducible refine gd 61 rfl ?_);refine Kd.R_lit k49 _ 49 ?hg (N:=61) ?hd (xs:=([(⟨12,0,0,(⟨#[]⟩:ByteArray),3⟩:S49),(⟨9,1,12,(⟨#[]⟩:ByteArray),(((rd_T54 aD aK).f1).length:Int)⟩:S49)]:List (S49))) (inner:=[.int .i64 12,.int .i64 0,.int .i64 0,.string ⟨#[]⟩,.int .i64 3,.int .i64 9,.int .i64 1,.int .i64 12,.string ⟨#[]⟩,.int .i64 (((rd_T54 aD aK).f1).length:Int)]) (ok:=fun _=>True) (okp:=fun _=>True) ?hr ?hp (fun _ hk=>hk) trivial (Below.refl _ _) (Nat.le_refl _) (by simp) ?_;(case hd=>rfl);(case hg=>rfl);(case hr=>first | (go_simp;done) | (go_simp;rfl));(case hp=>exact (Reps.c5 (show Kd.M k49 _ _ _ (⟨12,0,0,(⟨#[]⟩:ByteArray),3⟩:S49) [.int .i64 12,.int .i64 0,.int .i64 0,.string ⟨#[]⟩,.int .i64 3] from (k49_mkM _ _ _ (⟨12,0,0,(⟨#[]⟩:ByteArray),3⟩:S49) )) (Reps.c5 (show Kd.M k49 _ _ _ (⟨9,1,12,(⟨#[]⟩:ByteArray),(((rd_T54 aD aK).f1).length:Int)⟩:S49) [.int .i64 9,.int .i64 1,.int .i64 12,.string ⟨#[]⟩,.int .i64 (((rd_T54 aD aK).f1).length:Int)] from (k49_mkM _ _ _ (⟨9,1,12,(⟨#[]⟩:ByteArray),(((rd_T54 aD aK).f1).length:Int)⟩:S49) )) (Reps.none _ _))));intro kO lI dL hb hg_ hnew_;clear hg_ hnew_;(first | rw [← gB.out] at dL | (simp only [Int.reduceToNat] at dL;rw [← gB.out] at dL));have dI:=am (Kd.R_lower (Kd.R_newB (Kd.R_new' (Kd.R_new' dL (Kd.R_lt (R_later (Kd.R_mono (Kd.R_far (p:=⟨aQ,1,none⟩) (Kd.R_far (p:=⟨aQ,0,none⟩) (Kd.R_types aM.out aG.out (by decide)) (fun _ hk=>hk.2) (.int .i64 ((rd_T54 aD aK).f0))) (fun _ hk=>hk.2) (.slice aY ((rd_T54 aD aK).f1).length aX)) (fun _ h_=>h_.1))))) (Kd.R_lt (R_later (Kd.R_mono (Kd.R_far (p:=⟨aQ,1,none⟩) (Kd.R_far (p:=⟨aQ,0,none⟩) (Kd.R_types aI.out aG.out (by decide)) (fun _ hk=>hk.2) (.int .i64 ((rd_T54 aD aK).f0))) (fun _ hk=>hk.2) (.slice aY ((rd_T54 aD aK).f1).length aX)) (fun _ h_=>h_.1))))) (g:=aC) (o:=.cells #[.int .i64 9,.int .i64 4,.int .i64 aH,.string ⟨#[]⟩,.int .i64 (aD.length:Int)] 49 (0,0)) (blk_later aE.out)) (below_size (bL HB)));replace aM:=am (Kd.R_elder' (R_later (Kd.R_mono (Kd.R_far (p:=⟨aQ,1,none⟩) (Kd.R_far (p:=⟨aQ,0,none⟩) (Kd.R_types aM.out aG.out (by decide)) (fun _ hk=>hk.2) (.int .i64 ((rd_T54 aD aK).f0))) (fun _ hk=>hk.2) (.slice aY ((rd_T54 aD aK).f1).length aX)) (fun _ h_=>h_.1))) (Kd.R_base dL) hb);replace aI:=am (Kd.R_elder' (R_later (Kd.R_mono (Kd.R_far (p:=⟨aQ,1,none⟩) (Kd.R_far (p:=⟨aQ,0,none⟩) (Kd.R_types aI.out aG.out (by decide)) (fun _ hk=>hk.2) (.int .i64 ((rd_T54 aD aK).f0))) (fun _ hk=>hk.2) (.slice aY ((rd_T54 aD aK).f1).length aX)) (fun _ h_=>h_.1))) (Kd.R_base dL) hb);replace aA:=bkb aA hb;replace aE:=bkb aE hb;replace aG:=am (blk_below (g:=aQ) (o:=.cells #[.int .i64 ((rd_T54 aD aK).f0),.slice aY ((rd_T54 aD aK).f1).length aX] 54 (0,0)) (blk_later aG.out) hb);replace HB:=bst HB hb;clear hb dL;obtain⟨g7,g8,i3⟩:=Kd.R_slice dI.out;subst i3) | ((with_reducible refine gate_builtin (b:=.append) (xs:=#[.tmp 55,.tmp 61]) rfl ?_);at_builtin;refine Kd.R_append_rows k49 (w0:=w) w.heap.size rfl (.tmp 55) (.tmp 61) 27 49 (.agg #[(.int .i64 0),(.int .i64 0),(.int .i64 0),(.string ⟨#[]⟩),(.int .i64 0)]) 48 rfl Try.underlying27 info49 rfl (by decide) (by omega) u5 eU fH _ _ _ (fun k_=>some k_≠(aW:Value).ownBlock∧some k_≠(.slice g7 fH.length g8:Value).ownBlock∧k_≠aC) (fun _=>False) rfl rfl ?aO ?aR (fun _ _ h=>h) (fun _ h=>h.elim) ?aF ?aB ?aS ?aL ?_;(case aR=>exact C_later (Kd.R_reads' dI.out).2.2);(case aB=>exact (bL HB));(case aF=>exact (fun k_ hk=>⟨Kd.fresh' (Kd.R_lt (rL aM)) k_ hk,Kd.fresh' (Kd.R_lt (rL dI)) k_ hk,Kd.freshB (g:=aC) (o:=.cells #[.int .i64 9,.int .i64 4,.int .i64 aH,.string ⟨#[]⟩,.int .i64 (aD.length:Int)] 49 (0,0)) (blk_later aE.out) k_ hk⟩));(case aO=>exact (R_later (Kd.R_mono aI.out (fun _ hk=>⟨hk.1.1,⟨hk.2,hk.1.2⟩⟩))));(case aS=>exact (below_size (bL HB)));(case aL=>have:=g4.out;omega);intro kP lJ ho hb hg hat;rw [← g6.out] at ho;have g9:=am ho;replace aM:=am (Kd.R_after (ok:=(fun k_=>some k_≠(.slice g7 fH.length g8:Value).ownBlock∧k_≠aC)) (R_later (Kd.R_mono aM.out (fun _ hk=>⟨⟨hk.2,hk.1.2⟩,hk.1.1⟩))) hg hat);replace aA:=bgr aA hg aI;replace aE:=am (blk_grown (g:=aC) (o:=.cells #[.int .i64 9,.int .i64 4,.int .i64 aH,.string ⟨#[]⟩,.int .i64 (aD.length:Int)] 49 (0,0)) (blk_later aE.out) hg (Kd.R_away aI.out (fun _ hk=>hk.1.2)));replace aG:=bgr aG hg aI;replace dI:=am (Kd.R_after (ok:=(fun k_=>some k_≠(aW:Value).ownBlock∧k_≠aC)) (R_later (Kd.R_mono dI.out (fun _ hk=>⟨⟨hk.1.1.2,hk.2⟩,hk.1.2⟩))) hg hat);replace HB:=am hb;clear aI;clear ho hb hg hat))
 go_loopg [5,9,10] k2 (fun kq v5 v9 v10 w'=>∃ (dM:List (S49)) (eV:Int) (aJ:Int),v9=.int .i64 eV∧v10=.int .i64 aJ∧Aside0 (spec_MetaTree.l1 kq eI dM aK eV aJ aV aZ aD ((rd_T54 aD aK).f0) ((rd_T54 aD aK).f1)=some (r1,r2))∧Aside0 (kq≤k2)∧Aside0 (Kd.R k49 49 w' w.heap.size (fun k_=>some k_≠(v5:Value).ownBlock∧k_≠aC) aW eI)∧Aside0 (Kd.R k49 49 w' w.heap.size (fun k_=>some k_≠(aW:Value).ownBlock∧k_≠aC) v5 dM)∧Aside0 (w'.heap[bI]?=some (.cells #[(.slice bA aV.length bB),.int .i64 aZ,(.slice (some gD) aD.length bJ)] 33 (0,0)))∧Aside0 (w'.heap[aC]?=some (.cells #[.int .i64 9,.int .i64 4,.int .i64 aH,.string ⟨#[]⟩,.int .i64 (aD.length:Int)] 49 (0,0)))∧Aside0 (w'.heap[aQ]?=some (.cells #[.int .i64 ((rd_T54 aD aK).f0),(.slice aY ((rd_T54 aD aK).f1).length aX)] 54 (0,0)))∧Aside0 (Below w.heap.size w w'))
 case atStart=>exact⟨(i1),(0),(0),sr,sr,H',⟨Nat.le_refl _⟩,⟨R_later (Kd.R_mono aM.out (fun _ hk=>⟨hk.2,hk.1.2⟩))⟩,⟨R_later (Kd.R_mono g9.out (fun _ hk=>⟨hk.1,hk.2.2⟩))⟩,⟨kL aA⟩,⟨kL aE⟩,⟨kL aG⟩,⟨bL HB⟩⟩
 clear H'
 try clear c3 c5 c6 c8 iI lK gA g3 iZ bM bN bO bS bT bU bY bZ b6 cA cB cC cG cH cI cJ cK cR cS cT dS dT dU dV dW fI fJ fK fQ fR bP bQ bR bV bW bX b7 b8 b9 cD cE cF cM cN cO cP cQ cU cV cW dX dY dZ d2 d3 fL fM fN fS fT cX cY fO fP
 obtain⟨dM,eV,aJ,rfl,rfl,HA,iL,aM,aI,aA,aE,aG,HB⟩:=hrel
 cases gk with
 | zero=>exact absurd HA.out (by simp [spec_MetaTree.l1])
 | succ k3=>?_
 have H:=HA.out
 clear HA
 simp only [spec_MetaTree.l1] at H
 replace H:=idc H;obtain⟨hD,H⟩ | ⟨hD,H⟩:=H
 rotate_left
 · replace H:=bnd5 H;obtain⟨eW,eX,eY,eZ,e5,kQ,H⟩:=H;dsimp only at H
   replace H:=bnd5 H;obtain⟨e6,e7,e8,e9,fA,kR,H⟩:=H;dsimp only at H
   replace H:=bsm H;obtain⟨fU,gE,H⟩:=H
   replace H:=ifs H;obtain⟨jW,H⟩:=H
   have hJ:=am jW
   clear jW
   generalize gF:((dM ++ fU):List (S49))=i4 at H;have hU:=am gF.symm;clear gF
   have H':=am H;clear H
   obtain⟨jX,jY⟩:=nbo a8
   obtain⟨jZ,j4⟩:=nbo a9
   obtain⟨_,_,_,_⟩:=cl2 aG
   try go_wp2
   replace aM:=rdr aM
   replace aI:=rdr aI
   replace aA:=bdr aA
   replace aE:=bdr aE
   replace aG:=bdr aG
   replace HB:=bld HB
   refine start_ (n:=9) (S:=fun w'=>w'.cell? ⟨aQ,0,none⟩=some (.int .i64 ((rd_T54 aD aK).f0))∧w'.cell? ⟨aQ,1,none⟩=some (.slice aY ((rd_T54 aD aK).f1).length aX)) (ds:=[]) #[false,false,false,false,false,false,false,false,false] (by kernel_rfl) rfl rfl ⟨bcl aG 0,bcl aG 1⟩ (fun hHeld=>?_);refine with_tabW spec_MetaTree.tab22 spec_MetaTree.bits22 (fun HT_ HW_=>?_)
   generalize wr.drew=lL at aM aI aA aE aG HB hHeld ⊢
   refine pu_ 0 88 ?_;refine pu_ 1 89 ?_;refine pu_ 3 91 ?_;refine tk_ 4 92 hHeld ?_
   refine on_ 2 90 (fun K hK=>?_)
   refine gs_ Try.func24 #[.int .i64 2,.int .i64 eV] rfl ?_
   with_reducible refine (spec_l18Long.calls kQ.out).mono ?_
   rintro e lM ⟨rfl,hb⟩
   refine⟨_,rfl,?_⟩
   replace aM:=rbe aM hb
   replace aI:=rbe aI hb
   replace aA:=bkb aA hb
   replace aE:=bkb aE hb
   replace aG:=bkb aG hb
   replace HB:=bst HB hb
   (try clear hb)
   (try clear j5)
   (try clear hk)
   (try clear hi)
   refine hK.out _ _ ⟨bcl aG 0,bcl aG 1⟩ (fun hHeld=>?_)
   clear hK K
   refine no_ (some 90) ?_
   refine on_ 5 93 (fun K hK=>?_)
   refine gs_ Try.func24 #[.int .i64 3,.int .i64 ((rd_T54 aD aK).f0)] rfl ?_
   with_reducible refine (spec_l18Long.calls kR.out).mono ?_
   rintro e lN ⟨rfl,hb⟩
   refine⟨_,rfl,?_⟩
   replace aM:=rbe aM hb
   replace aI:=rbe aI hb
   replace aA:=bkb aA hb
   replace aE:=bkb aE hb
   replace aG:=bkb aG hb
   replace HB:=bst HB hb
   (try clear hb)
   (try clear j5)
   (try clear hk)
   (try clear hi)
   refine hK.out _ _ ⟨bcl aG 0,bcl aG 1⟩ (fun hHeld=>?_)
   clear hK K
   refine no_ (some 93) ?_
   refine on_ 6 94 (fun K hK=>?_)
   refine Kd.R_lit_step k49 _ 49 ?hg (N:=94) ?hd (xs:=([(⟨eW,eX,eY,eZ,e5⟩:S49),(⟨e6,e7,e8,e9,fA⟩:S49)]:List (S49))) (inner:=[.int .i64 eW,.int .i64 eX,.int .i64 eY,.string eZ,.int .i64 e5,.int .i64 e6,.int .i64 e7,.int .i64 e8,.string e9,.int .i64 fA]) (ok:=fun _=>True) (okp:=fun _=>True) ?hr ?hp (fun _ hk=>hk) trivial (Below.refl _ _) (Nat.le_refl _) (by simp) ?_;(case hd=>rfl);(case hg=>rfl);(case hr=>first | (go_simp;done) | (go_simp;rfl));(case hp=>exact (Reps.c5 (show Kd.M k49 _ _ _ (⟨eW,eX,eY,eZ,e5⟩:S49) [.int .i64 eW,.int .i64 eX,.int .i64 eY,.string eZ,.int .i64 e5] from (k49_mkM _ _ _ (⟨eW,eX,eY,eZ,e5⟩:S49) )) (Reps.c5 (show Kd.M k49 _ _ _ (⟨e6,e7,e8,e9,fA⟩:S49) [.int .i64 e6,.int .i64 e7,.int .i64 e8,.string e9,.int .i64 fA] from (k49_mkM _ _ _ (⟨e6,e7,e8,e9,fA⟩:S49) )) (Reps.none _ _))))
   intro kS lO dN hb hg_ hnew_
   clear hg_ hnew_
   (first | rw [← gE.out] at dN | (simp only [Int.reduceToNat] at dN;rw [← gE.out] at dN))
   have dJ:=am (Kd.R_lower (Kd.R_newB (Kd.R_new' (Kd.R_new' dN (Kd.R_lt (rL aM))) (Kd.R_lt (rL aI))) (g:=aC) (o:=.cells #[.int .i64 9,.int .i64 4,.int .i64 aH,.string ⟨#[]⟩,.int .i64 (aD.length:Int)] 49 (0,0)) (blk_later aE.out)) (below_size (bL HB)))
   replace aM:=am (Kd.R_elder' (rL aM) (Kd.R_base dN) hb)
   replace aI:=am (Kd.R_elder' (rL aI) (Kd.R_base dN) hb)
   replace aA:=bkb aA hb
   replace aE:=bkb aE hb
   replace aG:=bkb aG hb
   replace HB:=bst HB hb
   clear hb dN
   obtain⟨hV,hX,hY⟩:=Kd.R_slice dJ.out
   (first | subst hY | (injection hY with f1_ f2_ f3_;have f4_:=f1_.symm;have f5_:=f3_.symm;clear f1_ f2_ f3_;subst f4_;subst f5_))
   refine hK.out _ _ ⟨bcl aG 0,bcl aG 1⟩ (fun hHeld=>?_)
   clear hK K
   refine no_ (some 94) ?_
   refine on_ 7 95 (fun K hK=>?_)
   refine Kd.R_append_rows_step k49 (w0:=w) w.heap.size (by rfl) (.tmp 88) (.tmp 94) 27 49 (.agg #[(.int .i64 0),(.int .i64 0),(.int .i64 0),(.string ⟨#[]⟩),(.int .i64 0)]) 48 rfl Try.underlying27 info49 rfl (by decide) (by omega) u5 dM fU _ _ _ (fun k_=>some k_≠(aW:Value).ownBlock∧some k_≠(.slice hV fU.length hX:Value).ownBlock∧k_≠aC) (fun _=>False) rfl rfl ?aO ?aR (fun _ _ h=>h) (fun _ h=>h.elim) ?aF ?aB ?aS ?aL ?_
   (case aR=>exact C_later (Kd.R_reads' dJ.out).2.2)
   (case aB=>exact (bL HB))
   (case aF=>exact (fun k_ hk=>⟨Kd.fresh' (Kd.R_lt (rL aM)) k_ hk,Kd.fresh' (Kd.R_lt (rL dJ)) k_ hk,Kd.freshB (g:=aC) (o:=.cells #[.int .i64 9,.int .i64 4,.int .i64 aH,.string ⟨#[]⟩,.int .i64 (aD.length:Int)] 49 (0,0)) (blk_later aE.out) k_ hk⟩))
   (case aO=>exact (R_later (Kd.R_mono aI.out (fun _ hk=>⟨hk.1.1,⟨hk.2,hk.1.2⟩⟩))))
   (case aS=>exact (below_size (bL HB)))
   (case aL=>have:=hJ.out;omega)
   intro kT lP ho hb hg hat
   rw [← hU.out] at ho
   have hZ:=am ho
   replace aM:=am (Kd.R_after (ok:=(fun k_=>some k_≠(.slice hV fU.length hX:Value).ownBlock∧k_≠aC)) (R_later (Kd.R_mono aM.out (fun _ hk=>⟨⟨hk.2,hk.1.2⟩,hk.1.1⟩))) hg hat)
   replace aA:=bgr aA hg aI
   replace aE:=am (blk_grown (g:=aC) (o:=.cells #[.int .i64 9,.int .i64 4,.int .i64 aH,.string ⟨#[]⟩,.int .i64 (aD.length:Int)] 49 (0,0)) (blk_later aE.out) hg (Kd.R_away aI.out (fun _ hk=>hk.1.2)))
   replace aG:=bgr aG hg aI
   replace dJ:=am (Kd.R_after (ok:=(fun k_=>some k_≠(aW:Value).ownBlock∧k_≠aC)) (R_later (Kd.R_mono dJ.out (fun _ hk=>⟨⟨hk.1.1.2,hk.2⟩,hk.1.2⟩))) hg hat)
   replace HB:=am hb
   clear aI ho hb hg hat
   refine hK.out _ _ ⟨bcl aG 0,bcl aG 1⟩ (fun hHeld=>?_)
   clear hK K
   refine no_ (some 95) ?_;refine pu_ 8 5 ?_
   refine done_ (done_of HT_.out (by kernel_rfl)) ?_
   try go_wp2
   go_roundg k3
   case measure=>have:=iH.out;have:=iJ.out;have:=iL.out;omega
   case rel=>exact⟨(i4),(wrap64 (aK + 1)),sr,H',⟨by have:=iH.out;have:=iJ.out;have:=iL.out;omega⟩,⟨R_later (Kd.R_mono aM.out (fun _ hk=>⟨hk.2,hk.1.2⟩))⟩,⟨R_later (Kd.R_mono hZ.out (fun _ hk=>⟨hk.1,hk.2.2⟩))⟩,⟨kL aA⟩,⟨kL aE⟩,⟨bL HB⟩⟩
 replace H:=ifd H;obtain⟨j6,H⟩:=H
 replace H:=bnd H;obtain⟨fV,kU,H⟩:=H
 replace H:=ifs H;obtain⟨j7,H⟩:=H
 have iA:=am j7
 clear j7
 generalize gG:((dM ++ fV):List (S49))=i5 at H;have iB:=am gG.symm;clear gG
 have H':=am H;clear H
 obtain⟨j8,j9⟩:=nbo a8
 obtain⟨kA,kC⟩:=nbo a9
 obtain⟨_,_,_,_⟩:=cl2 aG
 try go_wp2
 replace aM:=rdr aM
 replace aI:=rdr aI
 replace aA:=bdr aA
 replace aE:=bdr aE
 replace aG:=bdr aG
 replace HB:=bld HB
 have gN:0≤(aJ:Int):=dcd
 have gO:aJ < (((rd_T54 aD aK).f1).length:Int):=dcd
 obtain⟨aT,fB,fC,i6,bC,bD,bE,bF,bG,bH,d7,d8⟩:=at_T58 d6.out aJ gN gO
 have cZ:=bH
 have dA:=bG
 have dB:=bF
 have dC:=bE
 have dD:=bD
 have dE:=bC
 cases i6
 replace bC:=crd HB bC
 replace bD:=crd HB bD
 replace bE:=crd HB bE
 replace bF:=crd HB bF
 replace bG:=crd HB bG
 replace bH:=crd HB bH
 have d9:=am d8
 have fW:=am d7
 clear d8 d7
 replace gN:=eq_true gN
 replace gO:=eq_true gO
 refine start_ (n:=11) (S:=fun w'=>w'.cell? ⟨bI,0,none⟩=some (.slice bA aV.length bB)∧w'.cell? ⟨bI,1,none⟩=some (.int .i64 aZ)∧w'.cell? ⟨bI,2,none⟩=some (.slice (some gD) aD.length bJ)∧w'.cell? ⟨aQ,0,none⟩=some (.int .i64 ((rd_T54 aD aK).f0))∧w'.cell? ⟨aQ,1,none⟩=some (.slice (some aT) ((rd_T54 aD aK).f1).length aX)∧w'.cell? (aT.add ((aJ).toNat * 6))=some (.int .i64 ((rd_T58 ((rd_T54 aD aK).f1) aJ).f0))∧w'.cell? ⟨(aT.add ((aJ).toNat * 6)).block,(aT.add ((aJ).toNat * 6)).off + 1,none⟩=some (.int .i64 ((rd_T58 ((rd_T54 aD aK).f1) aJ).f1))∧w'.cell? ⟨(aT.add ((aJ).toNat * 6)).block,(aT.add ((aJ).toNat * 6)).off + 2,none⟩=some (.int .i64 ((rd_T58 ((rd_T54 aD aK).f1) aJ).f2))∧w'.cell? ⟨(aT.add ((aJ).toNat * 6)).block,(aT.add ((aJ).toNat * 6)).off + 3,none⟩=some (.int .i64 ((rd_T58 ((rd_T54 aD aK).f1) aJ).f3))∧w'.cell? ⟨(aT.add ((aJ).toNat * 6)).block,(aT.add ((aJ).toNat * 6)).off + 4,none⟩=some (.int .i64 ((rd_T58 ((rd_T54 aD aK).f1) aJ).f4))∧w'.cell? ⟨(aT.add ((aJ).toNat * 6)).block,(aT.add ((aJ).toNat * 6)).off + 5,none⟩=some (.slice fB ((rd_T58 ((rd_T54 aD aK).f1) aJ).f5).length fC)) (ds:=[]) #[false,false,false,false,false,false,false,false,false,false,false] (by kernel_rfl) rfl rfl ⟨bcl aA 0,bcl aA 1,bcl aA 2,bcl aG 0,bcl aG 1,crd HB dE,crd HB dD,crd HB dC,crd HB dB,crd HB dA,crd HB cZ⟩ (fun hHeld=>?_);refine with_tabW spec_MetaTree.tab20 spec_MetaTree.bits20 (fun HT_ HW_=>?_)
 generalize wr.drew=lQ at aM aI aA aE aG HB d9 bC bD bE bF bG bH hHeld ⊢
 refine pu_ 0 70 ?_;refine pu_ 1 71 ?_;refine pu_ 3 73 ?_;refine pu_ 5 75 ?_;refine tk_ 2 72 hHeld ?_;refine tk_ 4 74 hHeld ?_;refine pu_ 6 76 ?_;refine tk_ 7 77 hHeld ?_
 refine on_ 8 78 (fun K hK=>?_)
 refine gs_ Try.func25 #[.slice bA aV.length bB,.agg #[.int .i64 ((rd_T58 ((rd_T54 aD aK).f1) aJ).f0),.int .i64 ((rd_T58 ((rd_T54 aD aK).f1) aJ).f1),.int .i64 ((rd_T58 ((rd_T54 aD aK).f1) aJ).f2),.int .i64 ((rd_T58 ((rd_T54 aD aK).f1) aJ).f3),.int .i64 ((rd_T58 ((rd_T54 aD aK).f1) aJ).f4),.slice fB ((rd_T58 ((rd_T54 aD aK).f1) aJ).f5).length fC]] rfl ?_
 with_reducible refine (spec_l18Nodes.calls ?side1 ?side2 ?side3 ?side4 kU.out).mono ?_
 (case side1=>exact cL dO HB)
 (case side2=>exact dP.out)
 (case side3=>exact cL d9 HB)
 (case side4=>exact fW.out)
 rintro e lR ⟨kV,rfl,fE,hb⟩
 refine⟨_,rfl,?_⟩
 have dK:=am (Kd.R_lower (Kd.R_newB (Kd.R_new' (Kd.R_new' fE (Kd.R_lt (rL aM))) (Kd.R_lt (rL aI))) (g:=aC) (o:=.cells #[.int .i64 9,.int .i64 4,.int .i64 aH,.string ⟨#[]⟩,.int .i64 (aD.length:Int)] 49 (0,0)) (blk_later aE.out)) (below_size (bL HB)))
 replace aM:=am (Kd.R_elder' (rL aM) (Kd.R_base fE) hb)
 replace aI:=am (Kd.R_elder' (rL aI) (Kd.R_base fE) hb)
 replace aA:=bkb aA hb
 replace aE:=bkb aE hb
 replace aG:=bkb aG hb
 replace HB:=bst HB hb
 (try clear hb)
 (try clear j5)
 (try clear hk)
 (try clear hi)
 (try clear fE)
 obtain⟨iC,iD,iE⟩:=Kd.R_slice dK.out
 (first | subst iE | (injection iE with f1_ f2_ f3_;have f4_:=f1_.symm;have f5_:=f3_.symm;clear f1_ f2_ f3_;subst f4_;subst f5_))
 refine hK.out _ _ ⟨bcl aA 0,bcl aA 1,bcl aA 2,bcl aG 0,bcl aG 1,crd HB dE,crd HB dD,crd HB dC,crd HB dB,crd HB dA,crd HB cZ⟩ (fun hHeld=>?_)
 clear hK K
 refine no_ (some 78) ?_
 refine on_ 9 79 (fun K hK=>?_)
 refine Kd.R_append_rows_step k49 (w0:=w) w.heap.size (by rfl) (.tmp 70) (.tmp 78) 27 49 (.agg #[(.int .i64 0),(.int .i64 0),(.int .i64 0),(.string ⟨#[]⟩),(.int .i64 0)]) 48 rfl Try.underlying27 info49 rfl (by decide) (by omega) u5 dM fV _ _ _ (fun k_=>some k_≠(aW:Value).ownBlock∧some k_≠(.slice iC fV.length iD:Value).ownBlock∧k_≠aC) (fun _=>False) rfl rfl ?aO ?aR (fun _ _ h=>h) (fun _ h=>h.elim) ?aF ?aB ?aS ?aL ?_
 (case aR=>exact C_later (Kd.R_reads' dK.out).2.2)
 (case aB=>exact (bL HB))
 (case aF=>exact (fun k_ hk=>⟨Kd.fresh' (Kd.R_lt (rL aM)) k_ hk,Kd.fresh' (Kd.R_lt (rL dK)) k_ hk,Kd.freshB (g:=aC) (o:=.cells #[.int .i64 9,.int .i64 4,.int .i64 aH,.string ⟨#[]⟩,.int .i64 (aD.length:Int)] 49 (0,0)) (blk_later aE.out) k_ hk⟩))
 (case aO=>exact (R_later (Kd.R_mono aI.out (fun _ hk=>⟨hk.1.1,⟨hk.2,hk.1.2⟩⟩))))
 (case aS=>exact (below_size (bL HB)))
 (case aL=>have:=iA.out;omega)
 intro kW lS ho hb hg hat
 rw [← iB.out] at ho
 have iF:=am ho
 replace aM:=am (Kd.R_after (ok:=(fun k_=>some k_≠(.slice iC fV.length iD:Value).ownBlock∧k_≠aC)) (R_later (Kd.R_mono aM.out (fun _ hk=>⟨⟨hk.2,hk.1.2⟩,hk.1.1⟩))) hg hat)
 replace aA:=bgr aA hg aI
 replace aE:=am (blk_grown (g:=aC) (o:=.cells #[.int .i64 9,.int .i64 4,.int .i64 aH,.string ⟨#[]⟩,.int .i64 (aD.length:Int)] 49 (0,0)) (blk_later aE.out) hg (Kd.R_away aI.out (fun _ hk=>hk.1.2)))
 replace aG:=bgr aG hg aI
 replace dK:=am (Kd.R_after (ok:=(fun k_=>some k_≠(aW:Value).ownBlock∧k_≠aC)) (R_later (Kd.R_mono dK.out (fun _ hk=>⟨⟨hk.1.1.2,hk.2⟩,hk.1.2⟩))) hg hat)
 replace HB:=am hb
 clear aI ho hb hg hat
 refine hK.out _ _ ⟨bcl aA 0,bcl aA 1,bcl aA 2,bcl aG 0,bcl aG 1,crd HB dE,crd HB dD,crd HB dC,crd HB dB,crd HB dA,crd HB cZ⟩ (fun hHeld=>?_)
 clear hK K
 refine no_ (some 79) ?_;refine pu_ 10 5 ?_
 refine done_ (done_of HT_.out (by kernel_rfl)) ?_
 obtain⟨_,_,_,_⟩:=cl2 aG
 have gP:0≤(aJ:Int):=dcd
 have gQ:aJ < (((rd_T54 aD aK).f1).length:Int):=dcd
 obtain⟨iG,i7,i8,i9,eA,eB,eC,eD,eE,eF,eG,eH⟩:=at_T58 d6.out aJ gP gQ
 obtain rfl:aT=iG:=(by injection i9)
 replace eA:=crd HB eA
 replace eB:=crd HB eB
 replace eC:=crd HB eC
 replace eD:=crd HB eD
 replace eE:=crd HB eE
 replace eF:=crd HB eF
 have iM:=am eH
 have iN:=am eG
 clear eH eG
 replace gP:=eq_true gP
 replace gQ:=eq_true gQ
 try go_wp2
 go_roundg k3
 case measure=>have:=iH.out;have:=iJ.out;have:=iL.out;omega
 case rel=>exact⟨(i5),(wrap64 (eV + ((rd_T58 ((rd_T54 aD aK).f1) aJ).f4))),(wrap64 (aJ + 1)),sr,sr,H',⟨by have:=iH.out;have:=iJ.out;have:=iL.out;omega⟩,⟨R_later (Kd.R_mono aM.out (fun _ hk=>⟨hk.2,hk.1.2⟩))⟩,⟨R_later (Kd.R_mono iF.out (fun _ hk=>⟨hk.1,hk.2.2⟩))⟩,⟨kL aA⟩,⟨kL aE⟩,⟨kL aG⟩,⟨bL HB⟩⟩
/-! ### spec_l2Down: function 99 -/
def spec_l2Down.f (a0:Int)(a1:Int):Option (Int):=if a1=0 then (some a0) else (if 0≤a1 then (if 0≤(wrap64 (64 - a1)) then (some (Go.bits .and .i64 (shr .i64 a0 a1) (wrap64 ((shl .i64 1 (wrap64 (64 - a1))) - 1)))) else (none)) else (none))
theorem spec_l2Down.calls {a0 a1 r : Int} {w : World} (h : spec_l2Down.f a0 a1 = some r) :
    Calls Try.prog 99 #[.int .i64 a0,.int .i64 a1] w fun e w'=>e=.returned (.int .i64 r)∧Drawn0 w w':=by
 have H:=h;clear h;unfold spec_l2Down.f at H
 replace H:=ieq H;obtain⟨aA,aC,H⟩ | ⟨c3,aA,aC,H⟩:=H
 · cases H
   go_enter Try.func99,Try.ntmps99
   go_wp2
   repeat (go_quiet (fail);try go_wp2)
   go_ret
   exact⟨sr,drl⟩
 replace H:=ifs H;obtain⟨c4,H⟩:=H
 have aD:=eq_true c4
 have aE:=decide_eq_true c4
 clear c4
 obtain⟨ji5,hji5⟩:∃ j_:Int,(shr .i64 a0 a1)=j_:=⟨_,rfl⟩
 replace H:(if 0≤(wrap64 (64 - a1)) then (some (Go.bits .and .i64 (ji5) (wrap64 ((shl .i64 1 (wrap64 (64 - a1))) - 1)))) else (none))=some r:=by first | (rw [hji5] at H;exact H) | (simp only [hji5] at H ⊢;exact H)
 have hji5_:(a0 / 2 ^ min a1.toNat 64)=ji5:=hji5
 have hji5z:a1≤64→(a0 / 2 ^ a1.toNat)=ji5:=shr_small hji5
 obtain⟨ji6,hji6⟩:∃ j_:Int,(wrap64 (64 - a1))=j_:=⟨_,rfl⟩
 replace H:(if 0≤(ji6) then (some (Go.bits .and .i64 (ji5) (wrap64 ((shl .i64 1 (ji6)) - 1)))) else (none))=some r:=by first | (rw [hji6] at H;exact H) | (simp only [hji6] at H ⊢;exact H)
 have hji6w:(IntKind.i64.wrap (64 - a1))=ji6:=(i64_w _).trans hji6
 replace H:=ifs H;obtain⟨c7,H⟩:=H
 have aG:=eq_true c7
 have aH:=decide_eq_true c7
 clear c7
 obtain⟨ji8,hji8⟩:∃ j_:Int,(shl .i64 1 (ji6))=j_:=⟨_,rfl⟩
 replace H:(some (Go.bits .and .i64 (ji5) (wrap64 ((ji8) - 1))))=some r:=by first | (rw [hji8] at H;exact H) | (simp only [hji8] at H ⊢;exact H)
 have hji8_:(IntKind.i64.wrap (1 * 2 ^ min (ji6).toNat 64))=ji8:=hji8
 have hji8z:(ji6)≤64→(IntKind.i64.wrap (1 * 2 ^ (ji6).toNat))=ji8:=shl_small hji8
 have hji8u:(IntKind.i64.wrap (2 ^ min (ji6).toNat 64))=ji8:=by have h_:=hji8_;rw [Int.one_mul] at h_;exact h_
 have hji8v:(ji6)≤64→(IntKind.i64.wrap (2 ^ (ji6).toNat))=ji8:=fun hle_=>by have h_:=hji8z hle_;rw [Int.one_mul] at h_;exact h_
 have hji8y:(wrap64 (1 * 2 ^ min (ji6).toNat 64))=ji8:=(i64_w _).symm.trans hji8_
 have hji8x:(ji6)≤64→(wrap64 (1 * 2 ^ (ji6).toNat))=ji8:=fun h_=>(i64_w _).symm.trans (hji8z h_)
 cases H
 go_enter Try.func99,Try.ntmps99
 go_wp2
 repeat (go_quiet (fail);try go_wp2)
 go_ret
 exact⟨by first | rfl | (simp;done) | (simp only [← hji5,← hji6,← hji8] <;> (first | rfl | simp)) | (simp [*];done),by repeat (first | exact Drawn0.refl _ | apply Drawn0.step)⟩
/-! ### spec_UvarPut: function 83 -/
def spec_UvarPut.l0:Nat→Int→List Int→Option (List Int)
  | 0,_,_=>none
  | k + 1,x0,x3=>(spec_l2Down.f x0 7).bind fun aA=>(if aA=0 then (if x3.length < 140737488355328 then (some (x3 ++ [(x0) % 256])) else (none)) else (if x3.length < 140737488355328 then ((spec_l2Down.f x0 7).bind fun aC=>(spec_UvarPut.l0 k aC (x3 ++ [(wrap64 ((Go.bits .and .i64 x0 127) + 128)) % 256]))) else (none)))
def spec_UvarPut.f (k:Nat)(a0:Int):Option (List Int):=spec_UvarPut.l0 k a0 (([]:List Int))
theorem spec_UvarPut.calls {k : Nat} {a0 : Int} {r : List Int} {w : World} (h : spec_UvarPut.f k a0 = some r) :
    Calls Try.prog 83 #[.int .i64 a0] w fun e w'=>∃ a7:Value,e=.returned (a7)∧Kd.R (Kd.int .u8) 5 w' w.heap.size (fun _=>True) a7 r∧Below w.heap.size w w':=by
 have HB:=am (Below.refl w.heap.size w)
 have H:=h;clear h;unfold spec_UvarPut.f at H
 generalize aE:((([]:List Int)):List Int)=aU at H;have aG:=am aE.symm;clear aE
 have H':=am H;clear H
 go_enter Try.func83,Try.ntmps83
 go_wp2_with (first | ((with_reducible refine gd 4 rfl ?_);refine Kd.R_lit (Kd.int .u8) _ 5 ?hg (N:=4) ?hd (xs:=([]:List Int)) (inner:=[]) (ok:=fun _=>True) (okp:=fun _=>True) ?hr ?hp (fun _ hk=>hk) trivial (Below.refl _ _) (Nat.le_refl _) (by simp) ?_;(case hd=>rfl);(case hg=>rfl);(case hr=>first | (go_simp;done) | (go_simp;rfl));(case hp=>exact (Reps.none _ _));intro a9 w2 aJ hb hg_ hnew_;clear hg_ hnew_;(first | rw [← aG.out] at aJ | (simp only [Int.reduceToNat] at aJ;rw [← aG.out] at aJ));have aK:=rlb aJ HB;replace HB:=bst HB hb;clear hb aJ))
 go_loopg [0,3] k (fun kq v0 v3 w'=>∃ (aA:Int) (aC:List Int),v0=.int .i64 aA∧Aside0 (spec_UvarPut.l0 kq aA aC=some r)∧Aside0 (kq≤k)∧Aside0 (Kd.R (Kd.int .u8) 5 w' w.heap.size (fun _=>True) v3 aC)∧Aside0 (Below w.heap.size w w'))
 case atStart=>exact⟨(a0),(aU),sr,H',⟨Nat.le_refl _⟩,⟨rL aK⟩,⟨bL HB⟩⟩
 clear H'
 obtain⟨aA,aC,rfl,HA,a8,aD,HB⟩:=hrel
 cases gk with
 | zero=>exact absurd HA.out (by simp [spec_UvarPut.l0])
 | succ k1=>?_
 have H:=HA.out
 clear HA
 simp only [spec_UvarPut.l0] at H
 replace H:=bnd H;obtain⟨bA,A4,H⟩:=H
 replace H:=ieq H;obtain⟨aV,aW,H⟩ | ⟨c5,aV,aW,H⟩:=H
 · replace H:=ifs H;obtain⟨c6,H⟩:=H
   have aX:=am c6
   clear c6
   generalize aH:((aC ++ [(aA) % 256]):List Int)=bB at H;have aM:=am aH.symm;clear aH
   cases H
   go_wp2_with (first | ((with_reducible refine gc 99 rfl ?_);refine gc1 (some 6) Try.func99 rfl (spec_l2Down.calls A4.out) ?_;rintro w' ⟨nd,rfl⟩) | ((with_reducible refine gate_builtin (b:=.append) (xs:=#[.tmp 17,.tmp 20]) rfl ?_);at_builtin;refine Kd.R_append (Kd.int .u8) (w0:=w) w.heap.size rfl (.tmp 17) (.tmp 20) 40 5 (.int .u8 0) 1 rfl Try.underlying40 info5 rfl (by decide) (by omega) u3 aC ((aA) % 256) [.int .u8 ((aA) % 256)] (fun _=>True) (fun _=>False) rfl rfl ?aP (fun _ hk=>hk.elim) ?aF ?aO ?aB ?aS ?aL ?_;(case aP=>exact rfl);(case aB=>exact (bL HB));(case aF=>exact (fun _ _=>trivial));(case aO=>exact (rL aD));(case aS=>exact (below_size (bL HB)));(case aL=>have:=aX.out;omega);intro bC w7 ho hb hg hat;rw [← aM.out] at ho;have aN:=am ho;replace HB:=am hb;clear aD;clear ho hb hg hat))
   go_ret
   exact⟨_,fin_ ⟨rL aN,bL HB⟩⟩
 replace H:=ifs H;obtain⟨c8,H⟩:=H
 have aY:=am c8
 clear c8
 generalize aI:((aC ++ [(wrap64 ((Go.bits .and .i64 aA 127) + 128)) % 256]):List Int)=aZ at H;have aQ:=am aI.symm;clear aI
 replace H:=bnd H;obtain⟨a6,A9,H⟩:=H
 have H':=am H;clear H
 go_wp2_with (first | ((with_reducible refine gc 99 rfl ?_);refine gc1 (some 6) Try.func99 rfl (spec_l2Down.calls A4.out) ?_;rintro w' ⟨nd,rfl⟩) | ((with_reducible refine gate_builtin (b:=.append) (xs:=#[.tmp 8,.tmp 13]) rfl ?_);at_builtin;refine Kd.R_append (Kd.int .u8) (w0:=w) w.heap.size rfl (.tmp 8) (.tmp 13) 40 5 (.int .u8 0) 1 rfl Try.underlying40 info5 rfl (by decide) (by omega) u3 aC ((wrap64 ((Go.bits .and .i64 aA 127) + 128)) % 256) [.int .u8 ((wrap64 ((Go.bits .and .i64 aA 127) + 128)) % 256)] (fun _=>True) (fun _=>False) rfl rfl ?aP (fun _ hk=>hk.elim) ?aF ?aO ?aB ?aS ?aL ?_;(case aP=>exact rfl);(case aB=>exact (bL HB));(case aF=>exact (fun _ _=>trivial));(case aO=>exact (rL aD));(case aS=>exact (below_size (bL HB)));(case aL=>have:=aY.out;omega);intro bD bE ho hb hg hat;rw [← aQ.out] at ho;have aT:=am ho;replace HB:=am hb;clear aD;clear ho hb hg hat) | ((with_reducible refine gc 99 rfl ?_);refine gc1 (some 16) Try.func99 rfl (spec_l2Down.calls A9.out) ?_;rintro w' ⟨nd,rfl⟩))
 go_roundg k1
 case measure=>have:=a8.out;omega
 case rel=>exact⟨(a6),(aZ),sr,H',⟨by have:=a8.out;omega⟩,⟨rL aT⟩,⟨bL HB⟩⟩
/-! ### spec_Zig: function 98 -/
def spec_Zig.f (a0:Int):Option (Int):=if a0 < 0 then (some (Go.bits .xor .i64 (-1) (wrap64 (a0 * 2)))) else (some (wrap64 (a0 * 2)))
theorem spec_Zig.calls {a0 r : Int} {w : World} (h : spec_Zig.f a0 = some r) :
    Calls Try.prog 98 #[.int .i64 a0] w fun e w'=>e=.returned (.int .i64 r)∧Drawn0 w w':=by
 have H:=h;clear h;unfold spec_Zig.f at H
 replace H:=idc H;obtain⟨aA,H⟩ | ⟨aA,H⟩:=H
 · cases H
   go_enter Try.func98,Try.ntmps98
   go_wp2
   go_ret
   exact⟨sr,drl⟩
 cases H
 go_enter Try.func98,Try.ntmps98
 go_wp2
 go_ret
 exact⟨sr,drl⟩
end Go.Proofs.Ytjdapaocdkcgdaa.PFnExactMetaPack
