/- The machine's side of FnExactMetaPack: each Go function, and what its call comes to. No condition. -/
import Derived.Test.YtjdapaocdkcgdaaPFnExactMetaPackx0
import Derived.Test.YtjdapaocdkcgdaaPFnExactMetaPackx13
import Derived.Test.YtjdapaocdkcgdaaPFnExactMetaPackx14
import Derived.Test.YtjdapaocdkcgdaaPFnExactMetaPackx15
import Derived.Test.YtjdapaocdkcgdaaPFnExactMetaPackx16
import Derived.Test.YtjdapaocdkcgdaaPFnExactMetaPackx17
namespace Go.Proofs.Ytjdapaocdkcgdaa.PFnExactMetaPack
open Go.RowKit Go.Proofs.YtjdapaocdkcgdaaW.PrintWords Go.Proofs.YtjdapaocdkcgdaaW.PrintLast Go.Proofs.YtjdapaocdkcgdaaW.PrintMore Go.Proofs.YtjdapaocdkcgdaaW.PrintMore2
attribute [local go_sem] max2_int min2_int max_two min_two max_three min_three max_four min_four
set_option linter.unusedVariables false
set_option linter.unusedSimpArgs false
set_option maxHeartbeats 8000000
set_option maxRecDepth 100000

/-! ### impl_MetaTree: function 8 -/
mutual
def impl_MetaTree.l0:Nat→List (List (S49))→List (S54)→Int→Int→List (S84)→Int→List (S54)→Option ((List (S49)) × Bool)
  | 0,_,_,_,_,_,_,_=>none
  | k + 1,x4,aI,aQ,aH,aD,aE,aG=>if aH < aQ then (if 0≤aH then (if aH < (aI.length:Int) then (impl_MetaTree.l1 k x4 (([]:List (List (S49)))) 0 aI aQ aH ((rd_T54 aI aH).f1) (((rd_T54 aI aH).f1).length:Int) 0 aD aE aG ((rd_T54 aI aH).f0) ((rd_T54 aI aH).f1)) else (none)) else (none)) else ((impl_intNode.f 1 1).bind fun aA=>((impl_schemaNodes.f k aD).bind fun aK=>((impl_longNode.f 3 aE).bind fun aC=>((impl_listNode.f k 4 12 x4).bind fun aM=>((impl_structNode.f k 0 (([(([(⟨aA.1,aA.2.1,aA.2.2.1,aA.2.2.2.1,aA.2.2.2.2⟩:S49)]:List (S49))),aK,(([(⟨aC.1,aC.2.1,aC.2.2.1,aC.2.2.2.1,aC.2.2.2.2⟩:S49)]:List (S49))),aM]:List (List (S49))))).bind fun aJ=>((impl_TreeOk.f k aJ).bind fun aN=>(if aN=true then (some (aJ,true)) else (some (([]:List (S49)),false)))))))))
def impl_MetaTree.l1:Nat→List (List (S49))→List (List (S49))→Int→List (S54)→Int→Int→List (S58)→Int→Int→List (S84)→Int→List (S54)→Int→List (S58)→Option ((List (S49)) × Bool)
  | 0,_,_,_,_,_,_,_,_,_,_,_,_,_,_=>none
  | k + 1,x4,x7,x8,aT,aU,aV,aJ,aW,aI,aA,aE,aG,aH,aK=>if aI < aW then (if 0≤aI then (if aI < (aJ.length:Int) then ((impl_chunkNodes.f k aA ((rd_T58 aJ aI).f0) ((rd_T58 aJ aI).f1) ((rd_T58 aJ aI).f2) ((rd_T58 aJ aI).f3) ((rd_T58 aJ aI).f4) ((rd_T58 aJ aI).f5)).bind fun aM=>(if x7.length < 5864062014805 then (impl_MetaTree.l1 k x4 (x7 ++ [aM]) (wrap64 (x8 + ((rd_T58 aJ aI).f4))) aT aU aV aJ aW (wrap64 (aI + 1)) aA aE aG aH aK) else (none))) else (none)) else (none)) else ((impl_listNode.f k 1 12 x7).bind fun aN=>((impl_longNode.f 2 x8).bind fun aC=>((impl_longNode.f 3 aH).bind fun aD=>((impl_structNode.f k 0 (([aN,(([(⟨aC.1,aC.2.1,aC.2.2.1,aC.2.2.2.1,aC.2.2.2.2⟩:S49)]:List (S49))),(([(⟨aD.1,aD.2.1,aD.2.2.1,aD.2.2.2.1,aD.2.2.2.2⟩:S49)]:List (S49)))]:List (List (S49))))).bind fun aQ=>(if x4.length < 5864062014805 then (impl_MetaTree.l0 k (x4 ++ [aQ]) aT aU (wrap64 (aV + 1)) aA aE aG) else (none))))))
end
def impl_MetaTree.f (k:Nat)(aC:List (S84))(aD:Int)(aA:List (S54)):Option ((List (S49)) × Bool):=(impl_MetaOk.f k aC aD aA).bind fun aE=>(if aE=true then (impl_MetaTree.l0 k (([]:List (List (S49)))) aA (aA.length:Int) 0 aC aD aA) else (some (([]:List (S49)),false)))
def impl_MetaTree.T15:Bool × List (List Nat × List Nat):=(true,[([],[]),([],[]),([1],[1]),([],[]),([3,2],[3]),([4],[4]),([],[]),([6],[6]),([7,4],[7]),([8],[8]),([2,5,9],[2,5,9]),([10,8],[10]),([11],[11]),([0,12,11],[0,12]),([13,13,0,1,2,3,4,5,6,7,8,9,10,11,12,13],[0,13])])
def impl_MetaTree.B15:List Nat:=[0,0,2,0,14,30,0,64,222,478,1022,2046,4094,8191,16383]
theorem impl_MetaTree.tab15:rtab .any (opsOf Try.f8 15)=impl_MetaTree.T15:=by kernel_rfl
theorem impl_MetaTree.bits15:waitsOk impl_MetaTree.T15.2 impl_MetaTree.B15=true:=by kernel_rfl
def impl_MetaTree.T17:Bool × List (List Nat × List Nat):=(true,[([],[]),([0],[0]),([],[]),([2],[2]),([3,0],[3]),([],[]),([5],[5]),([6,4],[6]),([7],[7]),([],[]),([9,7],[9]),([1,4,8,10],[1,4,8,10]),([11,10],[11]),([12,12,0,1,2,3,4,5,6,7,8,9,10,11,12],[12])])
def impl_MetaTree.B17:List Nat:=[0,1,0,4,13,0,32,125,253,0,765,2047,4095,8191]
theorem impl_MetaTree.tab17:rtab .any (opsOf Try.f8 17)=impl_MetaTree.T17:=by kernel_rfl
theorem impl_MetaTree.bits17:waitsOk impl_MetaTree.T17.2 impl_MetaTree.B17=true:=by kernel_rfl
theorem impl_MetaTree.calls {k : Nat} {bQ : Option Addr} {bR : Nat} {bH : List (S84)} {bN : Int} {cD : Option Addr} {b7 : Nat} {aI : List (S54)} {r1 : List (S49)} {r2 : Bool} {w : World} (hr0_0 : Kd.C k84 w bQ bH.length bH) (fY : bH.length ≤ bR) (hr0_2 : Kd.C k54 w cD aI.length aI) (fZ : aI.length ≤ b7) (h : impl_MetaTree.f k bH bN aI = some (r1, r2)) :
    Calls Try.prog 8 #[.agg #[.slice bQ bH.length bR,.int .i64 bN,.slice cD aI.length b7]] w fun e w'=>∃ jR:Value,e=.returned (.tuple #[jR,.bool r2])∧Kd.R k49 49 w' w.heap.size (fun _=>True) jR r1∧Below w.heap.size w w':=by
 have hu33:=Try.underlying33
 have hu54:=Try.underlying54
 have hu58:=Try.underlying58
 have dC:=am hr0_0
 have dD:=am fY
 clear hr0_0 fY
 have dZ:=am hr0_2
 have f7:=am fZ
 clear hr0_2 fZ
 have HB:=am (Below.refl w.heap.size w)
 have H:=h;clear h;unfold impl_MetaTree.f at H
 replace H:=bnd H;obtain⟨kZ,A2,H⟩:=H
 replace H:=ibt H;obtain⟨rfl,H⟩ | ⟨rfl,H⟩:=H
 rotate_left
 · replace H:=sj2 H;obtain⟨rfl,rfl⟩:=H
   go_enter Try.func8,Try.ntmps8
   go_wp2_with (first | ((with_reducible refine gd 1 rfl ?_);refine bxw 1 rfl #[.slice bQ bH.length bR,.int .i64 bN,.slice cD aI.length b7] 33 HB ?_;clear HB;intro aE k0 aA hD hJ HB;obtain⟨_,_,_,_,_,_⟩:=cl3 aA) | ((with_reducible refine gc 29 rfl ?_);refine gl_ (some 13) Try.func29 #[.agg #[.slice bQ bH.length bR,.int .i64 bN,.slice cD aI.length b7]] rfl ?_;(with_reducible refine (impl_MetaOk.calls ?side1 ?side2 ?side3 ?side4 A2.out).mono ?_);(case side1=>exact cL dC HB);(case side2=>exact dD.out);(case side3=>exact cL dZ HB);(case side4=>exact f7.out);rintro e k5 ⟨rfl,hb⟩;refine⟨_,rfl,?_⟩;replace aA:=bkb aA hb;replace HB:=bst HB hb;clear hb))
   go_ret2
   exact⟨_,fin_ ⟨by first | exact Kd.R_nil _ _ _ _ _ | exact Kd.N_nil _ _ _ _ _ | exact Kd.V_nil _ _ _ _ _ | exact Kd.Q_nil _ _ _ _ _ | exact Kd.S_nil _ _ _ _ _,bL HB⟩⟩
 generalize f9:((([]:List (List (S49)))):List (List (S49)))=jB at H;have gA:=am f9.symm;clear f9
 have H':=am H;clear H
 go_enter Try.func8,Try.ntmps8
 go_wp2_with (first | ((with_reducible refine gd 1 rfl ?_);refine bxw 1 rfl #[.slice bQ bH.length bR,.int .i64 bN,.slice cD aI.length b7] 33 HB ?_;clear HB;intro aE w4 aA hD hJ HB;obtain⟨d3,d4,d5,d6,d7,d8⟩:=cl3 aA) | ((with_reducible refine gc 29 rfl ?_);refine gl_ (some 13) Try.func29 #[.agg #[.slice bQ bH.length bR,.int .i64 bN,.slice cD aI.length b7]] rfl ?_;(with_reducible refine (impl_MetaOk.calls ?side1 ?side2 ?side3 ?side4 A2.out).mono ?_);(case side1=>exact cL dC HB);(case side2=>exact dD.out);(case side3=>exact cL dZ HB);(case side4=>exact f7.out);rintro e w6 ⟨rfl,hb⟩;refine⟨_,rfl,?_⟩;replace aA:=bkb aA hb;replace HB:=bst HB hb;clear hb) | ((with_reducible refine gd 15 rfl ?_);refine Kd.N_lit (Kd.slice 49 k49) _ 27 ?hg (N':=15) ?hd (xs:=([]:List (List (S49)))) (inner:=[]) (ok:=(fun k_=>k_≠aE)) (okp:=(fun k_=>k_≠aE)) ?hr ?hp (fun _ hk=>hk) ((show ∀ k_,w6.heap.size≤k_→(fun k_=>k_≠aE) k_ from fun k_ hk=>Kd.freshB (blk_later aA.out) k_ hk) _ (Nat.le_refl _)) (Below.refl _ _) (Nat.le_refl _) (by simp) ?_;(case hd=>rfl);(case hg=>rfl);(case hr=>first | (go_simp;done) | (go_simp;rfl));(case hp=>exact (Reps.none _ _));intro k6 w7 hU hb hg_ hnew_;clear hg_ hnew_;(first | rw [← gA.out] at hU | (simp only [Int.reduceToNat] at hU;rw [← gA.out] at hU));have hV:=am (Kd.N_lower hU (below_size (bL HB)));replace aA:=bkb aA hb;replace HB:=bst HB hb;clear hb hU;obtain⟨d9,eA,eB,eC,eD,eE⟩:=cl3 aA))
 go_loopg [4,19] k (fun kq v4 v19 w'=>∃ (aU:List (List (S49))) (aG:Int),v19=.int .i64 aG∧Aside0 (impl_MetaTree.l0 kq aU aI (aI.length:Int) aG bH bN aI=some (r1,r2))∧Aside0 (kq≤k)∧Aside0 (Kd.N (Kd.slice 49 k49) 27 w' w.heap.size (fun k_=>k_≠aE) v4 aU)∧Aside0 (w'.heap[aE]?=some (.cells #[(.slice bQ bH.length bR),.int .i64 bN,(.slice cD aI.length b7)] 33 (0,0)))∧Aside0 (Below w.heap.size w w'))
 case atStart=>exact⟨(jB),(0),sr,H',⟨Nat.le_refl _⟩,⟨nL hV⟩,⟨kL aA⟩,⟨bL HB⟩⟩
 clear H'
 try clear c3 d3 d4 d5 d9 eA eB d6 d7 d8 eC eD eE
 obtain⟨aU,aG,rfl,HA,i8,aD,aA,HB⟩:=hrel
 cases gk with
 | zero=>exact absurd HA.out (by simp [impl_MetaTree.l0])
 | succ k1=>?_
 have H:=HA.out
 clear HA
 simp only [impl_MetaTree.l0] at H
 replace H:=idc H;obtain⟨gB,H⟩ | ⟨gB,H⟩:=H
 · replace H:=if_dd H;obtain⟨hX,hY,H⟩:=H
   generalize gC:((([]:List (List (S49)))):List (List (S49)))=jC at H;have gD:=am gC.symm;clear gC
   have H':=am H;clear H
   have fC:0≤(aG:Int):=dcd
   have fD:aG < (aI.length:Int):=dcd
   obtain⟨dE,bI,bJ,jD,cJ,cK,dF,dG⟩:=at_T54 dZ.out aG fC fD
   cases jD
   replace cJ:=crd HB cJ
   replace cK:=crd HB cK
   have fE:=am dG
   have i9:=am dF
   clear dG dF
   replace fC:=eq_true fC
   replace fD:=eq_true fD
   go_wp2_with (first | ((with_reducible refine gd 6 rfl ?_);refine bxv 6 rfl #[.int .i64 0,.slice none 0 0] 54 HB ?_;clear HB;intro aH k7 aC jS jT HB hg hb;obtain⟨dR,dS⟩:=nbp (nbl aA hg);replace aD:=am (Kd.N_below (Kd.N_elderB (nL aD) aH (Nat.le_of_eq hg.symm)) hb);replace aA:=bkb aA hb;clear hg hb;obtain⟨jU,jV⟩:=nbo dS;obtain⟨fF,fG,fH,fI⟩:=cl2 aC) | ((with_reducible refine gd 23 rfl ?_);refine Kd.N_lit (Kd.slice 49 k49) _ 27 ?hg (N':=23) ?hd (xs:=([]:List (List (S49)))) (inner:=[]) (ok:=(fun k_=>some k_≠(u4:Value).ownBlock∧k_≠aE∧k_≠aH)) (okp:=(fun k_=>some k_≠(u4:Value).ownBlock∧k_≠aE∧k_≠aH)) ?hr ?hp (fun _ hk=>hk) ((show ∀ k_,((k7.setCell ⟨aH,0,none⟩ (.int .i64 ((rd_T54 aI aG).f0))).setCell ⟨aH,1,none⟩ (.slice bI ((rd_T54 aI aG).f1).length bJ)).heap.size≤k_→(fun k_=>some k_≠(u4:Value).ownBlock∧k_≠aE∧k_≠aH) k_ from fun k_ hk=>⟨Kd.fresh' (Kd.N_lt (N_later (Kd.N_mono (Kd.N_far (p:=⟨aH,1,none⟩) (Kd.N_far (p:=⟨aH,0,none⟩) (Kd.N_mono aD.out (fun k_ hk=>(⟨hk,hk.2⟩:_∧k_≠aH))) (fun _ hk=>hk.2) (.int .i64 ((rd_T54 aI aG).f0))) (fun _ hk=>hk.2) (.slice bI ((rd_T54 aI aG).f1).length bJ)) (fun _ h_=>h_.1)))) k_ hk,Kd.freshB (g:=aE) (o:=.cells #[.slice bQ bH.length bR,.int .i64 bN,.slice (some dE) aI.length b7] 33 (0,0)) (blk_later aA.out) k_ hk,Kd.freshB (g:=aH) (o:=.cells #[.int .i64 ((rd_T54 aI aG).f0),.slice bI ((rd_T54 aI aG).f1).length bJ] 54 (0,0)) (blk_later aC.out) k_ hk⟩) _ (Nat.le_refl _)) (Below.refl _ _) (Nat.le_refl _) (by simp) ?_;(case hd=>rfl);(case hg=>rfl);(case hr=>first | (go_simp;done) | (go_simp;rfl));(case hp=>exact (Reps.none _ _));intro k8 lY dT hb hg_ hnew_;clear hg_ hnew_;(first | rw [← gD.out] at dT | (simp only [Int.reduceToNat] at dT;rw [← gD.out] at dT));have hZ:=am (Kd.N_lower dT (below_size (bL HB)));replace aD:=am (Kd.N_elder' (N_later (Kd.N_mono (Kd.N_far (p:=⟨aH,1,none⟩) (Kd.N_far (p:=⟨aH,0,none⟩) (Kd.N_mono aD.out (fun k_ hk=>(⟨hk,hk.2⟩:_∧k_≠aH))) (fun _ hk=>hk.2) (.int .i64 ((rd_T54 aI aG).f0))) (fun _ hk=>hk.2) (.slice bI ((rd_T54 aI aG).f1).length bJ)) (fun _ h_=>h_.1))) (Kd.N_base dT) hb);replace aA:=bkb aA hb;replace aC:=am (blk_below (g:=aH) (o:=.cells #[.int .i64 ((rd_T54 aI aG).f0),.slice bI ((rd_T54 aI aG).f1).length bJ] 54 (0,0)) (blk_later aC.out) hb);replace HB:=bst HB hb;clear hb dT;obtain⟨fJ,fK,fL,fM⟩:=cl2 aC))
   go_loopg [7,8,27] k1 (fun kq v7 v8 v27 w'=>∃ (bF:List (List (S49))) (eF:Int) (aW:Int),v8=.int .i64 eF∧v27=.int .i64 aW∧Aside0 (impl_MetaTree.l1 kq aU bF eF aI (aI.length:Int) aG ((rd_T54 aI aG).f1) (((rd_T54 aI aG).f1).length:Int) aW bH bN aI ((rd_T54 aI aG).f0) ((rd_T54 aI aG).f1)=some (r1,r2))∧Aside0 (kq≤k1)∧Aside0 (Kd.N (Kd.slice 49 k49) 27 w' w.heap.size (fun k_=>some k_≠(v7:Value).ownBlock∧k_≠aE∧k_≠aH) u4 aU)∧Aside0 (Kd.N (Kd.slice 49 k49) 27 w' w.heap.size (fun k_=>some k_≠(u4:Value).ownBlock∧k_≠aE∧k_≠aH) v7 bF)∧Aside0 (w'.heap[aE]?=some (.cells #[(.slice bQ bH.length bR),.int .i64 bN,(.slice (some dE) aI.length b7)] 33 (0,0)))∧Aside0 (w'.heap[aH]?=some (.cells #[.int .i64 ((rd_T54 aI aG).f0),(.slice bI ((rd_T54 aI aG).f1).length bJ)] 54 (0,0)))∧Aside0 (Below w.heap.size w w'))
   case atStart=>exact⟨(jC),(0),(0),sr,sr,H',⟨Nat.le_refl _⟩,⟨N_later (Kd.N_mono aD.out (fun _ hk=>⟨hk.2,⟨hk.1.1,hk.1.2⟩⟩))⟩,⟨nL hZ⟩,⟨kL aA⟩,⟨kL aC⟩,⟨bL HB⟩⟩
   clear H'
   try clear c3 c10 gB hX hY fF fG fJ fK d3 d4 d5 d9 eA eB fH fI fL fM d6 d7 d8 eC eD eE cJ cK fC fD
   obtain⟨bF,eF,aW,rfl,rfl,HA,jA,aD,aK,aA,aC,HB⟩:=hrel
   cases gk with
   | zero=>exact absurd HA.out (by simp [impl_MetaTree.l1])
   | succ k2=>?_
   have H:=HA.out
   clear HA
   simp only [impl_MetaTree.l1] at H
   replace H:=idc H;obtain⟨iA,H⟩ | ⟨iA,H⟩:=H
   · replace H:=if_dd H;obtain⟨jW,jX,H⟩:=H
     replace H:=bnd H;obtain⟨fN,k9,H⟩:=H
     replace H:=ifs H;obtain⟨jY,H⟩:=H
     have iB:=am jY
     clear jY
     generalize gE:((bF ++ [fN]):List (List (S49)))=jE at H;have iC:=am gE.symm;clear gE
     have H':=am H;clear H
     have gV:0≤(aW:Int):=dcd
     have gW:aW < (((rd_T54 aI aG).f1).length:Int):=dcd
     obtain⟨jZ,cT,cU,jF,dH,dI,dJ,dK,dL,dM,dN,dO⟩:=at_T58 fE.out aW gV gW
     cases jF
     replace dH:=crd HB dH
     replace dI:=crd HB dI
     replace dJ:=crd HB dJ
     replace dK:=crd HB dK
     replace dL:=crd HB dL
     replace dM:=crd HB dM
     have fO:=am dO
     have fP:=am dN
     clear dO dN
     replace gV:=eq_true gV
     replace gW:=eq_true gW
     go_wp2_with (first | ((with_reducible refine gd 10 rfl ?_);refine bxv 10 rfl #[.int .i64 0,.int .i64 0,.int .i64 0,.int .i64 0,.int .i64 0,.slice none 0 0] 58 HB ?_;clear HB;intro a7 lZ bX j4 j5 HB hg hb;obtain⟨g8,dU⟩:=nbp (nbl aA hg);obtain⟨g9,dV⟩:=nbp (nbl aC hg);replace aD:=am (Kd.N_below (Kd.N_elderB (nL aD) a7 (Nat.le_of_eq hg.symm)) hb);replace aK:=am (Kd.N_below (Kd.N_elderB (nL aK) a7 (Nat.le_of_eq hg.symm)) hb);replace aA:=bkb aA hb;replace aC:=bkb aC hb;clear hg hb;obtain⟨j6,j7⟩:=nbo dU;obtain⟨j8,j9⟩:=nbo dV;obtain⟨_,_,_,_,_,_,_,_,_,_,_,_⟩:=cl6 bX;obtain⟨kA,kC⟩:=nbo dR;obtain⟨_,_,_,_,_,_⟩:=cl3 aA) | ((with_reducible refine gc 30 rfl ?_);refine gc2 (some 35) Try.func30 rfl (impl_chunkNodes.calls (Kd.C_below dC.out (bL HB)) dD.out (Kd.C_below fO.out (bL HB)) fP.out k9.out) ?_;rintro lA l3 ⟨b8,hb⟩;have dP:=rlb b8 HB;replace aD:=am (Kd.N_elder' (N_later (Kd.N_mono (Kd.N_far (p:=⟨a7,5,none⟩) (Kd.N_far (p:=⟨a7,4,none⟩) (Kd.N_far (p:=⟨a7,3,none⟩) (Kd.N_far (p:=⟨a7,2,none⟩) (Kd.N_far (p:=⟨a7,1,none⟩) (Kd.N_far (p:=⟨a7,0,none⟩) (Kd.N_mono aD.out (fun k_ hk=>(⟨hk,hk.2⟩:_∧k_≠a7))) (fun _ hk=>hk.2) (.int .i64 ((rd_T58 ((rd_T54 aI aG).f1) aW).f0))) (fun _ hk=>hk.2) (.int .i64 ((rd_T58 ((rd_T54 aI aG).f1) aW).f1))) (fun _ hk=>hk.2) (.int .i64 ((rd_T58 ((rd_T54 aI aG).f1) aW).f2))) (fun _ hk=>hk.2) (.int .i64 ((rd_T58 ((rd_T54 aI aG).f1) aW).f3))) (fun _ hk=>hk.2) (.int .i64 ((rd_T58 ((rd_T54 aI aG).f1) aW).f4))) (fun _ hk=>hk.2) (.slice cT ((rd_T58 ((rd_T54 aI aG).f1) aW).f5).length cU)) (fun _ h_=>h_.1))) (Kd.R_base b8) hb);replace aK:=am (Kd.N_elder' (N_later (Kd.N_mono (Kd.N_far (p:=⟨a7,5,none⟩) (Kd.N_far (p:=⟨a7,4,none⟩) (Kd.N_far (p:=⟨a7,3,none⟩) (Kd.N_far (p:=⟨a7,2,none⟩) (Kd.N_far (p:=⟨a7,1,none⟩) (Kd.N_far (p:=⟨a7,0,none⟩) (Kd.N_mono aK.out (fun k_ hk=>(⟨hk,hk.2⟩:_∧k_≠a7))) (fun _ hk=>hk.2) (.int .i64 ((rd_T58 ((rd_T54 aI aG).f1) aW).f0))) (fun _ hk=>hk.2) (.int .i64 ((rd_T58 ((rd_T54 aI aG).f1) aW).f1))) (fun _ hk=>hk.2) (.int .i64 ((rd_T58 ((rd_T54 aI aG).f1) aW).f2))) (fun _ hk=>hk.2) (.int .i64 ((rd_T58 ((rd_T54 aI aG).f1) aW).f3))) (fun _ hk=>hk.2) (.int .i64 ((rd_T58 ((rd_T54 aI aG).f1) aW).f4))) (fun _ hk=>hk.2) (.slice cT ((rd_T58 ((rd_T54 aI aG).f1) aW).f5).length cU)) (fun _ h_=>h_.1))) (Kd.R_base b8) hb);replace aA:=bkb aA hb;replace aC:=bkb aC hb;replace bX:=am (blk_below (g:=a7) (o:=.cells #[.int .i64 ((rd_T58 ((rd_T54 aI aG).f1) aW).f0),.int .i64 ((rd_T58 ((rd_T54 aI aG).f1) aW).f1),.int .i64 ((rd_T58 ((rd_T54 aI aG).f1) aW).f2),.int .i64 ((rd_T58 ((rd_T54 aI aG).f1) aW).f3),.int .i64 ((rd_T58 ((rd_T54 aI aG).f1) aW).f4),.slice cT ((rd_T58 ((rd_T54 aI aG).f1) aW).f5).length cU] 58 (0,0)) (blk_later bX.out) hb);replace HB:=bst HB hb;clear hb;(try clear hk);clear b8;obtain⟨iD,iE,jG⟩:=Kd.R_slice dP.out;subst jG) | ((with_reducible refine gate_builtin (b:=.append) (xs:=#[.tmp 31,.tmp 36]) rfl ?_);at_builtin;refine Kd.N_append (Kd.slice 49 k49) (w0:=w) w.heap.size rfl (.tmp 31) (.tmp 36) 62 27 (.slice none 0 0) 24 rfl Try.underlying62 info27 rfl (by decide) (by omega) u7 bF fN [.slice iD fN.length iE] (fun k_=>some k_≠(u4:Value).ownBlock∧k_≠aE∧k_≠aH∧k_≠a7) (fun k_=>((fun k_=>some k_≠(u4:Value).ownBlock∧k_≠aE∧k_≠aH∧k_≠a7)) k_∧some k_≠(u7:Value).ownBlock) rfl rfl ?aP (fun _ hk=>hk) ?aF ?aO ?aB ?aS ?aL ?_;(case aP=>exact (Kd.FK_slice_mk (Kd.R_reads' (Kd.R_mono (ok':=(fun k_=>((fun k_=>some k_≠(u4:Value).ownBlock∧k_≠aE∧k_≠aH∧k_≠a7)) k_∧some k_≠(u7:Value).ownBlock)) (Kd.R_types (Kd.R_types (Kd.R_types (Kd.R_apart' (Kd.R_apart' (dP.out) (Kd.N_typed aD.out) (by decide)) (Kd.N_typed aK.out) (by decide)) aA.out (by decide)) aC.out (by decide)) bX.out (by decide)) (fun k_ hk=>⟨⟨hk.1.1.1.1.2,⟨hk.1.1.2,⟨hk.1.2,hk.2⟩⟩⟩,hk.1.1.1.2⟩))).2.1 (Kd.R_F (Kd.R_mono (ok':=(fun k_=>((fun k_=>some k_≠(u4:Value).ownBlock∧k_≠aE∧k_≠aH∧k_≠a7)) k_∧some k_≠(u7:Value).ownBlock)) (Kd.R_types (Kd.R_types (Kd.R_types (Kd.R_apart' (Kd.R_apart' (dP.out) (Kd.N_typed aD.out) (by decide)) (Kd.N_typed aK.out) (by decide)) aA.out (by decide)) aC.out (by decide)) bX.out (by decide)) (fun k_ hk=>⟨⟨hk.1.1.1.1.2,⟨hk.1.1.2,⟨hk.1.2,hk.2⟩⟩⟩,hk.1.1.1.2⟩)))));(case aB=>exact (bL HB));(case aF=>exact (fun k_ hk=>⟨Kd.fresh' (Kd.N_lt (nL aD)) k_ hk,Kd.freshB (blk_later aA.out) k_ hk,Kd.freshB (blk_later aC.out) k_ hk,Kd.freshB (blk_later bX.out) k_ hk⟩));(case aO=>exact (N_later (Kd.N_mono aK.out (fun _ hk=>⟨hk.1.1.1,⟨hk.1.1.2.1,⟨hk.1.1.2.2,hk.1.2⟩⟩⟩))));(case aS=>exact (below_size (bL HB)));(case aL=>have:=iB.out;omega);intro lB l4 ho hb hg hat;rw [← iC.out] at ho;have iF:=am ho;replace aD:=am (Kd.N_afterv (ok:=(fun k_=>some k_≠(.slice iD fN.length iE:Value).ownBlock∧k_≠aE∧k_≠aH∧k_≠a7)) (N_later (Kd.N_mono aD.out (fun _ hk=>⟨⟨hk.2,⟨hk.1.1.2.1,⟨hk.1.1.2.2,hk.1.2⟩⟩⟩,hk.1.1.1⟩))) hg hat);replace aA:=am (blk_grown (blk_later aA.out) hg (Kd.N_ne aK.out aA.out (by decide)));replace aC:=am (blk_grown (blk_later aC.out) hg (Kd.N_ne aK.out aC.out (by decide)));replace bX:=am (blk_grown (blk_later bX.out) hg (Kd.N_ne aK.out bX.out (by decide)));replace HB:=am hb;clear aK dP;clear ho hb hg hat;obtain⟨_,_,_,_,_,_,_,_,_,_,_,_⟩:=cl6 bX))
     go_roundg k2
     case measure=>have:=i8.out;have:=jA.out;omega
     case rel=>exact⟨(jE),(wrap64 (eF + ((rd_T58 ((rd_T54 aI aG).f1) aW).f4))),(wrap64 (aW + 1)),sr,sr,H',⟨by have:=i8.out;have:=jA.out;omega⟩,⟨N_later (Kd.N_mono aD.out (fun _ hk=>⟨hk.2,⟨hk.1.2.1,hk.1.2.2.1⟩⟩))⟩,⟨N_later (Kd.N_mono iF.out (fun _ hk=>⟨hk.1,⟨hk.2.1,hk.2.2.1⟩⟩))⟩,⟨kL aA⟩,⟨kL aC⟩,⟨bL HB⟩⟩
   replace H:=bnd H;obtain⟨cV,lC,H⟩:=H
   replace H:=bnd5 H;obtain⟨fQ,fR,fS,fT,fU,lD,H⟩:=H;dsimp only at H
   generalize gF:((([(⟨fQ,fR,fS,fT,fU⟩:S49)]:List (S49))):List (S49))=cW at H;have eG:=am gF.symm;clear gF
   replace H:=bnd5 H;obtain⟨eH,eI,eJ,eK,eL,kD,H⟩:=H;dsimp only at H
   generalize gG:((([(⟨eH,eI,eJ,eK,eL⟩:S49)]:List (S49))):List (S49))=cX at H;have eM:=am gG.symm;clear gG
   generalize gH:((([cV,cW,cX]:List (List (S49)))):List (List (S49)))=dW at H;have gI:=am gH.symm;clear gH
   replace H:=bnd H;obtain⟨eN,lE,H⟩:=H
   replace H:=ifs H;obtain⟨kE,H⟩:=H
   have iG:=am kE
   clear kE
   generalize gJ:((aU ++ [eN]):List (List (S49)))=jH at H;have iH:=am gJ.symm;clear gJ
   have H':=am H;clear H
   obtain⟨bS,bT,jI⟩:=Kd.N_slice aK.out
   subst jI
   obtain⟨bV,bW,jJ⟩:=Kd.N_slice aD.out
   subst jJ
   try go_wp2
   replace aD:=am (Kd.N_drew aD.out)
   replace aK:=am (Kd.N_drew aK.out)
   replace aA:=bdr aA
   replace aC:=bdr aC
   replace HB:=bld HB
   refine start_ (n:=15) (S:=fun w'=>w'.cell? ⟨aH,0,none⟩=some (.int .i64 ((rd_T54 aI aG).f0))∧w'.cell? ⟨aH,1,none⟩=some (.slice bI ((rd_T54 aI aG).f1).length bJ)) (ds:=[]) #[false,false,false,false,false,false,false,false,false,false,false,false,false,false,false] (by kernel_rfl) rfl rfl ⟨bcl aC 0,bcl aC 1⟩ (fun hHeld=>?_);refine with_tabW impl_MetaTree.tab15 impl_MetaTree.bits15 (fun HT_ HW_=>?_)
   generalize wr.drew=l6 at aD aK aA aC HB hHeld ⊢
   refine pu_ 0 43 ?_;refine pu_ 1 44 ?_;refine pu_ 3 46 ?_;refine pu_ 6 49 ?_;refine tk_ 7 50 hHeld ?_
   refine on_ 2 45 (fun K hK=>?_)
   refine gs_ Try.func32 #[.int .i64 1,.int .i64 12,.slice bS bF.length bT] rfl ?_
   with_reducible refine (impl_listNode.calls ?side1 ?side2 lC.out).mono ?_
   (case side1=>repeat (first | exact (Kd.N_reads' aK.out).2.2 | (with_reducible refine Kd.C_alloc ?_ _) | (with_reducible refine Kd.C_drewN ?_ _) | (with_reducible refine Kd.C_drew ?_)))
   (case side2=>exact (Kd.N_reads' aK.out).2.1)
   rintro e l7 ⟨cE,rfl,b8,hb⟩
   refine⟨_,rfl,?_⟩
   have aQ:=rlb b8 HB
   replace aD:=am (Kd.N_elder' (nL aD) (Kd.R_base b8) hb)
   replace aK:=am (Kd.N_elder' (nL aK) (Kd.R_base b8) hb)
   replace aA:=bkb aA hb
   replace aC:=bkb aC hb
   replace HB:=bst HB hb
   (try clear hb)
   (try clear fV)
   (try clear hk)
   (try clear hi)
   (try clear b8)
   refine hK.out _ _ ⟨bcl aC 0,bcl aC 1⟩ (fun hHeld=>?_)
   clear hK K
   refine no_ (some 45) ?_
   refine on_ 4 47 (fun K hK=>?_)
   refine gs_ Try.func33 #[.int .i64 2,.int .i64 eF] rfl ?_
   with_reducible refine (impl_longNode.calls lD.out).mono ?_
   rintro e l8 ⟨rfl,hb⟩
   refine⟨_,rfl,?_⟩
   replace aD:=nbe aD hb
   replace aK:=nbe aK hb
   replace aQ:=rbe aQ hb
   replace aA:=bkb aA hb
   replace aC:=bkb aC hb
   replace HB:=bst HB hb
   (try clear hb)
   (try clear fV)
   (try clear hk)
   (try clear hi)
   refine hK.out _ _ ⟨bcl aC 0,bcl aC 1⟩ (fun hHeld=>?_)
   clear hK K
   refine no_ (some 47) ?_
   refine join_ (σ:=Value × Value) 5 #[true,true,true,true,true,true,true,true,true,true,false,false,false,false,false] (fun s_=>[(48,s_.1),(51,.agg #[.int .i64 eH,.int .i64 eI,.int .i64 eJ,.string eK,.int .i64 eL]),(52,s_.2)]) (fun s_ w'=>(w'.cell? ⟨aH,0,none⟩=some (.int .i64 ((rd_T54 aI aG).f0))∧w'.cell? ⟨aH,1,none⟩=some (.slice bI ((rd_T54 aI aG).f1).length bJ))∧(Kd.R k49 49 w' w.heap.size (fun k_=>some k_≠(s_.1:Value).ownBlock∧some k_≠(s_.2:Value).ownBlock) cE cV)∧(Kd.R k49 49 w' w.heap.size (fun k_=>some k_≠(cE:Value).ownBlock∧some k_≠(s_.2:Value).ownBlock) s_.1 cW)∧(Kd.R k49 49 w' w.heap.size (fun k_=>some k_≠(cE:Value).ownBlock∧some k_≠(s_.1:Value).ownBlock) s_.2 cX)∧(Kd.N (Kd.slice 49 k49) 27 w' w.heap.size (fun k_=>some k_≠(cE:Value).ownBlock∧some k_≠(s_.1:Value).ownBlock∧some k_≠(s_.2:Value).ownBlock∧some k_≠(.slice bS bF.length bT:Value).ownBlock∧k_≠aE∧k_≠aH) (.slice bV aU.length bW) aU)∧(Kd.N (Kd.slice 49 k49) 27 w' w.heap.size (fun k_=>some k_≠(cE:Value).ownBlock∧some k_≠(s_.1:Value).ownBlock∧some k_≠(s_.2:Value).ownBlock∧some k_≠(.slice bV aU.length bW:Value).ownBlock∧k_≠aE∧k_≠aH) (.slice bS bF.length bT) bF)∧(w'.heap[aE]?=some (.cells #[.slice bQ bH.length bR,.int .i64 bN,.slice (some dE) aI.length b7] 33 (0,0)))∧(w'.heap[aH]?=some (.cells #[.int .i64 ((rd_T54 aI aG).f0),.slice bI ((rd_T54 aI aG).f1).length bJ] 54 (0,0)))∧(Below w.heap.size w w')) ?_ ?_
   rotate_left
   · intro hCont
     refine two_ (i:=5) (j:=8) (Ni:=some 48) (Nj:=some 51) #[true,true,true,true,true,true,true,true,false,false,false,false,false,false,false] #[true,true,true,true,true,false,true,true,true,false,false,false,false,false,false] rfl rfl rfl rfl (two_of HT_.out (by kernel_rfl)) (by decide) (by decide) (fun K hK=>?_) (fun K hK=>?_)
     · skip
       refine rl5s k49 49 48 ⟨fQ,fR,fS,fT,fU⟩ eG (k49_mkM _ _ _ _) rfl ?_
       intro cA lF eO hb
       have bA:=am (Kd.R_lower (Kd.R_new' eO (Kd.R_lt (rL aQ))) (below_size (bL HB)))
       replace aD:=am (Kd.N_elder' (nL aD) (Kd.R_base eO) hb)
       replace aK:=am (Kd.N_elder' (nL aK) (Kd.R_base eO) hb)
       replace aQ:=am (Kd.R_elder' (rL aQ) (Kd.R_base eO) hb)
       replace aA:=bkb aA hb
       replace aC:=bkb aC hb
       replace HB:=bst HB hb
       clear hb eO
       refine hK.out _ _ ⟨bcl aC 0,bcl aC 1⟩ (fun hHeld=>?_)
       clear hK K
       refine no_ (some 48) ?_
       refine on_ 8 51 (fun K hK=>?_)
       refine gs_ Try.func33 #[.int .i64 3,.int .i64 ((rd_T54 aI aG).f0)] rfl ?_
       with_reducible refine (impl_longNode.calls kD.out).mono ?_
       rintro e l9 ⟨rfl,hb⟩
       refine⟨_,rfl,?_⟩
       replace aD:=nbe aD hb
       replace aK:=nbe aK hb
       replace aQ:=rbe aQ hb
       replace bA:=rbe bA hb
       replace aA:=bkb aA hb
       replace aC:=bkb aC hb
       replace HB:=bst HB hb
       (try clear hb)
       (try clear fV)
       (try clear hk)
       (try clear hi)
       refine hK.out _ _ ⟨bcl aC 0,bcl aC 1⟩ (fun hHeld=>?_)
       clear hK K
       refine no_ (some 51) ?_
       refine on_ 9 52 (fun K hK=>?_)
       refine rl5s k49 49 52 ⟨eH,eI,eJ,eK,eL⟩ eM (k49_mkM _ _ _ _) rfl ?_
       intro cB kF bO hb
       have bP:=am (Kd.R_lower (Kd.R_new' (Kd.R_new' bO (Kd.R_lt (rL aQ))) (Kd.R_lt (rL bA))) (below_size (bL HB)))
       replace aD:=am (Kd.N_elder' (nL aD) (Kd.R_base bO) hb)
       replace aK:=am (Kd.N_elder' (nL aK) (Kd.R_base bO) hb)
       replace aQ:=am (Kd.R_elder' (rL aQ) (Kd.R_base bO) hb)
       replace bA:=am (Kd.R_elder' (rL bA) (Kd.R_base bO) hb)
       replace aA:=bkb aA hb
       replace aC:=bkb aC hb
       replace HB:=bst HB hb
       clear hb bO
       refine hK.out _ _ ⟨bcl aC 0,bcl aC 1⟩ (fun hHeld=>?_)
       clear hK K
       refine no_ (some 52) ?_
       exact norm_ (by simp only [putAll,Act.put,List.setIfInBounds_toArray,List.set_cons_zero,List.set_cons_succ]) (hCont (cA,cB) _ ⟨hHeld,(R_later (Kd.R_mono aQ.out (fun _ hk=>⟨hk.1.2,hk.2⟩))),(R_later (Kd.R_mono bA.out (fun _ hk=>⟨hk.1.2,hk.2⟩))),(R_later (Kd.R_mono bP.out (fun _ hk=>⟨hk.1.2,hk.2⟩))),(N_later (Kd.N_mono aD.out (fun _ hk=>⟨hk.1.1.2,⟨hk.1.2,⟨hk.2,⟨hk.1.1.1.1,⟨hk.1.1.1.2.1,hk.1.1.1.2.2⟩⟩⟩⟩⟩))),(N_later (Kd.N_mono aK.out (fun _ hk=>⟨hk.1.1.2,⟨hk.1.2,⟨hk.2,⟨hk.1.1.1.1,⟨hk.1.1.1.2.1,hk.1.1.1.2.2⟩⟩⟩⟩⟩))),(kL aA),(kL aC),(bL HB)⟩)
     skip
     refine gs_ Try.func33 #[.int .i64 3,.int .i64 ((rd_T54 aI aG).f0)] rfl ?_
     with_reducible refine (impl_longNode.calls kD.out).mono ?_
     rintro e lF ⟨rfl,hb⟩
     refine⟨_,rfl,?_⟩
     replace aD:=nbe aD hb
     replace aK:=nbe aK hb
     replace aQ:=rbe aQ hb
     replace aA:=bkb aA hb
     replace aC:=bkb aC hb
     replace HB:=bst HB hb
     (try clear hb)
     (try clear fV)
     (try clear hk)
     (try clear hi)
     refine hK.out _ _ ⟨bcl aC 0,bcl aC 1⟩ (fun hHeld=>?_)
     clear hK K
     refine no_ (some 51) ?_
     refine two_ (i:=5) (j:=9) (Ni:=some 48) (Nj:=some 52) #[true,true,true,true,true,true,true,true,true,false,false,false,false,false,false] #[true,true,true,true,true,false,true,true,true,true,false,false,false,false,false] rfl rfl rfl rfl (two_of HT_.out (by kernel_rfl)) (by decide) (by decide) (fun K hK=>?_) (fun K hK=>?_)
     · skip
       refine rl5s k49 49 48 ⟨fQ,fR,fS,fT,fU⟩ eG (k49_mkM _ _ _ _) rfl ?_
       intro cA lG cC hb
       have bA:=am (Kd.R_lower (Kd.R_new' cC (Kd.R_lt (rL aQ))) (below_size (bL HB)))
       replace aD:=am (Kd.N_elder' (nL aD) (Kd.R_base cC) hb)
       replace aK:=am (Kd.N_elder' (nL aK) (Kd.R_base cC) hb)
       replace aQ:=am (Kd.R_elder' (rL aQ) (Kd.R_base cC) hb)
       replace aA:=bkb aA hb
       replace aC:=bkb aC hb
       replace HB:=bst HB hb
       clear hb cC
       refine hK.out _ _ ⟨bcl aC 0,bcl aC 1⟩ (fun hHeld=>?_)
       clear hK K
       refine no_ (some 48) ?_
       refine on_ 9 52 (fun K hK=>?_)
       refine rl5s k49 49 52 ⟨eH,eI,eJ,eK,eL⟩ eM (k49_mkM _ _ _ _) rfl ?_
       intro cB kF bO hb
       have bP:=am (Kd.R_lower (Kd.R_new' (Kd.R_new' bO (Kd.R_lt (rL aQ))) (Kd.R_lt (rL bA))) (below_size (bL HB)))
       replace aD:=am (Kd.N_elder' (nL aD) (Kd.R_base bO) hb)
       replace aK:=am (Kd.N_elder' (nL aK) (Kd.R_base bO) hb)
       replace aQ:=am (Kd.R_elder' (rL aQ) (Kd.R_base bO) hb)
       replace bA:=am (Kd.R_elder' (rL bA) (Kd.R_base bO) hb)
       replace aA:=bkb aA hb
       replace aC:=bkb aC hb
       replace HB:=bst HB hb
       clear hb bO
       refine hK.out _ _ ⟨bcl aC 0,bcl aC 1⟩ (fun hHeld=>?_)
       clear hK K
       refine no_ (some 52) ?_
       exact norm_ (by simp only [putAll,Act.put,List.setIfInBounds_toArray,List.set_cons_zero,List.set_cons_succ]) (hCont (cA,cB) _ ⟨hHeld,(R_later (Kd.R_mono aQ.out (fun _ hk=>⟨hk.1.2,hk.2⟩))),(R_later (Kd.R_mono bA.out (fun _ hk=>⟨hk.1.2,hk.2⟩))),(R_later (Kd.R_mono bP.out (fun _ hk=>⟨hk.1.2,hk.2⟩))),(N_later (Kd.N_mono aD.out (fun _ hk=>⟨hk.1.1.2,⟨hk.1.2,⟨hk.2,⟨hk.1.1.1.1,⟨hk.1.1.1.2.1,hk.1.1.1.2.2⟩⟩⟩⟩⟩))),(N_later (Kd.N_mono aK.out (fun _ hk=>⟨hk.1.1.2,⟨hk.1.2,⟨hk.2,⟨hk.1.1.1.1,⟨hk.1.1.1.2.1,hk.1.1.1.2.2⟩⟩⟩⟩⟩))),(kL aA),(kL aC),(bL HB)⟩)
     skip
     refine rl5s k49 49 52 ⟨eH,eI,eJ,eK,eL⟩ eM (k49_mkM _ _ _ _) rfl ?_
     intro cB lG cC hb
     have bP:=am (Kd.R_lower (Kd.R_new' cC (Kd.R_lt (rL aQ))) (below_size (bL HB)))
     replace aD:=am (Kd.N_elder' (nL aD) (Kd.R_base cC) hb)
     replace aK:=am (Kd.N_elder' (nL aK) (Kd.R_base cC) hb)
     replace aQ:=am (Kd.R_elder' (rL aQ) (Kd.R_base cC) hb)
     replace aA:=bkb aA hb
     replace aC:=bkb aC hb
     replace HB:=bst HB hb
     clear hb cC
     refine hK.out _ _ ⟨bcl aC 0,bcl aC 1⟩ (fun hHeld=>?_)
     clear hK K
     refine no_ (some 52) ?_
     refine on_ 5 48 (fun K hK=>?_)
     refine rl5s k49 49 48 ⟨fQ,fR,fS,fT,fU⟩ eG (k49_mkM _ _ _ _) rfl ?_
     intro cA kF bO hb
     have bA:=am (Kd.R_lower (Kd.R_new' (Kd.R_new' bO (Kd.R_lt (rL aQ))) (Kd.R_lt (rL bP))) (below_size (bL HB)))
     replace aD:=am (Kd.N_elder' (nL aD) (Kd.R_base bO) hb)
     replace aK:=am (Kd.N_elder' (nL aK) (Kd.R_base bO) hb)
     replace aQ:=am (Kd.R_elder' (rL aQ) (Kd.R_base bO) hb)
     replace bP:=am (Kd.R_elder' (rL bP) (Kd.R_base bO) hb)
     replace aA:=bkb aA hb
     replace aC:=bkb aC hb
     replace HB:=bst HB hb
     clear hb bO
     refine hK.out _ _ ⟨bcl aC 0,bcl aC 1⟩ (fun hHeld=>?_)
     clear hK K
     refine no_ (some 48) ?_
     exact norm_ (by simp only [putAll,Act.put,List.setIfInBounds_toArray,List.set_cons_zero,List.set_cons_succ]) (hCont (cA,cB) _ ⟨hHeld,(R_later (Kd.R_mono aQ.out (fun _ hk=>⟨hk.2,hk.1.2⟩))),(R_later (Kd.R_mono bA.out (fun _ hk=>⟨hk.1.2,hk.2⟩))),(R_later (Kd.R_mono bP.out (fun _ hk=>⟨hk.1.2,hk.2⟩))),(N_later (Kd.N_mono aD.out (fun _ hk=>⟨hk.1.1.2,⟨hk.2,⟨hk.1.2,⟨hk.1.1.1.1,⟨hk.1.1.1.2.1,hk.1.1.1.2.2⟩⟩⟩⟩⟩))),(N_later (Kd.N_mono aK.out (fun _ hk=>⟨hk.1.1.2,⟨hk.2,⟨hk.1.2,⟨hk.1.1.1.1,⟨hk.1.1.1.2.1,hk.1.1.1.2.2⟩⟩⟩⟩⟩))),(kL aA),(kL aC),(bL HB)⟩)
   rintro ⟨cA,cB⟩ eP ⟨hS_,iI,b9,kG,kH,kJ,kM,kN,kO⟩
   have cO:Aside0 (Kd.R k49 49 eP w.heap.size (fun k_=>some k_≠(cA:Value).ownBlock∧some k_≠(cB:Value).ownBlock) cE cV):=⟨iI⟩
   have cP:Aside0 (Kd.R k49 49 eP w.heap.size (fun k_=>some k_≠(cE:Value).ownBlock∧some k_≠(cB:Value).ownBlock) cA cW):=⟨b9⟩
   have cQ:Aside0 (Kd.R k49 49 eP w.heap.size (fun k_=>some k_≠(cE:Value).ownBlock∧some k_≠(cA:Value).ownBlock) cB cX):=⟨kG⟩
   have cR:Aside0 (Kd.N (Kd.slice 49 k49) 27 eP w.heap.size (fun k_=>some k_≠(cE:Value).ownBlock∧some k_≠(cA:Value).ownBlock∧some k_≠(cB:Value).ownBlock∧some k_≠(.slice bS bF.length bT:Value).ownBlock∧k_≠aE∧k_≠aH) (.slice bV aU.length bW) aU):=⟨kH⟩
   have gK:Aside0 (Kd.N (Kd.slice 49 k49) 27 eP w.heap.size (fun k_=>some k_≠(cE:Value).ownBlock∧some k_≠(cA:Value).ownBlock∧some k_≠(cB:Value).ownBlock∧some k_≠(.slice bV aU.length bW:Value).ownBlock∧k_≠aE∧k_≠aH) (.slice bS bF.length bT) bF):=⟨kJ⟩
   have kP:Aside0 (eP.heap[aE]?=some (.cells #[.slice bQ bH.length bR,.int .i64 bN,.slice (some dE) aI.length b7] 33 (0,0))):=⟨kM⟩
   have kQ:Aside0 (eP.heap[aH]?=some (.cells #[.int .i64 ((rd_T54 aI aG).f0),.slice bI ((rd_T54 aI aG).f1).length bJ] 54 (0,0))):=⟨kN⟩
   have kR:Aside0 (Below w.heap.size w eP):=⟨kO⟩
   clear aD aK aA aC HB iI b9 kG kH kJ kM kN kO
   have aQ:=cO
   have bA:=cP
   have bP:=cQ
   have aD:=cR
   have aK:=gK
   have aA:=kP
   have aC:=kQ
   have HB:=kR
   clear cO cP cQ cR gK kP kQ kR
   have hHeld:eP.cell? ⟨aH,0,none⟩=some (.int .i64 ((rd_T54 aI aG).f0))∧eP.cell? ⟨aH,1,none⟩=some (.slice bI ((rd_T54 aI aG).f1).length bJ):=hS_
   obtain⟨iJ,iK,iL⟩:=Kd.R_slice aQ.out
   (first | subst iL | (injection iL with f1_ f2_ f3_;have f4_:=f1_.symm;have f5_:=f3_.symm;clear f1_ f2_ f3_;subst f4_;subst f5_))
   obtain⟨iM,iN,iO⟩:=Kd.R_slice bA.out
   (first | subst iO | (injection iO with f1_ f2_ f3_;have f4_:=f1_.symm;have f5_:=f3_.symm;clear f1_ f2_ f3_;subst f4_;subst f5_))
   obtain⟨iP,iQ,iR⟩:=Kd.R_slice bP.out
   (first | subst iR | (injection iR with f1_ f2_ f3_;have f4_:=f1_.symm;have f5_:=f3_.symm;clear f1_ f2_ f3_;subst f4_;subst f5_))
   refine norm_ (a':=?_) ?_ ?_
   rotate_left
   · simp only [putAll,Act.put,List.setIfInBounds_toArray,List.set_cons_zero,List.set_cons_succ]
     rfl
   refine on_ 10 53 (fun K hK=>?_)
   refine Kd.N_lit_step (Kd.slice 49 k49) _ 27 ?hg (N':=53) ?hd (xs:=([cV,cW,cX]:List (List (S49)))) (inner:=[.slice iJ cV.length iK,.slice iM cW.length iN,.slice iP cX.length iQ]) (ok:=(fun k_=>some k_≠(.slice bV aU.length bW:Value).ownBlock∧some k_≠(.slice bS bF.length bT:Value).ownBlock∧k_≠aE∧k_≠aH)) (okp:=(fun k_=>some k_≠(.slice bV aU.length bW:Value).ownBlock∧some k_≠(.slice bS bF.length bT:Value).ownBlock∧k_≠aE∧k_≠aH)) ?hr ?hp (fun _ hk=>hk) ((show ∀ k_,eP.heap.size≤k_→(fun k_=>some k_≠(.slice bV aU.length bW:Value).ownBlock∧some k_≠(.slice bS bF.length bT:Value).ownBlock∧k_≠aE∧k_≠aH) k_ from fun k_ hk=>⟨Kd.fresh' (Kd.N_lt (nL aD)) k_ hk,Kd.fresh' (Kd.N_lt (nL aK)) k_ hk,Kd.freshB (blk_later aA.out) k_ hk,Kd.freshB (blk_later aC.out) k_ hk⟩) _ (Nat.le_refl _)) (Below.refl _ _) (Nat.le_refl _) (by simp) ?_;(case hd=>rfl);(case hg=>rfl);(case hr=>first | (go_simp;done) | (go_simp;rfl));(case hp=>exact (Reps.one (show Kd.FK (Kd.slice 49 k49) _ _ cV [.slice iJ cV.length iK] from (Kd.FK_slice_mk (Kd.R_reads' (Kd.R_mono (ok':=(fun k_=>some k_≠(.slice bV aU.length bW:Value).ownBlock∧some k_≠(.slice bS bF.length bT:Value).ownBlock∧k_≠aE∧k_≠aH)) (Kd.R_types (Kd.R_types (Kd.R_apart' (Kd.R_apart' (aQ.out) (Kd.N_typed aD.out) (by decide)) (Kd.N_typed aK.out) (by decide)) aA.out (by decide)) aC.out (by decide)) (fun k_ hk=>⟨hk.1.1.1.2,⟨hk.1.1.2,⟨hk.1.2,hk.2⟩⟩⟩))).2.1 (Kd.R_F (Kd.R_mono (ok':=(fun k_=>some k_≠(.slice bV aU.length bW:Value).ownBlock∧some k_≠(.slice bS bF.length bT:Value).ownBlock∧k_≠aE∧k_≠aH)) (Kd.R_types (Kd.R_types (Kd.R_apart' (Kd.R_apart' (aQ.out) (Kd.N_typed aD.out) (by decide)) (Kd.N_typed aK.out) (by decide)) aA.out (by decide)) aC.out (by decide)) (fun k_ hk=>⟨hk.1.1.1.2,⟨hk.1.1.2,⟨hk.1.2,hk.2⟩⟩⟩))))) (Reps.one (show Kd.FK (Kd.slice 49 k49) _ _ cW [.slice iM cW.length iN] from (Kd.FK_slice_mk (Kd.R_reads' (Kd.R_mono (ok':=(fun k_=>some k_≠(.slice bV aU.length bW:Value).ownBlock∧some k_≠(.slice bS bF.length bT:Value).ownBlock∧k_≠aE∧k_≠aH)) (Kd.R_types (Kd.R_types (Kd.R_apart' (Kd.R_apart' (bA.out) (Kd.N_typed aD.out) (by decide)) (Kd.N_typed aK.out) (by decide)) aA.out (by decide)) aC.out (by decide)) (fun k_ hk=>⟨hk.1.1.1.2,⟨hk.1.1.2,⟨hk.1.2,hk.2⟩⟩⟩))).2.1 (Kd.R_F (Kd.R_mono (ok':=(fun k_=>some k_≠(.slice bV aU.length bW:Value).ownBlock∧some k_≠(.slice bS bF.length bT:Value).ownBlock∧k_≠aE∧k_≠aH)) (Kd.R_types (Kd.R_types (Kd.R_apart' (Kd.R_apart' (bA.out) (Kd.N_typed aD.out) (by decide)) (Kd.N_typed aK.out) (by decide)) aA.out (by decide)) aC.out (by decide)) (fun k_ hk=>⟨hk.1.1.1.2,⟨hk.1.1.2,⟨hk.1.2,hk.2⟩⟩⟩))))) (Reps.one (show Kd.FK (Kd.slice 49 k49) _ _ cX [.slice iP cX.length iQ] from (Kd.FK_slice_mk (Kd.R_reads' (Kd.R_mono (ok':=(fun k_=>some k_≠(.slice bV aU.length bW:Value).ownBlock∧some k_≠(.slice bS bF.length bT:Value).ownBlock∧k_≠aE∧k_≠aH)) (Kd.R_types (Kd.R_types (Kd.R_apart' (Kd.R_apart' (bP.out) (Kd.N_typed aD.out) (by decide)) (Kd.N_typed aK.out) (by decide)) aA.out (by decide)) aC.out (by decide)) (fun k_ hk=>⟨hk.1.1.1.2,⟨hk.1.1.2,⟨hk.1.2,hk.2⟩⟩⟩))).2.1 (Kd.R_F (Kd.R_mono (ok':=(fun k_=>some k_≠(.slice bV aU.length bW:Value).ownBlock∧some k_≠(.slice bS bF.length bT:Value).ownBlock∧k_≠aE∧k_≠aH)) (Kd.R_types (Kd.R_types (Kd.R_apart' (Kd.R_apart' (bP.out) (Kd.N_typed aD.out) (by decide)) (Kd.N_typed aK.out) (by decide)) aA.out (by decide)) aC.out (by decide)) (fun k_ hk=>⟨hk.1.1.1.2,⟨hk.1.1.2,⟨hk.1.2,hk.2⟩⟩⟩))))) (Reps.none _ _)))))
   intro lH mA cY hb hg_ hnew_
   clear hg_ hnew_
   (first | rw [← gI.out] at cY | (simp only [Int.reduceToNat] at cY;rw [← gI.out] at cY))
   have bY:=am (Kd.N_lower cY (below_size (bL HB)))
   replace aD:=am (Kd.N_elder' (nL aD) (Kd.N_base cY) hb)
   replace aK:=am (Kd.N_elder' (nL aK) (Kd.N_base cY) hb)
   replace aA:=bkb aA hb
   replace aC:=bkb aC hb
   replace HB:=bst HB hb
   clear aQ bA bP hb cY
   obtain⟨dX,dY,iS⟩:=Kd.N_slice bY.out
   (first | subst iS | (injection iS with f1_ f2_ f3_;have f4_:=f1_.symm;have f5_:=f3_.symm;clear f1_ f2_ f3_;subst f4_;subst f5_))
   refine hK.out _ _ ⟨bcl aC 0,bcl aC 1⟩ (fun hHeld=>?_)
   clear hK K
   refine no_ (some 53) ?_
   refine on_ 11 54 (fun K hK=>?_)
   refine gs_ Try.func31 #[.int .i64 0,.slice dX dW.length dY] rfl ?_
   with_reducible refine (impl_structNode.calls ?side1 ?side2 lE.out).mono ?_
   (case side1=>repeat (first | exact (Kd.N_reads' bY.out).2.2 | (with_reducible refine Kd.C_alloc ?_ _) | (with_reducible refine Kd.C_drewN ?_ _) | (with_reducible refine Kd.C_drew ?_)))
   (case side2=>exact (Kd.N_reads' bY.out).2.1)
   rintro e mB ⟨lI,rfl,b8,hb⟩
   refine⟨_,rfl,?_⟩
   have dQ:=rlb b8 HB
   replace aD:=am (Kd.N_elder' (nL aD) (Kd.R_base b8) hb)
   replace aK:=am (Kd.N_elder' (nL aK) (Kd.R_base b8) hb)
   replace bY:=am (Kd.N_elder' (nL bY) (Kd.R_base b8) hb)
   replace aA:=bkb aA hb
   replace aC:=bkb aC hb
   replace HB:=bst HB hb
   (try clear hb)
   (try clear fV)
   (try clear hk)
   (try clear hi)
   (try clear b8)
   obtain⟨gX,gY,iT⟩:=Kd.R_slice dQ.out
   (first | subst iT | (injection iT with f1_ f2_ f3_;have f4_:=f1_.symm;have f5_:=f3_.symm;clear f1_ f2_ f3_;subst f4_;subst f5_))
   refine hK.out _ _ ⟨bcl aC 0,bcl aC 1⟩ (fun hHeld=>?_)
   clear hK K
   refine no_ (some 54) ?_
   refine on_ 12 55 (fun K hK=>?_)
   refine value_ (w1:=?_) (v:=?_) (by rfl) rfl ?_ ?_
   rotate_left 2
   · go_simp
     constructor
     · rfl
     rfl
   refine hK.out _ _ ⟨(blk_cell (blk_alloc aC.out _) 0).trans rfl,(blk_cell (blk_alloc aC.out _) 1).trans rfl⟩ (fun hHeld=>?_)
   clear hK K
   refine no_ (some 55) ?_
   refine on_ 13 56 (fun K hK=>?_)
   refine Kd.N_append_step (Kd.slice 49 k49) (w0:=w) w.heap.size (by rfl) (.tmp 43) (.tmp 55) 62 27 (.slice none 0 0) 24 rfl Try.underlying62 info27 rfl (by decide) (by omega) (.slice bV aU.length bW) aU eN [.slice gX eN.length gY] (fun k_=>some k_≠(.slice bS bF.length bT:Value).ownBlock∧some k_≠(.slice dX dW.length dY:Value).ownBlock∧k_≠aE∧k_≠aH) (fun k_=>((fun k_=>some k_≠(.slice bS bF.length bT:Value).ownBlock∧some k_≠(.slice dX dW.length dY:Value).ownBlock∧k_≠aE∧k_≠aH)) k_∧some k_≠(.slice bV aU.length bW:Value).ownBlock) rfl rfl ?aP (fun _ hk=>hk) ?aF ?aO ?aB ?aS ?aL ?_
   (case aP=>exact (Kd.FK_slice_mk (Kd.R_reads' (Kd.R_mono (ok':=(fun k_=>((fun k_=>some k_≠(.slice bS bF.length bT:Value).ownBlock∧some k_≠(.slice dX dW.length dY:Value).ownBlock∧k_≠aE∧k_≠aH)) k_∧some k_≠(.slice bV aU.length bW:Value).ownBlock)) (Kd.R_types (Kd.R_types (Kd.R_apart' (Kd.R_apart' (Kd.R_apart' (dQ.out) (Kd.N_typed aK.out) (by decide)) (Kd.N_typed bY.out) (by decide)) (Kd.N_typed aD.out) (by decide)) aA.out (by decide)) aC.out (by decide)) (fun k_ hk=>⟨⟨hk.1.1.1.1.2,⟨hk.1.1.1.2,⟨hk.1.2,hk.2⟩⟩⟩,hk.1.1.2⟩))).2.1 (Kd.R_F (Kd.R_mono (ok':=(fun k_=>((fun k_=>some k_≠(.slice bS bF.length bT:Value).ownBlock∧some k_≠(.slice dX dW.length dY:Value).ownBlock∧k_≠aE∧k_≠aH)) k_∧some k_≠(.slice bV aU.length bW:Value).ownBlock)) (Kd.R_types (Kd.R_types (Kd.R_apart' (Kd.R_apart' (Kd.R_apart' (dQ.out) (Kd.N_typed aK.out) (by decide)) (Kd.N_typed bY.out) (by decide)) (Kd.N_typed aD.out) (by decide)) aA.out (by decide)) aC.out (by decide)) (fun k_ hk=>⟨⟨hk.1.1.1.1.2,⟨hk.1.1.1.2,⟨hk.1.2,hk.2⟩⟩⟩,hk.1.1.2⟩)))))
   (case aB=>exact (bL HB))
   (case aF=>exact (fun k_ hk=>⟨Kd.fresh' (Kd.N_lt (nL aK)) k_ hk,Kd.fresh' (Kd.N_lt (nL bY)) k_ hk,Kd.freshB (blk_later aA.out) k_ hk,Kd.freshB (blk_later aC.out) k_ hk⟩))
   (case aO=>exact (N_later (Kd.N_mono aD.out (fun _ hk=>⟨hk.1.1.2.2.2.1,⟨hk.1.2,⟨hk.1.1.2.2.2.2.1,hk.1.1.2.2.2.2.2⟩⟩⟩))))
   (case aS=>exact (below_size (bL HB)))
   (case aL=>have:=iG.out;omega)
   intro lJ mC ho hb hg hat
   rw [← iH.out] at ho
   have iU:=am ho
   replace aK:=am (Kd.N_afterv (ok:=(fun k_=>some k_≠(.slice dX dW.length dY:Value).ownBlock∧some k_≠(.slice gX eN.length gY:Value).ownBlock∧k_≠aE∧k_≠aH)) (N_later (Kd.N_mono aK.out (fun _ hk=>⟨⟨hk.1.2,⟨hk.2,⟨hk.1.1.2.2.2.2.1,hk.1.1.2.2.2.2.2⟩⟩⟩,hk.1.1.2.2.2.1⟩))) hg hat)
   replace aA:=am (blk_grown (blk_later aA.out) hg (Kd.N_ne aD.out aA.out (by decide)))
   replace aC:=am (blk_grown (blk_later aC.out) hg (Kd.N_ne aD.out aC.out (by decide)))
   replace bY:=am (Kd.N_afterv (ok:=(fun k_=>some k_≠(.slice bS bF.length bT:Value).ownBlock∧some k_≠(.slice gX eN.length gY:Value).ownBlock∧k_≠aE∧k_≠aH)) (N_later (Kd.N_mono bY.out (fun _ hk=>⟨⟨hk.1.2.1,⟨hk.2,⟨hk.1.2.2.1,hk.1.2.2.2⟩⟩⟩,hk.1.1⟩))) hg hat)
   replace HB:=am hb
   clear aD dQ ho hb hg hat
   refine hK.out _ _ ⟨bcl aC 0,bcl aC 1⟩ (fun hHeld=>?_)
   clear hK K
   refine no_ (some 56) ?_;refine pu_ 14 4 ?_
   refine done_ (done_of HT_.out (by kernel_rfl)) ?_
   try go_wp2
   go_roundg k2
   case measure=>have:=i8.out;have:=jA.out;omega
   case rel=>exact⟨(jH),(wrap64 (aG + 1)),sr,H',⟨by have:=i8.out;have:=jA.out;omega⟩,⟨N_later (Kd.N_mono iU.out (fun _ hk=>hk.2.2.1))⟩,⟨kL aA⟩,⟨bL HB⟩⟩
 replace H:=bnd5 H;obtain⟨eQ,eR,eS,eT,eU,lK,H⟩:=H;dsimp only at H
 generalize gL:((([(⟨eQ,eR,eS,eT,eU⟩:S49)]:List (S49))):List (S49))=cS at H;have iV:=am gL.symm;clear gL
 replace H:=bnd H;obtain⟨cZ,lL,H⟩:=H
 replace H:=bnd5 H;obtain⟨eV,eW,eX,eY,eZ,lM,H⟩:=H;dsimp only at H
 generalize gM:((([(⟨eV,eW,eX,eY,eZ⟩:S49)]:List (S49))):List (S49))=dA at H;have iW:=am gM.symm;clear gM
 replace H:=bnd H;obtain⟨dB,lN,H⟩:=H
 generalize gN:((([cS,cZ,dA,dB]:List (List (S49)))):List (List (S49)))=gZ at H;have gO:=am gN.symm;clear gN
 replace H:=bnd H;obtain⟨jK,lO,H⟩:=H
 replace H:=bnd H;obtain⟨lP,kS,H⟩:=H
 have HS:=am H
 clear H
 obtain⟨bZ,b6,jL⟩:=Kd.N_slice aD.out
 subst jL
 try go_wp2
 replace aD:=am (Kd.N_drew aD.out)
 replace aA:=bdr aA
 replace HB:=bld HB
 refine start_ (n:=14) (S:=fun w'=>True) (ds:=[]) #[false,false,false,false,false,false,false,false,false,false,false,false,false,false] (by kernel_rfl) rfl rfl trivial (fun hHeld=>?_);refine with_tabW impl_MetaTree.tab17 impl_MetaTree.bits17 (fun HT_ HW_=>?_)
 generalize wr.drew=mD at aD aA HB hHeld ⊢
 refine pu_ 2 60 ?_;refine pu_ 5 63 ?_;refine pu_ 9 67 ?_
 refine inv_at [0,1,3,4,6,7,8,10,11,12,13] (fun lQ b a w'=>∃ (a9:Value) (bB:Value) (bC:Value) (bD:Value) (bE:Value) (a8:Value) (m13_:Value),a=putSel lQ b [(0,58,.agg #[.int .i64 eQ,.int .i64 eR,.int .i64 eS,.string eT,.int .i64 eU]),(1,59,a9),(3,61,.slice bQ bH.length bR),(4,62,bB),(6,64,.int .i64 bN),(7,65,.agg #[.int .i64 eV,.int .i64 eW,.int .i64 eX,.string eY,.int .i64 eZ]),(8,66,bC),(10,68,bD),(11,69,bE),(12,70,a8),(13,11,m13_)]∧(Kd.N (Kd.slice 49 k49) 27 w' w.heap.size (fun k_=>k_≠aE) (.slice bZ aU.length b6) aU)∧(w'.heap[aE]?=some (.cells #[.slice bQ bH.length bR,.int .i64 bN,.slice cD aI.length b7] 33 (0,0)))∧(Below w.heap.size w w')∧(b 1=true→b 11=false→Kd.R k49 49 w' w.heap.size (fun _=>True) a9 cS)∧(b 4=true→b 11=false→Kd.R k49 49 w' w.heap.size (fun _=>True) bB cZ)∧(b 8=true→b 11=false→Kd.R k49 49 w' w.heap.size (fun _=>True) bC dA)∧(b 10=true→b 11=false→Kd.R k49 49 w' w.heap.size (fun _=>True) bD dB)∧(b 11=true→Kd.N (Kd.slice 49 k49) 27 w' w.heap.size (fun k_=>some k_≠(.slice bZ aU.length b6:Value).ownBlock∧k_≠aE) bE gZ)∧(b 12=true→Kd.R k49 49 w' w.heap.size (fun _=>True) a8 jK)∧(b 13=true→(m13_:Value)=a8)) HT_.out HW_.out (by kernel_rfl) (by kernel_rfl) ?_ ?_ ?_
 · exact⟨.bool false,.bool false,.bool false,.bool false,.bool false,.bool false,.bool false,by simp only [putSel,Bool.false_eq_true,if_false],aD.out,aA.out,HB.out,fun h_=>absurd h_ (by decide),fun h_=>absurd h_ (by decide),fun h_=>absurd h_ (by decide),fun h_=>absurd h_ (by decide),fun h_=>absurd h_ (by decide),fun h_=>absurd h_ (by decide),fun h_=>absurd h_ (by decide)⟩
 · skip
   clear aA HB aD
   refine steps_cons ?_ ?_
   · rintro b a w' ⟨a9,bB,bC,bD,bE,a8,m13_,ha,aM,aJ,Q_HB,aN,aT,aX,aY,aV,aZ,bG⟩ hb_ hon hoff
     refine⟨_,rfl,fun K hK=>?_⟩
     replace ha:=am ha
     have aD:=am aM
     have aA:=am aJ
     have HB:=am Q_HB
     refine goes_ Try.func34 (by kernel_rfl) rfl #[.int .i64 1,.int .i64 1] (by rfl) rfl rfl (by first | (simp only [List.map_toArray,List.map_cons,List.map_nil,Act.eval,Array.getD_eq_getD_getElem?,Option.getD_some];done) | (simp only [List.map_toArray,List.map_cons,List.map_nil,Act.eval,Array.getD_eq_getD_getElem?,Option.getD_some];rfl)) ?_
     with_reducible refine (impl_intNode.calls lK.out).mono ?_
     rintro e mE ⟨rfl,hb⟩
     refine⟨_,rfl,?_⟩
     replace aD:=nbe aD hb
     replace aA:=bkb aA hb
     replace HB:=bst HB hb
     (try clear hb)
     (try clear fV)
     (try clear hk)
     (try clear hi)
     refine hK.out _ _ ⟨a9,bB,bC,bD,bE,a8,m13_,(by rw [ha.out];exact putSel_upk 0 hb_ rfl rfl rfl),(nL aD),(blk_later aA.out),(bL HB),z2 (hoff 1 (by kernel_rfl)),z2 (hoff 4 (by kernel_rfl)),z2 (hoff 8 (by kernel_rfl)),z2 (hoff 10 (by kernel_rfl)),z1 (hoff 11 (by kernel_rfl)),z1 (hoff 12 (by kernel_rfl)),z1 (hoff 13 (by kernel_rfl))⟩
   refine steps_cons ?_ ?_
   · rintro b a w' ⟨a9,bB,bC,bD,bE,a8,m13_,ha,aM,aJ,Q_HB,aN,aT,aX,aY,aV,aZ,bG⟩ hb_ hon hoff
     refine⟨_,rfl,fun K hK=>?_⟩
     have mF:a.tmps[58]?=some (.agg #[.int .i64 eQ,.int .i64 eR,.int .i64 eS,.string eT,.int .i64 eU]):=by rw [ha];exact putSel_on (e:=(0,58,.agg #[.int .i64 eQ,.int .i64 eR,.int .i64 eS,.string eT,.int .i64 eU])) 0 rfl rfl (hon 0 (by kernel_rfl)) rfl
     replace ha:=am ha
     have aD:=am aM
     have aA:=am aJ
     have HB:=am Q_HB
     refine rl5s k49 49 59 ⟨eQ,eR,eS,eT,eU⟩ iV (k49_mkM _ _ _ _) rfl ?_
     intro a9 lR g2 hb
     have cO:=am (Kd.N_elder' (nL aD) (Kd.R_base g2) hb)
     have cP:=rlb g2 HB
     have cQ:=bkb aA hb
     have cR:=bst HB hb
     have fW:=zk aT hb
     have cM:=zk aX hb
     have cN:=zk aY hb
     clear aD aA HB
     have aD:=cO
     have cF:=cP
     have aA:=cQ
     have HB:=cR
     clear cO cP cQ cR hb g2
     refine hK.out _ _ ⟨a9,bB,bC,bD,bE,a8,m13_,(by rw [ha.out];exact putSel_upk 1 hb_ rfl rfl rfl),(N_later (Kd.N_mono aD.out (fun _ hk=>by first | exact hk | exact hk.1 | exact hk.1.1))),(blk_later aA.out),(bL HB),fun _ _=>R_later (Kd.R_mono cF.out (fun _ _=>trivial)),fW,cM,cN,z1 (hoff 11 (by kernel_rfl)),z1 (hoff 12 (by kernel_rfl)),z1 (hoff 13 (by kernel_rfl))⟩
   refine steps_cons ?_ ?_
   · rintro b a w' ⟨a9,bB,bC,bD,bE,a8,m13_,ha,aM,aJ,Q_HB,aN,aT,aX,aY,aV,aZ,bG⟩ hb_ hon hoff
     refine⟨_,rfl,fun K hK=>?_⟩
     have mG:a.tmps[60]?=some (.pointer (some ⟨aE,0,none⟩)):=by rw [ha];exact (putSel_off rfl).trans rfl
     replace ha:=am ha
     have aD:=am aM
     have aA:=am aJ
     have HB:=am Q_HB
     have jM:w'.cell? ⟨aE,0,none⟩=some (.slice bQ bH.length bR):=bcl aA 0
     have jN:w'.cell? ⟨aE,1,none⟩=some (.int .i64 bN):=bcl aA 1
     have jO:w'.cell? ⟨aE,2,none⟩=some (.slice cD aI.length b7):=bcl aA 2
     refine value_ (w1:=w') (v:=.slice bQ bH.length bR) (by rfl) rfl ?_ ?_
     · go_simp
       (try simp only [i64_w])
       try rfl
     refine hK.out _ _ ⟨a9,bB,bC,bD,bE,a8,m13_,(by rw [ha.out];exact putSel_upk 2 hb_ rfl rfl rfl),aM,aJ,Q_HB,aN,z2 (hoff 4 (by kernel_rfl)),z2 (hoff 8 (by kernel_rfl)),z2 (hoff 10 (by kernel_rfl)),z1 (hoff 11 (by kernel_rfl)),z1 (hoff 12 (by kernel_rfl)),z1 (hoff 13 (by kernel_rfl))⟩
   refine steps_cons ?_ ?_
   · rintro b a w' ⟨a9,bB,bC,bD,bE,a8,m13_,ha,aM,aJ,Q_HB,aN,aT,aX,aY,aV,aZ,bG⟩ hb_ hon hoff
     refine⟨_,rfl,fun K hK=>?_⟩
     have kT:a.tmps[61]?=some (.slice bQ bH.length bR):=by rw [ha];exact putSel_on (e:=(3,61,.slice bQ bH.length bR)) 2 rfl rfl (hon 3 (by kernel_rfl)) rfl
     replace ha:=am ha
     have aD:=am aM
     have aA:=am aJ
     have HB:=am Q_HB
     refine goes_ Try.func35 (by kernel_rfl) rfl #[.slice bQ bH.length bR] (by rfl) rfl rfl (by first | (simp only [List.map_toArray,List.map_cons,List.map_nil,Act.eval,Array.getD_eq_getD_getElem?,Option.getD_some,kT];done) | (simp only [List.map_toArray,List.map_cons,List.map_nil,Act.eval,Array.getD_eq_getD_getElem?,Option.getD_some,kT];rfl)) ?_
     with_reducible refine (impl_schemaNodes.calls ?side1 ?side2 lL.out).mono ?_
     (case side1=>exact cL dC HB)
     (case side2=>exact dD.out)
     rintro e lR ⟨bB,rfl,b8,hb⟩
     refine⟨_,rfl,?_⟩
     have cO:=am (Kd.N_elder' (nL aD) (Kd.R_base b8) hb)
     have cP:=rlb b8 HB
     have cQ:=bkb aA hb
     have cR:=bst HB hb
     have bU:=zk aN hb
     clear aD aA HB
     have aD:=cO
     have a6:=cP
     have aA:=cQ
     have HB:=cR
     clear cO cP cQ cR
     (try clear hb)
     (try clear fV)
     (try clear hk)
     (try clear hi)
     (try clear b8)
     refine hK.out _ _ ⟨a9,bB,bC,bD,bE,a8,m13_,(by rw [ha.out];exact putSel_upk 3 hb_ rfl rfl rfl),(N_later (Kd.N_mono aD.out (fun _ hk=>by first | exact hk | exact hk.1 | exact hk.1.1))),(blk_later aA.out),(bL HB),bU,fun _ _=>R_later (Kd.R_mono a6.out (fun _ _=>trivial)),z2 (hoff 8 (by kernel_rfl)),z2 (hoff 10 (by kernel_rfl)),z1 (hoff 11 (by kernel_rfl)),z1 (hoff 12 (by kernel_rfl)),z1 (hoff 13 (by kernel_rfl))⟩
   refine steps_cons ?_ ?_
   · rintro b a w' ⟨a9,bB,bC,bD,bE,a8,m13_,ha,aM,aJ,Q_HB,aN,aT,aX,aY,aV,aZ,bG⟩ hb_ hon hoff
     refine⟨_,rfl,fun K hK=>?_⟩
     have mH:a.tmps[63]?=some (.pointer (some ⟨aE,1,none⟩)):=by rw [ha];exact (putSel_off rfl).trans rfl
     replace ha:=am ha
     have aD:=am aM
     have aA:=am aJ
     have HB:=am Q_HB
     have jM:w'.cell? ⟨aE,0,none⟩=some (.slice bQ bH.length bR):=bcl aA 0
     have jN:w'.cell? ⟨aE,1,none⟩=some (.int .i64 bN):=bcl aA 1
     have jO:w'.cell? ⟨aE,2,none⟩=some (.slice cD aI.length b7):=bcl aA 2
     refine value_ (w1:=w') (v:=.int .i64 bN) (by rfl) rfl ?_ ?_
     · go_simp
       (try simp only [i64_w])
       try rfl
     refine hK.out _ _ ⟨a9,bB,bC,bD,bE,a8,m13_,(by rw [ha.out];exact putSel_upk 4 hb_ rfl rfl rfl),aM,aJ,Q_HB,aN,aT,z2 (hoff 8 (by kernel_rfl)),z2 (hoff 10 (by kernel_rfl)),z1 (hoff 11 (by kernel_rfl)),z1 (hoff 12 (by kernel_rfl)),z1 (hoff 13 (by kernel_rfl))⟩
   refine steps_cons ?_ ?_
   · rintro b a w' ⟨a9,bB,bC,bD,bE,a8,m13_,ha,aM,aJ,Q_HB,aN,aT,aX,aY,aV,aZ,bG⟩ hb_ hon hoff
     refine⟨_,rfl,fun K hK=>?_⟩
     have kU:a.tmps[64]?=some (.int .i64 bN):=by rw [ha];exact putSel_on (e:=(6,64,.int .i64 bN)) 4 rfl rfl (hon 6 (by kernel_rfl)) rfl
     replace ha:=am ha
     have aD:=am aM
     have aA:=am aJ
     have HB:=am Q_HB
     have a6:=am (aT (hon 4 (by kernel_rfl)) (hoff 11 (by kernel_rfl)))
     refine goes_ Try.func33 (by kernel_rfl) rfl #[.int .i64 3,.int .i64 bN] (by rfl) rfl rfl (by first | (simp only [List.map_toArray,List.map_cons,List.map_nil,Act.eval,Array.getD_eq_getD_getElem?,Option.getD_some,kU];done) | (simp only [List.map_toArray,List.map_cons,List.map_nil,Act.eval,Array.getD_eq_getD_getElem?,Option.getD_some,kU];rfl)) ?_
     with_reducible refine (impl_longNode.calls lM.out).mono ?_
     rintro e lS ⟨rfl,hb⟩
     refine⟨_,rfl,?_⟩
     have cO:=nbe aD hb
     have cP:=rbe a6 hb
     have cQ:=bkb aA hb
     have cR:=bst HB hb
     have bU:=fun (iI:b 1=true) (b9:b 11=false)=>(show Kd.R k49 49 lS w.heap.size (fun _=>True) a9 cS from by first | exact (Kd.R_below (R_later (aN iI b9)) hb) | exact Kd.R_mono (Kd.R_below (R_later (aN iI b9)) hb) (fun _ h_=>by first | trivial | exact h_ | exact h_.1))
     clear aD a6 aA HB
     have aD:=cO
     have a6:=cP
     have aA:=cQ
     have HB:=cR
     clear cO cP cQ cR
     (try clear hb)
     (try clear fV)
     (try clear hk)
     (try clear hi)
     refine hK.out _ _ ⟨a9,bB,bC,bD,bE,a8,m13_,(by rw [ha.out];exact putSel_upk 5 hb_ rfl rfl rfl),(nL aD),(blk_later aA.out),(bL HB),bU,fun _ _=>R_later (Kd.R_mono a6.out (fun _ _=>trivial)),z2 (hoff 8 (by kernel_rfl)),z2 (hoff 10 (by kernel_rfl)),z1 (hoff 11 (by kernel_rfl)),z1 (hoff 12 (by kernel_rfl)),z1 (hoff 13 (by kernel_rfl))⟩
   refine steps_cons ?_ ?_
   · rintro b a w' ⟨a9,bB,bC,bD,bE,a8,m13_,ha,aM,aJ,Q_HB,aN,aT,aX,aY,aV,aZ,bG⟩ hb_ hon hoff
     refine⟨_,rfl,fun K hK=>?_⟩
     have mI:a.tmps[65]?=some (.agg #[.int .i64 eV,.int .i64 eW,.int .i64 eX,.string eY,.int .i64 eZ]):=by rw [ha];exact putSel_on (e:=(7,65,.agg #[.int .i64 eV,.int .i64 eW,.int .i64 eX,.string eY,.int .i64 eZ])) 5 rfl rfl (hon 7 (by kernel_rfl)) rfl
     replace ha:=am ha
     have aD:=am aM
     have aA:=am aJ
     have HB:=am Q_HB
     have a6:=am (aT (hon 4 (by kernel_rfl)) (hoff 11 (by kernel_rfl)))
     refine rl5s k49 49 66 ⟨eV,eW,eX,eY,eZ⟩ iW (k49_mkM _ _ _ _) rfl ?_
     intro bC lT fX hb
     have cO:=am (Kd.N_elder' (nL aD) (Kd.R_base fX) hb)
     have cP:=am (Kd.R_elder' (rL a6) (Kd.R_base fX) hb)
     have cQ:=am (Kd.R_lower (Kd.R_new' fX (Kd.R_lt (rL a6))) (below_size (bL HB)))
     have cR:=bkb aA hb
     have gK:=bst HB hb
     have bU:=zk aN hb
     have cN:=zk aY hb
     clear aD a6 aA HB
     have aD:=cO
     have a6:=cP
     have cG:=cQ
     have aA:=cR
     have HB:=gK
     clear cO cP cQ cR gK hb fX
     refine hK.out _ _ ⟨a9,bB,bC,bD,bE,a8,m13_,(by rw [ha.out];exact putSel_upk 6 hb_ rfl rfl rfl),(N_later (Kd.N_mono aD.out (fun _ hk=>by first | exact hk | exact hk.1 | exact hk.1.1))),(blk_later aA.out),(bL HB),bU,fun _ _=>R_later (Kd.R_mono a6.out (fun _ _=>trivial)),fun _ _=>R_later (Kd.R_mono cG.out (fun _ _=>trivial)),cN,z1 (hoff 11 (by kernel_rfl)),z1 (hoff 12 (by kernel_rfl)),z1 (hoff 13 (by kernel_rfl))⟩
   refine steps_cons ?_ ?_
   · rintro b a w' ⟨a9,bB,bC,bD,bE,a8,m13_,ha,aM,aJ,Q_HB,aN,aT,aX,aY,aV,aZ,bG⟩ hb_ hon hoff
     refine⟨_,rfl,fun K hK=>?_⟩
     have kV:a.tmps[67]?=some (.slice bZ aU.length b6):=by rw [ha];exact (putSel_off rfl).trans rfl
     replace ha:=am ha
     have aD:=am aM
     have aA:=am aJ
     have HB:=am Q_HB
     have a6:=am (aT (hon 4 (by kernel_rfl)) (hoff 11 (by kernel_rfl)))
     refine goes_ Try.func32 (by kernel_rfl) rfl #[.int .i64 4,.int .i64 12,.slice bZ aU.length b6] (by rfl) rfl rfl (by first | (simp only [List.map_toArray,List.map_cons,List.map_nil,Act.eval,Array.getD_eq_getD_getElem?,Option.getD_some,kV];done) | (simp only [List.map_toArray,List.map_cons,List.map_nil,Act.eval,Array.getD_eq_getD_getElem?,Option.getD_some,kV];rfl)) ?_
     with_reducible refine (impl_listNode.calls ?side1 ?side2 lN.out).mono ?_
     (case side1=>repeat (first | exact (Kd.N_reads' aD.out).2.2 | (with_reducible refine Kd.C_alloc ?_ _) | (with_reducible refine Kd.C_drewN ?_ _) | (with_reducible refine Kd.C_drew ?_)))
     (case side2=>exact (Kd.N_reads' aD.out).2.1)
     rintro e lT ⟨bD,rfl,b8,hb⟩
     refine⟨_,rfl,?_⟩
     have cO:=am (Kd.N_elder' (nL aD) (Kd.R_base b8) hb)
     have cP:=am (Kd.R_elder' (rL a6) (Kd.R_base b8) hb)
     have cQ:=am (Kd.R_lower (Kd.R_new' b8 (Kd.R_lt (rL a6))) (below_size (bL HB)))
     have cR:=bkb aA hb
     have gK:=bst HB hb
     have bU:=zk aN hb
     have cM:=zk aX hb
     clear aD a6 aA HB
     have aD:=cO
     have a6:=cP
     have cH:=cQ
     have aA:=cR
     have HB:=gK
     clear cO cP cQ cR gK
     (try clear hb)
     (try clear fV)
     (try clear hk)
     (try clear hi)
     (try clear b8)
     refine hK.out _ _ ⟨a9,bB,bC,bD,bE,a8,m13_,(by rw [ha.out];exact putSel_upk 7 hb_ rfl rfl rfl),(N_later (Kd.N_mono aD.out (fun _ hk=>by first | exact hk | exact hk.1 | exact hk.1.1))),(blk_later aA.out),(bL HB),bU,fun _ _=>R_later (Kd.R_mono a6.out (fun _ _=>trivial)),cM,fun _ _=>R_later (Kd.R_mono cH.out (fun _ _=>trivial)),z1 (hoff 11 (by kernel_rfl)),z1 (hoff 12 (by kernel_rfl)),z1 (hoff 13 (by kernel_rfl))⟩
   refine steps_cons ?_ ?_
   · rintro b a w' ⟨a9,bB,bC,bD,bE,a8,m13_,ha,aM,aJ,Q_HB,aN,aT,aX,aY,aV,aZ,bG⟩ hb_ hon hoff
     refine⟨_,rfl,fun K hK=>?_⟩
     have mJ:a.tmps[59]?=some (a9):=by rw [ha];exact putSel_on (e:=(1,59,a9)) 1 rfl rfl (hon 1 (by kernel_rfl)) rfl
     have mK:a.tmps[62]?=some (bB):=by rw [ha];exact putSel_on (e:=(4,62,bB)) 3 rfl rfl (hon 4 (by kernel_rfl)) rfl
     have mL:a.tmps[66]?=some (bC):=by rw [ha];exact putSel_on (e:=(8,66,bC)) 6 rfl rfl (hon 8 (by kernel_rfl)) rfl
     have mM:a.tmps[68]?=some (bD):=by rw [ha];exact putSel_on (e:=(10,68,bD)) 7 rfl rfl (hon 10 (by kernel_rfl)) rfl
     replace ha:=am ha
     have aD:=am aM
     have aA:=am aJ
     have HB:=am Q_HB
     have cF:=am (aN (hon 1 (by kernel_rfl)) hb_)
     have a6:=am (aT (hon 4 (by kernel_rfl)) hb_)
     have cG:=am (aX (hon 8 (by kernel_rfl)) hb_)
     have cH:=am (aY (hon 10 (by kernel_rfl)) hb_)
     obtain⟨g3,g4,iX⟩:=Kd.R_slice cF.out
     (first | subst iX | (injection iX with f1_ f2_ f3_;have f4_:=f1_.symm;have f5_:=f3_.symm;clear f1_ f2_ f3_;subst f4_;subst f5_))
     obtain⟨g6,g7,iY⟩:=Kd.R_slice a6.out
     (first | subst iY | (injection iY with f1_ f2_ f3_;have f4_:=f1_.symm;have f5_:=f3_.symm;clear f1_ f2_ f3_;subst f4_;subst f5_))
     obtain⟨e5,e6,gP⟩:=Kd.R_slice cG.out
     (first | subst gP | (injection gP with f1_ f2_ f3_;have f4_:=f1_.symm;have f5_:=f3_.symm;clear f1_ f2_ f3_;subst f4_;subst f5_))
     obtain⟨e7,e8,gQ⟩:=Kd.R_slice cH.out
     (first | subst gQ | (injection gQ with f1_ f2_ f3_;have f4_:=f1_.symm;have f5_:=f3_.symm;clear f1_ f2_ f3_;subst f4_;subst f5_))
     refine Kd.N_lit_step (Kd.slice 49 k49) _ 27 ?hg (N':=69) ?hd (xs:=([cS,cZ,dA,dB]:List (List (S49)))) (inner:=[.slice g3 cS.length g4,.slice g6 cZ.length g7,.slice e5 dA.length e6,.slice e7 dB.length e8]) (ok:=(fun k_=>some k_≠(.slice bZ aU.length b6:Value).ownBlock∧k_≠aE)) (okp:=(fun k_=>some k_≠(.slice bZ aU.length b6:Value).ownBlock∧k_≠aE)) ?hr ?hp (fun _ hk=>hk) ((show ∀ k_,w'.heap.size≤k_→(fun k_=>some k_≠(.slice bZ aU.length b6:Value).ownBlock∧k_≠aE) k_ from fun k_ hk=>⟨Kd.fresh' (Kd.N_lt (nL aD)) k_ hk,Kd.freshB (blk_later aA.out) k_ hk⟩) _ (Nat.le_refl _)) (Below.refl _ _) (Nat.le_refl _) (by simp) ?_;(case hd=>rfl);(case hg=>rfl);(case hr=>first | (go_simp;done) | (go_simp;rfl));(case hp=>exact (Reps.one (show Kd.FK (Kd.slice 49 k49) _ _ cS [.slice g3 cS.length g4] from (Kd.FK_slice_mk (Kd.R_reads' (Kd.R_mono (ok':=(fun k_=>some k_≠(.slice bZ aU.length b6:Value).ownBlock∧k_≠aE)) (Kd.R_types (Kd.R_apart' (cF.out) (Kd.N_typed aD.out) (by decide)) aA.out (by decide)) (fun k_ hk=>⟨hk.1.2,hk.2⟩))).2.1 (Kd.R_F (Kd.R_mono (ok':=(fun k_=>some k_≠(.slice bZ aU.length b6:Value).ownBlock∧k_≠aE)) (Kd.R_types (Kd.R_apart' (cF.out) (Kd.N_typed aD.out) (by decide)) aA.out (by decide)) (fun k_ hk=>⟨hk.1.2,hk.2⟩))))) (Reps.one (show Kd.FK (Kd.slice 49 k49) _ _ cZ [.slice g6 cZ.length g7] from (Kd.FK_slice_mk (Kd.R_reads' (Kd.R_mono (ok':=(fun k_=>some k_≠(.slice bZ aU.length b6:Value).ownBlock∧k_≠aE)) (Kd.R_types (Kd.R_apart' (a6.out) (Kd.N_typed aD.out) (by decide)) aA.out (by decide)) (fun k_ hk=>⟨hk.1.2,hk.2⟩))).2.1 (Kd.R_F (Kd.R_mono (ok':=(fun k_=>some k_≠(.slice bZ aU.length b6:Value).ownBlock∧k_≠aE)) (Kd.R_types (Kd.R_apart' (a6.out) (Kd.N_typed aD.out) (by decide)) aA.out (by decide)) (fun k_ hk=>⟨hk.1.2,hk.2⟩))))) (Reps.one (show Kd.FK (Kd.slice 49 k49) _ _ dA [.slice e5 dA.length e6] from (Kd.FK_slice_mk (Kd.R_reads' (Kd.R_mono (ok':=(fun k_=>some k_≠(.slice bZ aU.length b6:Value).ownBlock∧k_≠aE)) (Kd.R_types (Kd.R_apart' (cG.out) (Kd.N_typed aD.out) (by decide)) aA.out (by decide)) (fun k_ hk=>⟨hk.1.2,hk.2⟩))).2.1 (Kd.R_F (Kd.R_mono (ok':=(fun k_=>some k_≠(.slice bZ aU.length b6:Value).ownBlock∧k_≠aE)) (Kd.R_types (Kd.R_apart' (cG.out) (Kd.N_typed aD.out) (by decide)) aA.out (by decide)) (fun k_ hk=>⟨hk.1.2,hk.2⟩))))) (Reps.one (show Kd.FK (Kd.slice 49 k49) _ _ dB [.slice e7 dB.length e8] from (Kd.FK_slice_mk (Kd.R_reads' (Kd.R_mono (ok':=(fun k_=>some k_≠(.slice bZ aU.length b6:Value).ownBlock∧k_≠aE)) (Kd.R_types (Kd.R_apart' (cH.out) (Kd.N_typed aD.out) (by decide)) aA.out (by decide)) (fun k_ hk=>⟨hk.1.2,hk.2⟩))).2.1 (Kd.R_F (Kd.R_mono (ok':=(fun k_=>some k_≠(.slice bZ aU.length b6:Value).ownBlock∧k_≠aE)) (Kd.R_types (Kd.R_apart' (cH.out) (Kd.N_typed aD.out) (by decide)) aA.out (by decide)) (fun k_ hk=>⟨hk.1.2,hk.2⟩))))) (Reps.none _ _))))))
     intro bE lU cI hb hg_ hnew_
     clear hg_ hnew_
     (first | rw [← gO.out] at cI | (simp only [Int.reduceToNat] at cI;rw [← gO.out] at cI))
     have bK:=am (Kd.N_lower cI (below_size (bL HB)))
     replace aD:=am (Kd.N_elder' (nL aD) (Kd.N_base cI) hb)
     replace aA:=bkb aA hb
     replace HB:=bst HB hb
     clear cF a6 cG cH hb cI
     refine hK.out _ _ ⟨.slice g3 cS.length g4,.slice g6 cZ.length g7,.slice e5 dA.length e6,.slice e7 dB.length e8,bE,a8,m13_,(by rw [ha.out];exact putSel_upk 8 hb_ rfl rfl rfl),(N_later (Kd.N_mono aD.out (fun _ hk=>by first | exact hk | exact hk.1 | exact hk.1.1))),(blk_later aA.out),(bL HB),fun _ b9=>absurd ((up_self b 11).symm.trans b9) (by decide),fun _ b9=>absurd ((up_self b 11).symm.trans b9) (by decide),fun _ b9=>absurd ((up_self b 11).symm.trans b9) (by decide),fun _ b9=>absurd ((up_self b 11).symm.trans b9) (by decide),fun _=>(nL bK),z1 (hoff 12 (by kernel_rfl)),z1 (hoff 13 (by kernel_rfl))⟩
   refine steps_cons ?_ ?_
   · rintro b a w' ⟨a9,bB,bC,bD,bE,a8,m13_,ha,aM,aJ,Q_HB,aN,aT,aX,aY,aV,aZ,bG⟩ hb_ hon hoff
     refine⟨_,rfl,fun K hK=>?_⟩
     have kW:a.tmps[69]?=some (bE):=by rw [ha];exact putSel_on (e:=(11,69,bE)) 8 rfl rfl (hon 11 (by kernel_rfl)) rfl
     replace ha:=am ha
     have aD:=am aM
     have aA:=am aJ
     have HB:=am Q_HB
     have bK:=am (aV (hon 11 (by kernel_rfl)))
     obtain⟨gR,gS,gT⟩:=Kd.N_slice bK.out
     (first | subst gT | (injection gT with f1_ f2_ f3_;have f4_:=f1_.symm;have f5_:=f3_.symm;clear f1_ f2_ f3_;subst f4_;subst f5_))
     refine goes_ Try.func31 (by kernel_rfl) rfl #[.int .i64 0,.slice gR gZ.length gS] (by rfl) rfl rfl (by first | (simp only [List.map_toArray,List.map_cons,List.map_nil,Act.eval,Array.getD_eq_getD_getElem?,Option.getD_some,kW];done) | (simp only [List.map_toArray,List.map_cons,List.map_nil,Act.eval,Array.getD_eq_getD_getElem?,Option.getD_some,kW];rfl)) ?_
     with_reducible refine (impl_structNode.calls ?side1 ?side2 lO.out).mono ?_
     (case side1=>repeat (first | exact (Kd.N_reads' bK.out).2.2 | (with_reducible refine Kd.C_alloc ?_ _) | (with_reducible refine Kd.C_drewN ?_ _) | (with_reducible refine Kd.C_drew ?_)))
     (case side2=>exact (Kd.N_reads' bK.out).2.1)
     rintro e jP ⟨a8,rfl,b8,hb⟩
     refine⟨_,rfl,?_⟩
     have bM:=rlb b8 HB
     replace aD:=am (Kd.N_elder' (nL aD) (Kd.R_base b8) hb)
     replace bK:=am (Kd.N_elder' (nL bK) (Kd.R_base b8) hb)
     replace aA:=bkb aA hb
     replace HB:=bst HB hb
     (try clear hb)
     (try clear fV)
     (try clear hk)
     (try clear hi)
     (try clear b8)
     refine hK.out _ _ ⟨a9,bB,bC,bD,.slice gR gZ.length gS,a8,m13_,(by rw [ha.out];exact putSel_upk 9 hb_ rfl rfl rfl),(N_later (Kd.N_mono aD.out (fun _ hk=>by first | exact hk | exact hk.1 | exact hk.1.1))),(blk_later aA.out),(bL HB),fun _ b9=>absurd ((hon 11 (by kernel_rfl)).symm.trans b9) (by decide),fun _ b9=>absurd ((hon 11 (by kernel_rfl)).symm.trans b9) (by decide),fun _ b9=>absurd ((hon 11 (by kernel_rfl)).symm.trans b9) (by decide),fun _ b9=>absurd ((hon 11 (by kernel_rfl)).symm.trans b9) (by decide),fun _=>(N_later (Kd.N_mono bK.out (fun _ hk=>by first | exact hk | exact hk.1 | exact hk.1.1))),fun _=>(rL bM),z1 (hoff 13 (by kernel_rfl))⟩
   refine steps_cons ?_ ?_
   · rintro b a w' ⟨a9,bB,bC,bD,bE,a8,m13_,ha,aM,aJ,Q_HB,aN,aT,aX,aY,aV,aZ,bG⟩ hb_ hon hoff
     refine⟨_,rfl,fun K hK=>?_⟩
     have mN:a.tmps[70]?=some (a8):=by rw [ha];exact putSel_on (e:=(12,70,a8)) 9 rfl rfl (hon 12 (by kernel_rfl)) rfl
     replace ha:=am ha
     have aD:=am aM
     have aA:=am aJ
     have HB:=am Q_HB
     have bK:=am (aV (hon 11 (by kernel_rfl)))
     have bM:=am (aZ (hon 12 (by kernel_rfl)))
     refine value_ (w1:=w') (v:=a8) (by rfl) rfl ?_ ?_
     · go_simp
       (try simp only [i64_w])
       try rfl
     refine hK.out _ _ ⟨a9,bB,bC,bD,bE,a8,(a8),(by rw [ha.out];exact putSel_upk 10 hb_ rfl rfl rfl),aM,aJ,Q_HB,fun _ b9=>absurd ((hon 11 (by kernel_rfl)).symm.trans b9) (by decide),fun _ b9=>absurd ((hon 11 (by kernel_rfl)).symm.trans b9) (by decide),fun _ b9=>absurd ((hon 11 (by kernel_rfl)).symm.trans b9) (by decide),fun _ b9=>absurd ((hon 11 (by kernel_rfl)).symm.trans b9) (by decide),aV,aZ,fun _=>rfl⟩
   exact steps_nil
 rintro b a jP hall ⟨a9,bB,bC,bD,bE,a8,m13_,ha,aM,aJ,Q_HB,aN,aT,aX,aY,aV,aZ,bG⟩
 clear aA HB aD
 have iZ:=hall 0 (by kernel_rfl)
 have i1:=hall 1 (by kernel_rfl)
 have i2:=hall 3 (by kernel_rfl)
 have i3:=hall 4 (by kernel_rfl)
 have i4:=hall 6 (by kernel_rfl)
 have i5:=hall 7 (by kernel_rfl)
 have i6:=hall 8 (by kernel_rfl)
 have gU:=hall 10 (by kernel_rfl)
 have e9:=hall 11 (by kernel_rfl)
 have fA:=hall 12 (by kernel_rfl)
 have fB:=hall 13 (by kernel_rfl)
 subst ha
 obtain rfl:=(bG fB).symm
 simp only [putSel,iZ,i1,i2,i3,i4,i5,i6,gU,e9,fA,fB,if_true,Act.put,List.setIfInBounds_toArray,List.set_cons_zero,List.set_cons_succ]
 have aD:=am aM
 clear aM
 have aA:=am aJ
 clear aJ
 have HB:=am Q_HB
 clear Q_HB aN aT aX aY
 have bK:=am (aV e9)
 clear aV
 have bM:=am (aZ fA)
 clear aZ hall iZ i1 i2 i3 i4 i5 i6 gU e9 fA fB
 have H:=HS.out
 clear HS
 replace H:=ibt H;obtain⟨rfl,H⟩ | ⟨rfl,H⟩:=H
 · replace H:=sj2 H;obtain⟨rfl,rfl⟩:=H
   obtain⟨lV,lW,jQ⟩:=Kd.R_slice bM.out
   subst jQ
   try go_wp2_with (first | ((with_reducible refine gc 36 rfl ?_);refine gc1 (some 72) Try.func36 rfl (impl_TreeOk.calls (C_later (Kd.R_reads' bM.out).2.2) ((Kd.R_reads' bM.out).2.1) kS.out) ?_;rintro mO hb;replace aD:=nbe aD hb;replace bK:=nbe bK hb;replace bM:=rbe bM hb;replace aA:=bkb aA hb;replace HB:=bst HB hb;clear hb))
   go_ret2
   exact⟨_,fin_ ⟨rL bM,bL HB⟩⟩
 replace H:=sj2 H;obtain⟨rfl,rfl⟩:=H
 obtain⟨kX,kY,i7⟩:=Kd.R_slice bM.out
 subst i7
 try go_wp2_with (first | ((with_reducible refine gc 36 rfl ?_);refine gc1 (some 72) Try.func36 rfl (impl_TreeOk.calls (C_later (Kd.R_reads' bM.out).2.2) ((Kd.R_reads' bM.out).2.1) kS.out) ?_;rintro lX hb;replace aD:=nbe aD hb;replace bK:=nbe bK hb;replace bM:=rbe bM hb;replace aA:=bkb aA hb;replace HB:=bst HB hb;clear hb))
 go_ret2
 exact⟨_,fin_ ⟨by first | exact Kd.R_nil _ _ _ _ _ | exact Kd.N_nil _ _ _ _ _ | exact Kd.V_nil _ _ _ _ _ | exact Kd.Q_nil _ _ _ _ _ | exact Kd.S_nil _ _ _ _ _,bL HB⟩⟩
end Go.Proofs.Ytjdapaocdkcgdaa.PFnExactMetaPack
