/- The machine's side of FnExactMetaPack: each Go function, and what its call comes to. No condition. -/
import Derived.Test.YtjdapaocdkcgdaaPFnExactMetaPackx0
import Derived.Test.YtjdapaocdkcgdaaPFnExactMetaPackx4
import Derived.Test.YtjdapaocdkcgdaaPFnExactMetaPackx5
import Derived.Test.YtjdapaocdkcgdaaPFnExactMetaPackx6
namespace Go.Proofs.Ytjdapaocdkcgdaa.PFnExactMetaPack
open Go.RowKit Go.Proofs.YtjdapaocdkcgdaaW.PrintWords Go.Proofs.YtjdapaocdkcgdaaW.PrintLast Go.Proofs.YtjdapaocdkcgdaaW.PrintMore Go.Proofs.YtjdapaocdkcgdaaW.PrintMore2
attribute [local go_sem] max2_int min2_int max_two min_two max_three min_three max_four min_four
set_option linter.unusedVariables false
set_option linter.unusedSimpArgs false
set_option maxHeartbeats 8000000
set_option maxRecDepth 100000

/-! ### spec_l18Nodes: function 25 -/
mutual
def spec_l18Nodes.l0:Nat→List ByteArray→List (S49)→Int→Int→Int→Int→Int→Int→List Int→Option ((List (S49)))
  | 0,_,_,_,_,_,_,_,_,_=>none
  | k + 1,x5,x6,x7,aD,aE,aG,aH,aI,aA=>if x7 < (aA.length:Int) then (if 0≤x7 then ((spec_l16Int.f 0 (rd aA x7)).bind fun aC=>(if x6.length < 2932031007402 then (spec_l18Nodes.l0 k x5 (x6 ++ [(⟨aC.1,aC.2.1,aC.2.2.1,aC.2.2.2.1,aC.2.2.2.2⟩:S49)]) (wrap64 (x7 + 1)) aD aE aG aH aI aA) else (none))) else (none)) else (if x6.length < 2932031007402 then (spec_l18Nodes.l1 k x5 (x6 ++ [(⟨9,3,8,(⟨#[]⟩:ByteArray),(x5.length:Int)⟩:S49)]) 0 aD aE aG aH aI aA) else (none))
def spec_l18Nodes.l1:Nat→List ByteArray→List (S49)→Int→Int→Int→Int→Int→Int→List Int→Option ((List (S49)))
  | 0,_,_,_,_,_,_,_,_,_=>none
  | k + 1,x5,x6,x8,aQ,aM,aA,aN,aC,aT=>if x8 < (x5.length:Int) then (if 0≤x8 then (if x6.length < 2932031007402 then (spec_l18Nodes.l1 k x5 (x6 ++ [(⟨8,0,0,rdOf ByteArray.empty x5 x8,0⟩:S49)]) (wrap64 (x8 + 1)) aQ aM aA aN aC aT) else (none)) else (none)) else ((spec_l16Int.f 4 0).bind fun aD=>((spec_l18Long.f 5 aN).bind fun aE=>((spec_l18Long.f 6 aC).bind fun aG=>((spec_l18Long.f 7 aC).bind fun aH=>((spec_l18Long.f 9 aM).bind fun aI=>((some (([(⟨aD.1,aD.2.1,aD.2.2.1,aD.2.2.2.1,aD.2.2.2.2⟩:S49),(⟨aE.1,aE.2.1,aE.2.2.1,aE.2.2.2.1,aE.2.2.2.2⟩:S49),(⟨aG.1,aG.2.1,aG.2.2.1,aG.2.2.2.1,aG.2.2.2.2⟩:S49),(⟨aH.1,aH.2.1,aH.2.2.1,aH.2.2.2.1,aH.2.2.2.2⟩:S49),(⟨aI.1,aI.2.1,aI.2.2.1,aI.2.2.2.1,aI.2.2.2.2⟩:S49)]:List (S49)):List (S49))).bind fun aU=>(if x6.length + aU.length < 2932031007402 then ((some (x6 ++ aU:List (S49))).bind fun aK=>(if aA ≥ 0 then (if 2 < (aK.length:Int) then ((some (aK.set (2:Int).toNat (⟨(rd_T49 aK 2).f0,(rd_T49 aK 2).f1,(rd_T49 aK 2).f2,(rd_T49 aK 2).f3,9⟩:S49):List (S49))).bind fun aV=>((spec_l18Long.f 11 aA).bind fun aJ=>(if aV.length < 2932031007402 then (some (aV ++ [(⟨aJ.1,aJ.2.1,aJ.2.2.1,aJ.2.2.2.1,aJ.2.2.2.2⟩:S49)])) else (none)))) else (none)) else (some aK))) else (none))))))))
end
def spec_l18Nodes.f (k:Nat)(l0:List (S84))(aD:Int)(aG:Int)(aK:Int)(aM:Int)(aN:Int)(aH:List Int):Option ((List (S49))):=(spec_LeafPath.f k l0 aD).bind fun aQ=>((spec_l18Long.f 2 aG).bind fun aA=>((some (([(⟨12,0,0,(⟨#[]⟩:ByteArray),2⟩:S49),(⟨aA.1,aA.2.1,aA.2.2.1,aA.2.2.2.1,aA.2.2.2.2⟩:S49),(⟨12,3,0,(⟨#[]⟩:ByteArray),8⟩:S49)]:List (S49)):List (S49))).bind fun aI=>((spec_l5Leaves.f k l0).bind fun aE=>(if 0≤aD then (if aD < (aE.length:Int) then (if 0≤(rd aE aD) then (if (rd aE aD) < (l0.length:Int) then ((spec_l16Int.f 1 ((rd_T84 l0 (rd aE aD)).f1)).bind fun aC=>((some (([(⟨aC.1,aC.2.1,aC.2.2.1,aC.2.2.2.1,aC.2.2.2.2⟩:S49),(⟨9,2,5,(⟨#[]⟩:ByteArray),(aH.length:Int)⟩:S49)]:List (S49)):List (S49))).bind fun aJ=>(if aI.length + aJ.length < 2932031007402 then (spec_l18Nodes.l0 k aQ (aI ++ aJ) 0 aD aG aK aM aN aH) else (none)))) else (none)) else (none)) else (none)) else (none)))))
def spec_l18Nodes.T3:Bool × List (List Nat × List Nat):=(true,[([],[]),([],[]),([],[]),([2],[2]),([],[]),([4],[4]),([3,5],[3,5]),([6],[6]),([1,7],[1,7]),([8],[8]),([9],[9]),([10,3],[10]),([],[]),([12],[12]),([13],[13]),([14],[14]),([11,15],[11,15]),([0,16,11],[0,16]),([17,17,0,1,2,3,4,5,6,7,8,9,10,11,12,13,14,15,16,17],[0,17])])
def spec_l18Nodes.B3:List Nat:=[0,0,0,4,0,16,60,124,254,510,1022,2046,0,4096,12288,28672,65534,131071,262143]
theorem spec_l18Nodes.tab3:rtab .any (opsOf Try.f25 3)=spec_l18Nodes.T3:=by kernel_rfl
theorem spec_l18Nodes.bits3:waitsOk spec_l18Nodes.T3.2 spec_l18Nodes.B3=true:=by kernel_rfl
def spec_l18Nodes.T13:Bool × List (List Nat × List Nat):=(true,[([],[]),([],[]),([],[]),([2],[2]),([3,1],[3]),([],[]),([5],[5]),([6,4],[6]),([],[]),([8],[8]),([9,7],[9]),([],[]),([11],[11]),([12,10],[12]),([1,4,7,10,13],[1,4,7,10,13]),([0,14,13],[0,14]),([15,15,0,1,2,3,4,5,6,7,8,9,10,11,12,13,14,15],[0,15])])
def spec_l18Nodes.B13:List Nat:=[0,0,0,4,14,0,32,126,0,256,1022,0,2048,8190,16382,32767,65535]
theorem spec_l18Nodes.tab13:rtab .any (opsOf Try.f25 13)=spec_l18Nodes.T13:=by kernel_rfl
theorem spec_l18Nodes.bits13:waitsOk spec_l18Nodes.T13.2 spec_l18Nodes.B13=true:=by kernel_rfl
def rowAt:Value→Addr
  | .slice (some a) _ _=>a
  | _=>⟨0,0,none⟩
theorem spec_l18Nodes.calls {k : Nat} {A0 : Option Addr} {c0 : Nat} {l0 : List (S84)} {aI bJ bP bK bH : Int} {bM : Option Addr} {bN : Nat} {a8 : List Int} {r : List (S49)} {w : World} (hr0 : Kd.C k84 w A0 l0.length l0) (jP : l0.length ≤ c0) (hr1_5 : Kd.C (Kd.int .i64) w bM a8.length a8) (fZ : a8.length ≤ bN) (h : spec_l18Nodes.f k l0 aI bJ bP bK bH a8 = some r) :
    Calls Try.prog 25 #[.slice A0 l0.length c0,.agg #[.int .i64 aI,.int .i64 bJ,.int .i64 bP,.int .i64 bK,.int .i64 bH,.slice bM a8.length bN]] w fun e w'=>∃ jQ:Value,e=.returned (jQ)∧Kd.R k49 49 w' w.heap.size (fun _=>True) jQ r∧Below w.heap.size w w':=by
 have hu58:=Try.underlying58
 have hu49:=Try.underlying49
 have iV:=am hr0
 have jR:=am jP
 clear hr0 jP
 have gW:=am hr1_5
 have jS:=am fZ
 clear hr1_5 fZ
 have HB:=am (Below.refl w.heap.size w)
 have H:=h;clear h;unfold spec_l18Nodes.f at H
 replace H:=bnd H;obtain⟨bI,A3,H⟩:=H
 replace H:=bnd5 H;obtain⟨eI,eJ,eK,eL,eM,A4,H⟩:=H;dsimp only at H
 replace H:=bsm H;obtain⟨cX,f7,H⟩:=H
 replace H:=bnd H;obtain⟨aQ,A5,H⟩:=H
 replace H:=if_dddd H;obtain⟨gX,gY,gZ,g2,H⟩:=H
 replace H:=bnd5 H;obtain⟨cR,cS,cT,cU,cV,kN,H⟩:=H;dsimp only at H
 replace H:=bsm H;obtain⟨eN,f9,H⟩:=H
 replace H:=ifs H;obtain⟨iS,H⟩:=H
 have g3:=am iS
 clear iS
 generalize gA:((cX ++ eN):List (S49))=g4 at H;have g6:=am gA.symm;clear gA
 have H':=am H;clear H
 go_enter Try.func25,Try.ntmps25
 try go_wp2_with (first | ((with_reducible refine gd 3 rfl ?_);refine bxw 3 rfl #[.int .i64 aI,.int .i64 bJ,.int .i64 bP,.int .i64 bK,.int .i64 bH,.slice bM a8.length bN] 58 HB ?_;clear HB;intro aU k8 aA jT jU HB;obtain⟨dE,dF,dG,dH,dI,dJ,dK,dL,dM,dN,dO,dP⟩:=cl6 aA) | ((with_reducible refine gc 51 rfl ?_);refine gl_ (some 12) Try.func51 #[.slice A0 l0.length c0,.int .i64 aI] rfl ?_;(with_reducible refine (spec_LeafPath.calls ?side1 ?side2 A3.out).mono ?_);(case side1=>exact cL iV HB);(case side2=>exact jR.out);rintro e k9 ⟨g7,rfl,g8,hb⟩;refine⟨_,rfl,?_⟩;have aJ:=rlb g8 HB;replace aA:=bkb aA hb;replace HB:=bst HB hb;clear hb g8;obtain⟨dQ,dR,dS,dT,dU,dV,dW,dX,dY,dZ,d2,d3⟩:=cl6 aA) | ((with_reducible refine gc 24 rfl ?_);refine gc1 (some 16) Try.func24 rfl (spec_l18Long.calls A4.out) ?_;rintro lA hb;replace aJ:=rbe aJ hb;replace aA:=bkb aA hb;replace HB:=bst HB hb;clear hb) | ((with_reducible refine gd 18 rfl ?_);refine Kd.R_lit k49 _ 49 ?hg (N:=18) ?hd (xs:=([(⟨12,0,0,(⟨#[]⟩:ByteArray),2⟩:S49),(⟨eI,eJ,eK,eL,eM⟩:S49),(⟨12,3,0,(⟨#[]⟩:ByteArray),8⟩:S49)]:List (S49))) (inner:=[.int .i64 12,.int .i64 0,.int .i64 0,.string ⟨#[]⟩,.int .i64 2,.int .i64 eI,.int .i64 eJ,.int .i64 eK,.string eL,.int .i64 eM,.int .i64 12,.int .i64 3,.int .i64 0,.string ⟨#[]⟩,.int .i64 8]) (ok:=fun _=>True) (okp:=fun _=>True) ?hr ?hp (fun _ hk=>hk) trivial (Below.refl _ _) (Nat.le_refl _) (by simp) ?_;(case hd=>rfl);(case hg=>rfl);(case hr=>first | (go_simp;done) | (go_simp;rfl));(case hp=>exact (Reps.c5 (show Kd.M k49 _ _ _ (⟨12,0,0,(⟨#[]⟩:ByteArray),2⟩:S49) [.int .i64 12,.int .i64 0,.int .i64 0,.string ⟨#[]⟩,.int .i64 2] from (k49_mkM _ _ _ (⟨12,0,0,(⟨#[]⟩:ByteArray),2⟩:S49) )) (Reps.c5 (show Kd.M k49 _ _ _ (⟨eI,eJ,eK,eL,eM⟩:S49) [.int .i64 eI,.int .i64 eJ,.int .i64 eK,.string eL,.int .i64 eM] from (k49_mkM _ _ _ (⟨eI,eJ,eK,eL,eM⟩:S49) )) (Reps.c5 (show Kd.M k49 _ _ _ (⟨12,3,0,(⟨#[]⟩:ByteArray),8⟩:S49) [.int .i64 12,.int .i64 3,.int .i64 0,.string ⟨#[]⟩,.int .i64 8] from (k49_mkM _ _ _ (⟨12,3,0,(⟨#[]⟩:ByteArray),8⟩:S49) )) (Reps.none _ _)))));intro kO kP eO hb hg_ hnew_;clear hg_ hnew_;(first | rw [← f7.out] at eO | (simp only [Int.reduceToNat] at eO;rw [← f7.out] at eO));have aN:=rlb eO HB;replace aJ:=rbe aJ hb;replace aA:=bkb aA hb;replace HB:=bst HB hb;clear hb eO;obtain⟨e9,fA,iW⟩:=Kd.R_slice aN.out;subst iW))
 replace aJ:=rdr aJ
 replace aN:=rdr aN
 replace aA:=bdr aA
 replace HB:=bld HB
 have eP:0≤((rd aQ aI):Int):=dcd
 have eQ:(rd aQ aI) < (l0.length:Int):=dcd
 obtain⟨aV,iX,bD,bE,bF,bG⟩:=at_T84 iV.out (rd aQ aI) eP eQ
 have d4:=bG
 have d5:=bF
 have d6:=bE
 have d7:=bD
 cases iX
 replace bD:=crd HB bD
 replace bE:=crd HB bE
 replace bF:=crd HB bF
 replace bG:=crd HB bG
 replace eP:=eq_true eP
 replace eQ:=eq_true eQ
 have bQ:0≤(aI:Int):=dcd
 have bR:aI < (aQ.length:Int):=dcd
 replace bQ:=eq_true bQ
 replace bR:=eq_true bR
 refine start_ (n:=19) (S:=fun w'=>True) (ds:=[]) #[false,false,false,false,false,false,false,false,false,false,false,false,false,false,false,false,false,false,false] (by kernel_rfl) rfl rfl trivial (fun hHeld=>?_);refine with_tabW spec_l18Nodes.tab3 spec_l18Nodes.bits3 (fun HT_ HW_=>?_)
 generalize kP.drew=lB at aJ aN aA HB bD bE bF bG hHeld ⊢
 refine pu_ 0 19 ?_;refine pu_ 1 20 ?_;refine pu_ 2 21 ?_;refine pu_ 4 23 ?_;refine pu_ 12 31 ?_
 refine inv_at [3,5,6,7,8,9,10,11,13,14,15,16,17,18] (fun kQ b a w'=>∃ (aY:Value) (a7:Value) (a6:Value) (m18_:Value) (m6_:Value),a=putSel kQ b [(3,22,aY),(5,24,.int .i64 aI),(6,25,m6_),(7,26,.int .i64 (rd aQ aI)),(8,27,.pointer (some (aV.add (((rd aQ aI)).toNat * 4)))),(9,28,.pointer (some ⟨(aV.add (((rd aQ aI)).toNat * 4)).block,(aV.add (((rd aQ aI)).toNat * 4)).off + 1,none⟩)),(10,29,.int .i64 ((rd_T84 l0 (rd aQ aI)).f1)),(11,30,.agg #[.int .i64 cR,.int .i64 cS,.int .i64 cT,.string cU,.int .i64 cV]),(13,32,.slice bM a8.length bN),(14,33,.int .i64 (a8.length:Int)),(15,34,.agg #[.int .i64 9,.int .i64 2,.int .i64 5,.string ⟨#[]⟩,.int .i64 (a8.length:Int)]),(16,35,a7),(17,36,a6),(18,6,m18_)]∧(Kd.R Kd.string 9 w' w.heap.size (fun _=>True) g7 bI)∧(b 17=false→Kd.R k49 49 w' w.heap.size (fun _=>True) (.slice e9 cX.length fA) cX)∧(w'.heap[aU]?=some (.cells #[.int .i64 aI,.int .i64 bJ,.int .i64 bP,.int .i64 bK,.int .i64 bH,.slice bM a8.length bN] 58 (0,0)))∧(Below w.heap.size w w')∧(b 3=true→Kd.R (Kd.int .i64) 3 w' w.heap.size (fun _=>True) aY aQ)∧(b 16=true→b 17=false→Kd.R k49 49 w' w.heap.size (fun k_=>some k_≠(.slice e9 cX.length fA:Value).ownBlock) a7 eN)∧(b 17=true→Kd.R k49 49 w' w.heap.size (fun _=>True) a7 eN)∧(b 17=true→Kd.R k49 49 w' w.heap.size (fun _=>True) a6 g4)∧(b 18=true→(m18_:Value)=a6)∧(b 6=true→(m6_:Value)=.pointer (some ((rowAt aY).add (aI).toNat)))) HT_.out HW_.out (by kernel_rfl) (by kernel_rfl) ?_ ?_ ?_
 · exact⟨.bool false,.bool false,.bool false,.bool false,.bool false,by simp only [putSel,Bool.false_eq_true,if_false],aJ.out,fun _=>aN.out,aA.out,HB.out,fun h_=>absurd h_ (by decide),fun h_=>absurd h_ (by decide),fun h_=>absurd h_ (by decide),fun h_=>absurd h_ (by decide),fun h_=>absurd h_ (by decide),fun h_=>absurd h_ (by decide)⟩
 · skip
   clear aA HB aJ aN
   refine steps_cons ?_ ?_
   · rintro b a w' ⟨aY,a7,a6,m18_,m6_,ha,aC,aE,aD,Q_HB,aG,aX,aH,aT,a9,aW⟩ hb_ hon hoff
     refine⟨_,rfl,fun K hK=>?_⟩
     have jV:a.tmps[21]?=some (.slice (some aV) l0.length c0):=by rw [ha];exact (putSel_off rfl).trans rfl
     replace ha:=am ha
     have aJ:=am aC
     have aN:=am (aE (hoff 17 (by kernel_rfl)))
     have aA:=am aD
     have HB:=am Q_HB
     refine goes_ Try.func52 (by kernel_rfl) rfl #[.slice (some aV) l0.length c0] (by rfl) rfl rfl (by first | (simp only [List.map_toArray,List.map_cons,List.map_nil,Act.eval,Array.getD_eq_getD_getElem?,Option.getD_some,jV];done) | (simp only [List.map_toArray,List.map_cons,List.map_nil,Act.eval,Array.getD_eq_getD_getElem?,Option.getD_some,jV];rfl)) ?_
     with_reducible refine (spec_l5Leaves.calls ?side1 ?side2 A5.out).mono ?_
     (case side1=>exact cL iV HB)
     (case side2=>exact jR.out)
     rintro e lC ⟨aY,rfl,g8,hb⟩
     refine⟨_,rfl,?_⟩
     have aZ:=rlb g8 HB
     replace aJ:=rbe aJ hb
     replace aN:=rbe aN hb
     replace aA:=bkb aA hb
     replace HB:=bst HB hb
     (try clear hb)
     (try clear eR)
     (try clear hk)
     (try clear hi)
     (try clear g8)
     refine hK.out _ _ ⟨aY,a7,a6,m18_,m6_,(by rw [ha.out];exact putSel_upk 0 hb_ rfl rfl rfl),(rL aJ),fun _=>(rL aN),(blk_later aA.out),(bL HB),fun _=>(rL aZ),z2 (hoff 16 (by kernel_rfl)),z1 (hoff 17 (by kernel_rfl)),z1 (hoff 17 (by kernel_rfl)),z1 (hoff 18 (by kernel_rfl)),z1 (hoff 6 (by kernel_rfl))⟩
   refine steps_cons ?_ ?_
   · rintro b a w' ⟨aY,a7,a6,m18_,m6_,ha,aC,aE,aD,Q_HB,aG,aX,aH,aT,a9,aW⟩ hb_ hon hoff
     refine⟨_,rfl,fun K hK=>?_⟩
     have lD:a.tmps[23]?=some (.pointer (some ⟨aU,0,none⟩)):=by rw [ha];exact (putSel_off rfl).trans rfl
     replace ha:=am ha
     have aJ:=am aC
     have aN:=am (aE (hoff 17 (by kernel_rfl)))
     have aA:=am aD
     have HB:=am Q_HB
     have iY:w'.cell? ⟨aU,0,none⟩=some (.int .i64 aI):=bcl aA 0
     have iZ:w'.cell? ⟨aU,1,none⟩=some (.int .i64 bJ):=bcl aA 1
     have i1:w'.cell? ⟨aU,2,none⟩=some (.int .i64 bP):=bcl aA 2
     have i2:w'.cell? ⟨aU,3,none⟩=some (.int .i64 bK):=bcl aA 3
     have i3:w'.cell? ⟨aU,4,none⟩=some (.int .i64 bH):=bcl aA 4
     have i4:w'.cell? ⟨aU,5,none⟩=some (.slice bM a8.length bN):=bcl aA 5
     refine value_ (w1:=w') (v:=.int .i64 aI) (by rfl) rfl ?_ ?_
     · go_simp
       (try simp only [i64_w])
       try rfl
     refine hK.out _ _ ⟨aY,a7,a6,m18_,m6_,(by rw [ha.out];exact putSel_upk 1 hb_ rfl rfl rfl),aC,aE,aD,Q_HB,aG,z2 (hoff 16 (by kernel_rfl)),z1 (hoff 17 (by kernel_rfl)),z1 (hoff 17 (by kernel_rfl)),z1 (hoff 18 (by kernel_rfl)),aW⟩
   refine steps_cons ?_ ?_
   · rintro b a w' ⟨aY,a7,a6,m18_,m6_,ha,aC,aE,aD,Q_HB,aG,aX,aH,aT,a9,aW⟩ hb_ hon hoff
     refine⟨_,rfl,fun K hK=>?_⟩
     have kR:a.tmps[22]?=some (aY):=by rw [ha];exact putSel_on (e:=(3,22,aY)) 0 rfl rfl (hon 3 (by kernel_rfl)) rfl
     have lE:a.tmps[24]?=some (.int .i64 aI):=by rw [ha];exact putSel_on (e:=(5,24,.int .i64 aI)) 1 rfl rfl (hon 5 (by kernel_rfl)) rfl
     replace ha:=am ha
     have aJ:=am aC
     have aN:=am (aE (hoff 17 (by kernel_rfl)))
     have aA:=am aD
     have HB:=am Q_HB
     have aZ:=am (aG (hon 3 (by kernel_rfl)))
     obtain⟨cW,c_,hv_⟩:=Kd.R_slice1 aZ.out (by have g9:=of_eq_true bQ;have kS:=of_eq_true bR;omega)
     have hr_:rowAt aY=cW:=by rw [hv_];rfl
     rw [hv_] at kR
     refine value_ (w1:=w') (v:=.pointer (some ((rowAt aY).add (aI).toNat))) (by rfl) rfl ?_ ?_
     · rw [hr_];go_simp
       (try simp only [i64_w])
       try rfl
     refine hK.out _ _ ⟨aY,a7,a6,m18_,.pointer (some ((rowAt aY).add (aI).toNat)),(by rw [ha.out];exact putSel_upk 2 hb_ rfl rfl rfl),aC,aE,aD,Q_HB,aG,z2 (hoff 16 (by kernel_rfl)),z1 (hoff 17 (by kernel_rfl)),z1 (hoff 17 (by kernel_rfl)),z1 (hoff 18 (by kernel_rfl)),fun _=>rfl⟩
   refine steps_cons ?_ ?_
   · rintro b a w' ⟨aY,a7,a6,m18_,m6_,ha,aC,aE,aD,Q_HB,aG,aX,aH,aT,a9,aW⟩ hb_ hon hoff
     refine⟨_,rfl,fun K hK=>?_⟩
     have jW:a.tmps[25]?=some m6_:=by rw [ha];exact putSel_on (e:=(6,25,m6_)) 2 rfl rfl (hon 6 (by kernel_rfl)) rfl
     rw [aW (hon 6 (by kernel_rfl))] at jW
     replace ha:=am ha
     have aJ:=am aC
     have aN:=am (aE (hoff 17 (by kernel_rfl)))
     have aA:=am aD
     have HB:=am Q_HB
     have aZ:=am (aG (hon 3 (by kernel_rfl)))
     obtain⟨cW,c_,hv_⟩:=Kd.R_slice1 aZ.out (by have g9:=of_eq_true bQ;have kS:=of_eq_true bR;omega)
     have hr_:rowAt aY=cW:=by rw [hv_];rfl
     rw [hr_] at jW
     have hn_:=aZ.out
     rw [hv_] at hn_
     obtain⟨ad331_z,e331_z,hx331_0_z⟩:=Kd.at_int (Kd.R_reads' hn_).2.2 aI (of_eq_true bQ) (of_eq_true bR)
     cases e331_z
     have hs0_:w'.cell? (cW.add (aI).toNat)=some (.int .i64 (rd aQ aI)):=(by first | exact hx331_0_z | (have h_:=hx331_0_z;(try simp only [Int.reduceToNat,Nat.zero_mul,Nat.reduceMul,Nat.reduceEqDiff,Go.Addr.add,↓reduceIte,Addr.add_zero'] at h_);exact h_))
     refine value_ (w1:=w') (v:=.int .i64 (rd aQ aI)) (by rfl) rfl ?_ ?_
     · go_simp
       (try simp only [i64_w])
       try rfl
     refine hK.out _ _ ⟨aY,a7,a6,m18_,m6_,(by rw [ha.out];exact putSel_upk 3 hb_ rfl rfl rfl),aC,aE,aD,Q_HB,aG,z2 (hoff 16 (by kernel_rfl)),z1 (hoff 17 (by kernel_rfl)),z1 (hoff 17 (by kernel_rfl)),z1 (hoff 18 (by kernel_rfl)),aW⟩
   refine steps_cons ?_ ?_
   · rintro b a w' ⟨aY,a7,a6,m18_,m6_,ha,aC,aE,aD,Q_HB,aG,aX,aH,aT,a9,aW⟩ hb_ hon hoff
     refine⟨_,rfl,fun K hK=>?_⟩
     have lF:a.tmps[20]?=some (.slice (some aV) l0.length c0):=by rw [ha];exact (putSel_off rfl).trans rfl
     have lG:a.tmps[26]?=some (.int .i64 (rd aQ aI)):=by rw [ha];exact putSel_on (e:=(7,26,.int .i64 (rd aQ aI))) 3 rfl rfl (hon 7 (by kernel_rfl)) rfl
     replace ha:=am ha
     have aJ:=am aC
     have aN:=am (aE (hoff 17 (by kernel_rfl)))
     have aA:=am aD
     have HB:=am Q_HB
     have aZ:=am (aG (hon 3 (by kernel_rfl)))
     have hs1_:w'.cell? (aV.add (((rd aQ aI)).toNat * 4))=some (.string ((rd_T84 l0 (rd aQ aI)).f0)):=crd HB d7
     have hs2_:w'.cell? ⟨(aV.add (((rd aQ aI)).toNat * 4)).block,(aV.add (((rd aQ aI)).toNat * 4)).off + 1,none⟩=some (.int .i64 ((rd_T84 l0 (rd aQ aI)).f1)):=crd HB d6
     have hs3_:w'.cell? ⟨(aV.add (((rd aQ aI)).toNat * 4)).block,(aV.add (((rd aQ aI)).toNat * 4)).off + 2,none⟩=some (.int .i64 ((rd_T84 l0 (rd aQ aI)).f2)):=crd HB d5
     have hs4_:w'.cell? ⟨(aV.add (((rd aQ aI)).toNat * 4)).block,(aV.add (((rd aQ aI)).toNat * 4)).off + 3,none⟩=some (.int .i64 ((rd_T84 l0 (rd aQ aI)).f3)):=crd HB d4
     refine value_ (w1:=w') (v:=.pointer (some (aV.add (((rd aQ aI)).toNat * 4)))) (by rfl) rfl ?_ ?_
     · go_simp
       (try simp only [i64_w])
       try rfl
     refine hK.out _ _ ⟨aY,a7,a6,m18_,m6_,(by rw [ha.out];exact putSel_upk 4 hb_ rfl rfl rfl),aC,aE,aD,Q_HB,aG,z2 (hoff 16 (by kernel_rfl)),z1 (hoff 17 (by kernel_rfl)),z1 (hoff 17 (by kernel_rfl)),z1 (hoff 18 (by kernel_rfl)),aW⟩
   refine steps_cons ?_ ?_
   · rintro b a w' ⟨aY,a7,a6,m18_,m6_,ha,aC,aE,aD,Q_HB,aG,aX,aH,aT,a9,aW⟩ hb_ hon hoff
     refine⟨_,rfl,fun K hK=>?_⟩
     have lH:a.tmps[27]?=some (.pointer (some (aV.add (((rd aQ aI)).toNat * 4)))):=by rw [ha];exact putSel_on (e:=(8,27,.pointer (some (aV.add (((rd aQ aI)).toNat * 4))))) 4 rfl rfl (hon 8 (by kernel_rfl)) rfl
     replace ha:=am ha
     have aJ:=am aC
     have aN:=am (aE (hoff 17 (by kernel_rfl)))
     have aA:=am aD
     have HB:=am Q_HB
     have aZ:=am (aG (hon 3 (by kernel_rfl)))
     refine value_ (w1:=w') (v:=.pointer (some ⟨(aV.add (((rd aQ aI)).toNat * 4)).block,(aV.add (((rd aQ aI)).toNat * 4)).off + 1,none⟩)) (by rfl) rfl ?_ ?_
     · go_simp
       (try simp only [i64_w])
       try rfl
     refine hK.out _ _ ⟨aY,a7,a6,m18_,m6_,(by rw [ha.out];exact putSel_upk 5 hb_ rfl rfl rfl),aC,aE,aD,Q_HB,aG,z2 (hoff 16 (by kernel_rfl)),z1 (hoff 17 (by kernel_rfl)),z1 (hoff 17 (by kernel_rfl)),z1 (hoff 18 (by kernel_rfl)),aW⟩
   refine steps_cons ?_ ?_
   · rintro b a w' ⟨aY,a7,a6,m18_,m6_,ha,aC,aE,aD,Q_HB,aG,aX,aH,aT,a9,aW⟩ hb_ hon hoff
     refine⟨_,rfl,fun K hK=>?_⟩
     have lI:a.tmps[28]?=some (.pointer (some ⟨(aV.add (((rd aQ aI)).toNat * 4)).block,(aV.add (((rd aQ aI)).toNat * 4)).off + 1,none⟩)):=by rw [ha];exact putSel_on (e:=(9,28,.pointer (some ⟨(aV.add (((rd aQ aI)).toNat * 4)).block,(aV.add (((rd aQ aI)).toNat * 4)).off + 1,none⟩))) 5 rfl rfl (hon 9 (by kernel_rfl)) rfl
     replace ha:=am ha
     have aJ:=am aC
     have aN:=am (aE (hoff 17 (by kernel_rfl)))
     have aA:=am aD
     have HB:=am Q_HB
     have aZ:=am (aG (hon 3 (by kernel_rfl)))
     have hs1_:w'.cell? (aV.add (((rd aQ aI)).toNat * 4))=some (.string ((rd_T84 l0 (rd aQ aI)).f0)):=crd HB d7
     have hs2_:w'.cell? ⟨(aV.add (((rd aQ aI)).toNat * 4)).block,(aV.add (((rd aQ aI)).toNat * 4)).off + 1,none⟩=some (.int .i64 ((rd_T84 l0 (rd aQ aI)).f1)):=crd HB d6
     have hs3_:w'.cell? ⟨(aV.add (((rd aQ aI)).toNat * 4)).block,(aV.add (((rd aQ aI)).toNat * 4)).off + 2,none⟩=some (.int .i64 ((rd_T84 l0 (rd aQ aI)).f2)):=crd HB d5
     have hs4_:w'.cell? ⟨(aV.add (((rd aQ aI)).toNat * 4)).block,(aV.add (((rd aQ aI)).toNat * 4)).off + 3,none⟩=some (.int .i64 ((rd_T84 l0 (rd aQ aI)).f3)):=crd HB d4
     refine value_ (w1:=w') (v:=.int .i64 ((rd_T84 l0 (rd aQ aI)).f1)) (by rfl) rfl ?_ ?_
     · go_simp
       (try simp only [i64_w])
       try rfl
     refine hK.out _ _ ⟨aY,a7,a6,m18_,m6_,(by rw [ha.out];exact putSel_upk 6 hb_ rfl rfl rfl),aC,aE,aD,Q_HB,aG,z2 (hoff 16 (by kernel_rfl)),z1 (hoff 17 (by kernel_rfl)),z1 (hoff 17 (by kernel_rfl)),z1 (hoff 18 (by kernel_rfl)),aW⟩
   refine steps_cons ?_ ?_
   · rintro b a w' ⟨aY,a7,a6,m18_,m6_,ha,aC,aE,aD,Q_HB,aG,aX,aH,aT,a9,aW⟩ hb_ hon hoff
     refine⟨_,rfl,fun K hK=>?_⟩
     have jX:a.tmps[29]?=some (.int .i64 ((rd_T84 l0 (rd aQ aI)).f1)):=by rw [ha];exact putSel_on (e:=(10,29,.int .i64 ((rd_T84 l0 (rd aQ aI)).f1))) 6 rfl rfl (hon 10 (by kernel_rfl)) rfl
     replace ha:=am ha
     have aJ:=am aC
     have aN:=am (aE (hoff 17 (by kernel_rfl)))
     have aA:=am aD
     have HB:=am Q_HB
     have aZ:=am (aG (hon 3 (by kernel_rfl)))
     refine goes_ Try.func22 (by kernel_rfl) rfl #[.int .i64 1,.int .i64 ((rd_T84 l0 (rd aQ aI)).f1)] (by rfl) rfl rfl (by first | (simp only [List.map_toArray,List.map_cons,List.map_nil,Act.eval,Array.getD_eq_getD_getElem?,Option.getD_some,jX];done) | (simp only [List.map_toArray,List.map_cons,List.map_nil,Act.eval,Array.getD_eq_getD_getElem?,Option.getD_some,jX];rfl)) ?_
     with_reducible refine (spec_l16Int.calls kN.out).mono ?_
     rintro e lJ ⟨rfl,hb⟩
     refine⟨_,rfl,?_⟩
     replace aJ:=rbe aJ hb
     replace aN:=rbe aN hb
     replace aZ:=rbe aZ hb
     replace aA:=bkb aA hb
     replace HB:=bst HB hb
     (try clear hb)
     (try clear eR)
     (try clear hk)
     (try clear hi)
     refine hK.out _ _ ⟨aY,a7,a6,m18_,m6_,(by rw [ha.out];exact putSel_upk 7 hb_ rfl rfl rfl),(rL aJ),fun _=>(rL aN),(blk_later aA.out),(bL HB),fun _=>(rL aZ),z2 (hoff 16 (by kernel_rfl)),z1 (hoff 17 (by kernel_rfl)),z1 (hoff 17 (by kernel_rfl)),z1 (hoff 18 (by kernel_rfl)),aW⟩
   refine steps_cons ?_ ?_
   · rintro b a w' ⟨aY,a7,a6,m18_,m6_,ha,aC,aE,aD,Q_HB,aG,aX,aH,aT,a9,aW⟩ hb_ hon hoff
     refine⟨_,rfl,fun K hK=>?_⟩
     have lK:a.tmps[31]?=some (.pointer (some ⟨aU,5,none⟩)):=by rw [ha];exact (putSel_off rfl).trans rfl
     replace ha:=am ha
     have aJ:=am aC
     have aN:=am (aE (hoff 17 (by kernel_rfl)))
     have aA:=am aD
     have HB:=am Q_HB
     have iY:w'.cell? ⟨aU,0,none⟩=some (.int .i64 aI):=bcl aA 0
     have iZ:w'.cell? ⟨aU,1,none⟩=some (.int .i64 bJ):=bcl aA 1
     have i1:w'.cell? ⟨aU,2,none⟩=some (.int .i64 bP):=bcl aA 2
     have i2:w'.cell? ⟨aU,3,none⟩=some (.int .i64 bK):=bcl aA 3
     have i3:w'.cell? ⟨aU,4,none⟩=some (.int .i64 bH):=bcl aA 4
     have i4:w'.cell? ⟨aU,5,none⟩=some (.slice bM a8.length bN):=bcl aA 5
     refine value_ (w1:=w') (v:=.slice bM a8.length bN) (by rfl) rfl ?_ ?_
     · go_simp
       (try simp only [i64_w])
       try rfl
     refine hK.out _ _ ⟨aY,a7,a6,m18_,m6_,(by rw [ha.out];exact putSel_upk 8 hb_ rfl rfl rfl),aC,aE,aD,Q_HB,aG,z2 (hoff 16 (by kernel_rfl)),z1 (hoff 17 (by kernel_rfl)),z1 (hoff 17 (by kernel_rfl)),z1 (hoff 18 (by kernel_rfl)),aW⟩
   refine steps_cons ?_ ?_
   · rintro b a w' ⟨aY,a7,a6,m18_,m6_,ha,aC,aE,aD,Q_HB,aG,aX,aH,aT,a9,aW⟩ hb_ hon hoff
     refine⟨_,rfl,fun K hK=>?_⟩
     have lL:a.tmps[32]?=some (.slice bM a8.length bN):=by rw [ha];exact putSel_on (e:=(13,32,.slice bM a8.length bN)) 8 rfl rfl (hon 13 (by kernel_rfl)) rfl
     replace ha:=am ha
     have aJ:=am aC
     have aN:=am (aE (hoff 17 (by kernel_rfl)))
     have aA:=am aD
     have HB:=am Q_HB
     refine value_ (w1:=w') (v:=.int .i64 (a8.length:Int)) (by rfl) rfl ?_ ?_
     · go_simp
       (try simp only [i64_w])
       try rfl
     refine hK.out _ _ ⟨aY,a7,a6,m18_,m6_,(by rw [ha.out];exact putSel_upk 9 hb_ rfl rfl rfl),aC,aE,aD,Q_HB,aG,z2 (hoff 16 (by kernel_rfl)),z1 (hoff 17 (by kernel_rfl)),z1 (hoff 17 (by kernel_rfl)),z1 (hoff 18 (by kernel_rfl)),aW⟩
   refine steps_cons ?_ ?_
   · rintro b a w' ⟨aY,a7,a6,m18_,m6_,ha,aC,aE,aD,Q_HB,aG,aX,aH,aT,a9,aW⟩ hb_ hon hoff
     refine⟨_,rfl,fun K hK=>?_⟩
     have lM:a.tmps[33]?=some (.int .i64 (a8.length:Int)):=by rw [ha];exact putSel_on (e:=(14,33,.int .i64 (a8.length:Int))) 9 rfl rfl (hon 14 (by kernel_rfl)) rfl
     replace ha:=am ha
     have aJ:=am aC
     have aN:=am (aE (hoff 17 (by kernel_rfl)))
     have aA:=am aD
     have HB:=am Q_HB
     refine value_ (w1:=w') (v:=.agg #[.int .i64 9,.int .i64 2,.int .i64 5,.string ⟨#[]⟩,.int .i64 (a8.length:Int)]) (by rfl) rfl ?_ ?_
     · go_simp
       (try simp only [i64_w])
       try rfl
     refine hK.out _ _ ⟨aY,a7,a6,m18_,m6_,(by rw [ha.out];exact putSel_upk 10 hb_ rfl rfl rfl),aC,aE,aD,Q_HB,aG,z2 (hoff 16 (by kernel_rfl)),z1 (hoff 17 (by kernel_rfl)),z1 (hoff 17 (by kernel_rfl)),z1 (hoff 18 (by kernel_rfl)),aW⟩
   refine steps_cons ?_ ?_
   · rintro b a w' ⟨aY,a7,a6,m18_,m6_,ha,aC,aE,aD,Q_HB,aG,aX,aH,aT,a9,aW⟩ hb_ hon hoff
     refine⟨_,rfl,fun K hK=>?_⟩
     have lN:a.tmps[30]?=some (.agg #[.int .i64 cR,.int .i64 cS,.int .i64 cT,.string cU,.int .i64 cV]):=by rw [ha];exact putSel_on (e:=(11,30,.agg #[.int .i64 cR,.int .i64 cS,.int .i64 cT,.string cU,.int .i64 cV])) 7 rfl rfl (hon 11 (by kernel_rfl)) rfl
     have lO:a.tmps[34]?=some (.agg #[.int .i64 9,.int .i64 2,.int .i64 5,.string ⟨#[]⟩,.int .i64 (a8.length:Int)]):=by rw [ha];exact putSel_on (e:=(15,34,.agg #[.int .i64 9,.int .i64 2,.int .i64 5,.string ⟨#[]⟩,.int .i64 (a8.length:Int)])) 10 rfl rfl (hon 15 (by kernel_rfl)) rfl
     replace ha:=am ha
     have aJ:=am aC
     have aN:=am (aE (hoff 17 (by kernel_rfl)))
     have aA:=am aD
     have HB:=am Q_HB
     have aZ:=am (aG (hon 3 (by kernel_rfl)))
     refine Kd.R_lit_step k49 _ 49 ?hg (N:=35) ?hd (xs:=([(⟨cR,cS,cT,cU,cV⟩:S49),(⟨9,2,5,(⟨#[]⟩:ByteArray),(a8.length:Int)⟩:S49)]:List (S49))) (inner:=[.int .i64 cR,.int .i64 cS,.int .i64 cT,.string cU,.int .i64 cV,.int .i64 9,.int .i64 2,.int .i64 5,.string ⟨#[]⟩,.int .i64 (a8.length:Int)]) (ok:=fun _=>True) (okp:=fun _=>True) ?hr ?hp (fun _ hk=>hk) trivial (Below.refl _ _) (Nat.le_refl _) (by simp) ?_;(case hd=>rfl);(case hg=>rfl);(case hr=>first | (go_simp;done) | (go_simp;rfl));(case hp=>exact (Reps.c5 (show Kd.M k49 _ _ _ (⟨cR,cS,cT,cU,cV⟩:S49) [.int .i64 cR,.int .i64 cS,.int .i64 cT,.string cU,.int .i64 cV] from (k49_mkM _ _ _ (⟨cR,cS,cT,cU,cV⟩:S49) )) (Reps.c5 (show Kd.M k49 _ _ _ (⟨9,2,5,(⟨#[]⟩:ByteArray),(a8.length:Int)⟩:S49) [.int .i64 9,.int .i64 2,.int .i64 5,.string ⟨#[]⟩,.int .i64 (a8.length:Int)] from (k49_mkM _ _ _ (⟨9,2,5,(⟨#[]⟩:ByteArray),(a8.length:Int)⟩:S49) )) (Reps.none _ _))))
     intro a7 lP eD hb hg_ hnew_
     clear hg_ hnew_
     (first | rw [← f9.out] at eD | (simp only [Int.reduceToNat] at eD;rw [← f9.out] at eD))
     have bO:=am (Kd.R_lower (Kd.R_new' eD (Kd.R_lt (rL aN))) (below_size (bL HB)))
     replace aJ:=rbe aJ hb
     replace aN:=am (Kd.R_elder' (rL aN) (Kd.R_base eD) hb)
     replace aZ:=rbe aZ hb
     replace aA:=bkb aA hb
     replace HB:=bst HB hb
     clear hb eD
     refine hK.out _ _ ⟨aY,a7,a6,m18_,m6_,(by rw [ha.out];exact putSel_upk 11 hb_ rfl rfl rfl),(rL aJ),fun _=>(R_later (Kd.R_mono aN.out (fun _ _=>trivial))),(blk_later aA.out),(bL HB),fun _=>(rL aZ),fun _ _=>(R_later (Kd.R_mono bO.out (fun _ hk=>hk.2))),z1 (hoff 17 (by kernel_rfl)),z1 (hoff 17 (by kernel_rfl)),z1 (hoff 18 (by kernel_rfl)),aW⟩
   refine steps_cons ?_ ?_
   · rintro b a w' ⟨aY,a7,a6,m18_,m6_,ha,aC,aE,aD,Q_HB,aG,aX,aH,aT,a9,aW⟩ hb_ hon hoff
     refine⟨_,rfl,fun K hK=>?_⟩
     have kT:a.tmps[19]?=some (.slice e9 cX.length fA):=by rw [ha];exact (putSel_off rfl).trans rfl
     have kU:a.tmps[35]?=some (a7):=by rw [ha];exact putSel_on (e:=(16,35,a7)) 11 rfl rfl (hon 16 (by kernel_rfl)) rfl
     replace ha:=am ha
     have aJ:=am aC
     have aN:=am (aE hb_)
     have aA:=am aD
     have HB:=am Q_HB
     have aZ:=am (aG (hon 3 (by kernel_rfl)))
     have bO:=am (aX (hon 16 (by kernel_rfl)) hb_)
     obtain⟨i5,i6,hD⟩:=Kd.R_slice bO.out
     (first | subst hD | (injection hD with f1_ f2_ f3_;have f4_:=f1_.symm;have f5_:=f3_.symm;clear f1_ f2_ f3_;subst f4_;subst f5_))
     refine Kd.R_append_rows_step k49 (w0:=w) w.heap.size (by rfl) (.tmp 19) (.tmp 35) 27 49 (.agg #[(.int .i64 0),(.int .i64 0),(.int .i64 0),(.string ⟨#[]⟩),(.int .i64 0)]) 48 rfl Try.underlying27 info49 rfl (by decide) (by omega) (.slice e9 cX.length fA) cX eN _ _ _ (fun _=>True) (fun _=>False) (eval_of kT) (eval_of kU) ?aO ?aR (fun _ _ h=>h) (fun _ h=>h.elim) ?aF ?aB ?aS ?aL ?_
     (case aR=>exact C_later (Kd.R_reads' bO.out).2.2)
     (case aB=>exact (bL HB))
     (case aF=>exact fun _ _=>trivial)
     (case aO=>exact (rL aN))
     (case aS=>exact (below_size (bL HB)))
     (case aL=>have:=g3.out;omega)
     intro a6 lQ ho hb hg hat
     rw [← g6.out] at ho
     have d8:=am ho
     replace aA:=bgr aA hg aN
     replace aJ:=am (Kd.R_over' (rL aJ) (Kd.R_typed (rL aN)) (by decide) hg)
     replace aZ:=am (Kd.R_over' (rL aZ) (Kd.R_typed (rL aN)) (by decide) hg)
     replace bO:=am (Kd.R_after (ok:=(fun _=>True)) (R_later (Kd.R_mono bO.out (fun _ hk=>⟨trivial,hk⟩))) hg hat)
     replace HB:=am hb
     clear aN ho hb hg hat
     refine hK.out _ _ ⟨aY,.slice i5 eN.length i6,a6,m18_,m6_,(by rw [ha.out];exact putSel_upk 12 hb_ rfl rfl rfl),(rL aJ),fun i7=>absurd ((up_self b 17).symm.trans i7) (by decide),(blk_later aA.out),(bL HB),fun _=>(rL aZ),fun _ g9=>absurd ((up_self b 17).symm.trans g9) (by decide),fun _=>(R_later (Kd.R_mono bO.out (fun _ _=>trivial))),fun _=>(rL d8),z1 (hoff 18 (by kernel_rfl)),aW⟩
   refine steps_cons ?_ ?_
   · rintro b a w' ⟨aY,a7,a6,m18_,m6_,ha,aC,aE,aD,Q_HB,aG,aX,aH,aT,a9,aW⟩ hb_ hon hoff
     refine⟨_,rfl,fun K hK=>?_⟩
     have lR:a.tmps[36]?=some (a6):=by rw [ha];exact putSel_on (e:=(17,36,a6)) 12 rfl rfl (hon 17 (by kernel_rfl)) rfl
     replace ha:=am ha
     have aJ:=am aC
     have aA:=am aD
     have HB:=am Q_HB
     have aZ:=am (aG (hon 3 (by kernel_rfl)))
     have bO:=am (aH (hon 17 (by kernel_rfl)))
     have d8:=am (aT (hon 17 (by kernel_rfl)))
     refine value_ (w1:=w') (v:=a6) (by rfl) rfl ?_ ?_
     · go_simp
       (try simp only [i64_w])
       try rfl
     refine hK.out _ _ ⟨aY,a7,a6,(a6),m6_,(by rw [ha.out];exact putSel_upk 13 hb_ rfl rfl rfl),aC,fun i7=>absurd ((hon 17 (by kernel_rfl)).symm.trans i7) (by decide),aD,Q_HB,aG,fun _ g9=>absurd ((hon 17 (by kernel_rfl)).symm.trans g9) (by decide),aH,aT,fun _=>rfl,aW⟩
   exact steps_nil
 rintro b a lS hall ⟨aY,a7,a6,m18_,m6_,ha,aC,aE,aD,Q_HB,aG,aX,aH,aT,a9,aW⟩
 clear aA HB aJ aN
 have gP:=hall 3 (by kernel_rfl)
 have hJ:=hall 5 (by kernel_rfl)
 have gQ:=hall 6 (by kernel_rfl)
 have hU:=hall 7 (by kernel_rfl)
 have hV:=hall 8 (by kernel_rfl)
 have hX:=hall 9 (by kernel_rfl)
 have gB:=hall 10 (by kernel_rfl)
 have gC:=hall 11 (by kernel_rfl)
 have gD:=hall 13 (by kernel_rfl)
 have gE:=hall 14 (by kernel_rfl)
 have gF:=hall 15 (by kernel_rfl)
 have gG:=hall 16 (by kernel_rfl)
 have d9:=hall 17 (by kernel_rfl)
 have eS:=hall 18 (by kernel_rfl)
 subst ha
 obtain rfl:=a9 eS
 obtain rfl:=aW gQ
 simp only [putSel,gP,hJ,gQ,hU,hV,hX,gB,gC,gD,gE,gF,gG,d9,eS,if_true,Act.put,List.setIfInBounds_toArray,List.set_cons_zero,List.set_cons_succ]
 have aJ:=am aC
 clear aC aE
 have aA:=am aD
 clear aD
 have HB:=am Q_HB
 clear Q_HB
 have aZ:=am (aG gP)
 clear aG aX
 have bO:=am (aH d9)
 clear aH
 have d8:=am (aT d9)
 clear aT hall gP hJ gQ hU hV hX gB gC gD gE gF gG d9 eS
 obtain⟨kV,kW,hY⟩:=Kd.R_slice aZ.out
 (first | subst hY | (injection hY with f1_ f2_ f3_;have f4_:=f1_.symm;have f5_:=f3_.symm;clear f1_ f2_ f3_;subst f4_;subst f5_))
 have bQ:0≤(aI:Int):=dcd
 have bR:aI < (aQ.length:Int):=dcd
 obtain⟨cW,i8,eA⟩:=Kd.at_int (Kd.R_reads' aZ.out).2.2 aI bQ bR
 cases i8
 replace bQ:=eq_true bQ
 replace bR:=eq_true bR
 try go_wp2
 go_loopg [6,7] k (fun kq v6 v7 w'=>∃ (cY:List (S49)) (cZ:Int),v7=.int .i64 cZ∧Aside0 (spec_l18Nodes.l0 kq bI cY cZ aI bJ bP bK bH a8=some r)∧Aside0 (kq≤k)∧Aside0 (Kd.R Kd.string 9 w' w.heap.size (fun _=>True) g7 bI)∧Aside0 (Kd.R k49 49 w' w.heap.size (fun _=>True) v6 cY)∧Aside0 (w'.heap[aU]?=some (.cells #[.int .i64 aI,.int .i64 bJ,.int .i64 bP,.int .i64 bK,.int .i64 bH,(.slice bM a8.length bN)] 58 (0,0)))∧Aside0 (Below w.heap.size w w'))
 case atStart=>exact⟨(g4),(0),sr,H',⟨Nat.le_refl _⟩,⟨rL aJ⟩,⟨R_later (Kd.R_mono d8.out (fun _ hk=>trivial))⟩,⟨kL aA⟩,⟨bL HB⟩⟩
 clear H'
 try clear c5 gX gY gZ g2 iS dE dF dG dH dI dJ dQ dR dS dT dU dV dK dL dM dN dO dP dW dX dY dZ d2 d3 eA bD bE bF bG bQ eP bR eQ
 obtain⟨cY,cZ,rfl,HA,iT,aM,aK,aA,HB⟩:=hrel
 cases gk with
 | zero=>exact absurd HA.out (by simp [spec_l18Nodes.l0])
 | succ k1=>?_
 have H:=HA.out
 clear HA
 simp only [spec_l18Nodes.l0] at H
 replace H:=idc H;obtain⟨gH,H⟩ | ⟨gH,H⟩:=H
 · replace H:=ifd H;obtain⟨jY,H⟩:=H
   replace H:=bnd5 H;obtain⟨fB,fC,fD,fE,fF,kX,H⟩:=H;dsimp only at H
   replace H:=ifs H;obtain⟨jZ,H⟩:=H
   have hZ:=am jZ
   clear jZ
   generalize gI:((cY ++ [(⟨fB,fC,fD,fE,fF⟩:S49)]):List (S49))=i9 at H;have iA:=am gI.symm;clear gI
   have H':=am H;clear H
   obtain⟨_,_,_,_,_,_,_,_,_,_,_,_⟩:=cl6 aA
   have gR:0≤(cZ:Int):=dcd
   have gS:cZ < (a8.length:Int):=dcd
   obtain⟨j4,jA,eB⟩:=Kd.at_int gW.out cZ gR gS
   cases jA
   replace eB:=crd HB eB
   replace gR:=eq_true gR
   replace gS:=eq_true gS
   go_wp2_with (first | ((with_reducible refine gc 22 rfl ?_);refine gc1 (some 50) Try.func22 rfl (spec_l16Int.calls kX.out) ?_;rintro lT hb;replace aM:=rbe aM hb;replace aK:=rbe aK hb;replace aA:=bkb aA hb;replace HB:=bst HB hb;clear hb) | ((with_reducible refine gate_builtin (b:=.append) (xs:=#[.tmp 44,.tmp 51]) rfl ?_);at_builtin;refine Kd.R_append k49 (w0:=w) w.heap.size rfl (.tmp 44) (.tmp 51) 27 49 (.agg #[(.int .i64 0),(.int .i64 0),(.int .i64 0),(.string ⟨#[]⟩),(.int .i64 0)]) 48 rfl Try.underlying27 info49 rfl (by decide) (by omega) u6 cY (⟨fB,fC,fD,fE,fF⟩:S49) [.int .i64 fB,.int .i64 fC,.int .i64 fD,.string fE,.int .i64 fF] (fun _=>True) (fun _=>False) rfl rfl ?aP (fun _ hk=>hk.elim) ?aF ?aO ?aB ?aS ?aL ?_;(case aP=>exact k49_mkM _ _ _ (⟨fB,fC,fD,fE,fF⟩:S49));(case aB=>exact (bL HB));(case aF=>exact (fun _ _=>trivial));(case aO=>exact (rL aK));(case aS=>exact (below_size (bL HB)));(case aL=>have:=hZ.out;omega);intro kY lU ho hb hg hat;rw [← iA.out] at ho;have iB:=am ho;replace aM:=am (Kd.R_over' (rL aM) (Kd.R_typed (rL aK)) (by decide) hg);replace aA:=bgr aA hg aK;replace HB:=am hb;clear aK;clear ho hb hg hat))
   go_roundg k1
   case measure=>have:=iT.out;omega
   case rel=>exact⟨(i9),(wrap64 (cZ + 1)),sr,H',⟨by have:=iT.out;omega⟩,⟨rL aM⟩,⟨rL iB⟩,⟨kL aA⟩,⟨bL HB⟩⟩
 replace H:=ifs H;obtain⟨jB,H⟩:=H
 have iC:=am jB
 clear jB
 generalize gJ:((cY ++ [(⟨9,3,8,(⟨#[]⟩:ByteArray),(bI.length:Int)⟩:S49)]):List (S49))=jC at H;have iD:=am gJ.symm;clear gJ
 have H':=am H;clear H
 obtain⟨fG,fH,fI,fJ,fK,fL,fM,fN,fO,fP,fQ,fR⟩:=cl6 aA
 obtain⟨jD,jE,jF⟩:=Kd.R_slice aM.out
 subst jF
 go_wp2_with (first | ((with_reducible refine gate_builtin (b:=.append) (xs:=#[.tmp 53,.tmp 57]) rfl ?_);at_builtin;refine Kd.R_append k49 (w0:=w) w.heap.size rfl (.tmp 53) (.tmp 57) 27 49 (.agg #[(.int .i64 0),(.int .i64 0),(.int .i64 0),(.string ⟨#[]⟩),(.int .i64 0)]) 48 rfl Try.underlying27 info49 rfl (by decide) (by omega) u6 cY (⟨9,3,8,(⟨#[]⟩:ByteArray),(bI.length:Int)⟩:S49) [.int .i64 9,.int .i64 3,.int .i64 8,.string ⟨#[]⟩,.int .i64 (bI.length:Int)] (fun _=>True) (fun _=>False) rfl rfl ?aP (fun _ hk=>hk.elim) ?aF ?aO ?aB ?aS ?aL ?_;(case aP=>exact k49_mkM _ _ _ (⟨9,3,8,(⟨#[]⟩:ByteArray),(bI.length:Int)⟩:S49));(case aB=>exact (bL HB));(case aF=>exact (fun _ _=>trivial));(case aO=>exact (rL aK));(case aS=>exact (below_size (bL HB)));(case aL=>have:=iC.out;omega);intro kZ lV ho hb hg hat;rw [← iD.out] at ho;have iE:=am ho;replace aM:=am (Kd.R_over' (rL aM) (Kd.R_typed (rL aK)) (by decide) hg);replace aA:=bgr aA hg aK;replace HB:=am hb;clear aK;clear ho hb hg hat))
 go_loopg [6,8] k1 (fun kq v6 v8 w'=>∃ (dA:List (S49)) (bS:Int),v8=.int .i64 bS∧Aside0 (spec_l18Nodes.l1 kq bI dA bS aI bJ bP bK bH a8=some r)∧Aside0 (kq≤k1)∧Aside0 (Kd.R Kd.string 9 w' w.heap.size (fun _=>True) (.slice jD bI.length jE) bI)∧Aside0 (Kd.R k49 49 w' w.heap.size (fun _=>True) v6 dA)∧Aside0 (w'.heap[aU]?=some (.cells #[.int .i64 aI,.int .i64 bJ,.int .i64 bP,.int .i64 bK,.int .i64 bH,(.slice bM a8.length bN)] 58 (0,0)))∧Aside0 (Below w.heap.size w w'))
 case atStart=>exact⟨(jC),(0),sr,H',⟨Nat.le_refl _⟩,⟨rL aM⟩,⟨rL iE⟩,⟨kL aA⟩,⟨bL HB⟩⟩
 clear H'
 try clear c5 gX gY gZ g2 iS lW gH jB dE dF dG dH dI dJ dQ dR dS dT dU dV fG fH fI fJ fK fL dK dL dM dN dO dP dW dX dY dZ d2 d3 fM fN fO fP fQ fR eA bD bE bF bG bQ eP bR eQ
 obtain⟨dA,bS,rfl,HA,j5,aM,aK,aA,HB⟩:=hrel
 cases gk with
 | zero=>exact absurd HA.out (by simp [spec_l18Nodes.l1])
 | succ k2=>?_
 have H:=HA.out
 clear HA
 simp only [spec_l18Nodes.l1] at H
 replace H:=idc H;obtain⟨iF,H⟩ | ⟨iF,H⟩:=H
 · replace H:=if_ds H;obtain⟨j6,j7,H⟩:=H
   have iG:=am j7
   clear j7
   generalize gK:((dA ++ [(⟨8,0,0,rdOf ByteArray.empty bI bS,0⟩:S49)]):List (S49))=jG at H;have iH:=am gK.symm;clear gK
   have H':=am H;clear H
   have gT:0≤(bS:Int):=dcd
   have gU:bS < (bI.length:Int):=dcd
   obtain⟨j8,jH,iU⟩:=Kd.at_string (Kd.R_reads' aM.out).2.2 bS gT gU
   cases jH
   replace gT:=eq_true gT
   replace gU:=eq_true gU
   go_wp2_with (first | ((with_reducible refine gate_builtin (b:=.append) (xs:=#[.tmp 65,.tmp 71]) rfl ?_);at_builtin;refine Kd.R_append k49 (w0:=w) w.heap.size rfl (.tmp 65) (.tmp 71) 27 49 (.agg #[(.int .i64 0),(.int .i64 0),(.int .i64 0),(.string ⟨#[]⟩),(.int .i64 0)]) 48 rfl Try.underlying27 info49 rfl (by decide) (by omega) u6 dA (⟨8,0,0,rdOf ByteArray.empty bI bS,0⟩:S49) [.int .i64 8,.int .i64 0,.int .i64 0,.string (rdOf ByteArray.empty bI bS),.int .i64 0] (fun _=>True) (fun _=>False) rfl rfl ?aP (fun _ hk=>hk.elim) ?aF ?aO ?aB ?aS ?aL ?_;(case aP=>exact k49_mkM _ _ _ (⟨8,0,0,rdOf ByteArray.empty bI bS,0⟩:S49));(case aB=>exact (bL HB));(case aF=>exact (fun _ _=>trivial));(case aO=>exact (rL aK));(case aS=>exact (below_size (bL HB)));(case aL=>have:=iG.out;omega);intro k0 lX ho hb hg hat;rw [← iH.out] at ho;have iI:=am ho;replace aM:=am (Kd.R_over' (rL aM) (Kd.R_typed (rL aK)) (by decide) hg);replace aA:=bgr aA hg aK;replace HB:=am hb;clear aK;clear ho hb hg hat))
   go_roundg k2
   case measure=>have:=iT.out;have:=j5.out;omega
   case rel=>exact⟨(jG),(wrap64 (bS + 1)),sr,H',⟨by have:=iT.out;have:=j5.out;omega⟩,⟨rL aM⟩,⟨rL iI⟩,⟨kL aA⟩,⟨bL HB⟩⟩
 replace H:=bnd5 H;obtain⟨bT,bU,bV,bW,bX,j9,H⟩:=H;dsimp only at H
 replace H:=bnd5 H;obtain⟨bY,bZ,b6,b7,b8,kA,H⟩:=H;dsimp only at H
 replace H:=bnd5 H;obtain⟨b9,cA,cB,cC,cD,kC,H⟩:=H;dsimp only at H
 replace H:=bnd5 H;obtain⟨cE,cF,cG,cH,cI,kD,H⟩:=H;dsimp only at H
 replace H:=bnd5 H;obtain⟨cJ,cK,cM,cN,cO,kE,H⟩:=H;dsimp only at H
 replace H:=bsm H;obtain⟨dB,eC,H⟩:=H
 replace H:=ifs H;obtain⟨kF,H⟩:=H
 have gL:=am kF
 clear kF
 replace H:=bsm H;obtain⟨bB,gM,H⟩:=H
 replace H:=ige H;obtain⟨iJ,H⟩ | ⟨iJ,H⟩:=H
 rotate_left
 · cases H
   try go_wp2
   replace aM:=rdr aM
   replace aK:=rdr aK
   replace aA:=bdr aA
   replace HB:=bld HB
   refine start_ (n:=17) (S:=fun w'=>w'.cell? ⟨aU,0,none⟩=some (.int .i64 aI)∧w'.cell? ⟨aU,1,none⟩=some (.int .i64 bJ)∧w'.cell? ⟨aU,2,none⟩=some (.int .i64 bP)∧w'.cell? ⟨aU,3,none⟩=some (.int .i64 bK)∧w'.cell? ⟨aU,4,none⟩=some (.int .i64 bH)∧w'.cell? ⟨aU,5,none⟩=some (.slice bM a8.length bN)) (ds:=[]) #[false,false,false,false,false,false,false,false,false,false,false,false,false,false,false,false,false] (by kernel_rfl) rfl rfl ⟨bcl aA 0,bcl aA 1,bcl aA 2,bcl aA 3,bcl aA 4,bcl aA 5⟩ (fun hHeld=>?_);refine with_tabW spec_l18Nodes.tab13 spec_l18Nodes.bits13 (fun HT_ HW_=>?_)
   generalize wr.drew=lY at aM aK aA HB hHeld ⊢
   refine pu_ 0 73 ?_;refine pu_ 2 75 ?_;refine pu_ 5 78 ?_;refine pu_ 8 81 ?_;refine pu_ 11 84 ?_;refine tk_ 3 76 hHeld ?_;refine tk_ 6 79 hHeld ?_;refine tk_ 9 82 hHeld ?_;refine tk_ 12 85 hHeld ?_
   refine on_ 1 74 (fun K hK=>?_)
   refine gs_ Try.func22 #[.int .i64 4,.int .i64 0] rfl ?_
   with_reducible refine (spec_l16Int.calls j9.out).mono ?_
   rintro e lZ ⟨rfl,hb⟩
   refine⟨_,rfl,?_⟩
   replace aM:=rbe aM hb
   replace aK:=rbe aK hb
   replace aA:=bkb aA hb
   replace HB:=bst HB hb
   (try clear hb)
   (try clear eR)
   (try clear hk)
   (try clear hi)
   refine hK.out _ _ ⟨bcl aA 0,bcl aA 1,bcl aA 2,bcl aA 3,bcl aA 4,bcl aA 5⟩ (fun hHeld=>?_)
   clear hK K
   refine no_ (some 74) ?_
   refine on_ 4 77 (fun K hK=>?_)
   refine gs_ Try.func24 #[.int .i64 5,.int .i64 bK] rfl ?_
   with_reducible refine (spec_l18Long.calls kA.out).mono ?_
   rintro e l3 ⟨rfl,hb⟩
   refine⟨_,rfl,?_⟩
   replace aM:=rbe aM hb
   replace aK:=rbe aK hb
   replace aA:=bkb aA hb
   replace HB:=bst HB hb
   (try clear hb)
   (try clear eR)
   (try clear hk)
   (try clear hi)
   refine hK.out _ _ ⟨bcl aA 0,bcl aA 1,bcl aA 2,bcl aA 3,bcl aA 4,bcl aA 5⟩ (fun hHeld=>?_)
   clear hK K
   refine no_ (some 77) ?_
   refine on_ 7 80 (fun K hK=>?_)
   refine gs_ Try.func24 #[.int .i64 6,.int .i64 bH] rfl ?_
   with_reducible refine (spec_l18Long.calls kC.out).mono ?_
   rintro e l4 ⟨rfl,hb⟩
   refine⟨_,rfl,?_⟩
   replace aM:=rbe aM hb
   replace aK:=rbe aK hb
   replace aA:=bkb aA hb
   replace HB:=bst HB hb
   (try clear hb)
   (try clear eR)
   (try clear hk)
   (try clear hi)
   refine hK.out _ _ ⟨bcl aA 0,bcl aA 1,bcl aA 2,bcl aA 3,bcl aA 4,bcl aA 5⟩ (fun hHeld=>?_)
   clear hK K
   refine no_ (some 80) ?_
   refine on_ 10 83 (fun K hK=>?_)
   refine gs_ Try.func24 #[.int .i64 7,.int .i64 bH] rfl ?_
   with_reducible refine (spec_l18Long.calls kD.out).mono ?_
   rintro e l6 ⟨rfl,hb⟩
   refine⟨_,rfl,?_⟩
   replace aM:=rbe aM hb
   replace aK:=rbe aK hb
   replace aA:=bkb aA hb
   replace HB:=bst HB hb
   (try clear hb)
   (try clear eR)
   (try clear hk)
   (try clear hi)
   refine hK.out _ _ ⟨bcl aA 0,bcl aA 1,bcl aA 2,bcl aA 3,bcl aA 4,bcl aA 5⟩ (fun hHeld=>?_)
   clear hK K
   refine no_ (some 83) ?_
   refine on_ 13 86 (fun K hK=>?_)
   refine gs_ Try.func24 #[.int .i64 9,.int .i64 bJ] rfl ?_
   with_reducible refine (spec_l18Long.calls kE.out).mono ?_
   rintro e l7 ⟨rfl,hb⟩
   refine⟨_,rfl,?_⟩
   replace aM:=rbe aM hb
   replace aK:=rbe aK hb
   replace aA:=bkb aA hb
   replace HB:=bst HB hb
   (try clear hb)
   (try clear eR)
   (try clear hk)
   (try clear hi)
   refine hK.out _ _ ⟨bcl aA 0,bcl aA 1,bcl aA 2,bcl aA 3,bcl aA 4,bcl aA 5⟩ (fun hHeld=>?_)
   clear hK K
   refine no_ (some 86) ?_
   refine on_ 14 87 (fun K hK=>?_)
   refine Kd.R_lit_step k49 _ 49 ?hg (N:=87) ?hd (xs:=([(⟨bT,bU,bV,bW,bX⟩:S49),(⟨bY,bZ,b6,b7,b8⟩:S49),(⟨b9,cA,cB,cC,cD⟩:S49),(⟨cE,cF,cG,cH,cI⟩:S49),(⟨cJ,cK,cM,cN,cO⟩:S49)]:List (S49))) (inner:=[.int .i64 bT,.int .i64 bU,.int .i64 bV,.string bW,.int .i64 bX,.int .i64 bY,.int .i64 bZ,.int .i64 b6,.string b7,.int .i64 b8,.int .i64 b9,.int .i64 cA,.int .i64 cB,.string cC,.int .i64 cD,.int .i64 cE,.int .i64 cF,.int .i64 cG,.string cH,.int .i64 cI,.int .i64 cJ,.int .i64 cK,.int .i64 cM,.string cN,.int .i64 cO]) (ok:=fun _=>True) (okp:=fun _=>True) ?hr ?hp (fun _ hk=>hk) trivial (Below.refl _ _) (Nat.le_refl _) (by simp) ?_;(case hd=>rfl);(case hg=>rfl);(case hr=>first | (go_simp;done) | (go_simp;rfl));(case hp=>exact (Reps.c5 (show Kd.M k49 _ _ _ (⟨bT,bU,bV,bW,bX⟩:S49) [.int .i64 bT,.int .i64 bU,.int .i64 bV,.string bW,.int .i64 bX] from (k49_mkM _ _ _ (⟨bT,bU,bV,bW,bX⟩:S49) )) (Reps.c5 (show Kd.M k49 _ _ _ (⟨bY,bZ,b6,b7,b8⟩:S49) [.int .i64 bY,.int .i64 bZ,.int .i64 b6,.string b7,.int .i64 b8] from (k49_mkM _ _ _ (⟨bY,bZ,b6,b7,b8⟩:S49) )) (Reps.c5 (show Kd.M k49 _ _ _ (⟨b9,cA,cB,cC,cD⟩:S49) [.int .i64 b9,.int .i64 cA,.int .i64 cB,.string cC,.int .i64 cD] from (k49_mkM _ _ _ (⟨b9,cA,cB,cC,cD⟩:S49) )) (Reps.c5 (show Kd.M k49 _ _ _ (⟨cE,cF,cG,cH,cI⟩:S49) [.int .i64 cE,.int .i64 cF,.int .i64 cG,.string cH,.int .i64 cI] from (k49_mkM _ _ _ (⟨cE,cF,cG,cH,cI⟩:S49) )) (Reps.c5 (show Kd.M k49 _ _ _ (⟨cJ,cK,cM,cN,cO⟩:S49) [.int .i64 cJ,.int .i64 cK,.int .i64 cM,.string cN,.int .i64 cO] from (k49_mkM _ _ _ (⟨cJ,cK,cM,cN,cO⟩:S49) )) (Reps.none _ _)))))))
   intro jI l8 eE hb hg_ hnew_
   clear hg_ hnew_
   (first | rw [← eC.out] at eE | (simp only [Int.reduceToNat] at eE;rw [← eC.out] at eE))
   have bA:=am (Kd.R_lower (Kd.R_new' eE (Kd.R_lt (rL aK))) (below_size (bL HB)))
   replace aM:=rbe aM hb
   replace aK:=am (Kd.R_elder' (rL aK) (Kd.R_base eE) hb)
   replace aA:=bkb aA hb
   replace HB:=bst HB hb
   clear hb eE
   obtain⟨jJ,jK,iK⟩:=Kd.R_slice bA.out
   (first | subst iK | (injection iK with f1_ f2_ f3_;have f4_:=f1_.symm;have f5_:=f3_.symm;clear f1_ f2_ f3_;subst f4_;subst f5_))
   refine hK.out _ _ ⟨bcl aA 0,bcl aA 1,bcl aA 2,bcl aA 3,bcl aA 4,bcl aA 5⟩ (fun hHeld=>?_)
   clear hK K
   refine no_ (some 87) ?_
   refine on_ 15 88 (fun K hK=>?_)
   refine Kd.R_append_rows_step k49 (w0:=w) w.heap.size (by rfl) (.tmp 73) (.tmp 87) 27 49 (.agg #[(.int .i64 0),(.int .i64 0),(.int .i64 0),(.string ⟨#[]⟩),(.int .i64 0)]) 48 rfl Try.underlying27 info49 rfl (by decide) (by omega) u6 dA dB _ _ _ (fun k_=>some k_≠(.slice jJ dB.length jK:Value).ownBlock) (fun _=>False) rfl rfl ?aO ?aR (fun _ _ h=>h) (fun _ h=>h.elim) ?aF ?aB ?aS ?aL ?_
   (case aR=>exact C_later (Kd.R_reads' bA.out).2.2)
   (case aB=>exact (bL HB))
   (case aF=>exact (fun k_ hk=>Kd.fresh' (Kd.R_lt (rL bA)) k_ hk))
   (case aO=>exact (R_later (Kd.R_mono aK.out (fun _ hk=>hk.2))))
   (case aS=>exact (below_size (bL HB)))
   (case aL=>have:=gL.out;omega)
   intro jL l9 ho hb hg hat
   rw [← gM.out] at ho
   have bC:=am ho
   replace aM:=am (Kd.R_over' (rL aM) (Kd.R_typed (rL aK)) (by decide) hg)
   replace aA:=bgr aA hg aK
   replace bA:=am (Kd.R_after (ok:=(fun _=>True)) (rL bA) hg hat)
   replace HB:=am hb
   clear aK ho hb hg hat
   refine hK.out _ _ ⟨bcl aA 0,bcl aA 1,bcl aA 2,bcl aA 3,bcl aA 4,bcl aA 5⟩ (fun hHeld=>?_)
   clear hK K
   refine no_ (some 88) ?_;refine pu_ 16 6 ?_
   refine done_ (done_of HT_.out (by kernel_rfl)) ?_
   obtain⟨_,_,_,_,_,_,_,_,_,_,_,_⟩:=cl6 aA
   try go_wp2
   go_ret
   exact⟨_,fin_ ⟨R_later (Kd.R_mono bC.out (fun _ hk=>trivial)),bL HB⟩⟩
 replace H:=ifs H;obtain⟨kG,H⟩:=H
 have kH:=decide_eq_true kG
 have kJ:decide (2 < bB.length)=true:=decide_eq_true (by omega)
 clear kG
 replace H:=bsm H;obtain⟨gV,iL,H⟩:=H
 replace H:=bnd5 H;obtain⟨fS,fT,fU,fV,fW,k5,H⟩:=H;dsimp only at H
 replace H:=ifs H;obtain⟨kM,H⟩:=H
 have iM:=am kM
 clear kM
 generalize gN:((gV ++ [(⟨fS,fT,fU,fV,fW⟩:S49)]):List (S49))=k6 at H;have iN:=am gN.symm;clear gN
 cases H
 try go_wp2
 replace aM:=rdr aM
 replace aK:=rdr aK
 replace aA:=bdr aA
 replace HB:=bld HB
 refine start_ (n:=17) (S:=fun w'=>w'.cell? ⟨aU,0,none⟩=some (.int .i64 aI)∧w'.cell? ⟨aU,1,none⟩=some (.int .i64 bJ)∧w'.cell? ⟨aU,2,none⟩=some (.int .i64 bP)∧w'.cell? ⟨aU,3,none⟩=some (.int .i64 bK)∧w'.cell? ⟨aU,4,none⟩=some (.int .i64 bH)∧w'.cell? ⟨aU,5,none⟩=some (.slice bM a8.length bN)) (ds:=[]) #[false,false,false,false,false,false,false,false,false,false,false,false,false,false,false,false,false] (by kernel_rfl) rfl rfl ⟨bcl aA 0,bcl aA 1,bcl aA 2,bcl aA 3,bcl aA 4,bcl aA 5⟩ (fun hHeld=>?_);refine with_tabW spec_l18Nodes.tab13 spec_l18Nodes.bits13 (fun HT_ HW_=>?_)
 generalize wr.drew=mA at aM aK aA HB hHeld ⊢
 refine pu_ 0 73 ?_;refine pu_ 2 75 ?_;refine pu_ 5 78 ?_;refine pu_ 8 81 ?_;refine pu_ 11 84 ?_;refine tk_ 3 76 hHeld ?_;refine tk_ 6 79 hHeld ?_;refine tk_ 9 82 hHeld ?_;refine tk_ 12 85 hHeld ?_
 refine on_ 1 74 (fun K hK=>?_)
 refine gs_ Try.func22 #[.int .i64 4,.int .i64 0] rfl ?_
 with_reducible refine (spec_l16Int.calls j9.out).mono ?_
 rintro e mB ⟨rfl,hb⟩
 refine⟨_,rfl,?_⟩
 replace aM:=rbe aM hb
 replace aK:=rbe aK hb
 replace aA:=bkb aA hb
 replace HB:=bst HB hb
 (try clear hb)
 (try clear eR)
 (try clear hk)
 (try clear hi)
 refine hK.out _ _ ⟨bcl aA 0,bcl aA 1,bcl aA 2,bcl aA 3,bcl aA 4,bcl aA 5⟩ (fun hHeld=>?_)
 clear hK K
 refine no_ (some 74) ?_
 refine on_ 4 77 (fun K hK=>?_)
 refine gs_ Try.func24 #[.int .i64 5,.int .i64 bK] rfl ?_
 with_reducible refine (spec_l18Long.calls kA.out).mono ?_
 rintro e mC ⟨rfl,hb⟩
 refine⟨_,rfl,?_⟩
 replace aM:=rbe aM hb
 replace aK:=rbe aK hb
 replace aA:=bkb aA hb
 replace HB:=bst HB hb
 (try clear hb)
 (try clear eR)
 (try clear hk)
 (try clear hi)
 refine hK.out _ _ ⟨bcl aA 0,bcl aA 1,bcl aA 2,bcl aA 3,bcl aA 4,bcl aA 5⟩ (fun hHeld=>?_)
 clear hK K
 refine no_ (some 77) ?_
 refine on_ 7 80 (fun K hK=>?_)
 refine gs_ Try.func24 #[.int .i64 6,.int .i64 bH] rfl ?_
 with_reducible refine (spec_l18Long.calls kC.out).mono ?_
 rintro e mD ⟨rfl,hb⟩
 refine⟨_,rfl,?_⟩
 replace aM:=rbe aM hb
 replace aK:=rbe aK hb
 replace aA:=bkb aA hb
 replace HB:=bst HB hb
 (try clear hb)
 (try clear eR)
 (try clear hk)
 (try clear hi)
 refine hK.out _ _ ⟨bcl aA 0,bcl aA 1,bcl aA 2,bcl aA 3,bcl aA 4,bcl aA 5⟩ (fun hHeld=>?_)
 clear hK K
 refine no_ (some 80) ?_
 refine on_ 10 83 (fun K hK=>?_)
 refine gs_ Try.func24 #[.int .i64 7,.int .i64 bH] rfl ?_
 with_reducible refine (spec_l18Long.calls kD.out).mono ?_
 rintro e mE ⟨rfl,hb⟩
 refine⟨_,rfl,?_⟩
 replace aM:=rbe aM hb
 replace aK:=rbe aK hb
 replace aA:=bkb aA hb
 replace HB:=bst HB hb
 (try clear hb)
 (try clear eR)
 (try clear hk)
 (try clear hi)
 refine hK.out _ _ ⟨bcl aA 0,bcl aA 1,bcl aA 2,bcl aA 3,bcl aA 4,bcl aA 5⟩ (fun hHeld=>?_)
 clear hK K
 refine no_ (some 83) ?_
 refine on_ 13 86 (fun K hK=>?_)
 refine gs_ Try.func24 #[.int .i64 9,.int .i64 bJ] rfl ?_
 with_reducible refine (spec_l18Long.calls kE.out).mono ?_
 rintro e mF ⟨rfl,hb⟩
 refine⟨_,rfl,?_⟩
 replace aM:=rbe aM hb
 replace aK:=rbe aK hb
 replace aA:=bkb aA hb
 replace HB:=bst HB hb
 (try clear hb)
 (try clear eR)
 (try clear hk)
 (try clear hi)
 refine hK.out _ _ ⟨bcl aA 0,bcl aA 1,bcl aA 2,bcl aA 3,bcl aA 4,bcl aA 5⟩ (fun hHeld=>?_)
 clear hK K
 refine no_ (some 86) ?_
 refine on_ 14 87 (fun K hK=>?_)
 refine Kd.R_lit_step k49 _ 49 ?hg (N:=87) ?hd (xs:=([(⟨bT,bU,bV,bW,bX⟩:S49),(⟨bY,bZ,b6,b7,b8⟩:S49),(⟨b9,cA,cB,cC,cD⟩:S49),(⟨cE,cF,cG,cH,cI⟩:S49),(⟨cJ,cK,cM,cN,cO⟩:S49)]:List (S49))) (inner:=[.int .i64 bT,.int .i64 bU,.int .i64 bV,.string bW,.int .i64 bX,.int .i64 bY,.int .i64 bZ,.int .i64 b6,.string b7,.int .i64 b8,.int .i64 b9,.int .i64 cA,.int .i64 cB,.string cC,.int .i64 cD,.int .i64 cE,.int .i64 cF,.int .i64 cG,.string cH,.int .i64 cI,.int .i64 cJ,.int .i64 cK,.int .i64 cM,.string cN,.int .i64 cO]) (ok:=fun _=>True) (okp:=fun _=>True) ?hr ?hp (fun _ hk=>hk) trivial (Below.refl _ _) (Nat.le_refl _) (by simp) ?_;(case hd=>rfl);(case hg=>rfl);(case hr=>first | (go_simp;done) | (go_simp;rfl));(case hp=>exact (Reps.c5 (show Kd.M k49 _ _ _ (⟨bT,bU,bV,bW,bX⟩:S49) [.int .i64 bT,.int .i64 bU,.int .i64 bV,.string bW,.int .i64 bX] from (k49_mkM _ _ _ (⟨bT,bU,bV,bW,bX⟩:S49) )) (Reps.c5 (show Kd.M k49 _ _ _ (⟨bY,bZ,b6,b7,b8⟩:S49) [.int .i64 bY,.int .i64 bZ,.int .i64 b6,.string b7,.int .i64 b8] from (k49_mkM _ _ _ (⟨bY,bZ,b6,b7,b8⟩:S49) )) (Reps.c5 (show Kd.M k49 _ _ _ (⟨b9,cA,cB,cC,cD⟩:S49) [.int .i64 b9,.int .i64 cA,.int .i64 cB,.string cC,.int .i64 cD] from (k49_mkM _ _ _ (⟨b9,cA,cB,cC,cD⟩:S49) )) (Reps.c5 (show Kd.M k49 _ _ _ (⟨cE,cF,cG,cH,cI⟩:S49) [.int .i64 cE,.int .i64 cF,.int .i64 cG,.string cH,.int .i64 cI] from (k49_mkM _ _ _ (⟨cE,cF,cG,cH,cI⟩:S49) )) (Reps.c5 (show Kd.M k49 _ _ _ (⟨cJ,cK,cM,cN,cO⟩:S49) [.int .i64 cJ,.int .i64 cK,.int .i64 cM,.string cN,.int .i64 cO] from (k49_mkM _ _ _ (⟨cJ,cK,cM,cN,cO⟩:S49) )) (Reps.none _ _)))))))
 intro jI mG eF hb hg_ hnew_
 clear hg_ hnew_
 (first | rw [← eC.out] at eF | (simp only [Int.reduceToNat] at eF;rw [← eC.out] at eF))
 have bA:=am (Kd.R_lower (Kd.R_new' eF (Kd.R_lt (rL aK))) (below_size (bL HB)))
 replace aM:=rbe aM hb
 replace aK:=am (Kd.R_elder' (rL aK) (Kd.R_base eF) hb)
 replace aA:=bkb aA hb
 replace HB:=bst HB hb
 clear hb eF
 obtain⟨fX,fY,iO⟩:=Kd.R_slice bA.out
 (first | subst iO | (injection iO with f1_ f2_ f3_;have f4_:=f1_.symm;have f5_:=f3_.symm;clear f1_ f2_ f3_;subst f4_;subst f5_))
 refine hK.out _ _ ⟨bcl aA 0,bcl aA 1,bcl aA 2,bcl aA 3,bcl aA 4,bcl aA 5⟩ (fun hHeld=>?_)
 clear hK K
 refine no_ (some 87) ?_
 refine on_ 15 88 (fun K hK=>?_)
 refine Kd.R_append_rows_step k49 (w0:=w) w.heap.size (by rfl) (.tmp 73) (.tmp 87) 27 49 (.agg #[(.int .i64 0),(.int .i64 0),(.int .i64 0),(.string ⟨#[]⟩),(.int .i64 0)]) 48 rfl Try.underlying27 info49 rfl (by decide) (by omega) u6 dA dB _ _ _ (fun k_=>some k_≠(.slice fX dB.length fY:Value).ownBlock) (fun _=>False) rfl rfl ?aO ?aR (fun _ _ h=>h) (fun _ h=>h.elim) ?aF ?aB ?aS ?aL ?_
 (case aR=>exact C_later (Kd.R_reads' bA.out).2.2)
 (case aB=>exact (bL HB))
 (case aF=>exact (fun k_ hk=>Kd.fresh' (Kd.R_lt (rL bA)) k_ hk))
 (case aO=>exact (R_later (Kd.R_mono aK.out (fun _ hk=>hk.2))))
 (case aS=>exact (below_size (bL HB)))
 (case aL=>have:=gL.out;omega)
 intro jL eG ho hb hg hat
 rw [← gM.out] at ho
 have bC:=am ho
 replace aM:=am (Kd.R_over' (rL aM) (Kd.R_typed (rL aK)) (by decide) hg)
 replace aA:=bgr aA hg aK
 replace bA:=am (Kd.R_after (ok:=(fun _=>True)) (rL bA) hg hat)
 replace HB:=am hb
 clear aK ho hb hg hat
 refine hK.out _ _ ⟨bcl aA 0,bcl aA 1,bcl aA 2,bcl aA 3,bcl aA 4,bcl aA 5⟩ (fun hHeld=>?_)
 clear hK K
 refine no_ (some 88) ?_;refine pu_ 16 6 ?_
 refine done_ (done_of HT_.out (by kernel_rfl)) ?_
 obtain⟨_,_,_,_,_,_,_,_,_,_,_,_⟩:=cl6 aA
 have jM:0≤(2:Int):=(by omega)
 have jN:(2:Int) < ((bB.length:Int):Int):=dcd
 have qi52:(2 < bB.length)=True:=eq_true (by omega)
 obtain⟨go52,eH,iP,iQ,gl52,cl52,HG52⟩:=Kd.R_form bC.out (by omega)
 (first | cases iP | (injection iP with ea_ en_ ec_;(first | subst ea_ | (injection ea_ with ea_;subst ea_));subst ec_;clear en_))
 have GB52:=am iQ
 have GG52:=am HG52
 clear iQ gl52 HG52
 obtain⟨ce52,hcl52,hM52,cP,cQ⟩:=Kd.R_elem bC.out z49 (2:Int) jM jN
 obtain rfl:=k49_openM hM52
 have eT:eG.cell? ⟨go52,(2:Int).toNat * 5,none⟩=some (.int .i64 ((rd_T49 bB 2).f0)):=cP 0 _ rfl
 have eU:eG.cell? ⟨go52,(2:Int).toNat * 5 + 1,none⟩=some (.int .i64 ((rd_T49 bB 2).f1)):=cP 1 _ rfl
 have eV:eG.cell? ⟨go52,(2:Int).toNat * 5 + 2,none⟩=some (.int .i64 ((rd_T49 bB 2).f2)):=cP 2 _ rfl
 have eW:eG.cell? ⟨go52,(2:Int).toNat * 5 + 3,none⟩=some (.string ((rd_T49 bB 2).f3)):=cP 3 _ rfl
 have eX:eG.cell? ⟨go52,(2:Int).toNat * 5 + 4,none⟩=some (.int .i64 ((rd_T49 bB 2).f4)):=cP 4 _ rfl
 have eY:eG.frozen? ⟨go52,(2:Int).toNat * 5,none⟩=false:=cQ 0
 have eZ:eG.frozen? ⟨go52,(2:Int).toNat * 5 + 1,none⟩=false:=cQ 1
 have e5:eG.frozen? ⟨go52,(2:Int).toNat * 5 + 2,none⟩=false:=cQ 2
 have e6:eG.frozen? ⟨go52,(2:Int).toNat * 5 + 3,none⟩=false:=cQ 3
 have e7:eG.frozen? ⟨go52,(2:Int).toNat * 5 + 4,none⟩=false:=cQ 4
 clear hcl52 cP cQ hM52
 (try rw [show ((2:Int)).toNat=2 from rfl] at eT)
 (try simp only [Nat.reduceMul,Nat.zero_mul,Nat.zero_add,Nat.reduceAdd] at eT)
 (try rw [show ((2:Int)).toNat=2 from rfl] at eY)
 (try simp only [Nat.reduceMul,Nat.zero_mul,Nat.zero_add,Nat.reduceAdd] at eY)
 (try rw [show ((2:Int)).toNat=2 from rfl] at eU)
 (try simp only [Nat.reduceMul,Nat.zero_mul,Nat.zero_add,Nat.reduceAdd] at eU)
 (try rw [show ((2:Int)).toNat=2 from rfl] at eZ)
 (try simp only [Nat.reduceMul,Nat.zero_mul,Nat.zero_add,Nat.reduceAdd] at eZ)
 (try rw [show ((2:Int)).toNat=2 from rfl] at eV)
 (try simp only [Nat.reduceMul,Nat.zero_mul,Nat.zero_add,Nat.reduceAdd] at eV)
 (try rw [show ((2:Int)).toNat=2 from rfl] at e5)
 (try simp only [Nat.reduceMul,Nat.zero_mul,Nat.zero_add,Nat.reduceAdd] at e5)
 (try rw [show ((2:Int)).toNat=2 from rfl] at eW)
 (try simp only [Nat.reduceMul,Nat.zero_mul,Nat.zero_add,Nat.reduceAdd] at eW)
 (try rw [show ((2:Int)).toNat=2 from rfl] at e6)
 (try simp only [Nat.reduceMul,Nat.zero_mul,Nat.zero_add,Nat.reduceAdd] at e6)
 (try rw [show ((2:Int)).toNat=2 from rfl] at eX)
 (try simp only [Nat.reduceMul,Nat.zero_mul,Nat.zero_add,Nat.reduceAdd] at eX)
 (try rw [show ((2:Int)).toNat=2 from rfl] at e7)
 (try simp only [Nat.reduceMul,Nat.zero_mul,Nat.zero_add,Nat.reduceAdd] at e7)
 replace jM:=eq_true jM
 replace jN:=eq_true jN
 have HX66:=am (show Kd.R k49 49 eG w.heap.size (fun k_=>some k_≠(.slice fX dB.length fY:Value).ownBlock) (.slice (some ⟨go52,0,none⟩) bB.length eH) bB from (rL bC))
 obtain⟨ce66,hcl66,hM66,e8,gO⟩:=Kd.R_elem HX66.out z49 (2:Int) (by omega) (by have h_:(2:Int) < ((bB.length:Int):Int):=dcd;first | exact h_ | (have e_:=(Kd.R_reads' bC.out).1;omega) | simpa using h_)
 obtain rfl:=k49_openM hM66
 have HP66:=Kd.R_seg HX66.out (2:Int) (by omega) (by have h_:(2:Int) < ((bB.length:Int):Int):=dcd;first | exact h_ | (have e_:=(Kd.R_reads' bC.out).1;omega) | simpa using h_) (seg:=[.int .i64 9]) (j:=4) hcl66 e8 (show 5≤5 from by decide) (x':=(⟨(rd_T49 bB 2).f0,(rd_T49 bB 2).f1,(rd_T49 bB 2).f2,(rd_T49 bB 2).f3,9⟩:S49)) (k49_mkM _ _ _ (⟨(rd_T49 bB 2).f0,(rd_T49 bB 2).f1,(rd_T49 bB 2).f2,(rd_T49 bB 2).f3,9⟩:S49) ) (fun _ hk=>hk)
 have dC:=e8 4 _ rfl
 (try simp only [show (k49).sz=5 from rfl,Nat.mul_one,Nat.add_zero] at dC)
 (try rw [show ((2:Int)).toNat=2 from rfl] at dC)
 (try simp only [Nat.reduceMul,Nat.zero_mul,Nat.zero_add,Nat.reduceAdd] at dC)
 have dD:=gO 4
 (try simp only [show (k49).sz=5 from rfl,Nat.mul_one,Nat.add_zero] at dD)
 (try rw [show ((2:Int)).toNat=2 from rfl] at dD)
 (try simp only [Nat.reduceMul,Nat.zero_mul,Nat.zero_add,Nat.reduceAdd] at dD)
 clear hcl66 e8 gO hM66
 try go_wp2_with (first | ((with_reducible refine gate_store (t:=3) (p:=94) rfl ?_);refine st_ 3 94 (eG.setCell ⟨go52,14,none⟩ (.int .i64 9)) ?_;intro jO hw;have hg:eG.grownBy jO (some go52):=(by rw [hw];exact HP66.2);have hp_:Kd.R k49 49 jO w.heap.size (fun k_=>some k_≠(.slice fX dB.length fY:Value).ownBlock) (.slice (some ⟨go52,0,none⟩) bB.length eH) gV:=(by rw [hw,iL.out];exact HP66.1);clear HP66;replace aM:=am (Kd.R_over' (v:=(.slice (some ⟨go52,0,none⟩) bB.length eH)) (rL aM) (Kd.R_typed bC.out) (by decide) hg);replace aA:=bgr aA hg bC;replace bA:=am (Kd.R_after (v:=(.slice (some ⟨go52,0,none⟩) bB.length eH)) (v1:=(.slice (some ⟨go52,0,none⟩) bB.length eH)) (ok:=(fun _=>True)) (rL bA) hg (.inl rfl));replace bC:=am hp_;replace HB:=am ((by rw [hw];exact below_set (HB.out) GB52.out:Below w.heap.size w jO));clear hg hw hp_;obtain⟨_,_,_,_,_,_,_,_,_,_,_,_⟩:=cl6 aA) | ((with_reducible refine gc 24 rfl ?_);refine gc1 (some 98) Try.func24 rfl (spec_l18Long.calls k5.out) ?_;rintro mH hb;replace aM:=rbe aM hb;replace bA:=rbe bA hb;replace bC:=rbe bC hb;replace aA:=bkb aA hb;replace HB:=bst HB hb;clear hb) | ((with_reducible refine gate_builtin (b:=.append) (xs:=#[.tmp 95,.tmp 99]) rfl ?_);at_builtin;refine Kd.R_append k49 (w0:=w) w.heap.size rfl (.tmp 95) (.tmp 99) 27 49 (.agg #[(.int .i64 0),(.int .i64 0),(.int .i64 0),(.string ⟨#[]⟩),(.int .i64 0)]) 48 rfl Try.underlying27 info49 rfl (by decide) (by omega) (.slice (some ⟨go52,0,none⟩) bB.length eH) gV (⟨fS,fT,fU,fV,fW⟩:S49) [.int .i64 fS,.int .i64 fT,.int .i64 fU,.string fV,.int .i64 fW] (fun k_=>some k_≠(.slice fX dB.length fY:Value).ownBlock) (fun _=>False) rfl rfl ?aP (fun _ hk=>hk.elim) ?aF ?aO ?aB ?aS ?aL ?_;(case aP=>exact k49_mkM _ _ _ (⟨fS,fT,fU,fV,fW⟩:S49));(case aB=>exact (bL HB));(case aF=>exact (fun k_ hk=>Kd.fresh' (Kd.R_lt (rL bA)) k_ hk));(case aO=>exact (rL bC));(case aS=>exact (below_size (bL HB)));(case aL=>have:=iM.out;omega);intro k7 mI ho hb hg hat;rw [← iN.out] at ho;have iR:=am ho;replace aM:=am (Kd.R_over' (rL aM) (Kd.R_typed (rL bC)) (by decide) hg);replace aA:=bgr aA hg bC;replace bA:=am (Kd.R_after (ok:=(fun _=>True)) (rL bA) hg hat);replace HB:=am hb;clear bC;clear ho hb hg hat))
 go_ret
 exact⟨_,fin_ ⟨R_later (Kd.R_mono iR.out (fun _ hk=>trivial)),bL HB⟩⟩
end Go.Proofs.Ytjdapaocdkcgdaa.PFnExactMetaPack
