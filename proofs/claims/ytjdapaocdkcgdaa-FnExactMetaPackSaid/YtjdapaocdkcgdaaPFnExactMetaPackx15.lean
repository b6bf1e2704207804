/- The machine's side of FnExactMetaPack: each Go function, and what its call comes to. No condition. -/
import Derived.Test.YtjdapaocdkcgdaaPFnExactMetaPackx0
import Derived.Test.YtjdapaocdkcgdaaPFnExactMetaPackx13
import Derived.Test.YtjdapaocdkcgdaaPFnExactMetaPackx14
namespace Go.Proofs.Ytjdapaocdkcgdaa.PFnExactMetaPack
open Go.RowKit Go.Proofs.YtjdapaocdkcgdaaW.PrintWords Go.Proofs.YtjdapaocdkcgdaaW.PrintLast Go.Proofs.YtjdapaocdkcgdaaW.PrintMore Go.Proofs.YtjdapaocdkcgdaaW.PrintMore2
attribute [local go_sem] max2_int min2_int max_two min_two max_three min_three max_four min_four
set_option linter.unusedVariables false
set_option linter.unusedSimpArgs false
set_option maxHeartbeats 8000000
set_option maxRecDepth 100000

/-! ### impl_chunkNodes: function 30 -/
theorem impl_chunkNodes.calls {k:Nat}{A0:Option Addr}{c0:Nat}{l0:List (S84)}{cP cJ cS cK b8:Int}{cV:Option Addr}{cW:Nat}{cG:List Int}{r:List (S49)}{w:World}(hr0:Kd.C k84 w A0 l0.length l0)(nM:l0.length≤c0)(hr1_5:Kd.C (Kd.int .i64) w cV cG.length cG)(hD:cG.length≤cW)(h:impl_chunkNodes.f k l0 cP cJ cS cK b8 cG=some r) :
  Calls Try.prog 30 #[.slice A0 l0.length c0,.agg #[.int .i64 cP,.int .i64 cJ,.int .i64 cS,.int .i64 cK,.int .i64 b8,.slice cV cG.length cW]] w fun e w'=>∃ nN:Value,e=.returned (nN)∧Kd.R k49 49 w' w.heap.size (fun _=>True) nN r∧Below w.heap.size w w':=by
 have hu58:=Try.underlying58
 have hu92:=Try.underlying92
 have nO:=am hr0
 have nP:=am nM
 clear hr0 nM
 have jV:=am hr1_5
 have nQ:=am hD
 clear hr1_5 hD
 have HB:=am (Below.refl w.heap.size w)
 have H:=h;clear h;unfold impl_chunkNodes.f at H
 generalize hJ:((([]:List (List (S49)))):List (List (S49)))=mP at H;have hU:=am hJ.symm;clear hJ
 have H':=am H;clear H
 go_enter Try.func30,Try.ntmps30
 go_wp2_with (first | ((with_reducible refine gd 3 rfl ?_);refine bxw 3 rfl #[.int .i64 cP,.int .i64 cJ,.int .i64 cS,.int .i64 cK,.int .i64 b8,.slice cV cG.length cW] 58 HB ?_;clear HB;intro aK w3 aA nR nS HB) | ((with_reducible refine gd 14 rfl ?_);refine Kd.N_lit (Kd.slice 49 k49) _ 27 ?hg (N':=14) ?hd (xs:=([]:List (List (S49)))) (inner:=[]) (ok:=(fun k_=>k_≠aK)) (okp:=(fun k_=>k_≠aK)) ?hr ?hp (fun _ hk=>hk) ((show ∀ k_,w3.heap.size≤k_→(fun k_=>k_≠aK) k_ from fun k_ hk=>Kd.freshB (blk_later aA.out) k_ hk) _ (Nat.le_refl _)) (Below.refl _ _) (Nat.le_refl _) (by simp) ?_;(case hd=>rfl);(case hg=>rfl);(case hr=>first | (go_simp;done) | (go_simp;rfl));(case hp=>exact (Reps.none _ _));intro n8 w4 jW hb hg_ hnew_;clear hg_ hnew_;(first | rw [← hU.out] at jW | (simp only [Int.reduceToNat] at jW;rw [← hU.out] at jW));have jX:=am (Kd.N_lower jW (below_size (bL HB)));replace aA:=bkb aA hb;replace HB:=bst HB hb;clear hb jW;obtain⟨eD,eE,eF,eG,eH,eI,eJ,eK,eL,eM,eN,eO⟩:=cl6 aA))
 go_loopg [5,18] k (fun kq v5 v18 w'=>∃ (bV:List (List (S49))) (cQ:Int),v18=.int .i64 cQ∧Aside0 (impl_chunkNodes.l0 kq l0 bV cG (cG.length:Int) cQ cP cJ cS cK b8 cG=some r)∧Aside0 (kq≤k)∧Aside0 (Kd.N (Kd.slice 49 k49) 27 w' w.heap.size (fun k_=>k_≠aK) v5 bV)∧Aside0 (w'.heap[aK]?=some (.cells #[.int .i64 cP,.int .i64 cJ,.int .i64 cS,.int .i64 cK,.int .i64 b8,(.slice cV cG.length cW)] 58 (0,0)))∧Aside0 (Below w.heap.size w w'))
 case atStart=>exact⟨(mP),(0),sr,H',⟨Nat.le_refl _⟩,⟨nL jX⟩,⟨kL aA⟩,⟨bL HB⟩⟩
 clear H'
 try clear eD eE eF eG eH eI eJ eK eL eM eN eO
 obtain⟨bV,cQ,rfl,HA,mI,aE,aA,HB⟩:=hrel
 cases gk with
 | zero=>exact absurd HA.out (by simp [impl_chunkNodes.l0])
 | succ k1=>?_
 have H:=HA.out
 clear HA
 simp only [impl_chunkNodes.l0] at H
 replace H:=idc H;obtain⟨jY,H⟩ | ⟨jY,H⟩:=H
 · by_cases c8:0≤cQ
   rotate_left
   · rw [if_neg c8] at H
     exact absurd H (by simp)
   rw [if_pos c8] at H
   have n9:=decide_eq_true c8
   clear c8
   by_cases c9:cQ < (cG.length:Int)
   rotate_left
   · rw [if_neg c9] at H
     exact absurd H (by simp)
   rw [if_pos c9] at H
   have oA:=decide_eq_true c9
   clear c9
   replace H:=bnd5 H;obtain⟨jZ,j4,j5,j6,j7,oB,H⟩:=H;dsimp only at H
   generalize hV:((([(⟨jZ,j4,j5,j6,j7⟩:S49)]:List (S49))):List (S49))=jH at H;have j8:=am hV.symm;clear hV
   by_cases mJ:bV.length < 5864062014805
   rotate_left
   · rw [if_neg mJ] at H
     exact absurd H (by simp)
   rw [if_pos mJ] at H
   have j9:=am mJ
   clear mJ
   generalize hX:((bV ++ [jH]):List (List (S49)))=mQ at H;have kA:=am hX.symm;clear hX
   have H':=am H;clear H
   have jI:0≤(cQ:Int):=dcd
   have jJ:cQ < (cG.length:Int):=dcd
   obtain⟨nT,mR,dV⟩:=Kd.at_int jV.out cQ jI jJ
   cases mR
   replace dV:=crd HB dV
   replace jI:=eq_true jI
   replace jJ:=eq_true jJ
   go_wp2_with (first | ((with_reducible refine gc 34 rfl ?_);refine gc1 (some 24) Try.func34 rfl (impl_intNode.calls oB.out) ?_;rintro pS hb;replace aE:=nbe aE hb;replace aA:=bkb aA hb;replace HB:=bst HB hb;clear hb) | ((with_reducible refine gd 25 rfl ?_);refine rl5 k49 49 25 ⟨jZ,j4,j5,j6,j7⟩ j8 (k49_mkM _ _ _ _) rfl ?_;intro oC pT jK hb;have dW:=rlb jK HB;replace aE:=am (Kd.N_elder' (nL aE) (Kd.R_base jK) hb);replace aA:=bkb aA hb;replace HB:=bst HB hb;clear hb jK;obtain⟨mS,mT,mU⟩:=Kd.R_slice dW.out;subst mU) | ((with_reducible refine gate_builtin (b:=.append) (xs:=#[.tmp 22,.tmp 26]) rfl ?_);at_builtin;refine Kd.N_append (Kd.slice 49 k49) (w0:=w) w.heap.size rfl (.tmp 22) (.tmp 26) 62 27 (.slice none 0 0) 24 rfl Try.underlying62 info27 rfl (by decide) (by omega) u5 bV jH [.slice mS jH.length mT] (fun k_=>k_≠aK) (fun k_=>((fun k_=>k_≠aK)) k_∧some k_≠(u5:Value).ownBlock) rfl rfl ?aP (fun _ hk=>hk) ?aF ?aO ?aB ?aS ?aL ?_;(case aP=>exact (Kd.FK_slice_mk (Kd.R_reads' (Kd.R_mono (ok':=(fun k_=>((fun k_=>k_≠aK)) k_∧some k_≠(u5:Value).ownBlock)) (Kd.R_types (Kd.R_apart' (dW.out) (Kd.N_typed aE.out) (by decide)) aA.out (by decide)) (fun k_ hk=>⟨hk.2,hk.1.2⟩))).2.1 (Kd.R_F (Kd.R_mono (ok':=(fun k_=>((fun k_=>k_≠aK)) k_∧some k_≠(u5:Value).ownBlock)) (Kd.R_types (Kd.R_apart' (dW.out) (Kd.N_typed aE.out) (by decide)) aA.out (by decide)) (fun k_ hk=>⟨hk.2,hk.1.2⟩)))));(case aB=>exact (bL HB));(case aF=>exact (fun k_ hk=>Kd.freshB (blk_later aA.out) k_ hk));(case aO=>exact (N_later (Kd.N_mono aE.out (fun _ hk=>hk.1))));(case aS=>exact (below_size (bL HB)));(case aL=>have:=j9.out;omega);intro oD pU ho hb hg hat;rw [← kA.out] at ho;have kC:=am ho;replace aA:=am (blk_grown (blk_later aA.out) hg (Kd.N_ne aE.out aA.out (by decide)));replace HB:=am hb;clear aE dW;clear ho hb hg hat))
   go_roundg k1
   case measure=>have:=mI.out;omega
   case rel=>exact⟨(mQ),(wrap64 (cQ + 1)),sr,H',⟨by have:=mI.out;omega⟩,⟨nL kC⟩,⟨kL aA⟩,⟨bL HB⟩⟩
 generalize hY:((([]:List (List (S49)))):List (List (S49)))=mV at H;have hZ:=am hY.symm;clear hY
 replace H:=bnd H;obtain⟨bN,oE,H⟩:=H
 have H':=am H;clear H
 go_wp2_with (first | ((with_reducible refine gd 29 rfl ?_);refine Kd.N_lit (Kd.slice 49 k49) _ 27 ?hg (N':=29) ?hd (xs:=([]:List (List (S49)))) (inner:=[]) (ok:=(fun k_=>some k_≠(u5:Value).ownBlock∧k_≠aK)) (okp:=(fun k_=>some k_≠(u5:Value).ownBlock∧k_≠aK)) ?hr ?hp (fun _ hk=>hk) ((show ∀ k_,wr.heap.size≤k_→(fun k_=>some k_≠(u5:Value).ownBlock∧k_≠aK) k_ from fun k_ hk=>⟨Kd.fresh' (Kd.N_lt (nL aE)) k_ hk,Kd.freshB (blk_later aA.out) k_ hk⟩) _ (Nat.le_refl _)) (Below.refl _ _) (Nat.le_refl _) (by simp) ?_;(case hd=>rfl);(case hg=>rfl);(case hr=>first | (go_simp;done) | (go_simp;rfl));(case hp=>exact (Reps.none _ _));intro oF pV d6 hb hg_ hnew_;clear hg_ hnew_;(first | rw [← hZ.out] at d6 | (simp only [Int.reduceToNat] at d6;rw [← hZ.out] at d6));have eP:=am (Kd.N_lower d6 (below_size (bL HB)));replace aE:=am (Kd.N_elder' (nL aE) (Kd.N_base d6) hb);replace aA:=bkb aA hb;replace HB:=bst HB hb;clear hb d6;obtain⟨gN,gO,gP,gQ,gR,gS,gT,gU,gV,gW,gX,gY⟩:=cl6 aA) | ((with_reducible refine gc 60 rfl ?_);refine gl_ (some 33) Try.func60 #[.slice A0 l0.length c0,.int .i64 cP] rfl ?_;(with_reducible refine (impl_LeafPath.calls ?side1 ?side2 oE.out).mono ?_);(case side1=>exact cL nO HB);(case side2=>exact nP.out);rintro e pW ⟨oG,rfl,cN,hb⟩;refine⟨_,rfl,?_⟩;have iA:=rlb cN HB;replace aE:=am (Kd.N_elder' (nL aE) (Kd.R_base cN) hb);replace eP:=am (Kd.N_elder' (nL eP) (Kd.R_base cN) hb);replace aA:=bkb aA hb;replace HB:=bst HB hb;clear hb cN;obtain⟨bZ,bW,mW⟩:=Kd.R_slice iA.out;subst mW))
 go_loopg [8,35] k1 (fun kq v8 v35 w'=>∃ (bX:List (List (S49))) (cR:Int),v35=.int .i64 cR∧Aside0 (impl_chunkNodes.l1 kq l0 bV bX bN (bN.length:Int) cR cP cJ cS cK b8 cG=some r)∧Aside0 (kq≤k1)∧Aside0 (Kd.N (Kd.slice 49 k49) 27 w' w.heap.size (fun k_=>some k_≠(v8:Value).ownBlock∧some k_≠((.slice bZ bN.length bW):Value).ownBlock∧k_≠aK) u5 bV)∧Aside0 (Kd.N (Kd.slice 49 k49) 27 w' w.heap.size (fun k_=>some k_≠(u5:Value).ownBlock∧some k_≠((.slice bZ bN.length bW):Value).ownBlock∧k_≠aK) v8 bX)∧Aside0 (Kd.R Kd.string 9 w' w.heap.size (fun _=>True) (.slice bZ bN.length bW) bN)∧Aside0 (w'.heap[aK]?=some (.cells #[.int .i64 cP,.int .i64 cJ,.int .i64 cS,.int .i64 cK,.int .i64 b8,(.slice cV cG.length cW)] 58 (0,0)))∧Aside0 (Below w.heap.size w w'))
 case atStart=>exact⟨(mV),(0),sr,H',⟨Nat.le_refl _⟩,⟨N_later (Kd.N_mono aE.out (fun _ hk=>⟨hk.1.2,⟨hk.2,hk.1.1⟩⟩))⟩,⟨N_later (Kd.N_mono eP.out (fun _ hk=>⟨hk.1.1,⟨hk.2,hk.1.2⟩⟩))⟩,⟨rL iA⟩,⟨kL aA⟩,⟨bL HB⟩⟩
 clear H'
 try clear c7 jY gN gO gP gQ gR gS eD eE eF eG eH eI gT gU gV gW gX gY eJ eK eL eM eN eO
 obtain⟨bX,cR,rfl,HA,nU,aE,aJ,aD,aA,HB⟩:=hrel
 cases gk with
 | zero=>exact absurd HA.out (by simp [impl_chunkNodes.l1])
 | succ k2=>?_
 have H:=HA.out
 clear HA
 simp only [impl_chunkNodes.l1] at H
 replace H:=idc H;obtain⟨kD,H⟩ | ⟨kD,H⟩:=H
 · by_cases mK:0≤cR
   rotate_left
   · rw [if_neg mK] at H
     exact absurd H (by simp)
   rw [if_pos mK] at H
   have nV:=decide_eq_true mK
   clear mK
   by_cases mL:cR < (bN.length:Int)
   rotate_left
   · rw [if_neg mL] at H
     exact absurd H (by simp)
   rw [if_pos mL] at H
   have nW:=decide_eq_true mL
   clear mL
   replace H:=bnd5 H;obtain⟨kE,kF,kG,kH,kJ,oH,H⟩:=H;dsimp only at H
   generalize iB:((([(⟨kE,kF,kG,kH,kJ⟩:S49)]:List (S49))):List (S49))=gZ at H;have kM:=am iB.symm;clear iB
   by_cases mM:bX.length < 5864062014805
   rotate_left
   · rw [if_neg mM] at H
     exact absurd H (by simp)
   rw [if_pos mM] at H
   have kN:=am mM
   clear mM
   generalize iC:((bX ++ [gZ]):List (List (S49)))=mX at H;have kO:=am iC.symm;clear iC
   have H':=am H;clear H
   have jL:0≤(cR:Int):=dcd
   have jM:cR < (bN.length:Int):=dcd
   obtain⟨dP,mY,mN⟩:=Kd.at_string (Kd.R_reads' aD.out).2.2 cR jL jM
   cases mY
   replace jL:=eq_true jL
   replace jM:=eq_true jM
   go_wp2_with (first | ((with_reducible refine gc 61 rfl ?_);refine gc1 (some 41) Try.func61 rfl (impl_textNode.calls oH.out) ?_;rintro pX hb;replace aE:=nbe aE hb;replace aJ:=nbe aJ hb;replace aD:=rbe aD hb;replace aA:=bkb aA hb;replace HB:=bst HB hb;clear hb) | ((with_reducible refine gd 42 rfl ?_);refine rl5 k49 49 42 ⟨kE,kF,kG,kH,kJ⟩ kM (k49_mkM _ _ _ _) rfl ?_;intro oI pY g2 hb;have dX:=rlb g2 HB;replace aE:=am (Kd.N_elder' (nL aE) (Kd.R_base g2) hb);replace aJ:=am (Kd.N_elder' (nL aJ) (Kd.R_base g2) hb);replace aD:=rbe aD hb;replace aA:=bkb aA hb;replace HB:=bst HB hb;clear hb g2;obtain⟨kP,kQ,mZ⟩:=Kd.R_slice dX.out;subst mZ) | ((with_reducible refine gate_builtin (b:=.append) (xs:=#[.tmp 39,.tmp 43]) rfl ?_);at_builtin;refine Kd.N_append (Kd.slice 49 k49) (w0:=w) w.heap.size rfl (.tmp 39) (.tmp 43) 62 27 (.slice none 0 0) 24 rfl Try.underlying62 info27 rfl (by decide) (by omega) u8 bX gZ [.slice kP gZ.length kQ] (fun k_=>some k_≠(u5:Value).ownBlock∧some k_≠(.slice (some dP) bN.length bW:Value).ownBlock∧k_≠aK) (fun k_=>((fun k_=>some k_≠(u5:Value).ownBlock∧some k_≠(.slice (some dP) bN.length bW:Value).ownBlock∧k_≠aK)) k_∧some k_≠(u8:Value).ownBlock) rfl rfl ?aP (fun _ hk=>hk) ?aF ?aO ?aB ?aS ?aL ?_;(case aP=>exact (Kd.FK_slice_mk (Kd.R_reads' (Kd.R_mono (ok':=(fun k_=>((fun k_=>some k_≠(u5:Value).ownBlock∧some k_≠(.slice (some dP) bN.length bW:Value).ownBlock∧k_≠aK)) k_∧some k_≠(u8:Value).ownBlock)) (Kd.R_types (Kd.R_apart' (Kd.R_apart' (Kd.R_apart' (dX.out) (Kd.N_typed aE.out) (by decide)) (Kd.R_typed aD.out) (by decide)) (Kd.N_typed aJ.out) (by decide)) aA.out (by decide)) (fun k_ hk=>⟨⟨hk.1.1.1.2,⟨hk.1.1.2,hk.2⟩⟩,hk.1.2⟩))).2.1 (Kd.R_F (Kd.R_mono (ok':=(fun k_=>((fun k_=>some k_≠(u5:Value).ownBlock∧some k_≠(.slice (some dP) bN.length bW:Value).ownBlock∧k_≠aK)) k_∧some k_≠(u8:Value).ownBlock)) (Kd.R_types (Kd.R_apart' (Kd.R_apart' (Kd.R_apart' (dX.out) (Kd.N_typed aE.out) (by decide)) (Kd.R_typed aD.out) (by decide)) (Kd.N_typed aJ.out) (by decide)) aA.out (by decide)) (fun k_ hk=>⟨⟨hk.1.1.1.2,⟨hk.1.1.2,hk.2⟩⟩,hk.1.2⟩)))));(case aB=>exact (bL HB));(case aF=>exact (fun k_ hk=>⟨Kd.fresh' (Kd.N_lt (nL aE)) k_ hk,Kd.fresh' (Kd.R_lt (rL aD)) k_ hk,Kd.freshB (blk_later aA.out) k_ hk⟩));(case aO=>exact (N_later (Kd.N_mono aJ.out (fun _ hk=>⟨hk.1.1,⟨hk.1.2.1,hk.1.2.2⟩⟩))));(case aS=>exact (below_size (bL HB)));(case aL=>have:=kN.out;omega);intro oJ pZ ho hb hg hat;rw [← kO.out] at ho;have kR:=am ho;replace aE:=am (Kd.N_afterv (ok:=(fun k_=>some k_≠(.slice (some dP) bN.length bW:Value).ownBlock∧some k_≠(.slice kP gZ.length kQ:Value).ownBlock∧k_≠aK)) (N_later (Kd.N_mono aE.out (fun _ hk=>⟨⟨hk.1.2.1,⟨hk.2,hk.1.2.2⟩⟩,hk.1.1⟩))) hg hat);replace aD:=am (Kd.R_over' (rL aD) (Kd.N_typed (nL aJ)) (by decide) hg);replace aA:=am (blk_grown (blk_later aA.out) hg (Kd.N_ne aJ.out aA.out (by decide)));replace HB:=am hb;clear aJ dX;clear ho hb hg hat))
   go_roundg k2
   case measure=>have:=mI.out;have:=nU.out;omega
   case rel=>exact⟨(mX),(wrap64 (cR + 1)),sr,H',⟨by have:=mI.out;have:=nU.out;omega⟩,⟨N_later (Kd.N_mono aE.out (fun _ hk=>⟨hk.2,⟨hk.1.1,hk.1.2.2⟩⟩))⟩,⟨nL kR⟩,⟨rL aD⟩,⟨kL aA⟩,⟨bL HB⟩⟩
 replace H:=bnd4 H;obtain⟨cM,cT,cU,oK,oL,H⟩:=H;dsimp only at H
 replace H:=bnd5 H;obtain⟨eQ,eR,eS,eT,eU,oM,H⟩:=H;dsimp only at H
 generalize iD:((([(⟨eQ,eR,eS,eT,eU⟩:S49)]:List (S49))):List (S49))=cX at H;have kS:=am iD.symm;clear iD
 replace H:=bnd H;obtain⟨d7,oN,H⟩:=H
 replace H:=bnd H;obtain⟨d8,oO,H⟩:=H
 replace H:=bnd5 H;obtain⟨eV,eW,eX,eY,eZ,oP,H⟩:=H;dsimp only at H
 generalize iE:((([(⟨eV,eW,eX,eY,eZ⟩:S49)]:List (S49))):List (S49))=dB at H;have kT:=am iE.symm;clear iE
 replace H:=bnd5 H;obtain⟨e5,e6,e7,e8,e9,oQ,H⟩:=H;dsimp only at H
 generalize iF:((([(⟨e5,e6,e7,e8,e9⟩:S49)]:List (S49))):List (S49))=dO at H;have kU:=am iF.symm;clear iF
 replace H:=bnd5 H;obtain⟨fA,fB,fC,fD,fE,oR,H⟩:=H;dsimp only at H
 generalize iG:((([(⟨fA,fB,fC,fD,fE⟩:S49)]:List (S49))):List (S49))=dQ at H;have kV:=am iG.symm;clear iG
 replace H:=bnd5 H;obtain⟨fF,fG,fH,fI,fJ,oS,H⟩:=H;dsimp only at H
 generalize iH:((([(⟨fF,fG,fH,fI,fJ⟩:S49)]:List (S49))):List (S49))=dT at H;have kW:=am iH.symm;clear iH
 replace H:=bnd5 H;obtain⟨fK,fL,fM,fN,fO,oT,H⟩:=H;dsimp only at H
 generalize iI:((([(⟨fK,fL,fM,fN,fO⟩:S49)]:List (S49))):List (S49))=d9 at H;have kX:=am iI.symm;clear iI
 replace H:=bsm H;obtain⟨fP,iJ,H⟩:=H
 have HS:=am H
 clear H
 obtain⟨_,_,_,_,_,_,_,_,_,_,_,_⟩:=cl6 aA
 try go_wp2_with (first | ((with_reducible refine gc 62 rfl ?_);refine gl_ (some 50) Try.func62 #[.slice A0 l0.length c0,.int .i64 cP] rfl ?_;(with_reducible refine (impl_LeafOf.calls ?side1 ?side2 oL.out).mono ?_);(case side1=>exact cL nO HB);(case side2=>exact nP.out);rintro e oU ⟨rfl,hb⟩;refine⟨_,rfl,?_⟩;replace aE:=nbe aE hb;replace aJ:=nbe aJ hb;replace aD:=rbe aD hb;replace aA:=bkb aA hb;replace HB:=bst HB hb;clear hb) | ((with_reducible refine gd 11 rfl ?_);refine bxv 11 rfl #[.int .i64 0,.int .i64 0,.int .i64 0] 92 HB ?_;clear HB;intro aV dU aC nX nY HB hg hb;obtain⟨jU,eA⟩:=nbp (nbl aA hg);replace aE:=am (Kd.N_below (Kd.N_elderB (nL aE) aV (Nat.le_of_eq hg.symm)) hb);replace aJ:=am (Kd.N_below (Kd.N_elderB (nL aJ) aV (Nat.le_of_eq hg.symm)) hb);replace aD:=rbe aD hb;replace aA:=bkb aA hb;clear hg hb;obtain⟨m0,m3⟩:=nbo eA;obtain⟨_,_,_,_,_,_⟩:=cl3 aC;obtain⟨bP,bQ,kY⟩:=Kd.N_slice aE.out;subst kY;obtain⟨bR,bS,kZ⟩:=Kd.N_slice aJ.out;subst kZ))
 have cA:Aside0 (Kd.N (Kd.slice 49 k49) 27 (((dU.setCell ⟨aV,0,none⟩ (.int .i64 cM)).setCell ⟨aV,1,none⟩ (.int .i64 cT)).setCell ⟨aV,2,none⟩ (.int .i64 cU)) w.heap.size (fun k_=>some k_≠(.slice bR bX.length bS:Value).ownBlock∧some k_≠(.slice bZ bN.length bW:Value).ownBlock∧k_≠aK∧k_≠aV) (.slice bP bV.length bQ) bV):=⟨N_later (Kd.N_mono (Kd.N_far (p:=⟨aV,2,none⟩) (Kd.N_far (p:=⟨aV,1,none⟩) (Kd.N_far (p:=⟨aV,0,none⟩) (Kd.N_mono aE.out (fun k_ hk=>(⟨hk,hk.2⟩:_∧k_≠aV))) (fun _ hk=>hk.2) (.int .i64 cM)) (fun _ hk=>hk.2) (.int .i64 cT)) (fun _ hk=>hk.2) (.int .i64 cU)) (fun _ hk=>⟨hk.1.1.1,⟨hk.1.1.2.1,⟨hk.1.1.2.2,hk.1.2⟩⟩⟩))⟩
 have cB:Aside0 (Kd.N (Kd.slice 49 k49) 27 (((dU.setCell ⟨aV,0,none⟩ (.int .i64 cM)).setCell ⟨aV,1,none⟩ (.int .i64 cT)).setCell ⟨aV,2,none⟩ (.int .i64 cU)) w.heap.size (fun k_=>some k_≠(.slice bP bV.length bQ:Value).ownBlock∧some k_≠(.slice bZ bN.length bW:Value).ownBlock∧k_≠aK∧k_≠aV) (.slice bR bX.length bS) bX):=⟨N_later (Kd.N_mono (Kd.N_far (p:=⟨aV,2,none⟩) (Kd.N_far (p:=⟨aV,1,none⟩) (Kd.N_far (p:=⟨aV,0,none⟩) (Kd.N_mono aJ.out (fun k_ hk=>(⟨hk,hk.2⟩:_∧k_≠aV))) (fun _ hk=>hk.2) (.int .i64 cM)) (fun _ hk=>hk.2) (.int .i64 cT)) (fun _ hk=>hk.2) (.int .i64 cU)) (fun _ hk=>⟨hk.1.1.1,⟨hk.1.1.2.1,⟨hk.1.1.2.2,hk.1.2⟩⟩⟩))⟩
 have cC:Aside0 (Kd.R Kd.string 9 (((dU.setCell ⟨aV,0,none⟩ (.int .i64 cM)).setCell ⟨aV,1,none⟩ (.int .i64 cT)).setCell ⟨aV,2,none⟩ (.int .i64 cU)) w.heap.size (fun _=>True) (.slice bZ bN.length bW) bN):=⟨R_later (Kd.R_mono (Kd.R_far (p:=⟨aV,2,none⟩) (Kd.R_far (p:=⟨aV,1,none⟩) (Kd.R_far (p:=⟨aV,0,none⟩) (Kd.R_types aD.out aC.out (by decide)) (fun _ hk=>hk.2) (.int .i64 cM)) (fun _ hk=>hk.2) (.int .i64 cT)) (fun _ hk=>hk.2) (.int .i64 cU)) (fun _ hk=>trivial))⟩
 have cD:Aside0 ((((dU.setCell ⟨aV,0,none⟩ (.int .i64 cM)).setCell ⟨aV,1,none⟩ (.int .i64 cT)).setCell ⟨aV,2,none⟩ (.int .i64 cU)).heap[aK]?=some (.cells #[.int .i64 cP,.int .i64 cJ,.int .i64 cS,.int .i64 cK,.int .i64 b8,.slice cV cG.length cW] 58 (0,0))):=⟨blk_later aA.out⟩
 have cE:Aside0 ((((dU.setCell ⟨aV,0,none⟩ (.int .i64 cM)).setCell ⟨aV,1,none⟩ (.int .i64 cT)).setCell ⟨aV,2,none⟩ (.int .i64 cU)).heap[aV]?=some (.cells #[.int .i64 cM,.int .i64 cT,.int .i64 cU] 92 (0,0))):=⟨blk_later aC.out⟩
 have cF:Aside0 (Below w.heap.size w (((dU.setCell ⟨aV,0,none⟩ (.int .i64 cM)).setCell ⟨aV,1,none⟩ (.int .i64 cT)).setCell ⟨aV,2,none⟩ (.int .i64 cU))):=⟨bL HB⟩
 (try clear aE)
 (try clear aJ)
 (try clear aD)
 (try clear aA)
 (try clear aC)
 (try clear HB)
 generalize (((dU.setCell ⟨aV,0,none⟩ (.int .i64 cM)).setCell ⟨aV,1,none⟩ (.int .i64 cT)).setCell ⟨aV,2,none⟩ (.int .i64 cU))=m4 at cA cB cC cD cE cF ⊢
 have aE:=cA
 have aJ:=cB
 have aD:=cC
 have aA:=cD
 have aC:=cE
 have HB:=cF
 clear cA cB cC cD cE cF
 replace aE:=am (Kd.N_drew aE.out)
 replace aJ:=am (Kd.N_drew aJ.out)
 replace aD:=rdr aD
 replace aA:=bdr aA
 replace aC:=bdr aC
 replace HB:=bld HB
 replace aE:=am (Kd.N_mono (ok':=(fun k_=>some k_≠(.slice bZ bN.length bW:Value).ownBlock∧some k_≠(.slice bR bX.length bS:Value).ownBlock∧k_≠aK∧k_≠aV)) aE.out (fun _ hk=>⟨hk.2.1,hk.1,hk.2.2⟩))
 replace aJ:=am (Kd.N_mono (ok':=(fun k_=>some k_≠(.slice bZ bN.length bW:Value).ownBlock∧some k_≠(.slice bP bV.length bQ:Value).ownBlock∧k_≠aK∧k_≠aV)) aJ.out (fun _ hk=>⟨hk.2.1,hk.1,hk.2.2⟩))
 refine start_ (n:=28) (S:=fun w'=>True) (ds:=[]) #[false,false,false,false,false,false,false,false,false,false,false,false,false,false,false,false,false,false,false,false,false,false,false,false,false,false,false,false] (by kernel_rfl) rfl rfl trivial (fun hHeld=>?_);refine with_tabW impl_chunkNodes.tab14 impl_chunkNodes.bits14 (fun HT_ HW_=>?_)
 generalize m4.drew=oV at aE aJ aD aA aC HB hHeld ⊢
 refine pu_ 0 53 ?_;refine pu_ 4 57 ?_;refine pu_ 6 59 ?_;refine pu_ 10 63 ?_;refine pu_ 14 67 ?_;refine pu_ 18 71 ?_;refine pu_ 22 75 ?_
 refine inv_at [1,2,3,5,7,8,9,11,12,13,15,16,17,19,20,21,23,24,25,26,27] (fun oW b a w'=>∃ (bC:Value) (bH:Value) (bI:Value) (bD:Value) (bE:Value) (bF:Value) (bG:Value) (bJ:Value) (bB:Value) (m27_:Value),a=putSel oW b [(1,54,.int .i64 cM),(2,55,.agg #[.int .i64 eQ,.int .i64 eR,.int .i64 eS,.string eT,.int .i64 eU]),(3,56,bC),(5,58,bH),(7,60,bI),(8,61,.agg #[.int .i64 eV,.int .i64 eW,.int .i64 eX,.string eY,.int .i64 eZ]),(9,62,bD),(11,64,.int .i64 cK),(12,65,.agg #[.int .i64 e5,.int .i64 e6,.int .i64 e7,.string e8,.int .i64 e9]),(13,66,bE),(15,68,.int .i64 b8),(16,69,.agg #[.int .i64 fA,.int .i64 fB,.int .i64 fC,.string fD,.int .i64 fE]),(17,70,bF),(19,72,.int .i64 b8),(20,73,.agg #[.int .i64 fF,.int .i64 fG,.int .i64 fH,.string fI,.int .i64 fJ]),(21,74,bG),(23,76,.int .i64 cJ),(24,77,.agg #[.int .i64 fK,.int .i64 fL,.int .i64 fM,.string fN,.int .i64 fO]),(25,78,bJ),(26,79,bB),(27,13,m27_)]∧(Kd.R Kd.string 9 w' w.heap.size (fun _=>True) (.slice bZ bN.length bW) bN)∧(Kd.N (Kd.slice 49 k49) 27 w' w.heap.size (fun k_=>some k_≠(.slice bZ bN.length bW:Value).ownBlock∧some k_≠(.slice bR bX.length bS:Value).ownBlock∧k_≠aK∧k_≠aV) (.slice bP bV.length bQ) bV)∧(Kd.N (Kd.slice 49 k49) 27 w' w.heap.size (fun k_=>some k_≠(.slice bZ bN.length bW:Value).ownBlock∧some k_≠(.slice bP bV.length bQ:Value).ownBlock∧k_≠aK∧k_≠aV) (.slice bR bX.length bS) bX)∧(w'.heap[aK]?=some (.cells #[.int .i64 cP,.int .i64 cJ,.int .i64 cS,.int .i64 cK,.int .i64 b8,.slice cV cG.length cW] 58 (0,0)))∧(w'.heap[aV]?=some (.cells #[.int .i64 cM,.int .i64 cT,.int .i64 cU] 92 (0,0)))∧(Below w.heap.size w w')∧(b 3=true→b 26=false→Kd.R k49 49 w' w.heap.size (fun _=>True) bC cX)∧(b 5=true→b 26=false→Kd.R k49 49 w' w.heap.size (fun _=>True) bH d7)∧(b 7=true→b 26=false→Kd.R k49 49 w' w.heap.size (fun _=>True) bI d8)∧(b 9=true→b 26=false→Kd.R k49 49 w' w.heap.size (fun _=>True) bD dB)∧(b 13=true→b 26=false→Kd.R k49 49 w' w.heap.size (fun _=>True) bE dO)∧(b 17=true→b 26=false→Kd.R k49 49 w' w.heap.size (fun _=>True) bF dQ)∧(b 21=true→b 26=false→Kd.R k49 49 w' w.heap.size (fun _=>True) bG dT)∧(b 25=true→b 26=false→Kd.R k49 49 w' w.heap.size (fun _=>True) bJ d9)∧(b 26=true→Kd.N (Kd.slice 49 k49) 27 w' w.heap.size (fun k_=>some k_≠(.slice bZ bN.length bW:Value).ownBlock∧some k_≠(.slice bP bV.length bQ:Value).ownBlock∧some k_≠(.slice bR bX.length bS:Value).ownBlock∧k_≠aK∧k_≠aV) bB fP)∧(b 27=true→(m27_:Value)=bB)) HT_.out HW_.out (by kernel_rfl) (by kernel_rfl) ?_ ?_ ?_
 · exact⟨.bool false,.bool false,.bool false,.bool false,.bool false,.bool false,.bool false,.bool false,.bool false,.bool false,by simp only [putSel,Bool.false_eq_true,if_false],aD.out,aE.out,aJ.out,aA.out,aC.out,HB.out,fun h_=>absurd h_ (by decide),fun h_=>absurd h_ (by decide),fun h_=>absurd h_ (by decide),fun h_=>absurd h_ (by decide),fun h_=>absurd h_ (by decide),fun h_=>absurd h_ (by decide),fun h_=>absurd h_ (by decide),fun h_=>absurd h_ (by decide),fun h_=>absurd h_ (by decide),fun h_=>absurd h_ (by decide)⟩
 · skip
   clear aA aC HB aD aE aJ
   refine steps_cons ?_ ?_
   · rintro b a w' ⟨bC,bH,bI,bD,bE,bF,bG,bJ,bB,m27_,ha,aG,aQ,aT,aH,aI,Q_HB,aM,aW,aX,aN,aY,a6,a7,a8,a9,bK⟩ hb_ hon hoff
     refine⟨_,rfl,fun K hK=>?_⟩
     have p0:a.tmps[53]?=some (.pointer (some ⟨aV,0,none⟩)):=by rw [ha];exact (putSel_off rfl).trans rfl
     replace ha:=am ha
     have aD:=am aG
     have aE:=am aQ
     have aJ:=am aT
     have aA:=am aH
     have aC:=am aI
     have HB:=am Q_HB
     have g3:w'.cell? ⟨aV,0,none⟩=some (.int .i64 cM):=bcl aC 0
     have g4:w'.cell? ⟨aV,1,none⟩=some (.int .i64 cT):=bcl aC 1
     have g6:w'.cell? ⟨aV,2,none⟩=some (.int .i64 cU):=bcl aC 2
     refine value_ (w1:=w') (v:=.int .i64 cM) (by rfl) rfl ?_ ?_
     · go_simp
       (try simp only [i64_w])
       try rfl
     refine hK.out _ _ ⟨bC,bH,bI,bD,bE,bF,bG,bJ,bB,m27_,(by rw [ha.out];exact putSel_upk 0 hb_ rfl rfl rfl),aG,aQ,aT,aH,aI,Q_HB,z2 (hoff 3 (by kernel_rfl)),z2 (hoff 5 (by kernel_rfl)),z2 (hoff 7 (by kernel_rfl)),z2 (hoff 9 (by kernel_rfl)),z2 (hoff 13 (by kernel_rfl)),z2 (hoff 17 (by kernel_rfl)),z2 (hoff 21 (by kernel_rfl)),z2 (hoff 25 (by kernel_rfl)),z1 (hoff 26 (by kernel_rfl)),z1 (hoff 27 (by kernel_rfl))⟩
   refine steps_cons ?_ ?_
   · rintro b a w' ⟨bC,bH,bI,bD,bE,bF,bG,bJ,bB,m27_,ha,aG,aQ,aT,aH,aI,Q_HB,aM,aW,aX,aN,aY,a6,a7,a8,a9,bK⟩ hb_ hon hoff
     refine⟨_,rfl,fun K hK=>?_⟩
     have nZ:a.tmps[54]?=some (.int .i64 cM):=by rw [ha];exact putSel_on (e:=(1,54,.int .i64 cM)) 0 rfl rfl (hon 1 (by kernel_rfl)) rfl
     replace ha:=am ha
     have aD:=am aG
     have aE:=am aQ
     have aJ:=am aT
     have aA:=am aH
     have aC:=am aI
     have HB:=am Q_HB
     refine goes_ Try.func34 (by kernel_rfl) rfl #[.int .i64 1,.int .i64 cM] (by rfl) rfl rfl (by first | (simp only [List.map_toArray,List.map_cons,List.map_nil,Act.eval,Array.getD_eq_getD_getElem?,Option.getD_some,nZ];done) | (simp only [List.map_toArray,List.map_cons,List.map_nil,Act.eval,Array.getD_eq_getD_getElem?,Option.getD_some,nZ];rfl)) ?_
     with_reducible refine (impl_intNode.calls oM.out).mono ?_
     rintro e oX ⟨rfl,hb⟩
     refine⟨_,rfl,?_⟩
     replace aE:=nbe aE hb
     replace aJ:=nbe aJ hb
     replace aD:=rbe aD hb
     replace aA:=bkb aA hb
     replace aC:=bkb aC hb
     replace HB:=bst HB hb
     (try clear hb)
     (try clear jN)
     (try clear hk)
     (try clear hi)
     refine hK.out _ _ ⟨bC,bH,bI,bD,bE,bF,bG,bJ,bB,m27_,(by rw [ha.out];exact putSel_upk 1 hb_ rfl rfl rfl),(rL aD),(N_later (Kd.N_mono aE.out (fun _ hk=>by first | exact hk | exact hk.1 | exact hk.1.1))),(N_later (Kd.N_mono aJ.out (fun _ hk=>by first | exact hk | exact hk.1 | exact hk.1.1))),(blk_later aA.out),(blk_later aC.out),(bL HB),z2 (hoff 3 (by kernel_rfl)),z2 (hoff 5 (by kernel_rfl)),z2 (hoff 7 (by kernel_rfl)),z2 (hoff 9 (by kernel_rfl)),z2 (hoff 13 (by kernel_rfl)),z2 (hoff 17 (by kernel_rfl)),z2 (hoff 21 (by kernel_rfl)),z2 (hoff 25 (by kernel_rfl)),z1 (hoff 26 (by kernel_rfl)),z1 (hoff 27 (by kernel_rfl))⟩
   refine steps_cons ?_ ?_
   · rintro b a w' ⟨bC,bH,bI,bD,bE,bF,bG,bJ,bB,m27_,ha,aG,aQ,aT,aH,aI,Q_HB,aM,aW,aX,aN,aY,a6,a7,a8,a9,bK⟩ hb_ hon hoff
     refine⟨_,rfl,fun K hK=>?_⟩
     have p1:a.tmps[55]?=some (.agg #[.int .i64 eQ,.int .i64 eR,.int .i64 eS,.string eT,.int .i64 eU]):=by rw [ha];exact putSel_on (e:=(2,55,.agg #[.int .i64 eQ,.int .i64 eR,.int .i64 eS,.string eT,.int .i64 eU])) 1 rfl rfl (hon 2 (by kernel_rfl)) rfl
     replace ha:=am ha
     have aD:=am aG
     have aE:=am aQ
     have aJ:=am aT
     have aA:=am aH
     have aC:=am aI
     have HB:=am Q_HB
     refine rl5s k49 49 56 ⟨eQ,eR,eS,eT,eU⟩ kS (k49_mkM _ _ _ _) rfl ?_
     intro bC m5 dY hb
     have cA:=am (Kd.N_elder' (nL aE) (Kd.R_base dY) hb)
     have cB:=am (Kd.N_elder' (nL aJ) (Kd.R_base dY) hb)
     have cC:=rbe aD hb
     have cD:=rlb dY HB
     have cE:=bkb aA hb
     have cF:=bkb aC hb
     have cI:=bst HB hb
     have g7:=zk aW hb
     have g8:=zk aX hb
     have bM:=zk aN hb
     have bT:=zk aY hb
     have bY:=zk a6 hb
     have b6:=zk a7 hb
     have b7:=zk a8 hb
     clear aE aJ aD aA aC HB
     have aE:=cA
     have aJ:=cB
     have aD:=cC
     have dC:=cD
     have aA:=cE
     have aC:=cF
     have HB:=cI
     clear cA cB cC cD cE cF cI hb dY
     refine hK.out _ _ ⟨bC,bH,bI,bD,bE,bF,bG,bJ,bB,m27_,(by rw [ha.out];exact putSel_upk 2 hb_ rfl rfl rfl),(rL aD),(N_later (Kd.N_mono aE.out (fun _ hk=>by first | exact hk | exact hk.1 | exact hk.1.1))),(N_later (Kd.N_mono aJ.out (fun _ hk=>by first | exact hk | exact hk.1 | exact hk.1.1))),(blk_later aA.out),(blk_later aC.out),(bL HB),fun _ _=>R_later (Kd.R_mono dC.out (fun _ _=>trivial)),g7,g8,bM,bT,bY,b6,b7,z1 (hoff 26 (by kernel_rfl)),z1 (hoff 27 (by kernel_rfl))⟩
   refine steps_cons ?_ ?_
   · rintro b a w' ⟨bC,bH,bI,bD,bE,bF,bG,bJ,bB,m27_,ha,aG,aQ,aT,aH,aI,Q_HB,aM,aW,aX,aN,aY,a6,a7,a8,a9,bK⟩ hb_ hon hoff
     refine⟨_,rfl,fun K hK=>?_⟩
     have n2:a.tmps[57]?=some (.slice bP bV.length bQ):=by rw [ha];exact (putSel_off rfl).trans rfl
     replace ha:=am ha
     have aD:=am aG
     have aE:=am aQ
     have aJ:=am aT
     have aA:=am aH
     have aC:=am aI
     have HB:=am Q_HB
     refine goes_ Try.func32 (by kernel_rfl) rfl #[.int .i64 2,.int .i64 5,.slice bP bV.length bQ] (by rfl) rfl rfl (by first | (simp only [List.map_toArray,List.map_cons,List.map_nil,Act.eval,Array.getD_eq_getD_getElem?,Option.getD_some,n2];done) | (simp only [List.map_toArray,List.map_cons,List.map_nil,Act.eval,Array.getD_eq_getD_getElem?,Option.getD_some,n2];rfl)) ?_
     with_reducible refine (impl_listNode.calls ?side1 ?side2 oN.out).mono ?_
     (case side1=>repeat (first | exact (Kd.N_reads' aE.out).2.2 | (with_reducible refine Kd.C_alloc ?_ _) | (with_reducible refine Kd.C_drewN ?_ _) | (with_reducible refine Kd.C_drew ?_)))
     (case side2=>exact (Kd.N_reads' aE.out).2.1)
     rintro e m5 ⟨bH,rfl,cN,hb⟩
     refine⟨_,rfl,?_⟩
     have cA:=am (Kd.N_elder' (nL aE) (Kd.R_base cN) hb)
     have cB:=am (Kd.N_elder' (nL aJ) (Kd.R_base cN) hb)
     have cC:=rbe aD hb
     have cD:=rlb cN HB
     have cE:=bkb aA hb
     have cF:=bkb aC hb
     have cI:=bst HB hb
     have bA:=zk aM hb
     clear aE aJ aD aA aC HB
     have aE:=cA
     have aJ:=cB
     have aD:=cC
     have aU:=cD
     have aA:=cE
     have aC:=cF
     have HB:=cI
     clear cA cB cC cD cE cF cI
     (try clear hb)
     (try clear jN)
     (try clear hk)
     (try clear hi)
     (try clear cN)
     refine hK.out _ _ ⟨bC,bH,bI,bD,bE,bF,bG,bJ,bB,m27_,(by rw [ha.out];exact putSel_upk 3 hb_ rfl rfl rfl),(rL aD),(N_later (Kd.N_mono aE.out (fun _ hk=>by first | exact hk | exact hk.1 | exact hk.1.1))),(N_later (Kd.N_mono aJ.out (fun _ hk=>by first | exact hk | exact hk.1 | exact hk.1.1))),(blk_later aA.out),(blk_later aC.out),(bL HB),bA,fun _ _=>R_later (Kd.R_mono aU.out (fun _ _=>trivial)),z2 (hoff 7 (by kernel_rfl)),z2 (hoff 9 (by kernel_rfl)),z2 (hoff 13 (by kernel_rfl)),z2 (hoff 17 (by kernel_rfl)),z2 (hoff 21 (by kernel_rfl)),z2 (hoff 25 (by kernel_rfl)),z1 (hoff 26 (by kernel_rfl)),z1 (hoff 27 (by kernel_rfl))⟩
   refine steps_cons ?_ ?_
   · rintro b a w' ⟨bC,bH,bI,bD,bE,bF,bG,bJ,bB,m27_,ha,aG,aQ,aT,aH,aI,Q_HB,aM,aW,aX,aN,aY,a6,a7,a8,a9,bK⟩ hb_ hon hoff
     refine⟨_,rfl,fun K hK=>?_⟩
     have n3:a.tmps[59]?=some (.slice bR bX.length bS):=by rw [ha];exact (putSel_off rfl).trans rfl
     replace ha:=am ha
     have aD:=am aG
     have aE:=am aQ
     have aJ:=am aT
     have aA:=am aH
     have aC:=am aI
     have HB:=am Q_HB
     have aU:=am (aW (hon 5 (by kernel_rfl)) (hoff 26 (by kernel_rfl)))
     refine goes_ Try.func32 (by kernel_rfl) rfl #[.int .i64 3,.int .i64 8,.slice bR bX.length bS] (by rfl) rfl rfl (by first | (simp only [List.map_toArray,List.map_cons,List.map_nil,Act.eval,Array.getD_eq_getD_getElem?,Option.getD_some,n3];done) | (simp only [List.map_toArray,List.map_cons,List.map_nil,Act.eval,Array.getD_eq_getD_getElem?,Option.getD_some,n3];rfl)) ?_
     with_reducible refine (impl_listNode.calls ?side1 ?side2 oO.out).mono ?_
     (case side1=>repeat (first | exact (Kd.N_reads' aJ.out).2.2 | (with_reducible refine Kd.C_alloc ?_ _) | (with_reducible refine Kd.C_drewN ?_ _) | (with_reducible refine Kd.C_drew ?_)))
     (case side2=>exact (Kd.N_reads' aJ.out).2.1)
     rintro e oY ⟨bI,rfl,cN,hb⟩
     refine⟨_,rfl,?_⟩
     have cA:=am (Kd.N_elder' (nL aE) (Kd.R_base cN) hb)
     have cB:=am (Kd.N_elder' (nL aJ) (Kd.R_base cN) hb)
     have cC:=rbe aD hb
     have cD:=am (Kd.R_elder' (rL aU) (Kd.R_base cN) hb)
     have cE:=am (Kd.R_lower (Kd.R_new' cN (Kd.R_lt (rL aU))) (below_size (bL HB)))
     have cF:=bkb aA hb
     have cI:=bkb aC hb
     have cO:=bst HB hb
     have bA:=zk aM hb
     clear aE aJ aD aU aA aC HB
     have aE:=cA
     have aJ:=cB
     have aD:=cC
     have aU:=cD
     have aZ:=cE
     have aA:=cF
     have aC:=cI
     have HB:=cO
     clear cA cB cC cD cE cF cI cO
     (try clear hb)
     (try clear jN)
     (try clear hk)
     (try clear hi)
     (try clear cN)
     refine hK.out _ _ ⟨bC,bH,bI,bD,bE,bF,bG,bJ,bB,m27_,(by rw [ha.out];exact putSel_upk 4 hb_ rfl rfl rfl),(rL aD),(N_later (Kd.N_mono aE.out (fun _ hk=>by first | exact hk | exact hk.1 | exact hk.1.1))),(N_later (Kd.N_mono aJ.out (fun _ hk=>by first | exact hk | exact hk.1 | exact hk.1.1))),(blk_later aA.out),(blk_later aC.out),(bL HB),bA,fun _ _=>R_later (Kd.R_mono aU.out (fun _ _=>trivial)),fun _ _=>R_later (Kd.R_mono aZ.out (fun _ _=>trivial)),z2 (hoff 9 (by kernel_rfl)),z2 (hoff 13 (by kernel_rfl)),z2 (hoff 17 (by kernel_rfl)),z2 (hoff 21 (by kernel_rfl)),z2 (hoff 25 (by kernel_rfl)),z1 (hoff 26 (by kernel_rfl)),z1 (hoff 27 (by kernel_rfl))⟩
   refine steps_cons ?_ ?_
   · rintro b a w' ⟨bC,bH,bI,bD,bE,bF,bG,bJ,bB,m27_,ha,aG,aQ,aT,aH,aI,Q_HB,aM,aW,aX,aN,aY,a6,a7,a8,a9,bK⟩ hb_ hon hoff
     refine⟨_,rfl,fun K hK=>?_⟩
     replace ha:=am ha
     have aD:=am aG
     have aE:=am aQ
     have aJ:=am aT
     have aA:=am aH
     have aC:=am aI
     have HB:=am Q_HB
     have aU:=am (aW (hon 5 (by kernel_rfl)) (hoff 26 (by kernel_rfl)))
     have aZ:=am (aX (hon 7 (by kernel_rfl)) (hoff 26 (by kernel_rfl)))
     refine goes_ Try.func34 (by kernel_rfl) rfl #[.int .i64 4,.int .i64 0] (by rfl) rfl rfl (by first | (simp only [List.map_toArray,List.map_cons,List.map_nil,Act.eval,Array.getD_eq_getD_getElem?,Option.getD_some];done) | (simp only [List.map_toArray,List.map_cons,List.map_nil,Act.eval,Array.getD_eq_getD_getElem?,Option.getD_some];rfl)) ?_
     with_reducible refine (impl_intNode.calls oP.out).mono ?_
     rintro e m6 ⟨rfl,hb⟩
     refine⟨_,rfl,?_⟩
     have cA:=nbe aE hb
     have cB:=nbe aJ hb
     have cC:=rbe aD hb
     have cD:=rbe aU hb
     have cE:=rbe aZ hb
     have cF:=bkb aA hb
     have cI:=bkb aC hb
     have cO:=bst HB hb
     have bA:=fun (b9:b 3=true) (bU:b 26=false)=>(show Kd.R k49 49 m6 w.heap.size (fun _=>True) bC cX from by first | exact (Kd.R_below (R_later (aM b9 bU)) hb) | exact Kd.R_mono (Kd.R_below (R_later (aM b9 bU)) hb) (fun _ h_=>by first | trivial | exact h_ | exact h_.1))
     clear aE aJ aD aU aZ aA aC HB
     have aE:=cA
     have aJ:=cB
     have aD:=cC
     have aU:=cD
     have aZ:=cE
     have aA:=cF
     have aC:=cI
     have HB:=cO
     clear cA cB cC cD cE cF cI cO
     (try clear hb)
     (try clear jN)
     (try clear hk)
     (try clear hi)
     refine hK.out _ _ ⟨bC,bH,bI,bD,bE,bF,bG,bJ,bB,m27_,(by rw [ha.out];exact putSel_upk 5 hb_ rfl rfl rfl),(rL aD),(nL aE),(nL aJ),(blk_later aA.out),(blk_later aC.out),(bL HB),bA,fun _ _=>R_later (Kd.R_mono aU.out (fun _ _=>trivial)),fun _ _=>R_later (Kd.R_mono aZ.out (fun _ _=>trivial)),z2 (hoff 9 (by kernel_rfl)),z2 (hoff 13 (by kernel_rfl)),z2 (hoff 17 (by kernel_rfl)),z2 (hoff 21 (by kernel_rfl)),z2 (hoff 25 (by kernel_rfl)),z1 (hoff 26 (by kernel_rfl)),z1 (hoff 27 (by kernel_rfl))⟩
   refine steps_cons ?_ ?_
   · rintro b a w' ⟨bC,bH,bI,bD,bE,bF,bG,bJ,bB,m27_,ha,aG,aQ,aT,aH,aI,Q_HB,aM,aW,aX,aN,aY,a6,a7,a8,a9,bK⟩ hb_ hon hoff
     refine⟨_,rfl,fun K hK=>?_⟩
     have p2:a.tmps[61]?=some (.agg #[.int .i64 eV,.int .i64 eW,.int .i64 eX,.string eY,.int .i64 eZ]):=by rw [ha];exact putSel_on (e:=(8,61,.agg #[.int .i64 eV,.int .i64 eW,.int .i64 eX,.string eY,.int .i64 eZ])) 5 rfl rfl (hon 8 (by kernel_rfl)) rfl
     replace ha:=am ha
     have aD:=am aG
     have aE:=am aQ
     have aJ:=am aT
     have aA:=am aH
     have aC:=am aI
     have HB:=am Q_HB
     have aU:=am (aW (hon 5 (by kernel_rfl)) (hoff 26 (by kernel_rfl)))
     have aZ:=am (aX (hon 7 (by kernel_rfl)) (hoff 26 (by kernel_rfl)))
     refine rl5s k49 49 62 ⟨eV,eW,eX,eY,eZ⟩ kT (k49_mkM _ _ _ _) rfl ?_
     intro bD jO dD hb
     have cA:=am (Kd.N_elder' (nL aE) (Kd.R_base dD) hb)
     have cB:=am (Kd.N_elder' (nL aJ) (Kd.R_base dD) hb)
     have cC:=rbe aD hb
     have cD:=am (Kd.R_elder' (rL aU) (Kd.R_base dD) hb)
     have cE:=am (Kd.R_elder' (rL aZ) (Kd.R_base dD) hb)
     have cF:=am (Kd.R_lower (Kd.R_new' (Kd.R_new' dD (Kd.R_lt (rL aU))) (Kd.R_lt (rL aZ))) (below_size (bL HB)))
     have cI:=bkb aA hb
     have cO:=bkb aC hb
     have dZ:=bst HB hb
     have bA:=zk aM hb
     have bT:=zk aY hb
     have bY:=zk a6 hb
     have b6:=zk a7 hb
     have b7:=zk a8 hb
     clear aE aJ aD aU aZ aA aC HB
     have aE:=cA
     have aJ:=cB
     have aD:=cC
     have aU:=cD
     have aZ:=cE
     have dE:=cF
     have aA:=cI
     have aC:=cO
     have HB:=dZ
     clear cA cB cC cD cE cF cI cO dZ hb dD
     refine hK.out _ _ ⟨bC,bH,bI,bD,bE,bF,bG,bJ,bB,m27_,(by rw [ha.out];exact putSel_upk 6 hb_ rfl rfl rfl),(rL aD),(N_later (Kd.N_mono aE.out (fun _ hk=>by first | exact hk | exact hk.1 | exact hk.1.1))),(N_later (Kd.N_mono aJ.out (fun _ hk=>by first | exact hk | exact hk.1 | exact hk.1.1))),(blk_later aA.out),(blk_later aC.out),(bL HB),bA,fun _ _=>R_later (Kd.R_mono aU.out (fun _ _=>trivial)),fun _ _=>R_later (Kd.R_mono aZ.out (fun _ _=>trivial)),fun _ _=>R_later (Kd.R_mono dE.out (fun _ _=>trivial)),bT,bY,b6,b7,z1 (hoff 26 (by kernel_rfl)),z1 (hoff 27 (by kernel_rfl))⟩
   refine steps_cons ?_ ?_
   · rintro b a w' ⟨bC,bH,bI,bD,bE,bF,bG,bJ,bB,m27_,ha,aG,aQ,aT,aH,aI,Q_HB,aM,aW,aX,aN,aY,a6,a7,a8,a9,bK⟩ hb_ hon hoff
     refine⟨_,rfl,fun K hK=>?_⟩
     have p3:a.tmps[63]?=some (.pointer (some ⟨aK,3,none⟩)):=by rw [ha];exact (putSel_off rfl).trans rfl
     replace ha:=am ha
     have aD:=am aG
     have aE:=am aQ
     have aJ:=am aT
     have aA:=am aH
     have aC:=am aI
     have HB:=am Q_HB
     have g3:w'.cell? ⟨aK,0,none⟩=some (.int .i64 cP):=bcl aA 0
     have g4:w'.cell? ⟨aK,1,none⟩=some (.int .i64 cJ):=bcl aA 1
     have g6:w'.cell? ⟨aK,2,none⟩=some (.int .i64 cS):=bcl aA 2
     have jP:w'.cell? ⟨aK,3,none⟩=some (.int .i64 cK):=bcl aA 3
     have jQ:w'.cell? ⟨aK,4,none⟩=some (.int .i64 b8):=bcl aA 4
     have jR:w'.cell? ⟨aK,5,none⟩=some (.slice cV cG.length cW):=bcl aA 5
     refine value_ (w1:=w') (v:=.int .i64 cK) (by rfl) rfl ?_ ?_
     · go_simp
       (try simp only [i64_w])
       try rfl
     refine hK.out _ _ ⟨bC,bH,bI,bD,bE,bF,bG,bJ,bB,m27_,(by rw [ha.out];exact putSel_upk 7 hb_ rfl rfl rfl),aG,aQ,aT,aH,aI,Q_HB,aM,aW,aX,aN,z2 (hoff 13 (by kernel_rfl)),z2 (hoff 17 (by kernel_rfl)),z2 (hoff 21 (by kernel_rfl)),z2 (hoff 25 (by kernel_rfl)),z1 (hoff 26 (by kernel_rfl)),z1 (hoff 27 (by kernel_rfl))⟩
   refine steps_cons ?_ ?_
   · rintro b a w' ⟨bC,bH,bI,bD,bE,bF,bG,bJ,bB,m27_,ha,aG,aQ,aT,aH,aI,Q_HB,aM,aW,aX,aN,aY,a6,a7,a8,a9,bK⟩ hb_ hon hoff
     refine⟨_,rfl,fun K hK=>?_⟩
     have n4:a.tmps[64]?=some (.int .i64 cK):=by rw [ha];exact putSel_on (e:=(11,64,.int .i64 cK)) 7 rfl rfl (hon 11 (by kernel_rfl)) rfl
     replace ha:=am ha
     have aD:=am aG
     have aE:=am aQ
     have aJ:=am aT
     have aA:=am aH
     have aC:=am aI
     have HB:=am Q_HB
     have aU:=am (aW (hon 5 (by kernel_rfl)) (hoff 26 (by kernel_rfl)))
     have aZ:=am (aX (hon 7 (by kernel_rfl)) (hoff 26 (by kernel_rfl)))
     refine goes_ Try.func33 (by kernel_rfl) rfl #[.int .i64 5,.int .i64 cK] (by rfl) rfl rfl (by first | (simp only [List.map_toArray,List.map_cons,List.map_nil,Act.eval,Array.getD_eq_getD_getElem?,Option.getD_some,n4];done) | (simp only [List.map_toArray,List.map_cons,List.map_nil,Act.eval,Array.getD_eq_getD_getElem?,Option.getD_some,n4];rfl)) ?_
     with_reducible refine (impl_longNode.calls oQ.out).mono ?_
     rintro e jO ⟨rfl,hb⟩
     refine⟨_,rfl,?_⟩
     have cA:=nbe aE hb
     have cB:=nbe aJ hb
     have cC:=rbe aD hb
     have cD:=rbe aU hb
     have cE:=rbe aZ hb
     have cF:=bkb aA hb
     have cI:=bkb aC hb
     have cO:=bst HB hb
     have bA:=fun (b9:b 3=true) (bU:b 26=false)=>(show Kd.R k49 49 jO w.heap.size (fun _=>True) bC cX from by first | exact (Kd.R_below (R_later (aM b9 bU)) hb) | exact Kd.R_mono (Kd.R_below (R_later (aM b9 bU)) hb) (fun _ h_=>by first | trivial | exact h_ | exact h_.1))
     have bM:=fun (b9:b 9=true) (bU:b 26=false)=>(show Kd.R k49 49 jO w.heap.size (fun _=>True) bD dB from by first | exact (Kd.R_below (R_later (aN b9 bU)) hb) | exact Kd.R_mono (Kd.R_below (R_later (aN b9 bU)) hb) (fun _ h_=>by first | trivial | exact h_ | exact h_.1))
     clear aE aJ aD aU aZ aA aC HB
     have aE:=cA
     have aJ:=cB
     have aD:=cC
     have aU:=cD
     have aZ:=cE
     have aA:=cF
     have aC:=cI
     have HB:=cO
     clear cA cB cC cD cE cF cI cO
     (try clear hb)
     (try clear jN)
     (try clear hk)
     (try clear hi)
     refine hK.out _ _ ⟨bC,bH,bI,bD,bE,bF,bG,bJ,bB,m27_,(by rw [ha.out];exact putSel_upk 8 hb_ rfl rfl rfl),(rL aD),(nL aE),(nL aJ),(blk_later aA.out),(blk_later aC.out),(bL HB),bA,fun _ _=>R_later (Kd.R_mono aU.out (fun _ _=>trivial)),fun _ _=>R_later (Kd.R_mono aZ.out (fun _ _=>trivial)),bM,z2 (hoff 13 (by kernel_rfl)),z2 (hoff 17 (by kernel_rfl)),z2 (hoff 21 (by kernel_rfl)),z2 (hoff 25 (by kernel_rfl)),z1 (hoff 26 (by kernel_rfl)),z1 (hoff 27 (by kernel_rfl))⟩
   refine steps_cons ?_ ?_
   · rintro b a w' ⟨bC,bH,bI,bD,bE,bF,bG,bJ,bB,m27_,ha,aG,aQ,aT,aH,aI,Q_HB,aM,aW,aX,aN,aY,a6,a7,a8,a9,bK⟩ hb_ hon hoff
     refine⟨_,rfl,fun K hK=>?_⟩
     have p4:a.tmps[65]?=some (.agg #[.int .i64 e5,.int .i64 e6,.int .i64 e7,.string e8,.int .i64 e9]):=by rw [ha];exact putSel_on (e:=(12,65,.agg #[.int .i64 e5,.int .i64 e6,.int .i64 e7,.string e8,.int .i64 e9])) 8 rfl rfl (hon 12 (by kernel_rfl)) rfl
     replace ha:=am ha
     have aD:=am aG
     have aE:=am aQ
     have aJ:=am aT
     have aA:=am aH
     have aC:=am aI
     have HB:=am Q_HB
     have aU:=am (aW (hon 5 (by kernel_rfl)) (hoff 26 (by kernel_rfl)))
     have aZ:=am (aX (hon 7 (by kernel_rfl)) (hoff 26 (by kernel_rfl)))
     refine rl5s k49 49 66 ⟨e5,e6,e7,e8,e9⟩ kU (k49_mkM _ _ _ _) rfl ?_
     intro bE g9 dF hb
     have cA:=am (Kd.N_elder' (nL aE) (Kd.R_base dF) hb)
     have cB:=am (Kd.N_elder' (nL aJ) (Kd.R_base dF) hb)
     have cC:=rbe aD hb
     have cD:=am (Kd.R_elder' (rL aU) (Kd.R_base dF) hb)
     have cE:=am (Kd.R_elder' (rL aZ) (Kd.R_base dF) hb)
     have cF:=am (Kd.R_lower (Kd.R_new' (Kd.R_new' dF (Kd.R_lt (rL aU))) (Kd.R_lt (rL aZ))) (below_size (bL HB)))
     have cI:=bkb aA hb
     have cO:=bkb aC hb
     have dZ:=bst HB hb
     have bA:=zk aM hb
     have bM:=zk aN hb
     have bY:=zk a6 hb
     have b6:=zk a7 hb
     have b7:=zk a8 hb
     clear aE aJ aD aU aZ aA aC HB
     have aE:=cA
     have aJ:=cB
     have aD:=cC
     have aU:=cD
     have aZ:=cE
     have dG:=cF
     have aA:=cI
     have aC:=cO
     have HB:=dZ
     clear cA cB cC cD cE cF cI cO dZ hb dF
     refine hK.out _ _ ⟨bC,bH,bI,bD,bE,bF,bG,bJ,bB,m27_,(by rw [ha.out];exact putSel_upk 9 hb_ rfl rfl rfl),(rL aD),(N_later (Kd.N_mono aE.out (fun _ hk=>by first | exact hk | exact hk.1 | exact hk.1.1))),(N_later (Kd.N_mono aJ.out (fun _ hk=>by first | exact hk | exact hk.1 | exact hk.1.1))),(blk_later aA.out),(blk_later aC.out),(bL HB),bA,fun _ _=>R_later (Kd.R_mono aU.out (fun _ _=>trivial)),fun _ _=>R_later (Kd.R_mono aZ.out (fun _ _=>trivial)),bM,fun _ _=>R_later (Kd.R_mono dG.out (fun _ _=>trivial)),bY,b6,b7,z1 (hoff 26 (by kernel_rfl)),z1 (hoff 27 (by kernel_rfl))⟩
   refine steps_cons ?_ ?_
   · rintro b a w' ⟨bC,bH,bI,bD,bE,bF,bG,bJ,bB,m27_,ha,aG,aQ,aT,aH,aI,Q_HB,aM,aW,aX,aN,aY,a6,a7,a8,a9,bK⟩ hb_ hon hoff
     refine⟨_,rfl,fun K hK=>?_⟩
     have qA:a.tmps[67]?=some (.pointer (some ⟨aK,4,none⟩)):=by rw [ha];exact (putSel_off rfl).trans rfl
     replace ha:=am ha
     have aD:=am aG
     have aE:=am aQ
     have aJ:=am aT
     have aA:=am aH
     have aC:=am aI
     have HB:=am Q_HB
     have g3:w'.cell? ⟨aK,0,none⟩=some (.int .i64 cP):=bcl aA 0
     have g4:w'.cell? ⟨aK,1,none⟩=some (.int .i64 cJ):=bcl aA 1
     have g6:w'.cell? ⟨aK,2,none⟩=some (.int .i64 cS):=bcl aA 2
     have jP:w'.cell? ⟨aK,3,none⟩=some (.int .i64 cK):=bcl aA 3
     have jQ:w'.cell? ⟨aK,4,none⟩=some (.int .i64 b8):=bcl aA 4
     have jR:w'.cell? ⟨aK,5,none⟩=some (.slice cV cG.length cW):=bcl aA 5
     refine value_ (w1:=w') (v:=.int .i64 b8) (by rfl) rfl ?_ ?_
     · go_simp
       (try simp only [i64_w])
       try rfl
     refine hK.out _ _ ⟨bC,bH,bI,bD,bE,bF,bG,bJ,bB,m27_,(by rw [ha.out];exact putSel_upk 10 hb_ rfl rfl rfl),aG,aQ,aT,aH,aI,Q_HB,aM,aW,aX,aN,aY,z2 (hoff 17 (by kernel_rfl)),z2 (hoff 21 (by kernel_rfl)),z2 (hoff 25 (by kernel_rfl)),z1 (hoff 26 (by kernel_rfl)),z1 (hoff 27 (by kernel_rfl))⟩
   refine steps_cons ?_ ?_
   · rintro b a w' ⟨bC,bH,bI,bD,bE,bF,bG,bJ,bB,m27_,ha,aG,aQ,aT,aH,aI,Q_HB,aM,aW,aX,aN,aY,a6,a7,a8,a9,bK⟩ hb_ hon hoff
     refine⟨_,rfl,fun K hK=>?_⟩
     have n5:a.tmps[68]?=some (.int .i64 b8):=by rw [ha];exact putSel_on (e:=(15,68,.int .i64 b8)) 10 rfl rfl (hon 15 (by kernel_rfl)) rfl
     replace ha:=am ha
     have aD:=am aG
     have aE:=am aQ
     have aJ:=am aT
     have aA:=am aH
     have aC:=am aI
     have HB:=am Q_HB
     have aU:=am (aW (hon 5 (by kernel_rfl)) (hoff 26 (by kernel_rfl)))
     have aZ:=am (aX (hon 7 (by kernel_rfl)) (hoff 26 (by kernel_rfl)))
     refine goes_ Try.func33 (by kernel_rfl) rfl #[.int .i64 6,.int .i64 b8] (by rfl) rfl rfl (by first | (simp only [List.map_toArray,List.map_cons,List.map_nil,Act.eval,Array.getD_eq_getD_getElem?,Option.getD_some,n5];done) | (simp only [List.map_toArray,List.map_cons,List.map_nil,Act.eval,Array.getD_eq_getD_getElem?,Option.getD_some,n5];rfl)) ?_
     with_reducible refine (impl_longNode.calls oR.out).mono ?_
     rintro e g9 ⟨rfl,hb⟩
     refine⟨_,rfl,?_⟩
     have cA:=nbe aE hb
     have cB:=nbe aJ hb
     have cC:=rbe aD hb
     have cD:=rbe aU hb
     have cE:=rbe aZ hb
     have cF:=bkb aA hb
     have cI:=bkb aC hb
     have cO:=bst HB hb
     have bA:=fun (b9:b 3=true) (bU:b 26=false)=>(show Kd.R k49 49 g9 w.heap.size (fun _=>True) bC cX from by first | exact (Kd.R_below (R_later (aM b9 bU)) hb) | exact Kd.R_mono (Kd.R_below (R_later (aM b9 bU)) hb) (fun _ h_=>by first | trivial | exact h_ | exact h_.1))
     have bM:=fun (b9:b 9=true) (bU:b 26=false)=>(show Kd.R k49 49 g9 w.heap.size (fun _=>True) bD dB from by first | exact (Kd.R_below (R_later (aN b9 bU)) hb) | exact Kd.R_mono (Kd.R_below (R_later (aN b9 bU)) hb) (fun _ h_=>by first | trivial | exact h_ | exact h_.1))
     have bT:=fun (b9:b 13=true) (bU:b 26=false)=>(show Kd.R k49 49 g9 w.heap.size (fun _=>True) bE dO from by first | exact (Kd.R_below (R_later (aY b9 bU)) hb) | exact Kd.R_mono (Kd.R_below (R_later (aY b9 bU)) hb) (fun _ h_=>by first | trivial | exact h_ | exact h_.1))
     clear aE aJ aD aU aZ aA aC HB
     have aE:=cA
     have aJ:=cB
     have aD:=cC
     have aU:=cD
     have aZ:=cE
     have aA:=cF
     have aC:=cI
     have HB:=cO
     clear cA cB cC cD cE cF cI cO
     (try clear hb)
     (try clear jN)
     (try clear hk)
     (try clear hi)
     refine hK.out _ _ ⟨bC,bH,bI,bD,bE,bF,bG,bJ,bB,m27_,(by rw [ha.out];exact putSel_upk 11 hb_ rfl rfl rfl),(rL aD),(nL aE),(nL aJ),(blk_later aA.out),(blk_later aC.out),(bL HB),bA,fun _ _=>R_later (Kd.R_mono aU.out (fun _ _=>trivial)),fun _ _=>R_later (Kd.R_mono aZ.out (fun _ _=>trivial)),bM,bT,z2 (hoff 17 (by kernel_rfl)),z2 (hoff 21 (by kernel_rfl)),z2 (hoff 25 (by kernel_rfl)),z1 (hoff 26 (by kernel_rfl)),z1 (hoff 27 (by kernel_rfl))⟩
   refine steps_cons ?_ ?_
   · rintro b a w' ⟨bC,bH,bI,bD,bE,bF,bG,bJ,bB,m27_,ha,aG,aQ,aT,aH,aI,Q_HB,aM,aW,aX,aN,aY,a6,a7,a8,a9,bK⟩ hb_ hon hoff
     refine⟨_,rfl,fun K hK=>?_⟩
     have qB:a.tmps[69]?=some (.agg #[.int .i64 fA,.int .i64 fB,.int .i64 fC,.string fD,.int .i64 fE]):=by rw [ha];exact putSel_on (e:=(16,69,.agg #[.int .i64 fA,.int .i64 fB,.int .i64 fC,.string fD,.int .i64 fE])) 11 rfl rfl (hon 16 (by kernel_rfl)) rfl
     replace ha:=am ha
     have aD:=am aG
     have aE:=am aQ
     have aJ:=am aT
     have aA:=am aH
     have aC:=am aI
     have HB:=am Q_HB
     have aU:=am (aW (hon 5 (by kernel_rfl)) (hoff 26 (by kernel_rfl)))
     have aZ:=am (aX (hon 7 (by kernel_rfl)) (hoff 26 (by kernel_rfl)))
     refine rl5s k49 49 70 ⟨fA,fB,fC,fD,fE⟩ kV (k49_mkM _ _ _ _) rfl ?_
     intro bF fQ dH hb
     have cA:=am (Kd.N_elder' (nL aE) (Kd.R_base dH) hb)
     have cB:=am (Kd.N_elder' (nL aJ) (Kd.R_base dH) hb)
     have cC:=rbe aD hb
     have cD:=am (Kd.R_elder' (rL aU) (Kd.R_base dH) hb)
     have cE:=am (Kd.R_elder' (rL aZ) (Kd.R_base dH) hb)
     have cF:=am (Kd.R_lower (Kd.R_new' (Kd.R_new' dH (Kd.R_lt (rL aU))) (Kd.R_lt (rL aZ))) (below_size (bL HB)))
     have cI:=bkb aA hb
     have cO:=bkb aC hb
     have dZ:=bst HB hb
     have bA:=zk aM hb
     have bM:=zk aN hb
     have bT:=zk aY hb
     have b6:=zk a7 hb
     have b7:=zk a8 hb
     clear aE aJ aD aU aZ aA aC HB
     have aE:=cA
     have aJ:=cB
     have aD:=cC
     have aU:=cD
     have aZ:=cE
     have dI:=cF
     have aA:=cI
     have aC:=cO
     have HB:=dZ
     clear cA cB cC cD cE cF cI cO dZ hb dH
     refine hK.out _ _ ⟨bC,bH,bI,bD,bE,bF,bG,bJ,bB,m27_,(by rw [ha.out];exact putSel_upk 12 hb_ rfl rfl rfl),(rL aD),(N_later (Kd.N_mono aE.out (fun _ hk=>by first | exact hk | exact hk.1 | exact hk.1.1))),(N_later (Kd.N_mono aJ.out (fun _ hk=>by first | exact hk | exact hk.1 | exact hk.1.1))),(blk_later aA.out),(blk_later aC.out),(bL HB),bA,fun _ _=>R_later (Kd.R_mono aU.out (fun _ _=>trivial)),fun _ _=>R_later (Kd.R_mono aZ.out (fun _ _=>trivial)),bM,bT,fun _ _=>R_later (Kd.R_mono dI.out (fun _ _=>trivial)),b6,b7,z1 (hoff 26 (by kernel_rfl)),z1 (hoff 27 (by kernel_rfl))⟩
   refine steps_cons ?_ ?_
   · rintro b a w' ⟨bC,bH,bI,bD,bE,bF,bG,bJ,bB,m27_,ha,aG,aQ,aT,aH,aI,Q_HB,aM,aW,aX,aN,aY,a6,a7,a8,a9,bK⟩ hb_ hon hoff
     refine⟨_,rfl,fun K hK=>?_⟩
     have qC:a.tmps[71]?=some (.pointer (some ⟨aK,4,none⟩)):=by rw [ha];exact (putSel_off rfl).trans rfl
     replace ha:=am ha
     have aD:=am aG
     have aE:=am aQ
     have aJ:=am aT
     have aA:=am aH
     have aC:=am aI
     have HB:=am Q_HB
     have g3:w'.cell? ⟨aK,0,none⟩=some (.int .i64 cP):=bcl aA 0
     have g4:w'.cell? ⟨aK,1,none⟩=some (.int .i64 cJ):=bcl aA 1
     have g6:w'.cell? ⟨aK,2,none⟩=some (.int .i64 cS):=bcl aA 2
     have jP:w'.cell? ⟨aK,3,none⟩=some (.int .i64 cK):=bcl aA 3
     have jQ:w'.cell? ⟨aK,4,none⟩=some (.int .i64 b8):=bcl aA 4
     have jR:w'.cell? ⟨aK,5,none⟩=some (.slice cV cG.length cW):=bcl aA 5
     refine value_ (w1:=w') (v:=.int .i64 b8) (by rfl) rfl ?_ ?_
     · go_simp
       (try simp only [i64_w])
       try rfl
     refine hK.out _ _ ⟨bC,bH,bI,bD,bE,bF,bG,bJ,bB,m27_,(by rw [ha.out];exact putSel_upk 13 hb_ rfl rfl rfl),aG,aQ,aT,aH,aI,Q_HB,aM,aW,aX,aN,aY,a6,z2 (hoff 21 (by kernel_rfl)),z2 (hoff 25 (by kernel_rfl)),z1 (hoff 26 (by kernel_rfl)),z1 (hoff 27 (by kernel_rfl))⟩
   refine steps_cons ?_ ?_
   · rintro b a w' ⟨bC,bH,bI,bD,bE,bF,bG,bJ,bB,m27_,ha,aG,aQ,aT,aH,aI,Q_HB,aM,aW,aX,aN,aY,a6,a7,a8,a9,bK⟩ hb_ hon hoff
     refine⟨_,rfl,fun K hK=>?_⟩
     have n6:a.tmps[72]?=some (.int .i64 b8):=by rw [ha];exact putSel_on (e:=(19,72,.int .i64 b8)) 13 rfl rfl (hon 19 (by kernel_rfl)) rfl
     replace ha:=am ha
     have aD:=am aG
     have aE:=am aQ
     have aJ:=am aT
     have aA:=am aH
     have aC:=am aI
     have HB:=am Q_HB
     have aU:=am (aW (hon 5 (by kernel_rfl)) (hoff 26 (by kernel_rfl)))
     have aZ:=am (aX (hon 7 (by kernel_rfl)) (hoff 26 (by kernel_rfl)))
     refine goes_ Try.func33 (by kernel_rfl) rfl #[.int .i64 7,.int .i64 b8] (by rfl) rfl rfl (by first | (simp only [List.map_toArray,List.map_cons,List.map_nil,Act.eval,Array.getD_eq_getD_getElem?,Option.getD_some,n6];done) | (simp only [List.map_toArray,List.map_cons,List.map_nil,Act.eval,Array.getD_eq_getD_getElem?,Option.getD_some,n6];rfl)) ?_
     with_reducible refine (impl_longNode.calls oS.out).mono ?_
     rintro e fQ ⟨rfl,hb⟩
     refine⟨_,rfl,?_⟩
     have cA:=nbe aE hb
     have cB:=nbe aJ hb
     have cC:=rbe aD hb
     have cD:=rbe aU hb
     have cE:=rbe aZ hb
     have cF:=bkb aA hb
     have cI:=bkb aC hb
     have cO:=bst HB hb
     have bA:=fun (b9:b 3=true) (bU:b 26=false)=>(show Kd.R k49 49 fQ w.heap.size (fun _=>True) bC cX from by first | exact (Kd.R_below (R_later (aM b9 bU)) hb) | exact Kd.R_mono (Kd.R_below (R_later (aM b9 bU)) hb) (fun _ h_=>by first | trivial | exact h_ | exact h_.1))
     have bM:=fun (b9:b 9=true) (bU:b 26=false)=>(show Kd.R k49 49 fQ w.heap.size (fun _=>True) bD dB from by first | exact (Kd.R_below (R_later (aN b9 bU)) hb) | exact Kd.R_mono (Kd.R_below (R_later (aN b9 bU)) hb) (fun _ h_=>by first | trivial | exact h_ | exact h_.1))
     have bT:=fun (b9:b 13=true) (bU:b 26=false)=>(show Kd.R k49 49 fQ w.heap.size (fun _=>True) bE dO from by first | exact (Kd.R_below (R_later (aY b9 bU)) hb) | exact Kd.R_mono (Kd.R_below (R_later (aY b9 bU)) hb) (fun _ h_=>by first | trivial | exact h_ | exact h_.1))
     have bY:=fun (b9:b 17=true) (bU:b 26=false)=>(show Kd.R k49 49 fQ w.heap.size (fun _=>True) bF dQ from by first | exact (Kd.R_below (R_later (a6 b9 bU)) hb) | exact Kd.R_mono (Kd.R_below (R_later (a6 b9 bU)) hb) (fun _ h_=>by first | trivial | exact h_ | exact h_.1))
     clear aE aJ aD aU aZ aA aC HB
     have aE:=cA
     have aJ:=cB
     have aD:=cC
     have aU:=cD
     have aZ:=cE
     have aA:=cF
     have aC:=cI
     have HB:=cO
     clear cA cB cC cD cE cF cI cO
     (try clear hb)
     (try clear jN)
     (try clear hk)
     (try clear hi)
     refine hK.out _ _ ⟨bC,bH,bI,bD,bE,bF,bG,bJ,bB,m27_,(by rw [ha.out];exact putSel_upk 14 hb_ rfl rfl rfl),(rL aD),(nL aE),(nL aJ),(blk_later aA.out),(blk_later aC.out),(bL HB),bA,fun _ _=>R_later (Kd.R_mono aU.out (fun _ _=>trivial)),fun _ _=>R_later (Kd.R_mono aZ.out (fun _ _=>trivial)),bM,bT,bY,z2 (hoff 21 (by kernel_rfl)),z2 (hoff 25 (by kernel_rfl)),z1 (hoff 26 (by kernel_rfl)),z1 (hoff 27 (by kernel_rfl))⟩
   refine steps_cons ?_ ?_
   · rintro b a w' ⟨bC,bH,bI,bD,bE,bF,bG,bJ,bB,m27_,ha,aG,aQ,aT,aH,aI,Q_HB,aM,aW,aX,aN,aY,a6,a7,a8,a9,bK⟩ hb_ hon hoff
     refine⟨_,rfl,fun K hK=>?_⟩
     have qD:a.tmps[73]?=some (.agg #[.int .i64 fF,.int .i64 fG,.int .i64 fH,.string fI,.int .i64 fJ]):=by rw [ha];exact putSel_on (e:=(20,73,.agg #[.int .i64 fF,.int .i64 fG,.int .i64 fH,.string fI,.int .i64 fJ])) 14 rfl rfl (hon 20 (by kernel_rfl)) rfl
     replace ha:=am ha
     have aD:=am aG
     have aE:=am aQ
     have aJ:=am aT
     have aA:=am aH
     have aC:=am aI
     have HB:=am Q_HB
     have aU:=am (aW (hon 5 (by kernel_rfl)) (hoff 26 (by kernel_rfl)))
     have aZ:=am (aX (hon 7 (by kernel_rfl)) (hoff 26 (by kernel_rfl)))
     refine rl5s k49 49 74 ⟨fF,fG,fH,fI,fJ⟩ kW (k49_mkM _ _ _ _) rfl ?_
     intro bG eB dJ hb
     have cA:=am (Kd.N_elder' (nL aE) (Kd.R_base dJ) hb)
     have cB:=am (Kd.N_elder' (nL aJ) (Kd.R_base dJ) hb)
     have cC:=rbe aD hb
     have cD:=am (Kd.R_elder' (rL aU) (Kd.R_base dJ) hb)
     have cE:=am (Kd.R_elder' (rL aZ) (Kd.R_base dJ) hb)
     have cF:=am (Kd.R_lower (Kd.R_new' (Kd.R_new' dJ (Kd.R_lt (rL aU))) (Kd.R_lt (rL aZ))) (below_size (bL HB)))
     have cI:=bkb aA hb
     have cO:=bkb aC hb
     have dZ:=bst HB hb
     have bA:=zk aM hb
     have bM:=zk aN hb
     have bT:=zk aY hb
     have bY:=zk a6 hb
     have b7:=zk a8 hb
     clear aE aJ aD aU aZ aA aC HB
     have aE:=cA
     have aJ:=cB
     have aD:=cC
     have aU:=cD
     have aZ:=cE
     have dK:=cF
     have aA:=cI
     have aC:=cO
     have HB:=dZ
     clear cA cB cC cD cE cF cI cO dZ hb dJ
     refine hK.out _ _ ⟨bC,bH,bI,bD,bE,bF,bG,bJ,bB,m27_,(by rw [ha.out];exact putSel_upk 15 hb_ rfl rfl rfl),(rL aD),(N_later (Kd.N_mono aE.out (fun _ hk=>by first | exact hk | exact hk.1 | exact hk.1.1))),(N_later (Kd.N_mono aJ.out (fun _ hk=>by first | exact hk | exact hk.1 | exact hk.1.1))),(blk_later aA.out),(blk_later aC.out),(bL HB),bA,fun _ _=>R_later (Kd.R_mono aU.out (fun _ _=>trivial)),fun _ _=>R_later (Kd.R_mono aZ.out (fun _ _=>trivial)),bM,bT,bY,fun _ _=>R_later (Kd.R_mono dK.out (fun _ _=>trivial)),b7,z1 (hoff 26 (by kernel_rfl)),z1 (hoff 27 (by kernel_rfl))⟩
   refine steps_cons ?_ ?_
   · rintro b a w' ⟨bC,bH,bI,bD,bE,bF,bG,bJ,bB,m27_,ha,aG,aQ,aT,aH,aI,Q_HB,aM,aW,aX,aN,aY,a6,a7,a8,a9,bK⟩ hb_ hon hoff
     refine⟨_,rfl,fun K hK=>?_⟩
     have qE:a.tmps[75]?=some (.pointer (some ⟨aK,1,none⟩)):=by rw [ha];exact (putSel_off rfl).trans rfl
     replace ha:=am ha
     have aD:=am aG
     have aE:=am aQ
     have aJ:=am aT
     have aA:=am aH
     have aC:=am aI
     have HB:=am Q_HB
     have g3:w'.cell? ⟨aK,0,none⟩=some (.int .i64 cP):=bcl aA 0
     have g4:w'.cell? ⟨aK,1,none⟩=some (.int .i64 cJ):=bcl aA 1
     have g6:w'.cell? ⟨aK,2,none⟩=some (.int .i64 cS):=bcl aA 2
     have jP:w'.cell? ⟨aK,3,none⟩=some (.int .i64 cK):=bcl aA 3
     have jQ:w'.cell? ⟨aK,4,none⟩=some (.int .i64 b8):=bcl aA 4
     have jR:w'.cell? ⟨aK,5,none⟩=some (.slice cV cG.length cW):=bcl aA 5
     refine value_ (w1:=w') (v:=.int .i64 cJ) (by rfl) rfl ?_ ?_
     · go_simp
       (try simp only [i64_w])
       try rfl
     refine hK.out _ _ ⟨bC,bH,bI,bD,bE,bF,bG,bJ,bB,m27_,(by rw [ha.out];exact putSel_upk 16 hb_ rfl rfl rfl),aG,aQ,aT,aH,aI,Q_HB,aM,aW,aX,aN,aY,a6,a7,z2 (hoff 25 (by kernel_rfl)),z1 (hoff 26 (by kernel_rfl)),z1 (hoff 27 (by kernel_rfl))⟩
   refine steps_cons ?_ ?_
   · rintro b a w' ⟨bC,bH,bI,bD,bE,bF,bG,bJ,bB,m27_,ha,aG,aQ,aT,aH,aI,Q_HB,aM,aW,aX,aN,aY,a6,a7,a8,a9,bK⟩ hb_ hon hoff
     refine⟨_,rfl,fun K hK=>?_⟩
     have n7:a.tmps[76]?=some (.int .i64 cJ):=by rw [ha];exact putSel_on (e:=(23,76,.int .i64 cJ)) 16 rfl rfl (hon 23 (by kernel_rfl)) rfl
     replace ha:=am ha
     have aD:=am aG
     have aE:=am aQ
     have aJ:=am aT
     have aA:=am aH
     have aC:=am aI
     have HB:=am Q_HB
     have aU:=am (aW (hon 5 (by kernel_rfl)) (hoff 26 (by kernel_rfl)))
     have aZ:=am (aX (hon 7 (by kernel_rfl)) (hoff 26 (by kernel_rfl)))
     refine goes_ Try.func33 (by kernel_rfl) rfl #[.int .i64 9,.int .i64 cJ] (by rfl) rfl rfl (by first | (simp only [List.map_toArray,List.map_cons,List.map_nil,Act.eval,Array.getD_eq_getD_getElem?,Option.getD_some,n7];done) | (simp only [List.map_toArray,List.map_cons,List.map_nil,Act.eval,Array.getD_eq_getD_getElem?,Option.getD_some,n7];rfl)) ?_
     with_reducible refine (impl_longNode.calls oT.out).mono ?_
     rintro e eB ⟨rfl,hb⟩
     refine⟨_,rfl,?_⟩
     have cA:=nbe aE hb
     have cB:=nbe aJ hb
     have cC:=rbe aD hb
     have cD:=rbe aU hb
     have cE:=rbe aZ hb
     have cF:=bkb aA hb
     have cI:=bkb aC hb
     have cO:=bst HB hb
     have bA:=fun (b9:b 3=true) (bU:b 26=false)=>(show Kd.R k49 49 eB w.heap.size (fun _=>True) bC cX from by first | exact (Kd.R_below (R_later (aM b9 bU)) hb) | exact Kd.R_mono (Kd.R_below (R_later (aM b9 bU)) hb) (fun _ h_=>by first | trivial | exact h_ | exact h_.1))
     have bM:=fun (b9:b 9=true) (bU:b 26=false)=>(show Kd.R k49 49 eB w.heap.size (fun _=>True) bD dB from by first | exact (Kd.R_below (R_later (aN b9 bU)) hb) | exact Kd.R_mono (Kd.R_below (R_later (aN b9 bU)) hb) (fun _ h_=>by first | trivial | exact h_ | exact h_.1))
     have bT:=fun (b9:b 13=true) (bU:b 26=false)=>(show Kd.R k49 49 eB w.heap.size (fun _=>True) bE dO from by first | exact (Kd.R_below (R_later (aY b9 bU)) hb) | exact Kd.R_mono (Kd.R_below (R_later (aY b9 bU)) hb) (fun _ h_=>by first | trivial | exact h_ | exact h_.1))
     have bY:=fun (b9:b 17=true) (bU:b 26=false)=>(show Kd.R k49 49 eB w.heap.size (fun _=>True) bF dQ from by first | exact (Kd.R_below (R_later (a6 b9 bU)) hb) | exact Kd.R_mono (Kd.R_below (R_later (a6 b9 bU)) hb) (fun _ h_=>by first | trivial | exact h_ | exact h_.1))
     have b6:=fun (b9:b 21=true) (bU:b 26=false)=>(show Kd.R k49 49 eB w.heap.size (fun _=>True) bG dT from by first | exact (Kd.R_below (R_later (a7 b9 bU)) hb) | exact Kd.R_mono (Kd.R_below (R_later (a7 b9 bU)) hb) (fun _ h_=>by first | trivial | exact h_ | exact h_.1))
     clear aE aJ aD aU aZ aA aC HB
     have aE:=cA
     have aJ:=cB
     have aD:=cC
     have aU:=cD
     have aZ:=cE
     have aA:=cF
     have aC:=cI
     have HB:=cO
     clear cA cB cC cD cE cF cI cO
     (try clear hb)
     (try clear jN)
     (try clear hk)
     (try clear hi)
     refine hK.out _ _ ⟨bC,bH,bI,bD,bE,bF,bG,bJ,bB,m27_,(by rw [ha.out];exact putSel_upk 17 hb_ rfl rfl rfl),(rL aD),(nL aE),(nL aJ),(blk_later aA.out),(blk_later aC.out),(bL HB),bA,fun _ _=>R_later (Kd.R_mono aU.out (fun _ _=>trivial)),fun _ _=>R_later (Kd.R_mono aZ.out (fun _ _=>trivial)),bM,bT,bY,b6,z2 (hoff 25 (by kernel_rfl)),z1 (hoff 26 (by kernel_rfl)),z1 (hoff 27 (by kernel_rfl))⟩
   refine steps_cons ?_ ?_
   · rintro b a w' ⟨bC,bH,bI,bD,bE,bF,bG,bJ,bB,m27_,ha,aG,aQ,aT,aH,aI,Q_HB,aM,aW,aX,aN,aY,a6,a7,a8,a9,bK⟩ hb_ hon hoff
     refine⟨_,rfl,fun K hK=>?_⟩
     have qF:a.tmps[77]?=some (.agg #[.int .i64 fK,.int .i64 fL,.int .i64 fM,.string fN,.int .i64 fO]):=by rw [ha];exact putSel_on (e:=(24,77,.agg #[.int .i64 fK,.int .i64 fL,.int .i64 fM,.string fN,.int .i64 fO])) 17 rfl rfl (hon 24 (by kernel_rfl)) rfl
     replace ha:=am ha
     have aD:=am aG
     have aE:=am aQ
     have aJ:=am aT
     have aA:=am aH
     have aC:=am aI
     have HB:=am Q_HB
     have aU:=am (aW (hon 5 (by kernel_rfl)) (hoff 26 (by kernel_rfl)))
     have aZ:=am (aX (hon 7 (by kernel_rfl)) (hoff 26 (by kernel_rfl)))
     refine rl5s k49 49 78 ⟨fK,fL,fM,fN,fO⟩ kX (k49_mkM _ _ _ _) rfl ?_
     intro bJ oZ dL hb
     have cA:=am (Kd.N_elder' (nL aE) (Kd.R_base dL) hb)
     have cB:=am (Kd.N_elder' (nL aJ) (Kd.R_base dL) hb)
     have cC:=rbe aD hb
     have cD:=am (Kd.R_elder' (rL aU) (Kd.R_base dL) hb)
     have cE:=am (Kd.R_elder' (rL aZ) (Kd.R_base dL) hb)
     have cF:=am (Kd.R_lower (Kd.R_new' (Kd.R_new' dL (Kd.R_lt (rL aU))) (Kd.R_lt (rL aZ))) (below_size (bL HB)))
     have cI:=bkb aA hb
     have cO:=bkb aC hb
     have dZ:=bst HB hb
     have bA:=zk aM hb
     have bM:=zk aN hb
     have bT:=zk aY hb
     have bY:=zk a6 hb
     have b6:=zk a7 hb
     clear aE aJ aD aU aZ aA aC HB
     have aE:=cA
     have aJ:=cB
     have aD:=cC
     have aU:=cD
     have aZ:=cE
     have dM:=cF
     have aA:=cI
     have aC:=cO
     have HB:=dZ
     clear cA cB cC cD cE cF cI cO dZ hb dL
     refine hK.out _ _ ⟨bC,bH,bI,bD,bE,bF,bG,bJ,bB,m27_,(by rw [ha.out];exact putSel_upk 18 hb_ rfl rfl rfl),(rL aD),(N_later (Kd.N_mono aE.out (fun _ hk=>by first | exact hk | exact hk.1 | exact hk.1.1))),(N_later (Kd.N_mono aJ.out (fun _ hk=>by first | exact hk | exact hk.1 | exact hk.1.1))),(blk_later aA.out),(blk_later aC.out),(bL HB),bA,fun _ _=>R_later (Kd.R_mono aU.out (fun _ _=>trivial)),fun _ _=>R_later (Kd.R_mono aZ.out (fun _ _=>trivial)),bM,bT,bY,b6,fun _ _=>R_later (Kd.R_mono dM.out (fun _ _=>trivial)),z1 (hoff 26 (by kernel_rfl)),z1 (hoff 27 (by kernel_rfl))⟩
   refine steps_cons ?_ ?_
   · rintro b a w' ⟨bC,bH,bI,bD,bE,bF,bG,bJ,bB,m27_,ha,aG,aQ,aT,aH,aI,Q_HB,aM,aW,aX,aN,aY,a6,a7,a8,a9,bK⟩ hb_ hon hoff
     refine⟨_,rfl,fun K hK=>?_⟩
     have qG:a.tmps[56]?=some (bC):=by rw [ha];exact putSel_on (e:=(3,56,bC)) 2 rfl rfl (hon 3 (by kernel_rfl)) rfl
     have qH:a.tmps[58]?=some (bH):=by rw [ha];exact putSel_on (e:=(5,58,bH)) 3 rfl rfl (hon 5 (by kernel_rfl)) rfl
     have qI:a.tmps[60]?=some (bI):=by rw [ha];exact putSel_on (e:=(7,60,bI)) 4 rfl rfl (hon 7 (by kernel_rfl)) rfl
     have qJ:a.tmps[62]?=some (bD):=by rw [ha];exact putSel_on (e:=(9,62,bD)) 6 rfl rfl (hon 9 (by kernel_rfl)) rfl
     have qK:a.tmps[66]?=some (bE):=by rw [ha];exact putSel_on (e:=(13,66,bE)) 9 rfl rfl (hon 13 (by kernel_rfl)) rfl
     have qL:a.tmps[70]?=some (bF):=by rw [ha];exact putSel_on (e:=(17,70,bF)) 12 rfl rfl (hon 17 (by kernel_rfl)) rfl
     have qM:a.tmps[74]?=some (bG):=by rw [ha];exact putSel_on (e:=(21,74,bG)) 15 rfl rfl (hon 21 (by kernel_rfl)) rfl
     have qN:a.tmps[78]?=some (bJ):=by rw [ha];exact putSel_on (e:=(25,78,bJ)) 18 rfl rfl (hon 25 (by kernel_rfl)) rfl
     replace ha:=am ha
     have aD:=am aG
     have aE:=am aQ
     have aJ:=am aT
     have aA:=am aH
     have aC:=am aI
     have HB:=am Q_HB
     have dC:=am (aM (hon 3 (by kernel_rfl)) hb_)
     have aU:=am (aW (hon 5 (by kernel_rfl)) hb_)
     have aZ:=am (aX (hon 7 (by kernel_rfl)) hb_)
     have dE:=am (aN (hon 9 (by kernel_rfl)) hb_)
     have dG:=am (aY (hon 13 (by kernel_rfl)) hb_)
     have dI:=am (a6 (hon 17 (by kernel_rfl)) hb_)
     have dK:=am (a7 (hon 21 (by kernel_rfl)) hb_)
     have dM:=am (a8 (hon 25 (by kernel_rfl)) hb_)
     obtain⟨fR,fS,iK⟩:=Kd.R_slice dC.out
     (first | subst iK | (injection iK with f1_ f2_ f3_;have f4_:=f1_.symm;have f5_:=f3_.symm;clear f1_ f2_ f3_;subst f4_;subst f5_))
     obtain⟨fT,fU,iL⟩:=Kd.R_slice aU.out
     (first | subst iL | (injection iL with f1_ f2_ f3_;have f4_:=f1_.symm;have f5_:=f3_.symm;clear f1_ f2_ f3_;subst f4_;subst f5_))
     obtain⟨fV,fW,iM⟩:=Kd.R_slice aZ.out
     (first | subst iM | (injection iM with f1_ f2_ f3_;have f4_:=f1_.symm;have f5_:=f3_.symm;clear f1_ f2_ f3_;subst f4_;subst f5_))
     obtain⟨fX,fY,iN⟩:=Kd.R_slice dE.out
     (first | subst iN | (injection iN with f1_ f2_ f3_;have f4_:=f1_.symm;have f5_:=f3_.symm;clear f1_ f2_ f3_;subst f4_;subst f5_))
     obtain⟨fZ,f7,iO⟩:=Kd.R_slice dG.out
     (first | subst iO | (injection iO with f1_ f2_ f3_;have f4_:=f1_.symm;have f5_:=f3_.symm;clear f1_ f2_ f3_;subst f4_;subst f5_))
     obtain⟨f9,gA,iP⟩:=Kd.R_slice dI.out
     (first | subst iP | (injection iP with f1_ f2_ f3_;have f4_:=f1_.symm;have f5_:=f3_.symm;clear f1_ f2_ f3_;subst f4_;subst f5_))
     obtain⟨gB,gC,iQ⟩:=Kd.R_slice dK.out
     (first | subst iQ | (injection iQ with f1_ f2_ f3_;have f4_:=f1_.symm;have f5_:=f3_.symm;clear f1_ f2_ f3_;subst f4_;subst f5_))
     obtain⟨gD,gE,iR⟩:=Kd.R_slice dM.out
     (first | subst iR | (injection iR with f1_ f2_ f3_;have f4_:=f1_.symm;have f5_:=f3_.symm;clear f1_ f2_ f3_;subst f4_;subst f5_))
     refine Kd.N_lit_step (Kd.slice 49 k49) _ 27 ?hg (N':=79) ?hd (xs:=([cX,d7,d8,dB,dO,dQ,dT,d9]:List (List (S49)))) (inner:=[.slice fR cX.length fS,.slice fT d7.length fU,.slice fV d8.length fW,.slice fX dB.length fY,.slice fZ dO.length f7,.slice f9 dQ.length gA,.slice gB dT.length gC,.slice gD d9.length gE]) (ok:=(fun k_=>some k_≠(.slice bP bV.length bQ:Value).ownBlock∧some k_≠(.slice bR bX.length bS:Value).ownBlock∧some k_≠(.slice bZ bN.length bW:Value).ownBlock∧k_≠aK∧k_≠aV)) (okp:=(fun k_=>some k_≠(.slice bP bV.length bQ:Value).ownBlock∧some k_≠(.slice bR bX.length bS:Value).ownBlock∧some k_≠(.slice bZ bN.length bW:Value).ownBlock∧k_≠aK∧k_≠aV)) ?hr ?hp (fun _ hk=>hk) ((show ∀ k_,w'.heap.size≤k_→(fun k_=>some k_≠(.slice bP bV.length bQ:Value).ownBlock∧some k_≠(.slice bR bX.length bS:Value).ownBlock∧some k_≠(.slice bZ bN.length bW:Value).ownBlock∧k_≠aK∧k_≠aV) k_ from fun k_ hk=>⟨Kd.fresh' (Kd.N_lt (nL aE)) k_ hk,Kd.fresh' (Kd.N_lt (nL aJ)) k_ hk,Kd.fresh' (Kd.R_lt (rL aD)) k_ hk,Kd.freshB (blk_later aA.out) k_ hk,Kd.freshB (blk_later aC.out) k_ hk⟩) _ (Nat.le_refl _)) (Below.refl _ _) (Nat.le_refl _) (by simp) ?_;(case hd=>rfl);(case hg=>rfl);(case hr=>first | (go_simp;done) | (go_simp;rfl));(case hp=>exact (Reps.one (show Kd.FK (Kd.slice 49 k49) _ _ cX [.slice fR cX.length fS] from (Kd.FK_slice_mk (Kd.R_reads' (Kd.R_mono (ok':=(fun k_=>some k_≠(.slice bP bV.length bQ:Value).ownBlock∧some k_≠(.slice bR bX.length bS:Value).ownBlock∧some k_≠(.slice bZ bN.length bW:Value).ownBlock∧k_≠aK∧k_≠aV)) (Kd.R_types (Kd.R_types (Kd.R_apart' (Kd.R_apart' (Kd.R_apart' (dC.out) (Kd.N_typed aE.out) (by decide)) (Kd.N_typed aJ.out) (by decide)) (Kd.R_typed aD.out) (by decide)) aA.out (by decide)) aC.out (by decide)) (fun k_ hk=>⟨hk.1.1.1.1.2,⟨hk.1.1.1.2,⟨hk.1.1.2,⟨hk.1.2,hk.2⟩⟩⟩⟩))).2.1 (Kd.R_F (Kd.R_mono (ok':=(fun k_=>some k_≠(.slice bP bV.length bQ:Value).ownBlock∧some k_≠(.slice bR bX.length bS:Value).ownBlock∧some k_≠(.slice bZ bN.length bW:Value).ownBlock∧k_≠aK∧k_≠aV)) (Kd.R_types (Kd.R_types (Kd.R_apart' (Kd.R_apart' (Kd.R_apart' (dC.out) (Kd.N_typed aE.out) (by decide)) (Kd.N_typed aJ.out) (by decide)) (Kd.R_typed aD.out) (by decide)) aA.out (by decide)) aC.out (by decide)) (fun k_ hk=>⟨hk.1.1.1.1.2,⟨hk.1.1.1.2,⟨hk.1.1.2,⟨hk.1.2,hk.2⟩⟩⟩⟩))))) (Reps.one (show Kd.FK (Kd.slice 49 k49) _ _ d7 [.slice fT d7.length fU] from (Kd.FK_slice_mk (Kd.R_reads' (Kd.R_mono (ok':=(fun k_=>some k_≠(.slice bP bV.length bQ:Value).ownBlock∧some k_≠(.slice bR bX.length bS:Value).ownBlock∧some k_≠(.slice bZ bN.length bW:Value).ownBlock∧k_≠aK∧k_≠aV)) (Kd.R_types (Kd.R_types (Kd.R_apart' (Kd.R_apart' (Kd.R_apart' (aU.out) (Kd.N_typed aE.out) (by decide)) (Kd.N_typed aJ.out) (by decide)) (Kd.R_typed aD.out) (by decide)) aA.out (by decide)) aC.out (by decide)) (fun k_ hk=>⟨hk.1.1.1.1.2,⟨hk.1.1.1.2,⟨hk.1.1.2,⟨hk.1.2,hk.2⟩⟩⟩⟩))).2.1 (Kd.R_F (Kd.R_mono (ok':=(fun k_=>some k_≠(.slice bP bV.length bQ:Value).ownBlock∧some k_≠(.slice bR bX.length bS:Value).ownBlock∧some k_≠(.slice bZ bN.length bW:Value).ownBlock∧k_≠aK∧k_≠aV)) (Kd.R_types (Kd.R_types (Kd.R_apart' (Kd.R_apart' (Kd.R_apart' (aU.out) (Kd.N_typed aE.out) (by decide)) (Kd.N_typed aJ.out) (by decide)) (Kd.R_typed aD.out) (by decide)) aA.out (by decide)) aC.out (by decide)) (fun k_ hk=>⟨hk.1.1.1.1.2,⟨hk.1.1.1.2,⟨hk.1.1.2,⟨hk.1.2,hk.2⟩⟩⟩⟩))))) (Reps.one (show Kd.FK (Kd.slice 49 k49) _ _ d8 [.slice fV d8.length fW] from (Kd.FK_slice_mk (Kd.R_reads' (Kd.R_mono (ok':=(fun k_=>some k_≠(.slice bP bV.length bQ:Value).ownBlock∧some k_≠(.slice bR bX.length bS:Value).ownBlock∧some k_≠(.slice bZ bN.length bW:Value).ownBlock∧k_≠aK∧k_≠aV)) (Kd.R_types (Kd.R_types (Kd.R_apart' (Kd.R_apart' (Kd.R_apart' (aZ.out) (Kd.N_typed aE.out) (by decide)) (Kd.N_typed aJ.out) (by decide)) (Kd.R_typed aD.out) (by decide)) aA.out (by decide)) aC.out (by decide)) (fun k_ hk=>⟨hk.1.1.1.1.2,⟨hk.1.1.1.2,⟨hk.1.1.2,⟨hk.1.2,hk.2⟩⟩⟩⟩))).2.1 (Kd.R_F (Kd.R_mono (ok':=(fun k_=>some k_≠(.slice bP bV.length bQ:Value).ownBlock∧some k_≠(.slice bR bX.length bS:Value).ownBlock∧some k_≠(.slice bZ bN.length bW:Value).ownBlock∧k_≠aK∧k_≠aV)) (Kd.R_types (Kd.R_types (Kd.R_apart' (Kd.R_apart' (Kd.R_apart' (aZ.out) (Kd.N_typed aE.out) (by decide)) (Kd.N_typed aJ.out) (by decide)) (Kd.R_typed aD.out) (by decide)) aA.out (by decide)) aC.out (by decide)) (fun k_ hk=>⟨hk.1.1.1.1.2,⟨hk.1.1.1.2,⟨hk.1.1.2,⟨hk.1.2,hk.2⟩⟩⟩⟩))))) (Reps.one (show Kd.FK (Kd.slice 49 k49) _ _ dB [.slice fX dB.length fY] from (Kd.FK_slice_mk (Kd.R_reads' (Kd.R_mono (ok':=(fun k_=>some k_≠(.slice bP bV.length bQ:Value).ownBlock∧some k_≠(.slice bR bX.length bS:Value).ownBlock∧some k_≠(.slice bZ bN.length bW:Value).ownBlock∧k_≠aK∧k_≠aV)) (Kd.R_types (Kd.R_types (Kd.R_apart' (Kd.R_apart' (Kd.R_apart' (dE.out) (Kd.N_typed aE.out) (by decide)) (Kd.N_typed aJ.out) (by decide)) (Kd.R_typed aD.out) (by decide)) aA.out (by decide)) aC.out (by decide)) (fun k_ hk=>⟨hk.1.1.1.1.2,⟨hk.1.1.1.2,⟨hk.1.1.2,⟨hk.1.2,hk.2⟩⟩⟩⟩))).2.1 (Kd.R_F (Kd.R_mono (ok':=(fun k_=>some k_≠(.slice bP bV.length bQ:Value).ownBlock∧some k_≠(.slice bR bX.length bS:Value).ownBlock∧some k_≠(.slice bZ bN.length bW:Value).ownBlock∧k_≠aK∧k_≠aV)) (Kd.R_types (Kd.R_types (Kd.R_apart' (Kd.R_apart' (Kd.R_apart' (dE.out) (Kd.N_typed aE.out) (by decide)) (Kd.N_typed aJ.out) (by decide)) (Kd.R_typed aD.out) (by decide)) aA.out (by decide)) aC.out (by decide)) (fun k_ hk=>⟨hk.1.1.1.1.2,⟨hk.1.1.1.2,⟨hk.1.1.2,⟨hk.1.2,hk.2⟩⟩⟩⟩))))) (Reps.one (show Kd.FK (Kd.slice 49 k49) _ _ dO [.slice fZ dO.length f7] from (Kd.FK_slice_mk (Kd.R_reads' (Kd.R_mono (ok':=(fun k_=>some k_≠(.slice bP bV.length bQ:Value).ownBlock∧some k_≠(.slice bR bX.length bS:Value).ownBlock∧some k_≠(.slice bZ bN.length bW:Value).ownBlock∧k_≠aK∧k_≠aV)) (Kd.R_types (Kd.R_types (Kd.R_apart' (Kd.R_apart' (Kd.R_apart' (dG.out) (Kd.N_typed aE.out) (by decide)) (Kd.N_typed aJ.out) (by decide)) (Kd.R_typed aD.out) (by decide)) aA.out (by decide)) aC.out (by decide)) (fun k_ hk=>⟨hk.1.1.1.1.2,⟨hk.1.1.1.2,⟨hk.1.1.2,⟨hk.1.2,hk.2⟩⟩⟩⟩))).2.1 (Kd.R_F (Kd.R_mono (ok':=(fun k_=>some k_≠(.slice bP bV.length bQ:Value).ownBlock∧some k_≠(.slice bR bX.length bS:Value).ownBlock∧some k_≠(.slice bZ bN.length bW:Value).ownBlock∧k_≠aK∧k_≠aV)) (Kd.R_types (Kd.R_types (Kd.R_apart' (Kd.R_apart' (Kd.R_apart' (dG.out) (Kd.N_typed aE.out) (by decide)) (Kd.N_typed aJ.out) (by decide)) (Kd.R_typed aD.out) (by decide)) aA.out (by decide)) aC.out (by decide)) (fun k_ hk=>⟨hk.1.1.1.1.2,⟨hk.1.1.1.2,⟨hk.1.1.2,⟨hk.1.2,hk.2⟩⟩⟩⟩))))) (Reps.one (show Kd.FK (Kd.slice 49 k49) _ _ dQ [.slice f9 dQ.length gA] from (Kd.FK_slice_mk (Kd.R_reads' (Kd.R_mono (ok':=(fun k_=>some k_≠(.slice bP bV.length bQ:Value).ownBlock∧some k_≠(.slice bR bX.length bS:Value).ownBlock∧some k_≠(.slice bZ bN.length bW:Value).ownBlock∧k_≠aK∧k_≠aV)) (Kd.R_types (Kd.R_types (Kd.R_apart' (Kd.R_apart' (Kd.R_apart' (dI.out) (Kd.N_typed aE.out) (by decide)) (Kd.N_typed aJ.out) (by decide)) (Kd.R_typed aD.out) (by decide)) aA.out (by decide)) aC.out (by decide)) (fun k_ hk=>⟨hk.1.1.1.1.2,⟨hk.1.1.1.2,⟨hk.1.1.2,⟨hk.1.2,hk.2⟩⟩⟩⟩))).2.1 (Kd.R_F (Kd.R_mono (ok':=(fun k_=>some k_≠(.slice bP bV.length bQ:Value).ownBlock∧some k_≠(.slice bR bX.length bS:Value).ownBlock∧some k_≠(.slice bZ bN.length bW:Value).ownBlock∧k_≠aK∧k_≠aV)) (Kd.R_types (Kd.R_types (Kd.R_apart' (Kd.R_apart' (Kd.R_apart' (dI.out) (Kd.N_typed aE.out) (by decide)) (Kd.N_typed aJ.out) (by decide)) (Kd.R_typed aD.out) (by decide)) aA.out (by decide)) aC.out (by decide)) (fun k_ hk=>⟨hk.1.1.1.1.2,⟨hk.1.1.1.2,⟨hk.1.1.2,⟨hk.1.2,hk.2⟩⟩⟩⟩))))) (Reps.one (show Kd.FK (Kd.slice 49 k49) _ _ dT [.slice gB dT.length gC] from (Kd.FK_slice_mk (Kd.R_reads' (Kd.R_mono (ok':=(fun k_=>some k_≠(.slice bP bV.length bQ:Value).ownBlock∧some k_≠(.slice bR bX.length bS:Value).ownBlock∧some k_≠(.slice bZ bN.length bW:Value).ownBlock∧k_≠aK∧k_≠aV)) (Kd.R_types (Kd.R_types (Kd.R_apart' (Kd.R_apart' (Kd.R_apart' (dK.out) (Kd.N_typed aE.out) (by decide)) (Kd.N_typed aJ.out) (by decide)) (Kd.R_typed aD.out) (by decide)) aA.out (by decide)) aC.out (by decide)) (fun k_ hk=>⟨hk.1.1.1.1.2,⟨hk.1.1.1.2,⟨hk.1.1.2,⟨hk.1.2,hk.2⟩⟩⟩⟩))).2.1 (Kd.R_F (Kd.R_mono (ok':=(fun k_=>some k_≠(.slice bP bV.length bQ:Value).ownBlock∧some k_≠(.slice bR bX.length bS:Value).ownBlock∧some k_≠(.slice bZ bN.length bW:Value).ownBlock∧k_≠aK∧k_≠aV)) (Kd.R_types (Kd.R_types (Kd.R_apart' (Kd.R_apart' (Kd.R_apart' (dK.out) (Kd.N_typed aE.out) (by decide)) (Kd.N_typed aJ.out) (by decide)) (Kd.R_typed aD.out) (by decide)) aA.out (by decide)) aC.out (by decide)) (fun k_ hk=>⟨hk.1.1.1.1.2,⟨hk.1.1.1.2,⟨hk.1.1.2,⟨hk.1.2,hk.2⟩⟩⟩⟩))))) (Reps.one (show Kd.FK (Kd.slice 49 k49) _ _ d9 [.slice gD d9.length gE] from (Kd.FK_slice_mk (Kd.R_reads' (Kd.R_mono (ok':=(fun k_=>some k_≠(.slice bP bV.length bQ:Value).ownBlock∧some k_≠(.slice bR bX.length bS:Value).ownBlock∧some k_≠(.slice bZ bN.length bW:Value).ownBlock∧k_≠aK∧k_≠aV)) (Kd.R_types (Kd.R_types (Kd.R_apart' (Kd.R_apart' (Kd.R_apart' (dM.out) (Kd.N_typed aE.out) (by decide)) (Kd.N_typed aJ.out) (by decide)) (Kd.R_typed aD.out) (by decide)) aA.out (by decide)) aC.out (by decide)) (fun k_ hk=>⟨hk.1.1.1.1.2,⟨hk.1.1.1.2,⟨hk.1.1.2,⟨hk.1.2,hk.2⟩⟩⟩⟩))).2.1 (Kd.R_F (Kd.R_mono (ok':=(fun k_=>some k_≠(.slice bP bV.length bQ:Value).ownBlock∧some k_≠(.slice bR bX.length bS:Value).ownBlock∧some k_≠(.slice bZ bN.length bW:Value).ownBlock∧k_≠aK∧k_≠aV)) (Kd.R_types (Kd.R_types (Kd.R_apart' (Kd.R_apart' (Kd.R_apart' (dM.out) (Kd.N_typed aE.out) (by decide)) (Kd.N_typed aJ.out) (by decide)) (Kd.R_typed aD.out) (by decide)) aA.out (by decide)) aC.out (by decide)) (fun k_ hk=>⟨hk.1.1.1.1.2,⟨hk.1.1.1.2,⟨hk.1.1.2,⟨hk.1.2,hk.2⟩⟩⟩⟩))))) (Reps.none _ _))))))))))
     intro bB o0 cY hb hg_ hnew_
     clear hg_ hnew_
     (first | rw [← iJ.out] at cY | (simp only [Int.reduceToNat] at cY;rw [← iJ.out] at cY))
     have bO:=am (Kd.N_lower cY (below_size (bL HB)))
     replace aE:=am (Kd.N_elder' (nL aE) (Kd.N_base cY) hb)
     replace aJ:=am (Kd.N_elder' (nL aJ) (Kd.N_base cY) hb)
     replace aD:=rbe aD hb
     replace aA:=bkb aA hb
     replace aC:=bkb aC hb
     replace HB:=bst HB hb
     clear dC aU aZ dE dG dI dK dM hb cY
     refine hK.out _ _ ⟨.slice fR cX.length fS,.slice fT d7.length fU,.slice fV d8.length fW,.slice fX dB.length fY,.slice fZ dO.length f7,.slice f9 dQ.length gA,.slice gB dT.length gC,.slice gD d9.length gE,bB,m27_,(by rw [ha.out];exact putSel_upk 19 hb_ rfl rfl rfl),(rL aD),(N_later (Kd.N_mono aE.out (fun _ hk=>by first | exact hk | exact hk.1 | exact hk.1.1))),(N_later (Kd.N_mono aJ.out (fun _ hk=>by first | exact hk | exact hk.1 | exact hk.1.1))),(blk_later aA.out),(blk_later aC.out),(bL HB),fun _ bU=>absurd ((up_self b 26).symm.trans bU) (by decide),fun _ bU=>absurd ((up_self b 26).symm.trans bU) (by decide),fun _ bU=>absurd ((up_self b 26).symm.trans bU) (by decide),fun _ bU=>absurd ((up_self b 26).symm.trans bU) (by decide),fun _ bU=>absurd ((up_self b 26).symm.trans bU) (by decide),fun _ bU=>absurd ((up_self b 26).symm.trans bU) (by decide),fun _ bU=>absurd ((up_self b 26).symm.trans bU) (by decide),fun _ bU=>absurd ((up_self b 26).symm.trans bU) (by decide),fun _=>(N_later (Kd.N_mono bO.out (fun _ hk=>⟨hk.2.2.1,⟨hk.1,⟨hk.2.1,⟨hk.2.2.2.1,hk.2.2.2.2⟩⟩⟩⟩))),z1 (hoff 27 (by kernel_rfl))⟩
   refine steps_cons ?_ ?_
   · rintro b a w' ⟨bC,bH,bI,bD,bE,bF,bG,bJ,bB,m27_,ha,aG,aQ,aT,aH,aI,Q_HB,aM,aW,aX,aN,aY,a6,a7,a8,a9,bK⟩ hb_ hon hoff
     refine⟨_,rfl,fun K hK=>?_⟩
     have qO:a.tmps[79]?=some (bB):=by rw [ha];exact putSel_on (e:=(26,79,bB)) 19 rfl rfl (hon 26 (by kernel_rfl)) rfl
     replace ha:=am ha
     have aD:=am aG
     have aE:=am aQ
     have aJ:=am aT
     have aA:=am aH
     have aC:=am aI
     have HB:=am Q_HB
     have bO:=am (a9 (hon 26 (by kernel_rfl)))
     refine value_ (w1:=w') (v:=bB) (by rfl) rfl ?_ ?_
     · go_simp
       (try simp only [i64_w])
       try rfl
     refine hK.out _ _ ⟨bC,bH,bI,bD,bE,bF,bG,bJ,bB,(bB),(by rw [ha.out];exact putSel_upk 20 hb_ rfl rfl rfl),aG,aQ,aT,aH,aI,Q_HB,fun _ bU=>absurd ((hon 26 (by kernel_rfl)).symm.trans bU) (by decide),fun _ bU=>absurd ((hon 26 (by kernel_rfl)).symm.trans bU) (by decide),fun _ bU=>absurd ((hon 26 (by kernel_rfl)).symm.trans bU) (by decide),fun _ bU=>absurd ((hon 26 (by kernel_rfl)).symm.trans bU) (by decide),fun _ bU=>absurd ((hon 26 (by kernel_rfl)).symm.trans bU) (by decide),fun _ bU=>absurd ((hon 26 (by kernel_rfl)).symm.trans bU) (by decide),fun _ bU=>absurd ((hon 26 (by kernel_rfl)).symm.trans bU) (by decide),fun _ bU=>absurd ((hon 26 (by kernel_rfl)).symm.trans bU) (by decide),a9,fun _=>rfl⟩
   exact steps_nil
 rintro b a o1 hall ⟨bC,bH,bI,bD,bE,bF,bG,bJ,bB,m27_,ha,aG,aQ,aT,aH,aI,Q_HB,aM,aW,aX,aN,aY,a6,a7,a8,a9,bK⟩
 clear aA aC HB aD aE aJ
 have k0:=hall 1 (by kernel_rfl)
 have k5:=hall 2 (by kernel_rfl)
 have k6:=hall 3 (by kernel_rfl)
 have k7:=hall 5 (by kernel_rfl)
 have k8:=hall 7 (by kernel_rfl)
 have k9:=hall 8 (by kernel_rfl)
 have lA:=hall 9 (by kernel_rfl)
 have iS:=hall 11 (by kernel_rfl)
 have iT:=hall 12 (by kernel_rfl)
 have iU:=hall 13 (by kernel_rfl)
 have iV:=hall 15 (by kernel_rfl)
 have iW:=hall 16 (by kernel_rfl)
 have iX:=hall 17 (by kernel_rfl)
 have iY:=hall 19 (by kernel_rfl)
 have iZ:=hall 20 (by kernel_rfl)
 have i1:=hall 21 (by kernel_rfl)
 have i2:=hall 23 (by kernel_rfl)
 have i3:=hall 24 (by kernel_rfl)
 have i4:=hall 25 (by kernel_rfl)
 have gF:=hall 26 (by kernel_rfl)
 have gG:=hall 27 (by kernel_rfl)
 subst ha
 obtain rfl:=(bK gG).symm
 simp only [putSel,k0,k5,k6,k7,k8,k9,lA,iS,iT,iU,iV,iW,iX,iY,iZ,i1,i2,i3,i4,gF,gG,if_true,Act.put,List.setIfInBounds_toArray,List.set_cons_zero,List.set_cons_succ]
 have aD:=am aG
 clear aG
 have aE:=am aQ
 clear aQ
 have aJ:=am aT
 clear aT
 have aA:=am aH
 clear aH
 have aC:=am aI
 clear aI
 have HB:=am Q_HB
 clear Q_HB aM aW aX aN aY a6 a7 a8
 have bO:=am (a9 gF)
 clear a9 hall k0 k5 k6 k7 k8 k9 lA iS iT iU iV iW iX iY iZ i1 i2 i3 i4 gF gG
 replace bO:=am (Kd.N_mono (ok':=fun _=>True) bO.out (fun _ _=>trivial))
 clear aE aJ aD
 have H:=HS.out
 clear HS
 replace H:=ieq H;obtain⟨lB,lC,H⟩ | ⟨qP,lB,lC,H⟩:=H
 · replace H:=bnd5 H;obtain⟨lD,lE,lF,lG,lH,o3,H⟩:=H;dsimp only at H
   generalize i5:((([(⟨lD,lE,lF,lG,lH⟩:S49)]:List (S49))):List (S49))=gH at H;have lI:=am i5.symm;clear i5
   replace H:=bnd H;obtain⟨gI,o4,H⟩:=H
   generalize i6:((([gH,gI]:List (List (S49)))):List (List (S49)))=m7 at H;have i7:=am i6.symm;clear i6
   replace H:=bnd H;obtain⟨o5,o6,H⟩:=H
   cases H
   obtain⟨_,_,_,_,_,_,_,_,_,_,_,_⟩:=cl6 aA
   try go_wp2_with (first | ((with_reducible refine gc 33 rfl ?_);refine gc1 (some 92) Try.func33 rfl (impl_longNode.calls o3.out) ?_;rintro qQ hb;replace bO:=nbe bO hb;replace aA:=bkb aA hb;replace aC:=bkb aC hb;replace HB:=bst HB hb;clear hb) | ((with_reducible refine gd 93 rfl ?_);refine rl5 k49 49 93 ⟨lD,lE,lF,lG,lH⟩ lI (k49_mkM _ _ _ _) rfl ?_;intro o7 qR jS hb;have cZ:=rlb jS HB;replace bO:=am (Kd.N_elder' (nL bO) (Kd.R_base jS) hb);replace aA:=bkb aA hb;replace aC:=bkb aC hb;replace HB:=bst HB hb;clear hb jS;obtain⟨m8,m9,nA⟩:=Kd.N_slice bO.out;subst nA) | ((with_reducible refine gc 31 rfl ?_);refine gl_ (some 95) Try.func31 #[.int .i64 3,.slice m8 fP.length m9] rfl ?_;(with_reducible refine (impl_structNode.calls ?side1 ?side2 o4.out).mono ?_);(case side1=>repeat (first | exact (Kd.N_reads' bO.out).2.2 | (with_reducible refine Kd.C_alloc ?_ _) | (with_reducible refine Kd.C_drewN ?_ _) | (with_reducible refine Kd.C_drew ?_)));(case side2=>exact (Kd.N_reads' bO.out).2.1);rintro e qS ⟨o8,rfl,cN,hb⟩;refine⟨_,rfl,?_⟩;have d3:=am (Kd.R_lower (Kd.R_new' cN (Kd.R_lt (rL cZ))) (below_size (bL HB)));replace bO:=am (Kd.N_elder' (nL bO) (Kd.R_base cN) hb);replace cZ:=am (Kd.R_elder' (rL cZ) (Kd.R_base cN) hb);replace aA:=bkb aA hb;replace aC:=bkb aC hb;replace HB:=bst HB hb;clear hb cN;obtain⟨lJ,lK,nB⟩:=Kd.R_slice cZ.out;subst nB;obtain⟨lL,lM,nC⟩:=Kd.R_slice d3.out;subst nC) | ((with_reducible refine gd 96 rfl ?_);refine Kd.N_lit (Kd.slice 49 k49) _ 27 ?hg (N':=96) ?hd (xs:=([gH,gI]:List (List (S49)))) (inner:=[.slice lJ gH.length lK,.slice lL gI.length lM]) (ok:=(fun _=>True)) (okp:=(fun _=>True)) ?hr ?hp (fun _ hk=>hk) trivial (Below.refl _ _) (Nat.le_refl _) (by simp) ?_;(case hd=>rfl);(case hg=>rfl);(case hr=>first | (go_simp;done) | (go_simp;rfl));(case hp=>exact (Reps.one (show Kd.FK (Kd.slice 49 k49) _ _ gH [.slice lJ gH.length lK] from (Kd.FK_slice_mk (Kd.R_reads' (Kd.R_mono (ok':=(fun _=>True)) cZ.out (fun _ _=>trivial))).2.1 (Kd.R_F (Kd.R_mono (ok':=(fun _=>True)) cZ.out (fun _ _=>trivial))))) (Reps.one (show Kd.FK (Kd.slice 49 k49) _ _ gI [.slice lL gI.length lM] from (Kd.FK_slice_mk (Kd.R_reads' (Kd.R_mono (ok':=(fun _=>True)) d3.out (fun _ _=>trivial))).2.1 (Kd.R_F (Kd.R_mono (ok':=(fun _=>True)) d3.out (fun _ _=>trivial))))) (Reps.none _ _))));intro o9 qT eC hb hg_ hnew_;clear hg_ hnew_;(first | rw [← i7.out] at eC | (simp only [Int.reduceToNat] at eC;rw [← i7.out] at eC));have dR:=am (Kd.N_lower eC (below_size (bL HB)));replace bO:=am (Kd.N_elder' (nL bO) (Kd.N_base eC) hb);replace aA:=bkb aA hb;replace aC:=bkb aC hb;replace HB:=bst HB hb;clear cZ d3;clear hb eC;obtain⟨nD,nE,nF⟩:=Kd.N_slice dR.out;subst nF) | ((with_reducible refine gc 31 rfl ?_);refine gl_ (some 97) Try.func31 #[.int .i64 0,.slice nD m7.length nE] rfl ?_;(with_reducible refine (impl_structNode.calls ?side1 ?side2 o6.out).mono ?_);(case side1=>repeat (first | exact (Kd.N_reads' dR.out).2.2 | (with_reducible refine Kd.C_alloc ?_ _) | (with_reducible refine Kd.C_drewN ?_ _) | (with_reducible refine Kd.C_drew ?_)));(case side2=>exact (Kd.N_reads' dR.out).2.1);rintro e qU ⟨pA,rfl,cN,hb⟩;refine⟨_,rfl,?_⟩;have lN:=rlb cN HB;replace bO:=am (Kd.N_elder' (nL bO) (Kd.R_base cN) hb);replace dR:=am (Kd.N_elder' (nL dR) (Kd.R_base cN) hb);replace aA:=bkb aA hb;replace aC:=bkb aC hb;replace HB:=bst HB hb;clear hb cN))
   go_ret
   exact⟨_,fin_ ⟨rL lN,bL HB⟩⟩
 replace H:=bnd5 H;obtain⟨lO,lP,lQ,lR,lS,pB,H⟩:=H;dsimp only at H
 generalize i8:((([(⟨lO,lP,lQ,lR,lS⟩:S49)]:List (S49))):List (S49))=jT at H;have lT:=am i8.symm;clear i8
 by_cases mO:fP.length < 5864062014805
 rotate_left
 · rw [if_neg mO] at H
   exact absurd H (by simp)
 rw [if_pos mO] at H
 have lU:=am mO
 clear mO
 generalize i9:((fP ++ [jT]):List (List (S49)))=nG at H;have lV:=am i9.symm;clear i9
 replace H:=bnd5 H;obtain⟨lW,lX,lY,lZ,l3,nH,H⟩:=H;dsimp only at H
 generalize jA:((([(⟨lW,lX,lY,lZ,l3⟩:S49)]:List (S49))):List (S49))=gJ at H;have l4:=am jA.symm;clear jA
 replace H:=bnd H;obtain⟨gK,nI,H⟩:=H
 generalize jB:((([gJ,gK]:List (List (S49)))):List (List (S49)))=nJ at H;have jC:=am jB.symm;clear jB
 replace H:=bnd H;obtain⟨pC,nK,H⟩:=H
 cases H
 obtain⟨_,_,_,_,_,_,_,_,_,_,_,_⟩:=cl6 aA
 try go_wp2_with (first | ((with_reducible refine gc 33 rfl ?_);refine gc1 (some 86) Try.func33 rfl (impl_longNode.calls pB.out) ?_;rintro pD hb;replace bO:=nbe bO hb;replace aA:=bkb aA hb;replace aC:=bkb aC hb;replace HB:=bst HB hb;clear hb) | ((with_reducible refine gd 87 rfl ?_);refine rl5 k49 49 87 ⟨lO,lP,lQ,lR,lS⟩ lT (k49_mkM _ _ _ _) rfl ?_;intro pE pF gL hb;have d4:=rlb gL HB;replace bO:=am (Kd.N_elder' (nL bO) (Kd.R_base gL) hb);replace aA:=bkb aA hb;replace aC:=bkb aC hb;replace HB:=bst HB hb;clear hb gL;obtain⟨l6,l7,l8⟩:=Kd.R_slice d4.out;subst l8) | ((with_reducible refine gate_builtin (b:=.append) (xs:=#[.tmp 83,.tmp 88]) rfl ?_);at_builtin;refine Kd.N_append (Kd.slice 49 k49) (w0:=w) w.heap.size rfl (.tmp 83) (.tmp 88) 62 27 (.slice none 0 0) 24 rfl Try.underlying62 info27 rfl (by decide) (by omega) bB fP jT [.slice l6 jT.length l7] (fun _=>True) (fun k_=>((fun _=>True)) k_∧some k_≠(bB:Value).ownBlock) rfl rfl ?aP (fun _ hk=>hk) ?aF ?aO ?aB ?aS ?aL ?_;(case aP=>exact (Kd.FK_slice_mk (Kd.R_reads' (Kd.R_mono (ok':=(fun k_=>((fun _=>True)) k_∧some k_≠(bB:Value).ownBlock)) (Kd.R_apart' d4.out (Kd.N_typed bO.out) (by decide)) (fun _ hk=>⟨trivial,hk.2⟩))).2.1 (Kd.R_F (Kd.R_mono (ok':=(fun k_=>((fun _=>True)) k_∧some k_≠(bB:Value).ownBlock)) (Kd.R_apart' d4.out (Kd.N_typed bO.out) (by decide)) (fun _ hk=>⟨trivial,hk.2⟩)))));(case aB=>exact (bL HB));(case aF=>exact (fun _ _=>trivial));(case aO=>exact (N_later (Kd.N_mono bO.out (fun _ _=>trivial))));(case aS=>exact (below_size (bL HB)));(case aL=>have:=lU.out;omega);intro pG pH ho hb hg hat;rw [← lV.out] at ho;have cH:=am ho;replace aA:=am (blk_grown (blk_later aA.out) hg (Kd.N_ne bO.out aA.out (by decide)));replace aC:=am (blk_grown (blk_later aC.out) hg (Kd.N_ne bO.out aC.out (by decide)));replace HB:=am hb;clear bO d4;clear ho hb hg hat;obtain⟨_,_,_,_,_,_,_,_,_,_,_,_⟩:=cl6 aA) | ((with_reducible refine gc 33 rfl ?_);refine gc1 (some 92) Try.func33 rfl (impl_longNode.calls nH.out) ?_;rintro pI hb;replace cH:=nbe cH hb;replace aA:=bkb aA hb;replace aC:=bkb aC hb;replace HB:=bst HB hb;clear hb) | ((with_reducible refine gd 93 rfl ?_);refine rl5 k49 49 93 ⟨lW,lX,lY,lZ,l3⟩ l4 (k49_mkM _ _ _ _) rfl ?_;intro pJ pK gM hb;have dA:=rlb gM HB;replace cH:=am (Kd.N_elder' (nL cH) (Kd.R_base gM) hb);replace aA:=bkb aA hb;replace aC:=bkb aC hb;replace HB:=bst HB hb;clear hb gM;obtain⟨l9,mA,mB⟩:=Kd.N_slice cH.out;subst mB) | ((with_reducible refine gc 31 rfl ?_);refine gl_ (some 95) Try.func31 #[.int .i64 3,.slice l9 nG.length mA] rfl ?_;(with_reducible refine (impl_structNode.calls ?side1 ?side2 nI.out).mono ?_);(case side1=>repeat (first | exact (Kd.N_reads' cH.out).2.2 | (with_reducible refine Kd.C_alloc ?_ _) | (with_reducible refine Kd.C_drewN ?_ _) | (with_reducible refine Kd.C_drew ?_)));(case side2=>exact (Kd.N_reads' cH.out).2.1);rintro e pM ⟨pN,rfl,cN,hb⟩;refine⟨_,rfl,?_⟩;have d5:=am (Kd.R_lower (Kd.R_new' cN (Kd.R_lt (rL dA))) (below_size (bL HB)));replace cH:=am (Kd.N_elder' (nL cH) (Kd.R_base cN) hb);replace dA:=am (Kd.R_elder' (rL dA) (Kd.R_base cN) hb);replace aA:=bkb aA hb;replace aC:=bkb aC hb;replace HB:=bst HB hb;clear hb cN;obtain⟨jD,jE,mC⟩:=Kd.R_slice dA.out;subst mC;obtain⟨jF,jG,mD⟩:=Kd.R_slice d5.out;subst mD) | ((with_reducible refine gd 96 rfl ?_);refine Kd.N_lit (Kd.slice 49 k49) _ 27 ?hg (N':=96) ?hd (xs:=([gJ,gK]:List (List (S49)))) (inner:=[.slice jD gJ.length jE,.slice jF gK.length jG]) (ok:=(fun _=>True)) (okp:=(fun _=>True)) ?hr ?hp (fun _ hk=>hk) trivial (Below.refl _ _) (Nat.le_refl _) (by simp) ?_;(case hd=>rfl);(case hg=>rfl);(case hr=>first | (go_simp;done) | (go_simp;rfl));(case hp=>exact (Reps.one (show Kd.FK (Kd.slice 49 k49) _ _ gJ [.slice jD gJ.length jE] from (Kd.FK_slice_mk (Kd.R_reads' (Kd.R_mono (ok':=(fun _=>True)) dA.out (fun _ _=>trivial))).2.1 (Kd.R_F (Kd.R_mono (ok':=(fun _=>True)) dA.out (fun _ _=>trivial))))) (Reps.one (show Kd.FK (Kd.slice 49 k49) _ _ gK [.slice jF gK.length jG] from (Kd.FK_slice_mk (Kd.R_reads' (Kd.R_mono (ok':=(fun _=>True)) d5.out (fun _ _=>trivial))).2.1 (Kd.R_F (Kd.R_mono (ok':=(fun _=>True)) d5.out (fun _ _=>trivial))))) (Reps.none _ _))));intro pO pP dN hb hg_ hnew_;clear hg_ hnew_;(first | rw [← jC.out] at dN | (simp only [Int.reduceToNat] at dN;rw [← jC.out] at dN));have dS:=am (Kd.N_lower dN (below_size (bL HB)));replace cH:=am (Kd.N_elder' (nL cH) (Kd.N_base dN) hb);replace aA:=bkb aA hb;replace aC:=bkb aC hb;replace HB:=bst HB hb;clear dA d5;clear hb dN;obtain⟨mE,mF,mG⟩:=Kd.N_slice dS.out;subst mG) | ((with_reducible refine gc 31 rfl ?_);refine gl_ (some 97) Try.func31 #[.int .i64 0,.slice mE nJ.length mF] rfl ?_;(with_reducible refine (impl_structNode.calls ?side1 ?side2 nK.out).mono ?_);(case side1=>repeat (first | exact (Kd.N_reads' dS.out).2.2 | (with_reducible refine Kd.C_alloc ?_ _) | (with_reducible refine Kd.C_drewN ?_ _) | (with_reducible refine Kd.C_drew ?_)));(case side2=>exact (Kd.N_reads' dS.out).2.1);rintro e pQ ⟨pR,rfl,cN,hb⟩;refine⟨_,rfl,?_⟩;have mH:=rlb cN HB;replace cH:=am (Kd.N_elder' (nL cH) (Kd.R_base cN) hb);replace dS:=am (Kd.N_elder' (nL dS) (Kd.R_base cN) hb);replace aA:=bkb aA hb;replace aC:=bkb aC hb;replace HB:=bst HB hb;clear hb cN))
 go_ret
 exact⟨_,fin_ ⟨rL mH,bL HB⟩⟩
end Go.Proofs.Ytjdapaocdkcgdaa.PFnExactMetaPack
