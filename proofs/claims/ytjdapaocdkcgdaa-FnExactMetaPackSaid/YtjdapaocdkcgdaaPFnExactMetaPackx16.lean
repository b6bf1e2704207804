/- The machine's side of FnExactMetaPack: each Go function, and what its call comes to. No condition. -/
import Derived.Test.YtjdapaocdkcgdaaPFnExactMetaPackx0
import Derived.Test.YtjdapaocdkcgdaaPFnExactMetaPackx11
import Derived.Test.YtjdapaocdkcgdaaPFnExactMetaPackx13
import Derived.Test.YtjdapaocdkcgdaaPFnExactMetaPackx14
namespace Go.Proofs.Ytjdapaocdkcgdaa.PFnExactMetaPack
open Go.RowKit Go.Proofs.YtjdapaocdkcgdaaW.PrintWords Go.Proofs.YtjdapaocdkcgdaaW.PrintLast Go.Proofs.YtjdapaocdkcgdaaW.PrintMore Go.Proofs.YtjdapaocdkcgdaaW.PrintMore2
attribute [local go_sem] max2_int min2_int max_two min_two max_three min_three max_four min_four
set_option linter.unusedVariables false
set_option linter.unusedSimpArgs false
set_option maxHeartbeats 8000000
set_option maxRecDepth 100000

/-! ### impl_schemaNodes: function 35 -/
mutual
def impl_schemaNodes.l0:Nat→List (List (S49))→List (S84)→Int→Int→Option ((List (S49)))
  | 0,_,_,_,_=>none
  | k + 1,x3,x8,x9,aA=>if aA < x9 then (if 0≤aA then (if aA < (x8.length:Int) then ((some (([]:List (List (S49))):List (List (S49)))).bind fun aD=>(if ((rd_T84 x8 aA).f1)=7 then (impl_schemaNodes.j1 k x3 aA aD x8 x9 aA ((rd_T84 x8 aA).f0) ((rd_T84 x8 aA).f1) ((rd_T84 x8 aA).f2) ((rd_T84 x8 aA).f3)) else ((impl_intNode.f 1 ((rd_T84 x8 aA).f1)).bind fun aC=>(if aD.length < 5864062014805 then (impl_schemaNodes.j1 k x3 aA (aD ++ [(([(⟨aC.1,aC.2.1,aC.2.2.1,aC.2.2.2.1,aC.2.2.2.2⟩:S49)]:List (S49)))]) x8 x9 aA ((rd_T84 x8 aA).f0) ((rd_T84 x8 aA).f1) ((rd_T84 x8 aA).f2) ((rd_T84 x8 aA).f3)) else (none))))) else (none)) else (none)) else ((impl_listNode.f k 2 12 x3).bind fun aE=>(some aE))
def impl_schemaNodes.j1:Nat→List (List (S49))→Int→List (List (S49))→List (S84)→Int→Int→ByteArray→Int→Int→Int→Option ((List (S49)))
  | 0,_,_,_,_,_,_,_,_,_,_=>none
  | k + 1,x3,x4,x6,x8,x9,aH,aD,aE,aA,aG=>if x4 > 0 then ((impl_intNode.f 3 aA).bind fun aC=>(if x6.length < 5864062014805 then (impl_schemaNodes.j2 k x3 (x6 ++ [(([(⟨aC.1,aC.2.1,aC.2.2.1,aC.2.2.2.1,aC.2.2.2.2⟩:S49)]:List (S49)))]) x8 x9 aH aD aE aA aG) else (none))) else (impl_schemaNodes.j2 k x3 x6 x8 x9 aH aD aE aA aG)
def impl_schemaNodes.j2:Nat→List (List (S49))→List (List (S49))→List (S84)→Int→Int→ByteArray→Int→Int→Int→Option ((List (S49)))
  | 0,_,_,_,_,_,_,_,_,_=>none
  | k + 1,x3,x6,x8,x9,aM,aD,aE,aI,aG=>(impl_textNode.f 4 aD).bind fun aA=>(if x6.length < 5864062014805 then ((some (x6 ++ [(([(⟨aA.1,aA.2.1,aA.2.2.1,aA.2.2.2.1,aA.2.2.2.2⟩:S49)]:List (S49)))]:List (List (S49)))).bind fun aH=>(if aE=7 then ((impl_intNode.f 5 aG).bind fun aC=>(if aH.length < 5864062014805 then ((impl_structNode.f k 0 (aH ++ [(([(⟨aC.1,aC.2.1,aC.2.2.1,aC.2.2.2.1,aC.2.2.2.2⟩:S49)]:List (S49)))])).bind fun aJ=>(if x3.length < 5864062014805 then (impl_schemaNodes.l0 k (x3 ++ [aJ]) x8 x9 (wrap64 (aM + 1))) else (none))) else (none))) else ((impl_structNode.f k 0 aH).bind fun aK=>(if x3.length < 5864062014805 then (impl_schemaNodes.l0 k (x3 ++ [aK]) x8 x9 (wrap64 (aM + 1))) else (none))))) else (none))
end
def impl_schemaNodes.f (k:Nat)(l0:List (S84)):Option ((List (S49))):=impl_schemaNodes.l0 k (([]:List (List (S49)))) l0 (l0.length:Int) 0
theorem impl_schemaNodes.calls {k : Nat} {A0 : Option Addr} {c0 : Nat} {l0 : List (S84)} {r : List (S49)} {w : World} (hr0 : Kd.C k84 w A0 l0.length l0) (fS : l0.length ≤ c0) (h : impl_schemaNodes.f k l0 = some r) :
    Calls Try.prog 35 #[.slice A0 l0.length c0] w fun e w'=>∃ fT:Value,e=.returned (fT)∧Kd.R k49 49 w' w.heap.size (fun _=>True) fT r∧Below w.heap.size w w':=by
 have hu84:=Try.underlying84
 have gC:=am hr0
 have gY:=am fS
 clear hr0 fS
 have HB:=am (Below.refl w.heap.size w)
 have H:=h;clear h;unfold impl_schemaNodes.f at H
 generalize cE:((([]:List (List (S49)))):List (List (S49)))=fA at H;have cF:=am cE.symm;clear cE
 have H':=am H;clear H
 go_enter Try.func35,Try.ntmps35
 go_wp2_with (first | ((with_reducible refine gd 7 rfl ?_);refine Kd.S_lit (Kd.slice 49 k49) _ 27 ?hg (N:=7) ?hd (xs:=([]:List (List (S49)))) (inner:=[]) (ok:=fun _=>True) (okp:=fun _=>True) ?hr ?hp (fun _ hk=>hk) trivial (Below.refl _ _) (Nat.le_refl _) (by simp) ?_;(case hd=>rfl);(case hg=>rfl);(case hr=>first | (go_simp;done) | (go_simp;rfl));(case hp=>exact (Reps.none _ _));intro gD w2 dY hb hg_ hnew_;clear hg_ hnew_;(first | rw [← cF.out] at dY | (simp only [Int.reduceToNat] at dY;rw [← cF.out] at dY));have dZ:=am (Kd.S_lower dY (below_size (bL HB)));replace HB:=bst HB hb;clear hb dY))
 go_loopg [3,10] k (fun kq v3 v10 w'=>∃ (aM:List (List (S49))) (aD:Int),v10=.int .i64 aD∧Aside0 (impl_schemaNodes.l0 kq aM l0 (l0.length:Int) aD=some r)∧Aside0 (kq≤k)∧Aside0 (Kd.S (Kd.slice 49 k49) 27 w' w.heap.size (fun _=>True) v3 aM)∧Aside0 (Below w.heap.size w w'))
 case atStart=>exact⟨(fA),(0),sr,H',⟨Nat.le_refl _⟩,⟨S_later dZ.out⟩,⟨bL HB⟩⟩
 clear H'
 obtain⟨aM,aD,rfl,HA,cG,aC,HB⟩:=hrel
 cases gk with
 | zero=>exact absurd HA.out (by simp [impl_schemaNodes.l0])
 | succ k1=>?_
 have H:=HA.out
 clear HA
 simp only [impl_schemaNodes.l0] at H
 replace H:=idc H;obtain⟨cV,H⟩ | ⟨cV,H⟩:=H
 rotate_left
 · replace H:=bnd H;obtain⟨gE,gF,H⟩:=H
   cases H
   obtain⟨gG,gH,fB⟩:=Kd.S_slice aC.out
   subst fB
   go_wp2_with (first | ((with_reducible refine gc 32 rfl ?_);refine gc2 (some 59) Try.func32 rfl (impl_listNode.calls (C_later (Kd.S_reads' aC.out).2.2) ((Kd.S_reads' aC.out).2.1) gF.out) ?_;rintro gI gZ ⟨bI,hb⟩;have d2:=rlb bI HB;replace aC:=am (Kd.S_elder' (S_later aC.out) (Kd.R_base bI) hb);replace HB:=bst HB hb;clear hb bI))
   go_ret
   exact⟨_,fin_ ⟨rL d2,bL HB⟩⟩
 replace H:=if_dd H;obtain⟨d3,d4,H⟩:=H
 replace H:=bsm H;obtain⟨cW,cH,H⟩:=H
 have fC:=am H
 clear H
 obtain⟨d5,d6,fU,fD,aV,aW,aX,aY⟩:=at_T84b HB gC aD;cases fD
 go_upto_if 18 with (first | ((with_reducible refine gd 5 rfl ?_);refine bxv 5 rfl #[.string ⟨#[]⟩,.int .i64 0,.int .i64 0,.int .i64 0] 84 HB ?_;clear HB;intro aH w8 aA fV fW HB hg hb;replace aC:=am (Kd.S_below (S_later aC.out) hb);clear hg hb;obtain⟨bM,bN,bO,bP,bQ,bR,bS,bT⟩:=cl4 aA) | ((with_reducible refine gd 15 rfl ?_);refine Kd.S_lit (Kd.slice 49 k49) _ 27 ?hg (N:=15) ?hd (xs:=([]:List (List (S49)))) (inner:=[]) (ok:=fun _=>True) (okp:=fun _=>True) ?hr ?hp (fun _ hk=>hk) trivial (Below.refl _ _) (Nat.le_refl _) (by simp) ?_;(case hd=>rfl);(case hg=>rfl);(case hr=>first | (go_simp;done) | (go_simp;rfl));(case hp=>exact (Reps.none _ _));intro cX g2 bJ hb hg_ hnew_;clear hg_ hnew_;(first | rw [← cH.out] at bJ | (simp only [Int.reduceToNat] at bJ;rw [← cH.out] at bJ));have aI:=am (Kd.S_lower (Kd.S_new' bJ (Kd.S_lt (S_later (Kd.S_mono (Kd.S_far (p:=⟨aH,3,none⟩) (Kd.S_far (p:=⟨aH,2,none⟩) (Kd.S_far (p:=⟨aH,1,none⟩) (Kd.S_far (p:=⟨aH,0,none⟩) (Kd.S_types aC.out aA.out (by decide)) (fun _ hk=>hk.2) (.string ((rd_T84 l0 aD).f0))) (fun _ hk=>hk.2) (.int .i64 ((rd_T84 l0 aD).f1))) (fun _ hk=>hk.2) (.int .i64 ((rd_T84 l0 aD).f2))) (fun _ hk=>hk.2) (.int .i64 ((rd_T84 l0 aD).f3))) (fun _ h_=>h_.1))))) (below_size (bL HB)));replace aC:=am (Kd.S_elder' (S_later (Kd.S_mono (Kd.S_far (p:=⟨aH,3,none⟩) (Kd.S_far (p:=⟨aH,2,none⟩) (Kd.S_far (p:=⟨aH,1,none⟩) (Kd.S_far (p:=⟨aH,0,none⟩) (Kd.S_types aC.out aA.out (by decide)) (fun _ hk=>hk.2) (.string ((rd_T84 l0 aD).f0))) (fun _ hk=>hk.2) (.int .i64 ((rd_T84 l0 aD).f1))) (fun _ hk=>hk.2) (.int .i64 ((rd_T84 l0 aD).f2))) (fun _ hk=>hk.2) (.int .i64 ((rd_T84 l0 aD).f3))) (fun _ h_=>h_.1))) (Kd.S_base bJ) hb);replace aA:=am (blk_below (g:=aH) (o:=.cells #[.string ((rd_T84 l0 aD).f0),.int .i64 ((rd_T84 l0 aD).f1),.int .i64 ((rd_T84 l0 aD).f2),.int .i64 ((rd_T84 l0 aD).f3)] 84 (0,0)) (blk_later aA.out) hb);replace HB:=bst HB hb;clear hb bJ;obtain⟨aZ,a6,a7,a8,a9,bA,bB,bC⟩:=cl4 aA))
 (try simp only [Act.put,List.setIfInBounds_toArray,List.set_cons_zero,List.set_cons_succ])
 go_cut [6] (fun v6 wc=>∃ (kq:Nat) (bK:List (List (S49))),Aside0 (impl_schemaNodes.j1 kq aM aD bK l0 (l0.length:Int) aD ((rd_T84 l0 aD).f0) ((rd_T84 l0 aD).f1) ((rd_T84 l0 aD).f2) ((rd_T84 l0 aD).f3)=some r)∧Aside0 (kq≤k1)∧Aside0 (Kd.S (Kd.slice 49 k49) 27 wc w.heap.size (fun k_=>some k_≠(v6:Value).ownBlock) u3 aM)∧Aside0 (Kd.S (Kd.slice 49 k49) 27 wc w.heap.size (fun k_=>some k_≠(u3:Value).ownBlock) v6 bK)∧Aside0 (wc.heap[aH]?=some (.cells #[.string ((rd_T84 l0 aD).f0),.int .i64 ((rd_T84 l0 aD).f1),.int .i64 ((rd_T84 l0 aD).f2),.int .i64 ((rd_T84 l0 aD).f3)] 84 (0,0)))∧Aside0 (Below w.heap.size w wc))
 case first =>
  have H:=fC.out
  clear fC
  replace H:=ieq H;obtain⟨aN,bU,H⟩ | ⟨g3,aN,bU,H⟩:=H
  · (first | rw [aN] | rw [bU] | (simp only [i64_w,i32_w];rw [aN]) | skip)
    have H':=am H;clear H
    go_wp2
    go_meet
    case rel=>exact⟨_,(cW),H',⟨by have:=cG.out;first | omega | exact Nat.le_refl _⟩,⟨S_later (Kd.S_mono aC.out (fun _ hk=>hk.2))⟩,⟨S_later (Kd.S_mono aI.out (fun _ hk=>hk.2))⟩,⟨kL aA⟩,⟨bL HB⟩⟩
  (first | rw [aN] | rw [bU] | (simp only [i64_w,i32_w];rw [aN]) | skip)
  replace H:=bnd5 H;obtain⟨d7,d8,d9,eA,eB,gJ,H⟩:=H;dsimp only at H
  generalize cI:((([(⟨d7,d8,d9,eA,eB⟩:S49)]:List (S49))):List (S49))=bV at H;have eC:=am cI.symm;clear cI
  replace H:=ifs H;obtain⟨fX,H⟩:=H
  have eD:=am fX
  clear fX
  generalize cJ:((cW ++ [bV]):List (List (S49)))=fE at H;have eE:=am cJ.symm;clear cJ
  have H':=am H;clear H
  obtain⟨_,_,_,_,_,_,_,_⟩:=cl4 aA
  go_wp2_with (first | ((with_reducible refine gc 34 rfl ?_);refine gc1 (some 22) Try.func34 rfl (impl_intNode.calls gJ.out) ?_;rintro g4 hb;replace aC:=am (Kd.S_below (S_later aC.out) hb);replace aI:=am (Kd.S_below (S_later aI.out) hb);replace aA:=bkb aA hb;replace HB:=bst HB hb;clear hb) | ((with_reducible refine gd 23 rfl ?_);refine rl5 k49 49 23 ⟨d7,d8,d9,eA,eB⟩ eC (k49_mkM _ _ _ _) rfl ?_;intro gK g6 b7 hb;have bD:=rlb b7 HB;replace aC:=am (Kd.S_elder' (S_later aC.out) (Kd.R_base b7) hb);replace aI:=am (Kd.S_elder' (S_later aI.out) (Kd.R_base b7) hb);replace aA:=bkb aA hb;replace HB:=bst HB hb;clear hb b7;obtain⟨cY,cZ,fF⟩:=Kd.R_slice bD.out;subst fF) | ((with_reducible refine gate_builtin (b:=.append) (xs:=#[.tmp 19,.tmp 24]) rfl ?_);at_builtin;refine Kd.S_append (Kd.slice 49 k49) (w0:=w) w.heap.size rfl (.tmp 19) (.tmp 24) 62 27 (.slice none 0 0) 24 rfl Try.underlying62 info27 rfl (by decide) (by omega) cX cW bV [.slice cY bV.length cZ] (fun k_=>some k_≠(u3:Value).ownBlock) (fun k_=>some k_=(.slice cY bV.length cZ:Value).ownBlock) rfl rfl ?aP (fun k_ hk_=>((Kd.R_mono (ok':=fun k_=>((fun k_=>some k_≠(u3:Value).ownBlock)) k_∧some k_≠(cX:Value).ownBlock) (Kd.R_apart' (Kd.R_apart' (bD.out) (Kd.S_typed aC.out) (by decide)) (Kd.S_typed aI.out) (by decide)) (fun k_ hk=>⟨hk.1.2,hk.2⟩))).1 k_ hk_.symm) ?aF ?aO ?aB ?aS ?aL ?_;(case aP=>exact Kd.M_row (Kd.R_mono (Kd.R_tight rfl (Kd.R_mono (ok':=fun k_=>((fun k_=>some k_≠(u3:Value).ownBlock)) k_∧some k_≠(cX:Value).ownBlock) (Kd.R_apart' (Kd.R_apart' (bD.out) (Kd.S_typed aC.out) (by decide)) (Kd.S_typed aI.out) (by decide)) (fun k_ hk=>⟨hk.1.2,hk.2⟩))) (fun _ h_=>h_)));(case aB=>exact (bL HB));(case aF=>exact (fun k_ hk=>Kd.fresh' (Kd.S_lt (S_later aC.out)) k_ hk));(case aO=>exact (S_later (Kd.S_mono aI.out (fun k_ hk=>⟨hk.1.2,fun e_=>hk.2 e_⟩))));(case aS=>exact (below_size (bL HB)));(case aL=>have:=eD.out;omega);intro gL g7 ho hb hg hat;rw [← eE.out] at ho;have eF:=am ho;replace aC:=am (Kd.S_after (ok:=(fun k_=>some k_≠(.slice cY bV.length cZ:Value).ownBlock)) (S_later (Kd.S_mono aC.out (fun _ hk=>⟨hk.2,hk.1.2⟩))) hg hat);replace aA:=am (blk_grown (blk_later aA.out) hg (Kd.S_ne aI.out aA.out (by decide)));replace HB:=am hb;clear aI bD;clear ho hb hg hat))
  go_meet
  case rel=>exact⟨_,(fE),H',⟨by have:=cG.out;first | omega | exact Nat.le_refl _⟩,⟨S_later (Kd.S_mono aC.out (fun _ hk=>hk.2))⟩,⟨S_later eF.out⟩,⟨kL aA⟩,⟨bL HB⟩⟩
 clear fC
 try clear c4 cV d3 d4 aZ a6 a7 a8 bM bN bO bP a9 bA bB bC bQ bR bS bT aV aW aX aY d5 d6
 obtain⟨kq,bK,HA,dX,aC,aG,aA,HB⟩:=hcut
 cases kq with
 | zero=>exact absurd HA.out (by simp [impl_schemaNodes.j1])
 | succ kj6=>?_
 have H:=HA.out
 clear HA
 simp only [impl_schemaNodes.j1] at H
 have dA:=am H
 clear H
 go_upto_if 27 with (fail)
 go_cut [6] (fun v6 wc=>∃ (kq:Nat) (aQ:List (List (S49))),Aside0 (impl_schemaNodes.j2 kq aM aQ l0 (l0.length:Int) aD ((rd_T84 l0 aD).f0) ((rd_T84 l0 aD).f1) ((rd_T84 l0 aD).f2) ((rd_T84 l0 aD).f3)=some r)∧Aside0 (kq≤kj6)∧Aside0 (Kd.S (Kd.slice 49 k49) 27 wc w.heap.size (fun k_=>some k_≠(v6:Value).ownBlock) u3 aM)∧Aside0 (Kd.S (Kd.slice 49 k49) 27 wc w.heap.size (fun k_=>some k_≠(u3:Value).ownBlock) v6 aQ)∧Aside0 (wc.heap[aH]?=some (.cells #[.string ((rd_T84 l0 aD).f0),.int .i64 ((rd_T84 l0 aD).f1),.int .i64 ((rd_T84 l0 aD).f2),.int .i64 ((rd_T84 l0 aD).f3)] 84 (0,0)))∧Aside0 (Below w.heap.size w wc))
 case first =>
  have H:=dA.out
  clear dA
  replace H:=igt H;obtain⟨aT,H⟩ | ⟨aT,H⟩:=H
  rotate_left
  · (first | rw [aT] | (simp only [i64_w,i32_w];rw [aT]) | skip)
    have H':=am H;clear H
    go_wp2
    go_meet
    case rel=>exact⟨_,(bK),H',⟨by have:=cG.out;have:=dX.out;first | omega | exact Nat.le_refl _⟩,⟨S_later aC.out⟩,⟨S_later aG.out⟩,⟨kL aA⟩,⟨bL HB⟩⟩
  (first | rw [aT] | (simp only [i64_w,i32_w];rw [aT]) | skip)
  replace H:=bnd5 H;obtain⟨eG,eH,eI,eJ,eK,gM,H⟩:=H;dsimp only at H
  generalize cK:((([(⟨eG,eH,eI,eJ,eK⟩:S49)]:List (S49))):List (S49))=bW at H;have eL:=am cK.symm;clear cK
  replace H:=ifs H;obtain⟨fY,H⟩:=H
  have eM:=am fY
  clear fY
  generalize cM:((bK ++ [bW]):List (List (S49)))=fG at H;have eN:=am cM.symm;clear cM
  have H':=am H;clear H
  obtain⟨_,_,_,_,_,_,_,_⟩:=cl4 aA
  go_wp2_with (first | ((with_reducible refine gc 34 rfl ?_);refine gc1 (some 31) Try.func34 rfl (impl_intNode.calls gM.out) ?_;rintro g8 hb;replace aC:=am (Kd.S_below (S_later aC.out) hb);replace aG:=am (Kd.S_below (S_later aG.out) hb);replace aA:=bkb aA hb;replace HB:=bst HB hb;clear hb) | ((with_reducible refine gd 32 rfl ?_);refine rl5 k49 49 32 ⟨eG,eH,eI,eJ,eK⟩ eL (k49_mkM _ _ _ _) rfl ?_;intro gN g9 b8 hb;have bE:=rlb b8 HB;replace aC:=am (Kd.S_elder' (S_later aC.out) (Kd.R_base b8) hb);replace aG:=am (Kd.S_elder' (S_later aG.out) (Kd.R_base b8) hb);replace aA:=bkb aA hb;replace HB:=bst HB hb;clear hb b8;obtain⟨dB,dC,fH⟩:=Kd.R_slice bE.out;subst fH) | ((with_reducible refine gate_builtin (b:=.append) (xs:=#[.tmp 28,.tmp 33]) rfl ?_);at_builtin;refine Kd.S_append (Kd.slice 49 k49) (w0:=w) w.heap.size rfl (.tmp 28) (.tmp 33) 62 27 (.slice none 0 0) 24 rfl Try.underlying62 info27 rfl (by decide) (by omega) u6 bK bW [.slice dB bW.length dC] (fun k_=>some k_≠(u3:Value).ownBlock) (fun k_=>some k_=(.slice dB bW.length dC:Value).ownBlock) rfl rfl ?aP (fun k_ hk_=>((Kd.R_mono (ok':=fun k_=>((fun k_=>some k_≠(u3:Value).ownBlock)) k_∧some k_≠(u6:Value).ownBlock) (Kd.R_apart' (Kd.R_apart' (bE.out) (Kd.S_typed aC.out) (by decide)) (Kd.S_typed aG.out) (by decide)) (fun k_ hk=>⟨hk.1.2,hk.2⟩))).1 k_ hk_.symm) ?aF ?aO ?aB ?aS ?aL ?_;(case aP=>exact Kd.M_row (Kd.R_mono (Kd.R_tight rfl (Kd.R_mono (ok':=fun k_=>((fun k_=>some k_≠(u3:Value).ownBlock)) k_∧some k_≠(u6:Value).ownBlock) (Kd.R_apart' (Kd.R_apart' (bE.out) (Kd.S_typed aC.out) (by decide)) (Kd.S_typed aG.out) (by decide)) (fun k_ hk=>⟨hk.1.2,hk.2⟩))) (fun _ h_=>h_)));(case aB=>exact (bL HB));(case aF=>exact (fun k_ hk=>Kd.fresh' (Kd.S_lt (S_later aC.out)) k_ hk));(case aO=>exact (S_later (Kd.S_mono aG.out (fun k_ hk=>⟨hk.1,fun e_=>hk.2 e_⟩))));(case aS=>exact (below_size (bL HB)));(case aL=>have:=eM.out;omega);intro gO hD ho hb hg hat;rw [← eN.out] at ho;have eO:=am ho;replace aC:=am (Kd.S_after (ok:=(fun k_=>some k_≠(.slice dB bW.length dC:Value).ownBlock)) (S_later (Kd.S_mono aC.out (fun _ hk=>⟨hk.2,hk.1⟩))) hg hat);replace aA:=am (blk_grown (blk_later aA.out) hg (Kd.S_ne aG.out aA.out (by decide)));replace HB:=am hb;clear aG bE;clear ho hb hg hat))
  go_meet
  case rel=>exact⟨_,(fG),H',⟨by have:=cG.out;have:=dX.out;first | omega | exact Nat.le_refl _⟩,⟨S_later (Kd.S_mono aC.out (fun _ hk=>hk.2))⟩,⟨S_later eO.out⟩,⟨kL aA⟩,⟨bL HB⟩⟩
 clear dA
 try clear c4 cV d3 d4 aZ a6 a7 a8 bM bN bO bP a9 bA bB bC bQ bR bS bT aV aW aX aY d5 d6
 obtain⟨kq,aQ,HA,b9,aC,aG,aA,HB⟩:=hcut
 cases kq with
 | zero=>exact absurd HA.out (by simp [impl_schemaNodes.j2])
 | succ kj21=>?_
 have H:=HA.out
 clear HA
 simp only [impl_schemaNodes.j2] at H
 replace H:=bnd5 H;obtain⟨dD,dE,dF,dG,dH,fZ,H⟩:=H;dsimp only at H
 generalize cN:((([(⟨dD,dE,dF,dG,dH⟩:S49)]:List (S49))):List (S49))=aU at H;have cO:=am cN.symm;clear cN
 replace H:=ifs H;obtain⟨f7,H⟩:=H
 have cP:=am f7
 clear f7
 replace H:=bsm H;obtain⟨bX,cQ,H⟩:=H
 replace H:=ieq H;obtain⟨eP,eQ,H⟩ | ⟨hJ,eP,eQ,H⟩:=H
 rotate_left
 · replace H:=bnd H;obtain⟨bY,gP,H⟩:=H
   replace H:=ifs H;obtain⟨f9,H⟩:=H
   have eR:=am f9
   clear f9
   generalize cR:((aM ++ [bY]):List (List (S49)))=fI at H;have eS:=am cR.symm;clear cR
   have H':=am H;clear H
   obtain⟨_,_,_,_,_,_,_,_⟩:=cl4 aA
   go_wp2_with (first | ((with_reducible refine gc 61 rfl ?_);refine gc1 (some 38) Try.func61 rfl (impl_textNode.calls fZ.out) ?_;rintro hU hb;replace aC:=am (Kd.S_below (S_later aC.out) hb);replace aG:=am (Kd.S_below (S_later aG.out) hb);replace aA:=bkb aA hb;replace HB:=bst HB hb;clear hb) | ((with_reducible refine gd 39 rfl ?_);refine rl5 k49 49 39 ⟨dD,dE,dF,dG,dH⟩ cO (k49_mkM _ _ _ _) rfl ?_;intro fJ hV cA hb;have aK:=rlb cA HB;replace aC:=am (Kd.S_elder' (S_later aC.out) (Kd.R_base cA) hb);replace aG:=am (Kd.S_elder' (S_later aG.out) (Kd.R_base cA) hb);replace aA:=bkb aA hb;replace HB:=bst HB hb;clear hb cA;obtain⟨dI,dJ,fK⟩:=Kd.R_slice aK.out;subst fK) | ((with_reducible refine gate_builtin (b:=.append) (xs:=#[.tmp 35,.tmp 40]) rfl ?_);at_builtin;refine Kd.S_append (Kd.slice 49 k49) (w0:=w) w.heap.size rfl (.tmp 35) (.tmp 40) 62 27 (.slice none 0 0) 24 rfl Try.underlying62 info27 rfl (by decide) (by omega) u6 aQ aU [.slice dI aU.length dJ] (fun k_=>some k_≠(u3:Value).ownBlock) (fun k_=>some k_=(.slice dI aU.length dJ:Value).ownBlock) rfl rfl ?aP (fun k_ hk_=>((Kd.R_mono (ok':=fun k_=>((fun k_=>some k_≠(u3:Value).ownBlock)) k_∧some k_≠(u6:Value).ownBlock) (Kd.R_apart' (Kd.R_apart' (aK.out) (Kd.S_typed aC.out) (by decide)) (Kd.S_typed aG.out) (by decide)) (fun k_ hk=>⟨hk.1.2,hk.2⟩))).1 k_ hk_.symm) ?aF ?aO ?aB ?aS ?aL ?_;(case aP=>exact Kd.M_row (Kd.R_mono (Kd.R_tight rfl (Kd.R_mono (ok':=fun k_=>((fun k_=>some k_≠(u3:Value).ownBlock)) k_∧some k_≠(u6:Value).ownBlock) (Kd.R_apart' (Kd.R_apart' (aK.out) (Kd.S_typed aC.out) (by decide)) (Kd.S_typed aG.out) (by decide)) (fun k_ hk=>⟨hk.1.2,hk.2⟩))) (fun _ h_=>h_)));(case aB=>exact (bL HB));(case aF=>exact (fun k_ hk=>Kd.fresh' (Kd.S_lt (S_later aC.out)) k_ hk));(case aO=>exact (S_later (Kd.S_mono aG.out (fun k_ hk=>⟨hk.1,fun e_=>hk.2 e_⟩))));(case aS=>exact (below_size (bL HB)));(case aL=>have:=cP.out;omega);intro cB hX ho hb hg hat;rw [← cQ.out] at ho;have aE:=am ho;replace aC:=am (Kd.S_after (ok:=(fun k_=>some k_≠(.slice dI aU.length dJ:Value).ownBlock)) (S_later (Kd.S_mono aC.out (fun _ hk=>⟨hk.2,hk.1⟩))) hg hat);replace aA:=am (blk_grown (blk_later aA.out) hg (Kd.S_ne aG.out aA.out (by decide)));replace HB:=am hb;clear aG aK;clear ho hb hg hat;obtain⟨_,_,_,_,_,_,_,_⟩:=cl4 aA;obtain⟨dK,dL,fL⟩:=Kd.S_slice aE.out;subst fL) | ((with_reducible refine gc 31 rfl ?_);refine gc2 (some 54) Try.func31 rfl (impl_structNode.calls (C_later (Kd.S_reads' aE.out).2.2) ((Kd.S_reads' aE.out).2.1) gP.out) ?_;rintro gQ hY ⟨bI,hb⟩;have bF:=rlb bI HB;replace aC:=am (Kd.S_elder' (S_later aC.out) (Kd.R_base bI) hb);replace aE:=am (Kd.S_elder' (S_later aE.out) (Kd.R_base bI) hb);replace aA:=bkb aA hb;replace HB:=bst HB hb;clear hb bI;obtain⟨dM,dN,fM⟩:=Kd.R_slice bF.out;subst fM) | ((with_reducible refine gate_builtin (b:=.append) (xs:=#[.tmp 52,.tmp 55]) rfl ?_);at_builtin;refine Kd.S_append (Kd.slice 49 k49) (w0:=w) w.heap.size rfl (.tmp 52) (.tmp 55) 62 27 (.slice none 0 0) 24 rfl Try.underlying62 info27 rfl (by decide) (by omega) u3 aM bY [.slice dM bY.length dN] (fun k_=>some k_≠(.slice dK bX.length dL:Value).ownBlock) (fun k_=>some k_=(.slice dM bY.length dN:Value).ownBlock) rfl rfl ?aP (fun k_ hk_=>((Kd.R_mono (ok':=fun k_=>((fun k_=>some k_≠(.slice dK bX.length dL:Value).ownBlock)) k_∧some k_≠(u3:Value).ownBlock) (Kd.R_apart' (Kd.R_apart' (bF.out) (Kd.S_typed aE.out) (by decide)) (Kd.S_typed aC.out) (by decide)) (fun k_ hk=>⟨hk.1.2,hk.2⟩))).1 k_ hk_.symm) ?aF ?aO ?aB ?aS ?aL ?_;(case aP=>exact Kd.M_row (Kd.R_mono (Kd.R_tight rfl (Kd.R_mono (ok':=fun k_=>((fun k_=>some k_≠(.slice dK bX.length dL:Value).ownBlock)) k_∧some k_≠(u3:Value).ownBlock) (Kd.R_apart' (Kd.R_apart' (bF.out) (Kd.S_typed aE.out) (by decide)) (Kd.S_typed aC.out) (by decide)) (fun k_ hk=>⟨hk.1.2,hk.2⟩))) (fun _ h_=>h_)));(case aB=>exact (bL HB));(case aF=>exact (fun k_ hk=>Kd.fresh' (Kd.S_lt (S_later aE.out)) k_ hk));(case aO=>exact (S_later (Kd.S_mono aC.out (fun k_ hk=>⟨hk.1.2,fun e_=>hk.2 e_⟩))));(case aS=>exact (below_size (bL HB)));(case aL=>have:=eR.out;omega);intro gR hZ ho hb hg hat;rw [← eS.out] at ho;have eT:=am ho;replace aA:=am (blk_grown (blk_later aA.out) hg (Kd.S_ne aC.out aA.out (by decide)));replace aE:=am (Kd.S_after (ok:=(fun k_=>some k_≠(.slice dM bY.length dN:Value).ownBlock)) (S_later (Kd.S_mono aE.out (fun _ hk=>⟨hk.2,hk.1⟩))) hg hat);replace HB:=am hb;clear aC bF;clear ho hb hg hat))
   go_roundg kj21
   case measure=>have:=cG.out;have:=dX.out;have:=b9.out;omega
   case rel=>exact⟨(fI),(wrap64 (aD + 1)),sr,H',⟨by have:=cG.out;have:=dX.out;have:=b9.out;omega⟩,⟨S_later (Kd.S_mono eT.out (fun _ hk=>trivial))⟩,⟨bL HB⟩⟩
 replace H:=bnd5 H;obtain⟨eU,eV,eW,eX,eY,gS,H⟩:=H;dsimp only at H
 generalize cS:((([(⟨eU,eV,eW,eX,eY⟩:S49)]:List (S49))):List (S49))=bZ at H;have eZ:=am cS.symm;clear cS
 replace H:=ifs H;obtain⟨gA,H⟩:=H
 have e5:=am gA
 clear gA
 generalize cT:((bX ++ [bZ]):List (List (S49)))=dO at H;have e6:=am cT.symm;clear cT
 replace H:=bnd H;obtain⟨b6,gT,H⟩:=H
 replace H:=ifs H;obtain⟨gB,H⟩:=H
 have e7:=am gB
 clear gB
 generalize cU:((aM ++ [b6]):List (List (S49)))=fN at H;have e8:=am cU.symm;clear cU
 have H':=am H;clear H
 obtain⟨_,_,_,_,_,_,_,_⟩:=cl4 aA
 go_wp2_with (first | ((with_reducible refine gc 61 rfl ?_);refine gc1 (some 38) Try.func61 rfl (impl_textNode.calls fZ.out) ?_;rintro iA hb;replace aC:=am (Kd.S_below (S_later aC.out) hb);replace aG:=am (Kd.S_below (S_later aG.out) hb);replace aA:=bkb aA hb;replace HB:=bst HB hb;clear hb) | ((with_reducible refine gd 39 rfl ?_);refine rl5 k49 49 39 ⟨dD,dE,dF,dG,dH⟩ cO (k49_mkM _ _ _ _) rfl ?_;intro fJ iB cC hb;have aK:=rlb cC HB;replace aC:=am (Kd.S_elder' (S_later aC.out) (Kd.R_base cC) hb);replace aG:=am (Kd.S_elder' (S_later aG.out) (Kd.R_base cC) hb);replace aA:=bkb aA hb;replace HB:=bst HB hb;clear hb cC;obtain⟨dP,dQ,fO⟩:=Kd.R_slice aK.out;subst fO) | ((with_reducible refine gate_builtin (b:=.append) (xs:=#[.tmp 35,.tmp 40]) rfl ?_);at_builtin;refine Kd.S_append (Kd.slice 49 k49) (w0:=w) w.heap.size rfl (.tmp 35) (.tmp 40) 62 27 (.slice none 0 0) 24 rfl Try.underlying62 info27 rfl (by decide) (by omega) u6 aQ aU [.slice dP aU.length dQ] (fun k_=>some k_≠(u3:Value).ownBlock) (fun k_=>some k_=(.slice dP aU.length dQ:Value).ownBlock) rfl rfl ?aP (fun k_ hk_=>((Kd.R_mono (ok':=fun k_=>((fun k_=>some k_≠(u3:Value).ownBlock)) k_∧some k_≠(u6:Value).ownBlock) (Kd.R_apart' (Kd.R_apart' (aK.out) (Kd.S_typed aC.out) (by decide)) (Kd.S_typed aG.out) (by decide)) (fun k_ hk=>⟨hk.1.2,hk.2⟩))).1 k_ hk_.symm) ?aF ?aO ?aB ?aS ?aL ?_;(case aP=>exact Kd.M_row (Kd.R_mono (Kd.R_tight rfl (Kd.R_mono (ok':=fun k_=>((fun k_=>some k_≠(u3:Value).ownBlock)) k_∧some k_≠(u6:Value).ownBlock) (Kd.R_apart' (Kd.R_apart' (aK.out) (Kd.S_typed aC.out) (by decide)) (Kd.S_typed aG.out) (by decide)) (fun k_ hk=>⟨hk.1.2,hk.2⟩))) (fun _ h_=>h_)));(case aB=>exact (bL HB));(case aF=>exact (fun k_ hk=>Kd.fresh' (Kd.S_lt (S_later aC.out)) k_ hk));(case aO=>exact (S_later (Kd.S_mono aG.out (fun k_ hk=>⟨hk.1,fun e_=>hk.2 e_⟩))));(case aS=>exact (below_size (bL HB)));(case aL=>have:=cP.out;omega);intro cB iC ho hb hg hat;rw [← cQ.out] at ho;have aE:=am ho;replace aC:=am (Kd.S_after (ok:=(fun k_=>some k_≠(.slice dP aU.length dQ:Value).ownBlock)) (S_later (Kd.S_mono aC.out (fun _ hk=>⟨hk.2,hk.1⟩))) hg hat);replace aA:=am (blk_grown (blk_later aA.out) hg (Kd.S_ne aG.out aA.out (by decide)));replace HB:=am hb;clear aG aK;clear ho hb hg hat;obtain⟨_,_,_,_,_,_,_,_⟩:=cl4 aA) | ((with_reducible refine gc 34 rfl ?_);refine gc1 (some 48) Try.func34 rfl (impl_intNode.calls gS.out) ?_;rintro iD hb;replace aC:=am (Kd.S_below (S_later aC.out) hb);replace aE:=am (Kd.S_below (S_later aE.out) hb);replace aA:=bkb aA hb;replace HB:=bst HB hb;clear hb) | ((with_reducible refine gd 49 rfl ?_);refine rl5 k49 49 49 ⟨eU,eV,eW,eX,eY⟩ eZ (k49_mkM _ _ _ _) rfl ?_;intro gU iE cD hb;have bG:=rlb cD HB;replace aC:=am (Kd.S_elder' (S_later aC.out) (Kd.R_base cD) hb);replace aE:=am (Kd.S_elder' (S_later aE.out) (Kd.R_base cD) hb);replace aA:=bkb aA hb;replace HB:=bst HB hb;clear hb cD;obtain⟨dR,dS,fP⟩:=Kd.R_slice bG.out;subst fP) | ((with_reducible refine gate_builtin (b:=.append) (xs:=#[.tmp 45,.tmp 50]) rfl ?_);at_builtin;refine Kd.S_append (Kd.slice 49 k49) (w0:=w) w.heap.size rfl (.tmp 45) (.tmp 50) 62 27 (.slice none 0 0) 24 rfl Try.underlying62 info27 rfl (by decide) (by omega) cB bX bZ [.slice dR bZ.length dS] (fun k_=>some k_≠(u3:Value).ownBlock) (fun k_=>some k_=(.slice dR bZ.length dS:Value).ownBlock) rfl rfl ?aP (fun k_ hk_=>((Kd.R_mono (ok':=fun k_=>((fun k_=>some k_≠(u3:Value).ownBlock)) k_∧some k_≠(cB:Value).ownBlock) (Kd.R_apart' (Kd.R_apart' (bG.out) (Kd.S_typed aC.out) (by decide)) (Kd.S_typed aE.out) (by decide)) (fun k_ hk=>⟨hk.1.2,hk.2⟩))).1 k_ hk_.symm) ?aF ?aO ?aB ?aS ?aL ?_;(case aP=>exact Kd.M_row (Kd.R_mono (Kd.R_tight rfl (Kd.R_mono (ok':=fun k_=>((fun k_=>some k_≠(u3:Value).ownBlock)) k_∧some k_≠(cB:Value).ownBlock) (Kd.R_apart' (Kd.R_apart' (bG.out) (Kd.S_typed aC.out) (by decide)) (Kd.S_typed aE.out) (by decide)) (fun k_ hk=>⟨hk.1.2,hk.2⟩))) (fun _ h_=>h_)));(case aB=>exact (bL HB));(case aF=>exact (fun k_ hk=>Kd.fresh' (Kd.S_lt (S_later aC.out)) k_ hk));(case aO=>exact (S_later (Kd.S_mono aE.out (fun k_ hk=>⟨hk.1,fun e_=>hk.2 e_⟩))));(case aS=>exact (below_size (bL HB)));(case aL=>have:=e5.out;omega);intro gV iF ho hb hg hat;rw [← e6.out] at ho;have aJ:=am ho;replace aC:=am (Kd.S_after (ok:=(fun k_=>some k_≠(.slice dR bZ.length dS:Value).ownBlock)) (S_later (Kd.S_mono aC.out (fun _ hk=>⟨hk.2,hk.1.2⟩))) hg hat);replace aA:=am (blk_grown (blk_later aA.out) hg (Kd.S_ne aE.out aA.out (by decide)));replace HB:=am hb;clear aE bG;clear ho hb hg hat;obtain⟨dT,dU,fQ⟩:=Kd.S_slice aJ.out;subst fQ) | ((with_reducible refine gc 31 rfl ?_);refine gc2 (some 54) Try.func31 rfl (impl_structNode.calls (C_later (Kd.S_reads' aJ.out).2.2) ((Kd.S_reads' aJ.out).2.1) gT.out) ?_;rintro gW iG ⟨bI,hb⟩;have bH:=rlb bI HB;replace aC:=am (Kd.S_elder' (S_later aC.out) (Kd.R_base bI) hb);replace aJ:=am (Kd.S_elder' (S_later aJ.out) (Kd.R_base bI) hb);replace aA:=bkb aA hb;replace HB:=bst HB hb;clear hb bI;obtain⟨dV,dW,fR⟩:=Kd.R_slice bH.out;subst fR) | ((with_reducible refine gate_builtin (b:=.append) (xs:=#[.tmp 52,.tmp 55]) rfl ?_);at_builtin;refine Kd.S_append (Kd.slice 49 k49) (w0:=w) w.heap.size rfl (.tmp 52) (.tmp 55) 62 27 (.slice none 0 0) 24 rfl Try.underlying62 info27 rfl (by decide) (by omega) u3 aM b6 [.slice dV b6.length dW] (fun k_=>some k_≠(.slice dT dO.length dU:Value).ownBlock) (fun k_=>some k_=(.slice dV b6.length dW:Value).ownBlock) rfl rfl ?aP (fun k_ hk_=>((Kd.R_mono (ok':=fun k_=>((fun k_=>some k_≠(.slice dT dO.length dU:Value).ownBlock)) k_∧some k_≠(u3:Value).ownBlock) (Kd.R_apart' (Kd.R_apart' (bH.out) (Kd.S_typed aJ.out) (by decide)) (Kd.S_typed aC.out) (by decide)) (fun k_ hk=>⟨hk.1.2,hk.2⟩))).1 k_ hk_.symm) ?aF ?aO ?aB ?aS ?aL ?_;(case aP=>exact Kd.M_row (Kd.R_mono (Kd.R_tight rfl (Kd.R_mono (ok':=fun k_=>((fun k_=>some k_≠(.slice dT dO.length dU:Value).ownBlock)) k_∧some k_≠(u3:Value).ownBlock) (Kd.R_apart' (Kd.R_apart' (bH.out) (Kd.S_typed aJ.out) (by decide)) (Kd.S_typed aC.out) (by decide)) (fun k_ hk=>⟨hk.1.2,hk.2⟩))) (fun _ h_=>h_)));(case aB=>exact (bL HB));(case aF=>exact (fun k_ hk=>Kd.fresh' (Kd.S_lt (S_later aJ.out)) k_ hk));(case aO=>exact (S_later (Kd.S_mono aC.out (fun k_ hk=>⟨hk.1.2,fun e_=>hk.2 e_⟩))));(case aS=>exact (below_size (bL HB)));(case aL=>have:=e7.out;omega);intro gX iH ho hb hg hat;rw [← e8.out] at ho;have e9:=am ho;replace aA:=am (blk_grown (blk_later aA.out) hg (Kd.S_ne aC.out aA.out (by decide)));replace aJ:=am (Kd.S_after (ok:=(fun k_=>some k_≠(.slice dV b6.length dW:Value).ownBlock)) (S_later (Kd.S_mono aJ.out (fun _ hk=>⟨hk.2,hk.1⟩))) hg hat);replace HB:=am hb;clear aC bH;clear ho hb hg hat))
 go_roundg kj21
 case measure=>have:=cG.out;have:=dX.out;have:=b9.out;omega
 case rel=>exact⟨(fN),(wrap64 (aD + 1)),sr,H',⟨by have:=cG.out;have:=dX.out;have:=b9.out;omega⟩,⟨S_later (Kd.S_mono e9.out (fun _ hk=>trivial))⟩,⟨bL HB⟩⟩
/-! ### impl_isInt32: function 105 -/
def impl_isInt32.f (a0:Int):Option (Bool):=(impl_within.f a0 (-2147483648) 2147483647).bind fun aA=>(some aA)
theorem impl_isInt32.calls {a0 : Int} {r : Bool} {w : World} (h : impl_isInt32.f a0 = some r) :
    Calls Try.prog 105 #[.int .i64 a0] w fun e w'=>e=.returned (.bool r)∧Drawn0 w w':=by
 have H:=h;clear h;unfold impl_isInt32.f at H
 replace H:=bnd H;obtain⟨aA,A2,H⟩:=H
 cases H
 go_enter Try.func105,Try.ntmps105
 go_wp2_with (first | ((with_reducible refine gc 57 rfl ?_);refine gc1 (some 4) Try.func57 rfl (impl_within.calls A2.out) ?_;rintro w' ⟨nd,rfl⟩))
 go_ret
 exact⟨sr,drl⟩
/-! ### impl_isType: function 106 -/
def impl_isType.j0:Nat→Bool→Int→Bool→Option (Bool)
  | 0,_,_,_=>none
  | k + 1,x1,x5,x6=>if x6=true then (some (!x1)) else (if x5=5 then (some true) else (if x5=6 then (some true) else (if x5=8 then (some true) else (if x5=9 then (some true) else (if x5=12 then (some true) else (some false))))))
def impl_isType.f (k:Nat)(a0:Int)(a1:Bool):Option (Bool):=if a0=1 then (impl_isType.j0 k a1 a0 (a0 == 1)) else (impl_isType.j0 k a1 a0 (a0 == 2))
theorem impl_isType.calls {k : Nat} {a0 : Int} {a1 r : Bool} {w : World} (h : impl_isType.f k a0 a1 = some r) :
    Calls Try.prog 106 #[.int .i64 a0,.bool a1] w fun e w'=>e=.returned (.bool r)∧Drawn0 w w':=by
 have H:=h;clear h;unfold impl_isType.f at H
 have aH:=am H
 clear H
 go_enter Try.func106,Try.ntmps106
 go_upto_if 6 with (fail)
 go_cut [6] (fun v6 wc=>∃ (kq:Nat) (aC:Bool),v6=.bool aC∧Aside0 (impl_isType.j0 kq a1 a0 aC=some r)∧Aside0 (kq≤k)∧Drawn0 w wc)
 case first =>
  have H:=aH.out
  clear aH
  replace H:=ieq H;obtain⟨aA,aD,H⟩ | ⟨c4,aA,aD,H⟩:=H
  · (first | rw [aA] | rw [aD] | (simp only [i64_w,i32_w];rw [aA]) | skip)
    have H':=am H;clear H
    go_wp2
    go_meet
    case rel=>exact⟨_,((a0 == 1)),sr,H',⟨by first | omega | exact Nat.le_refl _⟩,by repeat (first | exact Drawn0.refl _ | apply Drawn0.step)⟩
  (first | rw [aA] | rw [aD] | (simp only [i64_w,i32_w];rw [aA]) | skip)
  have H':=am H;clear H
  go_wp2
  go_meet
  case rel=>exact⟨_,((a0 == 2)),sr,H',⟨by first | omega | exact Nat.le_refl _⟩,by repeat (first | exact Drawn0.refl _ | apply Drawn0.step)⟩
 clear aH
 obtain⟨kq,aC,rfl,HA,aV,⟨mc2,rfl⟩⟩:=hcut
 cases kq with
 | zero=>exact absurd HA.out (by simp [impl_isType.j0])
 | succ kj2=>?_
 have H:=HA.out
 clear HA
 simp only [impl_isType.j0] at H
 replace H:=ibt H;obtain⟨rfl,H⟩ | ⟨rfl,H⟩:=H
 · cases H
   go_wp2
   go_ret
   exact⟨sr,drl⟩
 replace H:=ieq H;obtain⟨aI,aJ,H⟩ | ⟨c6,aI,aJ,H⟩:=H
 · cases H
   go_wp2
   go_ret
   exact⟨sr,drl⟩
 replace H:=ieq H;obtain⟨aK,aM,H⟩ | ⟨c7,aK,aM,H⟩:=H
 · cases H
   go_wp2
   go_ret
   exact⟨sr,drl⟩
 replace H:=ieq H;obtain⟨aN,aQ,H⟩ | ⟨c8,aN,aQ,H⟩:=H
 · cases H
   go_wp2
   go_ret
   exact⟨sr,drl⟩
 replace H:=ieq H;obtain⟨aT,aU,H⟩ | ⟨c9,aT,aU,H⟩:=H
 · cases H
   go_wp2
   go_ret
   exact⟨sr,drl⟩
 replace H:=ieq H;obtain⟨aE,aG,H⟩ | ⟨c10,aE,aG,H⟩:=H
 · cases H
   go_wp2
   go_ret
   exact⟨sr,drl⟩
 cases H
 go_wp2
 go_ret
 exact⟨sr,drl⟩
/-! ### impl_nodeOk: function 96 -/
def impl_nodeOk.f (k:Nat)(aD:Int)(aK:Int)(aC:Int)(aE:ByteArray)(aA:Int):Option (Bool):=if aD=5 then ((impl_isInt32.f aC).bind fun aG=>(if aG=true then (if aE.toList=([]:List UInt8) then (some (aA == 0)) else (some false)) else (some false))) else (if aD=6 then (if aE.toList=([]:List UInt8) then (some (aA == 0)) else (some false)) else (if aD=8 then (if aC=0 then (if (aE.size:Int)≤300 then (some (aA == 0)) else (some false)) else (some false)) else (if aD=9 then (if aE.toList=([]:List UInt8) then (if aA ≥ 0 then (if aA=0 then (if aC=0 then (some true) else (if aA > 0 then ((impl_isType.f k aC true).bind fun aH=>(some aH)) else (some false))) else (if aA > 0 then ((impl_isType.f k aC true).bind fun aI=>(some aI)) else (some false))) else (some false)) else (some false)) else (if aD=12 then (if aC=0 then (if aE.toList=([]:List UInt8) then (some (decide (aA ≥ 0))) else (some false)) else (some false)) else ((impl_isType.f k aD false).bind fun aJ=>(if aJ=true then (if aC=0 then (if aE.toList=([]:List UInt8) then (some (aA == 0)) else (some false)) else (some false)) else (some false)))))))
theorem impl_nodeOk.calls {k : Nat} {aH aI aJ : Int} {aC : ByteArray} {aK : Int} {r : Bool} {w : World} (h : impl_nodeOk.f k aH aI aJ aC aK = some r) :
    Calls Try.prog 96 #[.agg #[.int .i64 aH,.int .i64 aI,.int .i64 aJ,.string aC,.int .i64 aK]] w fun e w'=>e=.returned (.bool r)∧Below w.heap.size w w':=by
 have hu49:=Try.underlying49
 have HB:=am (Below.refl w.heap.size w)
 have H:=h;clear h;unfold impl_nodeOk.f at H
 replace H:=ieq H;obtain⟨b8,b9,H⟩ | ⟨c2,b8,b9,H⟩:=H
 · replace H:=bnd H;obtain⟨cD,A3,H⟩:=H
   replace H:=ibt H;obtain⟨rfl,H⟩ | ⟨rfl,H⟩:=H
   rotate_left
   · cases H
     go_enter Try.func96,Try.ntmps96
     go_wp2_with (first | ((with_reducible refine gd 1 rfl ?_);(try refine gg ?_;dsimp only);refine bxw 1 rfl #[.int .i64 aH,.int .i64 aI,.int .i64 aJ,.string aC,.int .i64 aK] 49 HB ?_;clear HB;intro aD cJ aA aE aG HB;obtain⟨_,_,_,_,_,_,_,_,_,_⟩:=cl5 aA) | ((with_reducible refine gc 105 rfl ?_);refine gc1 (some 9) Try.func105 rfl (impl_isInt32.calls A3.out) ?_;rintro w' ⟨nd,rfl⟩))
     go_ret
     exact fin_ (bL HB)
   by_cases c5:aC.toList=([]:List UInt8)
   rotate_left
   · rw [if_neg c5] at H
     have cA:(aC.toList == ([]:List UInt8))=false:=beq_eq_false_iff_ne.mpr c5
     try have cB:aC.toList.isEmpty=false:=by simpa using c5
     have cC:(aC.toList != ([]:List UInt8))=true:=bne_iff_ne.mpr c5
     cases H
     go_enter Try.func96,Try.ntmps96
     go_wp2_with (first | ((with_reducible refine gd 1 rfl ?_);(try refine gg ?_;dsimp only);refine bxw 1 rfl #[.int .i64 aH,.int .i64 aI,.int .i64 aJ,.string aC,.int .i64 aK] 49 HB ?_;clear HB;intro aD w8 aA aE aG HB;obtain⟨_,_,_,_,_,_,_,_,_,_⟩:=cl5 aA) | ((with_reducible refine gc 105 rfl ?_);refine gc1 (some 9) Try.func105 rfl (impl_isInt32.calls A3.out) ?_;rintro w' ⟨nd,rfl⟩))
     go_ret
     exact fin_ (bL HB)
   rw [if_pos c5] at H
   have cA:(aC.toList == ([]:List UInt8))=true:=beq_iff_eq.mpr c5
   try have cB:aC.toList.isEmpty=true:=by simpa using c5
   have cC:(aC.toList != ([]:List UInt8))=false:=bne_eq_false_iff_eq.mpr c5
   clear c5
   cases H
   go_enter Try.func96,Try.ntmps96
   go_wp2_with (first | ((with_reducible refine gd 1 rfl ?_);(try refine gg ?_;dsimp only);refine bxw 1 rfl #[.int .i64 aH,.int .i64 aI,.int .i64 aJ,.string aC,.int .i64 aK] 49 HB ?_;clear HB;intro aD w6 aA aE aG HB;obtain⟨_,_,_,_,_,_,_,_,_,_⟩:=cl5 aA) | ((with_reducible refine gc 105 rfl ?_);refine gc1 (some 9) Try.func105 rfl (impl_isInt32.calls A3.out) ?_;rintro w' ⟨nd,rfl⟩))
   go_ret
   exact fin_ (bL HB)
 replace H:=ieq H;obtain⟨aV,aW,H⟩ | ⟨cK,aV,aW,H⟩:=H
 · by_cases aM:aC.toList=([]:List UInt8)
   rotate_left
   · rw [if_neg aM] at H
     have aX:(aC.toList == ([]:List UInt8))=false:=beq_eq_false_iff_ne.mpr aM
     try have aY:aC.toList.isEmpty=false:=by simpa using aM
     have aZ:(aC.toList != ([]:List UInt8))=true:=bne_iff_ne.mpr aM
     cases H
     go_enter Try.func96,Try.ntmps96
     go_wp2_with (first | ((with_reducible refine gd 1 rfl ?_);(try refine gg ?_;dsimp only);refine bxw 1 rfl #[.int .i64 aH,.int .i64 aI,.int .i64 aJ,.string aC,.int .i64 aK] 49 HB ?_;clear HB;intro aD cM aA aE aG HB;obtain⟨_,_,_,_,_,_,_,_,_,_⟩:=cl5 aA))
     go_ret
     exact fin_ (bL HB)
   rw [if_pos aM] at H
   have aX:(aC.toList == ([]:List UInt8))=true:=beq_iff_eq.mpr aM
   try have aY:aC.toList.isEmpty=true:=by simpa using aM
   have aZ:(aC.toList != ([]:List UInt8))=false:=bne_eq_false_iff_eq.mpr aM
   clear aM
   cases H
   go_enter Try.func96,Try.ntmps96
   go_wp2_with (first | ((with_reducible refine gd 1 rfl ?_);(try refine gg ?_;dsimp only);refine bxw 1 rfl #[.int .i64 aH,.int .i64 aI,.int .i64 aJ,.string aC,.int .i64 aK] 49 HB ?_;clear HB;intro aD cN aA aE aG HB;obtain⟨_,_,_,_,_,_,_,_,_,_⟩:=cl5 aA))
   go_ret
   exact fin_ (bL HB)
 replace H:=ieq H;obtain⟨a6,a7,H⟩ | ⟨cO,a6,a7,H⟩:=H
 · replace H:=ieq H;obtain⟨a8,a9,H⟩ | ⟨cP,a8,a9,H⟩:=H
   rotate_left
   · cases H
     go_enter Try.func96,Try.ntmps96
     go_wp2_with (first | ((with_reducible refine gd 1 rfl ?_);(try refine gg ?_;dsimp only);refine bxw 1 rfl #[.int .i64 aH,.int .i64 aI,.int .i64 aJ,.string aC,.int .i64 aK] 49 HB ?_;clear HB;intro aD cQ aA aE aG HB;obtain⟨_,_,_,_,_,_,_,_,_,_⟩:=cl5 aA))
     go_ret
     exact fin_ (bL HB)
   by_cases aU:(aC.size:Int)≤300
   · rw [if_pos aU] at H
     have bA:=decide_eq_true aU
     have bB:decide (aC.size≤300)=true:=decide_eq_true (by omega)
     clear aU
     cases H
     go_enter Try.func96,Try.ntmps96
     go_wp2_with (first | ((with_reducible refine gd 1 rfl ?_);(try refine gg ?_;dsimp only);refine bxw 1 rfl #[.int .i64 aH,.int .i64 aI,.int .i64 aJ,.string aC,.int .i64 aK] 49 HB ?_;clear HB;intro aD cR aA aE aG HB;obtain⟨_,_,_,_,_,_,_,_,_,_⟩:=cl5 aA))
     go_ret
     exact fin_ (bL HB)
   rw [if_neg aU] at H
   have bA:=decide_eq_false aU
   have bB:decide (aC.size≤300)=false:=decide_eq_false (by omega)
   clear aU
   cases H
   go_enter Try.func96,Try.ntmps96
   go_wp2_with (first | ((with_reducible refine gd 1 rfl ?_);(try refine gg ?_;dsimp only);refine bxw 1 rfl #[.int .i64 aH,.int .i64 aI,.int .i64 aJ,.string aC,.int .i64 aK] 49 HB ?_;clear HB;intro aD cS aA aE aG HB;obtain⟨_,_,_,_,_,_,_,_,_,_⟩:=cl5 aA))
   go_ret
   exact fin_ (bL HB)
 replace H:=ieq H;obtain⟨bC,bD,H⟩ | ⟨cT,bC,bD,H⟩:=H
 · by_cases aN:aC.toList=([]:List UInt8)
   rotate_left
   · rw [if_neg aN] at H
     have bE:(aC.toList == ([]:List UInt8))=false:=beq_eq_false_iff_ne.mpr aN
     try have bF:aC.toList.isEmpty=false:=by simpa using aN
     have bG:(aC.toList != ([]:List UInt8))=true:=bne_iff_ne.mpr aN
     cases H
     go_enter Try.func96,Try.ntmps96
     go_wp2_with (first | ((with_reducible refine gd 1 rfl ?_);(try refine gg ?_;dsimp only);refine bxw 1 rfl #[.int .i64 aH,.int .i64 aI,.int .i64 aJ,.string aC,.int .i64 aK] 49 HB ?_;clear HB;intro aD cU aA aE aG HB;obtain⟨_,_,_,_,_,_,_,_,_,_⟩:=cl5 aA))
     go_ret
     exact fin_ (bL HB)
   rw [if_pos aN] at H
   have bE:(aC.toList == ([]:List UInt8))=true:=beq_iff_eq.mpr aN
   try have bF:aC.toList.isEmpty=true:=by simpa using aN
   have bG:(aC.toList != ([]:List UInt8))=false:=bne_eq_false_iff_eq.mpr aN
   clear aN
   replace H:=ige H;obtain⟨bH,H⟩ | ⟨bH,H⟩:=H
   rotate_left
   · cases H
     go_enter Try.func96,Try.ntmps96
     go_wp2_with (first | ((with_reducible refine gd 1 rfl ?_);(try refine gg ?_;dsimp only);refine bxw 1 rfl #[.int .i64 aH,.int .i64 aI,.int .i64 aJ,.string aC,.int .i64 aK] 49 HB ?_;clear HB;intro aD cV aA aE aG HB;obtain⟨_,_,_,_,_,_,_,_,_,_⟩:=cl5 aA))
     go_ret
     exact fin_ (bL HB)
   replace H:=ieq H;obtain⟨bI,bJ,H⟩ | ⟨cW,bI,bJ,H⟩:=H
   rotate_left
   · replace H:=igt H;obtain⟨bK,H⟩ | ⟨bK,H⟩:=H
     rotate_left
     · cases H
       go_enter Try.func96,Try.ntmps96
       go_wp2_with (first | ((with_reducible refine gd 1 rfl ?_);(try refine gg ?_;dsimp only);refine bxw 1 rfl #[.int .i64 aH,.int .i64 aI,.int .i64 aJ,.string aC,.int .i64 aK] 49 HB ?_;clear HB;intro aD cX aA aE aG HB;obtain⟨_,_,_,_,_,_,_,_,_,_⟩:=cl5 aA))
       go_ret
       exact fin_ (bL HB)
     replace H:=bnd H;obtain⟨cE,cF,H⟩:=H
     cases H
     go_enter Try.func96,Try.ntmps96
     go_wp2_with (first | ((with_reducible refine gd 1 rfl ?_);(try refine gg ?_;dsimp only);refine bxw 1 rfl #[.int .i64 aH,.int .i64 aI,.int .i64 aJ,.string aC,.int .i64 aK] 49 HB ?_;clear HB;intro aD cY aA aE aG HB;obtain⟨_,_,_,_,_,_,_,_,_,_⟩:=cl5 aA) | (go_at_call 106;(with_reducible refine (impl_isType.calls cF.out).mono ?_);rintro e w' ⟨rfl,⟨nd,rfl⟩⟩))
     go_ret
     exact fin_ (bL HB)
   replace H:=ieq H;obtain⟨bM,bN,H⟩ | ⟨cZ,bM,bN,H⟩:=H
   · cases H
     go_enter Try.func96,Try.ntmps96
     go_wp2_with (first | ((with_reducible refine gd 1 rfl ?_);(try refine gg ?_;dsimp only);refine bxw 1 rfl #[.int .i64 aH,.int .i64 aI,.int .i64 aJ,.string aC,.int .i64 aK] 49 HB ?_;clear HB;intro aD dA aA aE aG HB;obtain⟨_,_,_,_,_,_,_,_,_,_⟩:=cl5 aA))
     go_ret
     exact fin_ (bL HB)
   replace H:=igt H;obtain⟨bO,H⟩ | ⟨bO,H⟩:=H
   rotate_left
   · cases H
     go_enter Try.func96,Try.ntmps96
     go_wp2_with (first | ((with_reducible refine gd 1 rfl ?_);(try refine gg ?_;dsimp only);refine bxw 1 rfl #[.int .i64 aH,.int .i64 aI,.int .i64 aJ,.string aC,.int .i64 aK] 49 HB ?_;clear HB;intro aD dB aA aE aG HB;obtain⟨_,_,_,_,_,_,_,_,_,_⟩:=cl5 aA))
     go_ret
     exact fin_ (bL HB)
   replace H:=bnd H;obtain⟨cG,cH,H⟩:=H
   cases H
   go_enter Try.func96,Try.ntmps96
   go_wp2_with (first | ((with_reducible refine gd 1 rfl ?_);(try refine gg ?_;dsimp only);refine bxw 1 rfl #[.int .i64 aH,.int .i64 aI,.int .i64 aJ,.string aC,.int .i64 aK] 49 HB ?_;clear HB;intro aD dC aA aE aG HB;obtain⟨_,_,_,_,_,_,_,_,_,_⟩:=cl5 aA) | (go_at_call 106;(with_reducible refine (impl_isType.calls cH.out).mono ?_);rintro e w' ⟨rfl,⟨nd,rfl⟩⟩))
   go_ret
   exact fin_ (bL HB)
 replace H:=ieq H;obtain⟨bP,bQ,H⟩ | ⟨dD,bP,bQ,H⟩:=H
 · replace H:=ieq H;obtain⟨bR,bS,H⟩ | ⟨dE,bR,bS,H⟩:=H
   rotate_left
   · cases H
     go_enter Try.func96,Try.ntmps96
     go_wp2_with (first | ((with_reducible refine gd 1 rfl ?_);(try refine gg ?_;dsimp only);refine bxw 1 rfl #[.int .i64 aH,.int .i64 aI,.int .i64 aJ,.string aC,.int .i64 aK] 49 HB ?_;clear HB;intro aD dF aA aE aG HB;obtain⟨_,_,_,_,_,_,_,_,_,_⟩:=cl5 aA))
     go_ret
     exact fin_ (bL HB)
   by_cases aQ:aC.toList=([]:List UInt8)
   rotate_left
   · rw [if_neg aQ] at H
     have bT:(aC.toList == ([]:List UInt8))=false:=beq_eq_false_iff_ne.mpr aQ
     try have bU:aC.toList.isEmpty=false:=by simpa using aQ
     have bV:(aC.toList != ([]:List UInt8))=true:=bne_iff_ne.mpr aQ
     cases H
     go_enter Try.func96,Try.ntmps96
     go_wp2_with (first | ((with_reducible refine gd 1 rfl ?_);(try refine gg ?_;dsimp only);refine bxw 1 rfl #[.int .i64 aH,.int .i64 aI,.int .i64 aJ,.string aC,.int .i64 aK] 49 HB ?_;clear HB;intro aD dG aA aE aG HB;obtain⟨_,_,_,_,_,_,_,_,_,_⟩:=cl5 aA))
     go_ret
     exact fin_ (bL HB)
   rw [if_pos aQ] at H
   have bT:(aC.toList == ([]:List UInt8))=true:=beq_iff_eq.mpr aQ
   try have bU:aC.toList.isEmpty=true:=by simpa using aQ
   have bV:(aC.toList != ([]:List UInt8))=false:=bne_eq_false_iff_eq.mpr aQ
   clear aQ
   cases H
   go_enter Try.func96,Try.ntmps96
   go_wp2_with (first | ((with_reducible refine gd 1 rfl ?_);(try refine gg ?_;dsimp only);refine bxw 1 rfl #[.int .i64 aH,.int .i64 aI,.int .i64 aJ,.string aC,.int .i64 aK] 49 HB ?_;clear HB;intro aD dH aA aE aG HB;obtain⟨_,_,_,_,_,_,_,_,_,_⟩:=cl5 aA))
   go_ret
   exact fin_ (bL HB)
 replace H:=bnd H;obtain⟨cI,b7,H⟩:=H
 replace H:=ibt H;obtain⟨rfl,H⟩ | ⟨rfl,H⟩:=H
 rotate_left
 · cases H
   go_enter Try.func96,Try.ntmps96
   go_wp2_with (first | ((with_reducible refine gd 1 rfl ?_);(try refine gg ?_;dsimp only);refine bxw 1 rfl #[.int .i64 aH,.int .i64 aI,.int .i64 aJ,.string aC,.int .i64 aK] 49 HB ?_;clear HB;intro aD dI aA aE aG HB;obtain⟨_,_,_,_,_,_,_,_,_,_⟩:=cl5 aA) | ((with_reducible refine gc 106 rfl ?_);refine gc1 (some 93) Try.func106 rfl (impl_isType.calls b7.out) ?_;rintro w' ⟨nd,rfl⟩))
   go_ret
   exact fin_ (bL HB)
 replace H:=ieq H;obtain⟨bW,bX,H⟩ | ⟨dJ,bW,bX,H⟩:=H
 rotate_left
 · cases H
   go_enter Try.func96,Try.ntmps96
   go_wp2_with (first | ((with_reducible refine gd 1 rfl ?_);(try refine gg ?_;dsimp only);refine bxw 1 rfl #[.int .i64 aH,.int .i64 aI,.int .i64 aJ,.string aC,.int .i64 aK] 49 HB ?_;clear HB;intro aD dK aA aE aG HB;obtain⟨_,_,_,_,_,_,_,_,_,_⟩:=cl5 aA) | ((with_reducible refine gc 106 rfl ?_);refine gc1 (some 93) Try.func106 rfl (impl_isType.calls b7.out) ?_;rintro w' ⟨nd,rfl⟩))
   go_ret
   exact fin_ (bL HB)
 by_cases aT:aC.toList=([]:List UInt8)
 rotate_left
 · rw [if_neg aT] at H
   have bY:(aC.toList == ([]:List UInt8))=false:=beq_eq_false_iff_ne.mpr aT
   try have bZ:aC.toList.isEmpty=false:=by simpa using aT
   have b6:(aC.toList != ([]:List UInt8))=true:=bne_iff_ne.mpr aT
   cases H
   go_enter Try.func96,Try.ntmps96
   go_wp2_with (first | ((with_reducible refine gd 1 rfl ?_);(try refine gg ?_;dsimp only);refine bxw 1 rfl #[.int .i64 aH,.int .i64 aI,.int .i64 aJ,.string aC,.int .i64 aK] 49 HB ?_;clear HB;intro aD dL aA aE aG HB;obtain⟨_,_,_,_,_,_,_,_,_,_⟩:=cl5 aA) | ((with_reducible refine gc 106 rfl ?_);refine gc1 (some 93) Try.func106 rfl (impl_isType.calls b7.out) ?_;rintro w' ⟨nd,rfl⟩))
   go_ret
   exact fin_ (bL HB)
 rw [if_pos aT] at H
 have bY:(aC.toList == ([]:List UInt8))=true:=beq_iff_eq.mpr aT
 try have bZ:aC.toList.isEmpty=true:=by simpa using aT
 have b6:(aC.toList != ([]:List UInt8))=false:=bne_eq_false_iff_eq.mpr aT
 clear aT
 cases H
 go_enter Try.func96,Try.ntmps96
 go_wp2_with (first | ((with_reducible refine gd 1 rfl ?_);(try refine gg ?_;dsimp only);refine bxw 1 rfl #[.int .i64 aH,.int .i64 aI,.int .i64 aJ,.string aC,.int .i64 aK] 49 HB ?_;clear HB;intro aD dM aA aE aG HB;obtain⟨_,_,_,_,_,_,_,_,_,_⟩:=cl5 aA) | ((with_reducible refine gc 106 rfl ?_);refine gc1 (some 93) Try.func106 rfl (impl_isType.calls b7.out) ?_;rintro w' ⟨nd,rfl⟩))
 go_ret
 exact fin_ (bL HB)
-- NOT PRINTED: function 79 (impl_tree_measure)

end Go.Proofs.Ytjdapaocdkcgdaa.PFnExactMetaPack
