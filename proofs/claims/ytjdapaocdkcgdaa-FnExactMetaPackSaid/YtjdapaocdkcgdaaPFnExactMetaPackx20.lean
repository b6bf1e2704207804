/- The machine's side of FnExactMetaPack: each Go function, and what its call comes to. No condition. -/
import Derived.Test.YtjdapaocdkcgdaaPFnExactMetaPackx0
import Derived.Test.YtjdapaocdkcgdaaPFnExactMetaPackx17
import Derived.Test.YtjdapaocdkcgdaaPFnExactMetaPackx18
import Derived.Test.YtjdapaocdkcgdaaPFnExactMetaPackx19
namespace Go.Proofs.Ytjdapaocdkcgdaa.PFnExactMetaPack
open Go.RowKit Go.Proofs.YtjdapaocdkcgdaaW.PrintWords Go.Proofs.YtjdapaocdkcgdaaW.PrintLast Go.Proofs.YtjdapaocdkcgdaaW.PrintMore Go.Proofs.YtjdapaocdkcgdaaW.PrintMore2
attribute [local go_sem] max2_int min2_int max_two min_two max_three min_three max_four min_four
set_option linter.unusedVariables false
set_option linter.unusedSimpArgs false
set_option maxHeartbeats 8000000
set_option maxRecDepth 100000

/-! ### impl_tree_bytesOf: function 68 -/
mutual
def impl_tree_bytesOf.j1:Nat→Int→List Int→List (S49)→List Int→Int→Int→Int→ByteArray→Int→Option (List Int)
  | 0,_,_,_,_,_,_,_,_,_=>none
  | k + 1,x1,x6,aH,aI,aC,aD,aE,aG,aA=>impl_tree_bytesOf.l0 k x6 (wrap64 (x1 + 1)) 0 aA 0 aH aI aC aD aE aG aA
def impl_tree_bytesOf.l0:Nat→List Int→Int→Int→Int→Int→List (S49)→List Int→Int→Int→Int→ByteArray→Int→Option (List Int)
  | 0,_,_,_,_,_,_,_,_,_,_,_,_=>none
  | k + 1,x6,x7,x8,aQ,aT,aA,aD,aC,aE,aG,aH,aI=>if aT < aQ then (if 0≤x7 then (if x7 < (aA.length:Int) then (if aC=12 then ((impl_headOf.f k ((rd_T49 aA x7).f0) ((rd_T49 aA x7).f1) ((rd_T49 aA x7).f2) ((rd_T49 aA x7).f3) ((rd_T49 aA x7).f4) x8).bind fun aJ=>(if x6.length + aJ.length < 140737488355328 then ((some (x6 ++ aJ:List Int)).bind fun aK=>((impl_tree_bytesOf.f k aA aD x7).bind fun aM=>(if aK.length + aM.length < 140737488355328 then (if x7 < (aD.length:Int) then (impl_tree_bytesOf.l0 k (aK ++ aM) (rd aD x7) ((rd_T49 aA x7).f1) aQ (wrap64 (aT + 1)) aA aD aC aE aG aH aI) else (none)) else (none)))) else (none))) else ((impl_tree_bytesOf.f k aA aD x7).bind fun aN=>(if x6.length + aN.length < 140737488355328 then (if x7 < (aD.length:Int) then (impl_tree_bytesOf.l0 k (x6 ++ aN) (rd aD x7) ((rd_T49 aA x7).f1) aQ (wrap64 (aT + 1)) aA aD aC aE aG aH aI) else (none)) else (none)))) else (none)) else (none)) else (if aC=12 then (if x6.length < 140737488355328 then (some (x6 ++ [0])) else (none)) else (some x6))
def impl_tree_bytesOf.j0:Nat→Int→List Int→Int→Bool→List (S49)→List Int→Int→Int→Int→ByteArray→Int→Option (List Int)
  | 0,_,_,_,_,_,_,_,_,_,_,_=>none
  | k + 1,x1,x6,aQ,aT,aH,aI,aE,aG,aA,aC,aD=>if aT=true then ((impl_ZigPut.f k aA).bind fun aN=>(some aN)) else (if aQ=8 then ((impl_UvarPut.f k (aC.size:Int)).bind fun aJ=>(if aJ.length + aC.size < 140737488355328 then (some (aJ ++ bytesOf aC)) else (none))) else (if aQ=9 then (if aD≤14 then (if x6.length < 140737488355328 then (impl_tree_bytesOf.j1 k x1 (x6 ++ [(wrap64 ((wrap64 (16 * aD)) + aA)) % 256]) aH aI aE aG aA aC aD) else (none)) else ((some (([(wrap64 (240 + aA)) % 256]:List Int):List Int)).bind fun aK=>((impl_UvarPut.f k aD).bind fun aM=>(if aK.length + aM.length < 140737488355328 then (impl_tree_bytesOf.j1 k x1 (aK ++ aM) aH aI aE aG aA aC aD) else (none))))) else (impl_tree_bytesOf.j1 k x1 x6 aH aI aE aG aA aC aD)))
def impl_tree_bytesOf.f:Nat→List (S49)→List Int→Int→Option (List Int)
  | 0,_,_,_=>none
  | k + 1,s0_0,s0_1,a1=>if 0≤a1 then (if a1 < (s0_0.length:Int) then ((some (([]:List Int):List Int)).bind fun aA=>(if ((rd_T49 s0_0 a1).f0)=5 then (impl_tree_bytesOf.j0 k a1 aA ((rd_T49 s0_0 a1).f0) (((rd_T49 s0_0 a1).f0) == 5) s0_0 s0_1 ((rd_T49 s0_0 a1).f0) ((rd_T49 s0_0 a1).f1) ((rd_T49 s0_0 a1).f2) ((rd_T49 s0_0 a1).f3) ((rd_T49 s0_0 a1).f4)) else (impl_tree_bytesOf.j0 k a1 aA ((rd_T49 s0_0 a1).f0) (((rd_T49 s0_0 a1).f0) == 6) s0_0 s0_1 ((rd_T49 s0_0 a1).f0) ((rd_T49 s0_0 a1).f1) ((rd_T49 s0_0 a1).f2) ((rd_T49 s0_0 a1).f3) ((rd_T49 s0_0 a1).f4)))) else (none)) else (none)
end
def impl_tree_bytesOf.T8:Bool × List (List Nat × List Nat):=(true,[([],[]),([0],[0]),([1],[1]),([2],[2]),([],[]),([4],[4]),([3,5,3],[3,5]),([6,6,0,1,2,3,4,5,6],[6])])
def impl_tree_bytesOf.B8:List Nat:=[0,1,3,7,0,16,63,127]
theorem impl_tree_bytesOf.tab8:rtab .any (opsOf Try.f68 8)=impl_tree_bytesOf.T8:=by kernel_rfl
theorem impl_tree_bytesOf.bits8:waitsOk impl_tree_bytesOf.T8.2 impl_tree_bytesOf.B8=true:=by kernel_rfl
def impl_tree_bytesOf.T12:Bool × List (List Nat × List Nat):=(true,[([],[]),([0],[0]),([1],[1]),([2],[2]),([3],[3]),([],[]),([5],[5]),([6],[6]),([4,7,7],[4,7]),([8,8,0,1,2,3,4,5,6,7,8],[8])])
def impl_tree_bytesOf.B12:List Nat:=[0,1,3,7,15,0,32,96,255,511]
theorem impl_tree_bytesOf.tab12:rtab .any (opsOf Try.f68 12)=impl_tree_bytesOf.T12:=by kernel_rfl
theorem impl_tree_bytesOf.bits12:waitsOk impl_tree_bytesOf.T12.2 impl_tree_bytesOf.B12=true:=by kernel_rfl
theorem impl_tree_bytesOf.calls (k:Nat):∀ (g:Nat) (s0_0:List (S49)) (s0_1:List Int) (a1:Int) (r:List Int) (w0 w:World) (hI:IsS113 w0 w g s0_0 s0_1) (hB:Below w0.heap.size w0 w) (h:impl_tree_bytesOf.f k s0_0 s0_1 a1=some r),
    Calls Try.prog 68 #[.pointer (some ⟨g,0,none⟩),.int .i64 a1] w fun e w'=>∃ gJ:Value,e=.returned (gJ)∧Kd.R (Kd.int .u8) 5 w' w.heap.size (fun _=>True) gJ r∧IsS113 w0 w' g s0_0 s0_1∧Below w0.heap.size w0 w'∧KeepBut w w' g none:=by
 induction k using Nat.strongRecOn with
 | _ k ih =>
 intro g s0_0 s0_1 a1 r w0 w hI hB h
 cases k with
 | zero=>exact absurd h (by simp [impl_tree_bytesOf.f])
 | succ k =>
 simp only [impl_tree_bytesOf.f] at h
 have hu49:=Try.underlying49
 have HI0:=am hI
 have HGE0:=am (IsS113.ge hI)
 have HK:=am (KeepBut.refl w g none)
 have HL:=am hB.size
 clear hI
 have HW0:=am hB.size
 have HB:=am hB
 clear hB
 have H:(if 0≤a1 then (if a1 < (s0_0.length:Int) then ((some (([]:List Int):List Int)).bind fun bB=>(if ((rd_T49 s0_0 a1).f0)=5 then (impl_tree_bytesOf.j0 k a1 bB ((rd_T49 s0_0 a1).f0) (((rd_T49 s0_0 a1).f0) == 5) s0_0 s0_1 ((rd_T49 s0_0 a1).f0) ((rd_T49 s0_0 a1).f1) ((rd_T49 s0_0 a1).f2) ((rd_T49 s0_0 a1).f3) ((rd_T49 s0_0 a1).f4)) else (impl_tree_bytesOf.j0 k a1 bB ((rd_T49 s0_0 a1).f0) (((rd_T49 s0_0 a1).f0) == 6) s0_0 s0_1 ((rd_T49 s0_0 a1).f0) ((rd_T49 s0_0 a1).f1) ((rd_T49 s0_0 a1).f2) ((rd_T49 s0_0 a1).f3) ((rd_T49 s0_0 a1).f4)))) else (none)) else (none))=some r:=h
 clear h
 replace H:=if_dd H;obtain⟨fY,fZ,H⟩:=H
 replace H:=bsm H;obtain⟨bB,cP,H⟩:=H
 have f7:=am H
 clear H
 obtain⟨ASz6_0,cSz6_0,ASz6_1,cSz6_1,HGz6,hgz6,HSz6_0,HSz6_1⟩:=HI0.out
 have dY:=cellS113_0 HGz6
 have dZ:=cellS113_1 HGz6
 clear HGz6 hgz6
 have bK:0≤(a1:Int):=dcd
 have bM:a1 < (s0_0.length:Int):=dcd
 obtain⟨f9,eQ,aQ,aT,aU,aV,aW⟩:=at_T49 HSz6_0 a1 bK bM
 cases eQ
 replace aQ:=pw_cell_below HB.out aQ
 replace aT:=pw_cell_below HB.out aT
 replace aU:=pw_cell_below HB.out aU
 replace aV:=pw_cell_below HB.out aV
 replace aW:=pw_cell_below HB.out aW
 replace bK:=eq_true bK
 replace bM:=eq_true bM
 go_enter Try.func68,Try.ntmps68
 go_upto_block 0 with (first | ((with_reducible refine gate_dst (N:=5) rfl ?_);refine bx_ 5 #[.int .i64 0,.int .i64 0,.int .i64 0,.string ⟨#[]⟩,.int .i64 0] 49 ?_;intro aC hg w7 hbox hb;have aA:=am (hbox);have gA:=am ((by rw [hg];exact (keep_size (w:=w) (g:=g) (row:=none) (pL HK)):w.heap.size≤aC));have gB:=am ((Nat.le_trans HW0.out (by rw [hg];exact (keep_size (w:=w) (g:=g) (row:=none) (pL HK)):w.heap.size≤aC):w0.heap.size≤aC));have cQ:=am ((by rw [hg];exact Nat.ne_of_lt (IsS113.lt (show IsS113 w0 _ g s0_0 s0_1 from IsS113.l HI0)):g≠aC));have aI:=am ((by rw [hg];exact Nat.ne_of_gt (IsS113.lt (show IsS113 w0 _ g s0_0 s0_1 from IsS113.l HI0)):aC≠g));replace HK:=am (KeepBut.trans (pL HK) (KeepBut.of_below hb g none) (.inl rfl));replace HB:=am (below_step (bL HB) hb);replace HI0:=am (IsS113.below (IsS113.l HI0) hb);clear hb hbox hg;have i9:=aI.out;have jA:=cQ.out;obtain⟨b7,b8,b9,cA,cB,cC,cD,cE,cF,cG⟩:=cl5 aA) | ((with_reducible refine gate_dst (N:=17) rfl ?_);refine Kd.R_lit (Kd.int .u8) _ 5 ?hg (N:=17) ?hd (xs:=([]:List Int)) (inner:=[]) (ok:=fun _=>True) (okp:=fun _=>True) ?hr ?hp (fun _ hk=>hk) trivial (Below.refl _ _) (Nat.le_refl _) (by simp) ?_;(case hd=>rfl);(case hg=>rfl);(case hr=>first | (go_simp;done) | (go_simp;rfl));(case hp=>exact (Reps.none _ _));intro aX jI cR hb hg_ hnew_;clear hg_ hnew_;(first | rw [← cP.out] at cR | (simp only [Int.reduceToNat] at cR;rw [← cP.out] at cR));have cS:=am (Kd.R_lower cR (keep_size (w:=w) (g:=g) (row:=none) (pL HK)));replace aA:=am (blk_below (g:=aC) (o:=.cells #[.int .i64 ((rd_T49 s0_0 a1).f0),.int .i64 ((rd_T49 s0_0 a1).f1),.int .i64 ((rd_T49 s0_0 a1).f2),.string ((rd_T49 s0_0 a1).f3),.int .i64 ((rd_T49 s0_0 a1).f4)] 49 (0,0)) (blk_later aA.out) hb);replace HK:=am (KeepBut.trans (pL HK) (KeepBut.of_below hb g none) (.inl rfl));replace HB:=am (below_step (bL HB) hb);replace HI0:=am (IsS113.below (show IsS113 w0 (((((w7.setCell ⟨aC,0,none⟩ (.int .i64 ((rd_T49 s0_0 a1).f0))).setCell ⟨aC,1,none⟩ (.int .i64 ((rd_T49 s0_0 a1).f1))).setCell ⟨aC,2,none⟩ (.int .i64 ((rd_T49 s0_0 a1).f2))).setCell ⟨aC,3,none⟩ (.string ((rd_T49 s0_0 a1).f3))).setCell ⟨aC,4,none⟩ (.int .i64 ((rd_T49 s0_0 a1).f4))) g s0_0 s0_1 from IsS113.l HI0) hb);clear hb cR;obtain⟨dG,dH,dI,dJ,dK,bO,bP,bQ,bR,bS⟩:=cl5 aA))
 (try simp only [Act.put,List.setIfInBounds_toArray,List.set_cons_zero,List.set_cons_succ])
 go_cut [6] (fun v6 wc=>∃ (kq:Nat) (dL:List Int),Aside0 (impl_tree_bytesOf.j1 kq a1 dL s0_0 s0_1 ((rd_T49 s0_0 a1).f0) ((rd_T49 s0_0 a1).f1) ((rd_T49 s0_0 a1).f2) ((rd_T49 s0_0 a1).f3) ((rd_T49 s0_0 a1).f4)=some r)∧Aside0 (kq≤k)∧Aside0 (Kd.R (Kd.int .u8) 5 wc w.heap.size (fun _=>True) v6 dL)∧Aside0 (wc.heap[aC]?=some (.cells #[.int .i64 ((rd_T49 s0_0 a1).f0),.int .i64 ((rd_T49 s0_0 a1).f1),.int .i64 ((rd_T49 s0_0 a1).f2),.string ((rd_T49 s0_0 a1).f3),.int .i64 ((rd_T49 s0_0 a1).f4)] 49 (0,0)))∧Aside0 (IsS113 w0 wc g s0_0 s0_1)∧Aside0 (KeepBut w wc g none)∧Aside0 (Below w0.heap.size w0 wc))
 case first =>
  have H:=f7.out
  clear f7
  have d2:=am H
  clear H
  go_upto_if 20 with (fail)
  go_cut [20] (fun v20 wc=>∃ (kq:Nat) (cH:Bool),v20=.bool cH∧Aside0 (impl_tree_bytesOf.j0 kq a1 bB ((rd_T49 s0_0 a1).f0) cH s0_0 s0_1 ((rd_T49 s0_0 a1).f0) ((rd_T49 s0_0 a1).f1) ((rd_T49 s0_0 a1).f2) ((rd_T49 s0_0 a1).f3) ((rd_T49 s0_0 a1).f4)=some r)∧Aside0 (kq≤k)∧Aside0 (Kd.R (Kd.int .u8) 5 wc w.heap.size (fun _=>True) aX bB)∧Aside0 (wc.heap[aC]?=some (.cells #[.int .i64 ((rd_T49 s0_0 a1).f0),.int .i64 ((rd_T49 s0_0 a1).f1),.int .i64 ((rd_T49 s0_0 a1).f2),.string ((rd_T49 s0_0 a1).f3),.int .i64 ((rd_T49 s0_0 a1).f4)] 49 (0,0)))∧Aside0 (IsS113 w0 wc g s0_0 s0_1)∧Aside0 (KeepBut w wc g none)∧Aside0 (Below w0.heap.size w0 wc))
  case first =>
   have H:=d2.out
   clear d2
   replace H:=ieq H;obtain⟨bU,cT,H⟩ | ⟨jJ,bU,cT,H⟩:=H
   · (first | rw [bU] | rw [cT] | (simp only [i64_w,i32_w];rw [bU]) | skip)
     have H':=am H;clear H
     go_wp2
     go_meet
     case rel=>exact⟨_,((((rd_T49 s0_0 a1).f0) == 5)),sr,H',⟨by first | omega | exact Nat.le_refl _⟩,⟨rL cS⟩,⟨kL aA⟩,⟨IsS113.l HI0⟩,⟨pL HK⟩,⟨bL HB⟩⟩
   (first | rw [bU] | rw [cT] | (simp only [i64_w,i32_w];rw [bU]) | skip)
   have H':=am H;clear H
   go_wp2
   go_meet
   case rel=>exact⟨_,((((rd_T49 s0_0 a1).f0) == 6)),sr,H',⟨by first | omega | exact Nat.le_refl _⟩,⟨rL cS⟩,⟨kL aA⟩,⟨IsS113.l HI0⟩,⟨pL HK⟩,⟨bL HB⟩⟩
  clear d2
  try clear fY fZ dG dH dI dJ dK dY dZ b7 b8 b9 cA cB bO bP bQ bR bS cC cD cE cF cG aQ aT aU aV aW bK bM
  obtain⟨kq,cH,rfl,HA,d3,aD,aA,HI0,HK,HB⟩:=hcut
  cases kq with
  | zero=>exact absurd HA.out (by simp [impl_tree_bytesOf.j0])
  | succ kj12=>?_
  have H:=HA.out
  clear HA
  simp only [impl_tree_bytesOf.j0] at H
  replace H:=ibt H;obtain⟨rfl,H⟩ | ⟨rfl,H⟩:=H
  · replace H:=bnd H;obtain⟨gK,jB,H⟩:=H
    cases H
    obtain⟨gL,gM⟩:=nbo aI
    obtain⟨_,_,_,_,_,_,_,_,_,_⟩:=cl5 aA
    go_wp2_with (first | ((with_reducible refine gc 84 rfl ?_);refine gc2 (some 25) Try.func84 rfl (impl_ZigPut.calls jB.out) ?_;rintro gN jK ⟨bC,hb⟩;have d4:=am (Kd.R_lower (Kd.R_new' bC (Kd.R_lt (rL aD))) (keep_size (w:=w) (g:=g) (row:=none) (pL HK)));replace aD:=am (Kd.R_elder' (rL aD) (Kd.R_base bC) hb);replace aA:=bkb aA hb;replace HK:=kbe HK hb;replace HB:=bst HB hb;replace HI0:=IsS113.be HI0 hb;clear hb bC))
    go_ret
    exact⟨_,fin_ ⟨R_later (Kd.R_mono d4.out (fun _ hk=>trivial)),IsS113.l HI0,bL HB,pL HK⟩⟩
  replace H:=ieq H;obtain⟨eR,eS,H⟩ | ⟨jL,eR,eS,H⟩:=H
  · replace H:=bnd H;obtain⟨dW,jC,H⟩:=H
    replace H:=ifs H;obtain⟨gO,H⟩:=H
    have eT:=am gO
    clear gO
    generalize cU:((dW ++ bytesOf ((rd_T49 s0_0 a1).f3)):List Int)=gP at H;have d5:=am cU.symm;clear cU
    cases H
    try go_wp2
    replace aD:=rdr aD
    replace aA:=bdr aA
    replace HI0:=am (IsS113.drew HI0.out)
    replace HK:=am (keep_drew HK.out)
    replace HB:=bld HB
    refine start_ (n:=8) (S:=fun w'=>w'.cell? ⟨aC,0,none⟩=some (.int .i64 ((rd_T49 s0_0 a1).f0))∧w'.cell? ⟨aC,1,none⟩=some (.int .i64 ((rd_T49 s0_0 a1).f1))∧w'.cell? ⟨aC,2,none⟩=some (.int .i64 ((rd_T49 s0_0 a1).f2))∧w'.cell? ⟨aC,3,none⟩=some (.string ((rd_T49 s0_0 a1).f3))∧w'.cell? ⟨aC,4,none⟩=some (.int .i64 ((rd_T49 s0_0 a1).f4))) (ds:=[]) #[false,false,false,false,false,false,false,false] (by kernel_rfl) rfl rfl ⟨bcl aA 0,bcl aA 1,bcl aA 2,bcl aA 3,bcl aA 4⟩ (fun hHeld=>?_);refine with_tabW impl_tree_bytesOf.tab8 impl_tree_bytesOf.bits8 (fun HT_ HW_=>?_)
    generalize wc.drew=jM at aD aA HI0 HK HB hHeld ⊢
    refine pu_ 0 28 ?_;refine pu_ 4 32 ?_;refine tk_ 1 29 hHeld ?_;refine pu_ 2 30 ?_;refine tk_ 5 33 hHeld ?_
    refine on_ 3 31 (fun K hK=>?_)
    refine gs_ Try.func85 #[.int .i64 (((rd_T49 s0_0 a1).f3).size:Int)] rfl ?_
    with_reducible refine (impl_UvarPut.calls jC.out).mono ?_
    rintro e jN ⟨eU,rfl,bC,hb⟩
    refine⟨_,rfl,?_⟩
    have bE:=am (Kd.R_lower (Kd.R_new' bC (Kd.R_lt (rL aD))) (keep_size (w:=w) (g:=g) (row:=none) (pL HK)))
    replace aD:=am (Kd.R_elder' (rL aD) (Kd.R_base bC) hb)
    replace aA:=bkb aA hb
    replace HI0:=IsS113.be HI0 hb
    replace HK:=kbe HK hb
    replace HB:=bst HB hb
    (try clear hb)
    (try clear gQ)
    (try clear hk)
    (try clear hi)
    (try clear bC)
    refine hK.out _ _ ⟨bcl aA 0,bcl aA 1,bcl aA 2,bcl aA 3,bcl aA 4⟩ (fun hHeld=>?_)
    clear hK K
    refine no_ (some 31) ?_
    refine on_ 6 34 (fun K hK=>?_)
    refine Go.Proofs.YtjdapaocdkcgdaaW.PrintMore2.R_append_str_step w.heap.size (by rfl) (.tmp 31) _ 40 9 5 rfl Try.underlying40 Try.underlying9 info5 eU dW ((rd_T49 s0_0 a1).f3) (fun k_=>some k_≠(aX:Value).ownBlock) rfl rfl ?aO ?aF (Below.refl _ _) ?aS ?aL ?_
    (case aF=>exact (fun k_ hk=>Kd.fresh' (Kd.R_lt (rL aD)) k_ hk))
    (case aO=>exact (R_later (Kd.R_mono bE.out (fun _ hk=>hk.2))))
    (case aS=>exact (keep_size (w:=w) (g:=g) (row:=none) (pL HK)))
    (case aL=>have:=eT.out;omega)
    intro gR jO ho hb hg hat
    rw [← d5.out] at ho
    have d6:=am ho
    replace aD:=am (Kd.R_after (ok:=(fun _=>True)) (rL aD) hg hat)
    replace aA:=bgr aA hg bE
    replace HI0:=IsS113.gr HI0 hg bE
    replace HB:=bwk HB HL hb
    replace HK:=kgr HK hg bE
    clear bE ho hb hg hat
    refine hK.out _ _ ⟨bcl aA 0,bcl aA 1,bcl aA 2,bcl aA 3,bcl aA 4⟩ (fun hHeld=>?_)
    clear hK K
    refine no_ (some 34) ?_;refine pu_ 7 4 ?_
    refine done_ (done_of HT_.out (by kernel_rfl)) ?_
    try go_wp2
    go_ret
    exact⟨_,fin_ ⟨R_later (Kd.R_mono d6.out (fun _ hk=>trivial)),IsS113.l HI0,bL HB,pL HK⟩⟩
  replace H:=ieq H;obtain⟨eV,eW,H⟩ | ⟨jP,eV,eW,H⟩:=H
  rotate_left
  · have H':=am H;clear H
    go_wp2
    go_meet
    case rel=>exact⟨_,(bB),H',⟨by have:=d3.out;first | omega | exact Nat.le_refl _⟩,⟨rL aD⟩,⟨kL aA⟩,⟨IsS113.l HI0⟩,⟨pL HK⟩,⟨bL HB⟩⟩
  replace H:=idc H;obtain⟨eX,H⟩ | ⟨eX,H⟩:=H
  · replace H:=ifs H;obtain⟨gS,H⟩:=H
    have eY:=am gS
    clear gS
    generalize cV:((bB ++ [(wrap64 ((wrap64 (16 * ((rd_T49 s0_0 a1).f4))) + ((rd_T49 s0_0 a1).f2))) % 256]):List Int)=eZ at H;have d7:=am cV.symm;clear cV
    have H':=am H;clear H
    obtain⟨gT,gU⟩:=nbo aI
    obtain⟨_,_,_,_,_,_,_,_,_,_⟩:=cl5 aA
    go_wp2_with (first | ((with_reducible refine gate_builtin (b:=.append) (xs:=#[.tmp 40,.tmp 48]) rfl ?_);at_builtin;refine Kd.R_append (Kd.int .u8) w.heap.size rfl (.tmp 40) (.tmp 48) 40 5 (.int .u8 0) 1 rfl Try.underlying40 info5 rfl (by decide) (by omega) aX bB ((wrap64 ((wrap64 (16 * ((rd_T49 s0_0 a1).f4))) + ((rd_T49 s0_0 a1).f2))) % 256) [.int .u8 ((wrap64 ((wrap64 (16 * ((rd_T49 s0_0 a1).f4))) + ((rd_T49 s0_0 a1).f2))) % 256)] (fun _=>True) (fun _=>False) rfl rfl ?aP (fun _ hk=>hk.elim) ?aF ?aO (Below.refl _ _) ?aS ?aL ?_;(case aP=>exact rfl);(case aF=>exact (fun _ _=>trivial));(case aO=>exact (rL aD));(case aS=>exact (keep_size (w:=w) (g:=g) (row:=none) (pL HK)));(case aL=>have:=eY.out;omega);intro gV jQ ho hb hg hat;rw [← d7.out] at ho;have d8:=am ho;replace aA:=bgr aA hg aD;replace HI0:=IsS113.gr HI0 hg aD;replace HB:=bwk HB HL hb;replace HK:=kgr HK hg aD;clear aD;clear ho hb hg hat))
    go_meet
    case rel=>exact⟨_,(eZ),H',⟨by have:=d3.out;first | omega | exact Nat.le_refl _⟩,⟨rL d8⟩,⟨kL aA⟩,⟨IsS113.l HI0⟩,⟨pL HK⟩,⟨bL HB⟩⟩
  replace H:=bsm H;obtain⟨cJ,bT,H⟩:=H
  replace H:=bnd H;obtain⟨bN,gW,H⟩:=H
  replace H:=ifs H;obtain⟨gX,H⟩:=H
  have e5:=am gX
  clear gX
  generalize cW:((cJ ++ bN):List Int)=e6 at H;have d9:=am cW.symm;clear cW
  have H':=am H;clear H
  obtain⟨gY,gZ⟩:=nbo aI
  obtain⟨_,_,_,_,_,_,_,_,_,_⟩:=cl5 aA
  try go_wp2
  replace aD:=rdr aD
  replace aA:=bdr aA
  replace HI0:=am (IsS113.drew HI0.out)
  replace HK:=am (keep_drew HK.out)
  replace HB:=bld HB
  refine start_ (n:=10) (S:=fun w'=>w'.cell? ⟨aC,0,none⟩=some (.int .i64 ((rd_T49 s0_0 a1).f0))∧w'.cell? ⟨aC,1,none⟩=some (.int .i64 ((rd_T49 s0_0 a1).f1))∧w'.cell? ⟨aC,2,none⟩=some (.int .i64 ((rd_T49 s0_0 a1).f2))∧w'.cell? ⟨aC,3,none⟩=some (.string ((rd_T49 s0_0 a1).f3))∧w'.cell? ⟨aC,4,none⟩=some (.int .i64 ((rd_T49 s0_0 a1).f4))) (ds:=[]) #[false,false,false,false,false,false,false,false,false,false] (by kernel_rfl) rfl rfl ⟨bcl aA 0,bcl aA 1,bcl aA 2,bcl aA 3,bcl aA 4⟩ (fun hHeld=>?_);refine with_tabW impl_tree_bytesOf.tab12 impl_tree_bytesOf.bits12 (fun HT_ HW_=>?_)
  generalize wc.drew=jR at aD aA HI0 HK HB hHeld ⊢
  refine pu_ 0 50 ?_;refine pu_ 5 55 ?_;refine tk_ 1 51 hHeld ?_;refine pu_ 2 52 ?_;refine pu_ 3 53 ?_;refine tk_ 6 56 hHeld ?_
  refine join_ (σ:=Value × Value) 2 #[true,true,true,true,true,true,true,true,false,false] (fun s_=>[(54,s_.1),(57,s_.2)]) (fun s_ w'=>(w'.cell? ⟨aC,0,none⟩=some (.int .i64 ((rd_T49 s0_0 a1).f0))∧w'.cell? ⟨aC,1,none⟩=some (.int .i64 ((rd_T49 s0_0 a1).f1))∧w'.cell? ⟨aC,2,none⟩=some (.int .i64 ((rd_T49 s0_0 a1).f2))∧w'.cell? ⟨aC,3,none⟩=some (.string ((rd_T49 s0_0 a1).f3))∧w'.cell? ⟨aC,4,none⟩=some (.int .i64 ((rd_T49 s0_0 a1).f4)))∧(Kd.R (Kd.int .u8) 5 w' w.heap.size (fun k_=>some k_≠(s_.2:Value).ownBlock∧some k_≠(aX:Value).ownBlock) s_.1 cJ)∧(Kd.R (Kd.int .u8) 5 w' w.heap.size (fun k_=>some k_≠(s_.1:Value).ownBlock∧some k_≠(aX:Value).ownBlock) s_.2 bN)∧(Kd.R (Kd.int .u8) 5 w' w.heap.size (fun k_=>some k_≠(s_.1:Value).ownBlock∧some k_≠(s_.2:Value).ownBlock) aX bB)∧(w'.heap[aC]?=some (.cells #[.int .i64 ((rd_T49 s0_0 a1).f0),.int .i64 ((rd_T49 s0_0 a1).f1),.int .i64 ((rd_T49 s0_0 a1).f2),.string ((rd_T49 s0_0 a1).f3),.int .i64 ((rd_T49 s0_0 a1).f4)] 49 (0,0)))∧(IsS113 w0 w' g s0_0 s0_1)∧(KeepBut w w' g none)∧(Below w0.heap.size w0 w')) ?_ ?_
  rotate_left
  · intro hCont
    refine two_ (i:=4) (j:=7) (Ni:=some 54) (Nj:=some 57) #[true,true,true,true,true,true,true,false,false,false] #[true,true,true,true,false,true,true,true,false,false] rfl rfl rfl rfl (two_of HT_.out (by kernel_rfl)) (by decide) (by decide) (fun K hK=>?_) (fun K hK=>?_)
    · skip
      refine Kd.R_lit_step (Kd.int .u8) _ 5 ?hg (N:=54) ?hd (xs:=([(wrap64 (240 + ((rd_T49 s0_0 a1).f2))) % 256]:List Int)) (inner:=[.int .u8 ((wrap64 (240 + ((rd_T49 s0_0 a1).f2))) % 256)]) (ok:=fun _=>True) (okp:=fun _=>True) ?hr ?hp (fun _ hk=>hk) trivial (Below.refl _ _) (Nat.le_refl _) (by simp) ?_;(case hd=>rfl);(case hg=>rfl);(case hr=>first | (go_simp;done) | (go_simp;rfl));(case hp=>exact (Reps.one (show Kd.M (Kd.int .u8) _ _ _ ((wrap64 (240 + ((rd_T49 s0_0 a1).f2))) % 256) [.int .u8 ((wrap64 (240 + ((rd_T49 s0_0 a1).f2))) % 256)] from rfl) (Reps.none _ _)))
      intro bD jD cN hb hg_ hnew_
      clear hg_ hnew_
      (first | rw [← bT.out] at cN | (simp only [Int.reduceToNat] at cN;rw [← bT.out] at cN))
      have aJ:=am (Kd.R_lower (Kd.R_new' cN (Kd.R_lt (rL aD))) (keep_size (w:=w) (g:=g) (row:=none) (pL HK)))
      replace aD:=am (Kd.R_elder' (rL aD) (Kd.R_base cN) hb)
      replace aA:=bkb aA hb
      replace HI0:=IsS113.be HI0 hb
      replace HK:=kbe HK hb
      replace HB:=bst HB hb
      clear hb cN
      refine hK.out _ _ ⟨bcl aA 0,bcl aA 1,bcl aA 2,bcl aA 3,bcl aA 4⟩ (fun hHeld=>?_)
      clear hK K
      refine no_ (some 54) ?_
      refine on_ 7 57 (fun K hK=>?_)
      refine gs_ Try.func85 #[.int .i64 ((rd_T49 s0_0 a1).f4)] rfl ?_
      with_reducible refine (impl_UvarPut.calls gW.out).mono ?_
      rintro e jS ⟨bF,rfl,bC,hb⟩
      refine⟨_,rfl,?_⟩
      have aK:=am (Kd.R_lower (Kd.R_new' (Kd.R_new' bC (Kd.R_lt (rL aD))) (Kd.R_lt (rL aJ))) (keep_size (w:=w) (g:=g) (row:=none) (pL HK)))
      replace aD:=am (Kd.R_elder' (rL aD) (Kd.R_base bC) hb)
      replace aJ:=am (Kd.R_elder' (rL aJ) (Kd.R_base bC) hb)
      replace aA:=bkb aA hb
      replace HI0:=IsS113.be HI0 hb
      replace HK:=kbe HK hb
      replace HB:=bst HB hb
      (try clear hb)
      (try clear gQ)
      (try clear hk)
      (try clear hi)
      (try clear bC)
      refine hK.out _ _ ⟨bcl aA 0,bcl aA 1,bcl aA 2,bcl aA 3,bcl aA 4⟩ (fun hHeld=>?_)
      clear hK K
      refine no_ (some 57) ?_
      exact norm_ (by simp only [putAll,Act.put,List.setIfInBounds_toArray,List.set_cons_zero,List.set_cons_succ]) (hCont (bD,bF) _ ⟨hHeld,(R_later (Kd.R_mono aJ.out (fun _ hk=>⟨hk.2,hk.1.2⟩))),(R_later (Kd.R_mono aK.out (fun _ hk=>⟨hk.2,hk.1.2⟩))),(R_later (Kd.R_mono aD.out (fun _ hk=>⟨hk.1.2,hk.2⟩))),(kL aA),(IsS113.l HI0),(pL HK),(bL HB)⟩)
    skip
    refine gs_ Try.func85 #[.int .i64 ((rd_T49 s0_0 a1).f4)] rfl ?_
    with_reducible refine (impl_UvarPut.calls gW.out).mono ?_
    rintro e jD ⟨bF,rfl,bC,hb⟩
    refine⟨_,rfl,?_⟩
    have aK:=am (Kd.R_lower (Kd.R_new' bC (Kd.R_lt (rL aD))) (keep_size (w:=w) (g:=g) (row:=none) (pL HK)))
    replace aD:=am (Kd.R_elder' (rL aD) (Kd.R_base bC) hb)
    replace aA:=bkb aA hb
    replace HI0:=IsS113.be HI0 hb
    replace HK:=kbe HK hb
    replace HB:=bst HB hb
    (try clear hb)
    (try clear gQ)
    (try clear hk)
    (try clear hi)
    (try clear bC)
    refine hK.out _ _ ⟨bcl aA 0,bcl aA 1,bcl aA 2,bcl aA 3,bcl aA 4⟩ (fun hHeld=>?_)
    clear hK K
    refine no_ (some 57) ?_
    refine on_ 4 54 (fun K hK=>?_)
    refine Kd.R_lit_step (Kd.int .u8) _ 5 ?hg (N:=54) ?hd (xs:=([(wrap64 (240 + ((rd_T49 s0_0 a1).f2))) % 256]:List Int)) (inner:=[.int .u8 ((wrap64 (240 + ((rd_T49 s0_0 a1).f2))) % 256)]) (ok:=fun _=>True) (okp:=fun _=>True) ?hr ?hp (fun _ hk=>hk) trivial (Below.refl _ _) (Nat.le_refl _) (by simp) ?_;(case hd=>rfl);(case hg=>rfl);(case hr=>first | (go_simp;done) | (go_simp;rfl));(case hp=>exact (Reps.one (show Kd.M (Kd.int .u8) _ _ _ ((wrap64 (240 + ((rd_T49 s0_0 a1).f2))) % 256) [.int .u8 ((wrap64 (240 + ((rd_T49 s0_0 a1).f2))) % 256)] from rfl) (Reps.none _ _)))
    intro bD jT cI hb hg_ hnew_
    clear hg_ hnew_
    (first | rw [← bT.out] at cI | (simp only [Int.reduceToNat] at cI;rw [← bT.out] at cI))
    have aJ:=am (Kd.R_lower (Kd.R_new' (Kd.R_new' cI (Kd.R_lt (rL aD))) (Kd.R_lt (rL aK))) (keep_size (w:=w) (g:=g) (row:=none) (pL HK)))
    replace aD:=am (Kd.R_elder' (rL aD) (Kd.R_base cI) hb)
    replace aK:=am (Kd.R_elder' (rL aK) (Kd.R_base cI) hb)
    replace aA:=bkb aA hb
    replace HI0:=IsS113.be HI0 hb
    replace HK:=kbe HK hb
    replace HB:=bst HB hb
    clear hb cI
    refine hK.out _ _ ⟨bcl aA 0,bcl aA 1,bcl aA 2,bcl aA 3,bcl aA 4⟩ (fun hHeld=>?_)
    clear hK K
    refine no_ (some 54) ?_
    exact norm_ (by simp only [putAll,Act.put,List.setIfInBounds_toArray,List.set_cons_zero,List.set_cons_succ]) (hCont (bD,bF) _ ⟨hHeld,(R_later (Kd.R_mono aJ.out (fun _ hk=>⟨hk.2,hk.1.2⟩))),(R_later (Kd.R_mono aK.out (fun _ hk=>⟨hk.2,hk.1.2⟩))),(R_later (Kd.R_mono aD.out (fun _ hk=>⟨hk.2,hk.1.2⟩))),(kL aA),(IsS113.l HI0),(pL HK),(bL HB)⟩)
  rintro ⟨bD,bF⟩ cO ⟨hS_,g2,g3,g4,g6,g7,g8,g9⟩
  have hD:Aside0 (Kd.R (Kd.int .u8) 5 cO w.heap.size (fun k_=>some k_≠(bF:Value).ownBlock∧some k_≠(aX:Value).ownBlock) bD cJ):=⟨g2⟩
  have hJ:Aside0 (Kd.R (Kd.int .u8) 5 cO w.heap.size (fun k_=>some k_≠(bD:Value).ownBlock∧some k_≠(aX:Value).ownBlock) bF bN):=⟨g3⟩
  have hU:Aside0 (Kd.R (Kd.int .u8) 5 cO w.heap.size (fun k_=>some k_≠(bD:Value).ownBlock∧some k_≠(bF:Value).ownBlock) aX bB):=⟨g4⟩
  have hV:Aside0 (cO.heap[aC]?=some (.cells #[.int .i64 ((rd_T49 s0_0 a1).f0),.int .i64 ((rd_T49 s0_0 a1).f1),.int .i64 ((rd_T49 s0_0 a1).f2),.string ((rd_T49 s0_0 a1).f3),.int .i64 ((rd_T49 s0_0 a1).f4)] 49 (0,0))):=⟨g6⟩
  have hX:Aside0 (IsS113 w0 cO g s0_0 s0_1):=⟨g7⟩
  have hY:Aside0 (KeepBut w cO g none):=⟨g8⟩
  have hZ:Aside0 (Below w0.heap.size w0 cO):=⟨g9⟩
  clear aD aA HI0 HK HB g2 g3 g4 g6 g7 g8 g9
  have aJ:=hD
  have aK:=hJ
  have aD:=hU
  have aA:=hV
  have HI0:=hX
  have HK:=hY
  have HB:=hZ
  clear hD hJ hU hV hX hY hZ
  have hHeld:cO.cell? ⟨aC,0,none⟩=some (.int .i64 ((rd_T49 s0_0 a1).f0))∧cO.cell? ⟨aC,1,none⟩=some (.int .i64 ((rd_T49 s0_0 a1).f1))∧cO.cell? ⟨aC,2,none⟩=some (.int .i64 ((rd_T49 s0_0 a1).f2))∧cO.cell? ⟨aC,3,none⟩=some (.string ((rd_T49 s0_0 a1).f3))∧cO.cell? ⟨aC,4,none⟩=some (.int .i64 ((rd_T49 s0_0 a1).f4)):=hS_
  obtain⟨e7,e8,e9⟩:=Kd.R_slice aK.out
  (first | subst e9 | (injection e9 with f1_ f2_ f3_;have f4_:=f1_.symm;have f5_:=f3_.symm;clear f1_ f2_ f3_;subst f4_;subst f5_))
  refine norm_ (a':=?_) ?_ ?_
  rotate_left
  · simp only [putAll,Act.put,List.setIfInBounds_toArray,List.set_cons_zero,List.set_cons_succ]
    rfl
  refine on_ 8 58 (fun K hK=>?_)
  refine Kd.R_append_rows_step (Kd.int .u8) w.heap.size (by rfl) (.tmp 54) (.tmp 57) 40 5 (.int .u8 0) 1 rfl Try.underlying40 info5 rfl (by decide) (by omega) bD cJ bN _ _ _ (fun k_=>some k_≠(aX:Value).ownBlock∧some k_≠(.slice e7 bN.length e8:Value).ownBlock) (fun _=>False) rfl rfl ?aO ?aR (fun _ _ h=>h) (fun _ h=>h.elim) ?aF (Below.refl _ _) ?aS ?aL ?_
  (case aR=>exact C_later (Kd.R_reads' aK.out).2.2)
  (case aF=>exact (fun k_ hk=>⟨Kd.fresh' (Kd.R_lt (rL aD)) k_ hk,Kd.fresh' (Kd.R_lt (rL aK)) k_ hk⟩))
  (case aO=>exact (R_later (Kd.R_mono aJ.out (fun _ hk=>⟨hk.2,hk.1⟩))))
  (case aS=>exact (keep_size (w:=w) (g:=g) (row:=none) (pL HK)))
  (case aL=>have:=e5.out;omega)
  intro iA jU ho hb hg hat
  rw [← d9.out] at ho
  have eA:=am ho
  replace aD:=am (Kd.R_after (ok:=(fun k_=>some k_≠(.slice e7 bN.length e8:Value).ownBlock)) (R_later (Kd.R_mono aD.out (fun _ hk=>⟨hk.2,hk.1⟩))) hg hat)
  replace aA:=bgr aA hg aJ
  replace HI0:=IsS113.gr HI0 hg aJ
  replace aK:=am (Kd.R_after (ok:=(fun k_=>some k_≠(aX:Value).ownBlock)) (R_later (Kd.R_mono aK.out (fun _ hk=>⟨hk.2,hk.1⟩))) hg hat)
  replace HB:=bwk HB HL hb
  replace HK:=kgr HK hg aJ
  clear aJ ho hb hg hat
  refine hK.out _ _ ⟨bcl aA 0,bcl aA 1,bcl aA 2,bcl aA 3,bcl aA 4⟩ (fun hHeld=>?_)
  clear hK K
  refine no_ (some 58) ?_;refine pu_ 9 6 ?_
  refine done_ (done_of HT_.out (by kernel_rfl)) ?_
  try go_wp2
  go_meet
  case rel=>exact⟨_,(e6),H',⟨by have:=d3.out;first | omega | exact Nat.le_refl _⟩,⟨R_later (Kd.R_mono eA.out (fun _ hk=>trivial))⟩,⟨kL aA⟩,⟨IsS113.l HI0⟩,⟨pL HK⟩,⟨bL HB⟩⟩
 clear f7
 try clear b7 b8 b9 cA cB bO bP bQ bR bS cC cD cE cF cG aQ aT aU aV aW bK bM
 obtain⟨kq,dL,HA,eO,aD,aA,HI0,HK,HB⟩:=hcut
 cases kq with
 | zero=>exact absurd HA.out (by simp [impl_tree_bytesOf.j1])
 | succ kj4=>?_
 have H:=HA.out
 clear HA
 simp only [impl_tree_bytesOf.j1] at H
 have H':=am H;clear H
 obtain⟨iB,iC⟩:=nbo aI
 obtain⟨dM,dN,dO,dP,dQ,dR,dS,dT,dU,dV⟩:=cl5 aA
 go_wp2
 go_loopg [6,7,8,63] kj4 (fun kq v6 v7 v8 v63 w'=>∃ (bV:List Int) (aE:Int) (eB:Int) (bW:Int),v7=.int .i64 aE∧v8=.int .i64 eB∧v63=.int .i64 bW∧Aside0 (impl_tree_bytesOf.l0 kq bV aE eB ((rd_T49 s0_0 a1).f4) bW s0_0 s0_1 ((rd_T49 s0_0 a1).f0) ((rd_T49 s0_0 a1).f1) ((rd_T49 s0_0 a1).f2) ((rd_T49 s0_0 a1).f3) ((rd_T49 s0_0 a1).f4)=some r)∧Aside0 (kq≤kj4)∧Aside0 (Kd.R (Kd.int .u8) 5 w' w.heap.size (fun _=>True) v6 bV)∧Aside0 (w'.heap[aC]?=some (.cells #[.int .i64 ((rd_T49 s0_0 a1).f0),.int .i64 ((rd_T49 s0_0 a1).f1),.int .i64 ((rd_T49 s0_0 a1).f2),.string ((rd_T49 s0_0 a1).f3),.int .i64 ((rd_T49 s0_0 a1).f4)] 49 (0,0)))∧Aside0 (IsS113 w0 w' g s0_0 s0_1)∧Aside0 (KeepBut w w' g none)∧Aside0 (Below w0.heap.size w0 w'))
 case atStart=>exact⟨(dL),(wrap64 (a1 + 1)),(0),(0),sr,sr,sr,H',⟨Nat.le_refl _⟩,⟨rL aD⟩,⟨kL aA⟩,⟨IsS113.l HI0⟩,⟨pL HK⟩,⟨bL HB⟩⟩
 clear H'
 try clear dM dN dO dP dQ b7 b8 b9 cA cB bO bP bQ bR bS dR dS dT dU dV cC cD cE cF cG aQ aT aU aV aW bK bM
 obtain⟨bV,aE,eB,bW,rfl,rfl,rfl,HA,eP,aD,aA,HI0,HK,HB⟩:=hrel
 cases gk with
 | zero=>exact absurd HA.out (by simp [impl_tree_bytesOf.l0])
 | succ k2=>?_
 have H:=HA.out
 clear HA
 simp only [impl_tree_bytesOf.l0] at H
 replace H:=idc H;obtain⟨fA,H⟩ | ⟨fA,H⟩:=H
 rotate_left
 · replace H:=ieq H;obtain⟨fB,fC,H⟩ | ⟨jV,fB,fC,H⟩:=H
   rotate_left
   · cases H
     obtain⟨iD,iE⟩:=nbo aI
     obtain⟨_,_,_,_,_,_,_,_,_,_⟩:=cl5 aA
     go_wp2
     go_ret
     exact⟨_,fin_ ⟨rL aD,IsS113.l HI0,bL HB,pL HK⟩⟩
   replace H:=ifs H;obtain⟨iF,H⟩:=H
   have fD:=am iF
   clear iF
   generalize cX:((bV ++ [0]):List Int)=iG at H;have eC:=am cX.symm;clear cX
   cases H
   obtain⟨iH,iI⟩:=nbo aI
   obtain⟨_,_,_,_,_,_,_,_,_,_⟩:=cl5 aA
   go_wp2_with (first | ((with_reducible refine gate_builtin (b:=.append) (xs:=#[.tmp 98,.tmp 99]) rfl ?_);at_builtin;refine Kd.R_append (Kd.int .u8) w.heap.size rfl (.tmp 98) (.tmp 99) 40 5 (.int .u8 0) 1 rfl Try.underlying40 info5 rfl (by decide) (by omega) u6 bV 0 [.int .u8 0] (fun _=>True) (fun _=>False) rfl rfl ?aP (fun _ hk=>hk.elim) ?aF ?aO (Below.refl _ _) ?aS ?aL ?_;(case aP=>exact rfl);(case aF=>exact (fun _ _=>trivial));(case aO=>exact (rL aD));(case aS=>exact (keep_size (w:=w) (g:=g) (row:=none) (pL HK)));(case aL=>have:=fD.out;omega);intro iJ jW ho hb hg hat;rw [← eC.out] at ho;have eD:=am ho;replace aA:=bgr aA hg aD;replace HI0:=IsS113.gr HI0 hg aD;replace HB:=bwk HB HL hb;replace HK:=kgr HK hg aD;clear aD;clear ho hb hg hat))
   go_ret
   exact⟨_,fin_ ⟨rL eD,IsS113.l HI0,bL HB,pL HK⟩⟩
 replace H:=if_dd H;obtain⟨iK,iL,H⟩:=H
 replace H:=ieq H;obtain⟨fE,fF,H⟩ | ⟨jX,fE,fF,H⟩:=H
 rotate_left
 · replace H:=bnd H;obtain⟨cK,jE,H⟩:=H
   replace H:=ifs H;obtain⟨iM,H⟩:=H
   have fG:=am iM
   clear iM
   generalize cY:((bV ++ cK):List Int)=fH at H;have eE:=am cY.symm;clear cY
   replace H:=ifd H;obtain⟨iN,H⟩:=H
   have H':=am H;clear H
   obtain⟨ASz72_0,cSz72_0,ASz72_1,cSz72_1,HGz72,hgz72,HSz72_0,HSz72_1⟩:=HI0.out
   have fQ:=cellS113_0 HGz72
   have fR:=cellS113_1 HGz72
   clear HGz72 hgz72
   have bG:0≤(aE:Int):=dcd
   have bH:aE < (s0_0.length:Int):=dcd
   obtain⟨eF,cZ,aY,aZ,a6,a7,a8⟩:=at_T49 HSz72_0 aE bG bH
   cases cZ
   replace aY:=pw_cell_below HB.out aY
   replace aZ:=pw_cell_below HB.out aZ
   replace a6:=pw_cell_below HB.out a6
   replace a7:=pw_cell_below HB.out a7
   replace a8:=pw_cell_below HB.out a8
   replace bG:=eq_true bG
   replace bH:=eq_true bH
   go_wp2_with (first | ((with_reducible refine gd 9 rfl ?_);refine IsS113.bv 9 rfl #[.int .i64 0,.int .i64 0,.int .i64 0,.string ⟨#[]⟩,.int .i64 0] 49 HI0 HK HB HW0 ?_;clear HI0 HK HB;intro aG jY aH eG eH dA a9 HI0 HK HB hg hb;obtain⟨bX,bA⟩:=nbp (nbl aA hg);replace aD:=rbe aD hb;replace aA:=bkb aA hb;clear hg hb;obtain⟨iO,iP⟩:=nbo bA;obtain⟨iQ,iR⟩:=nbo a9;obtain⟨_,_,_,_,_,_,_,_,_,_⟩:=cl5 aH;obtain⟨iS,iT⟩:=nbo aI;obtain⟨_,_,_,_,_,_,_,_,_,_⟩:=cl5 aA) | ((with_reducible refine gc 68 rfl ?_);refine gc2 (some 85) Try.func68 rfl (ih k2 (by have:=eO.out;have:=eP.out;omega) g s0_0 s0_1 aE cK w0 _ (IsS113.l HI0) (bL HB) jE.out) ?_;rintro iU jZ ⟨bC,hi,hb,hk⟩;have bI:=am (Kd.R_lower (Kd.R_new' bC (Kd.R_lt (R_later (Kd.R_mono (Kd.R_far (p:=⟨aG,4,none⟩) (Kd.R_far (p:=⟨aG,3,none⟩) (Kd.R_far (p:=⟨aG,2,none⟩) (Kd.R_far (p:=⟨aG,1,none⟩) (Kd.R_far (p:=⟨aG,0,none⟩) (Kd.R_types aD.out aH.out (by decide)) (fun _ hk=>hk.2) (.int .i64 ((rd_T49 s0_0 aE).f0))) (fun _ hk=>hk.2) (.int .i64 ((rd_T49 s0_0 aE).f1))) (fun _ hk=>hk.2) (.int .i64 ((rd_T49 s0_0 aE).f2))) (fun _ hk=>hk.2) (.string ((rd_T49 s0_0 aE).f3))) (fun _ hk=>hk.2) (.int .i64 ((rd_T49 s0_0 aE).f4))) (fun _ h_=>h_.1))))) (keep_size (w:=w) (g:=g) (row:=none) (pL HK)));replace aD:=am (Kd.R_mono (Kd.R_told (Kd.R_oldK (IsS113.apart (show IsS113 w0 _ g s0_0 s0_1 from IsS113.l HI0) (R_later (Kd.R_mono (Kd.R_far (p:=⟨aG,4,none⟩) (Kd.R_far (p:=⟨aG,3,none⟩) (Kd.R_far (p:=⟨aG,2,none⟩) (Kd.R_far (p:=⟨aG,1,none⟩) (Kd.R_far (p:=⟨aG,0,none⟩) (Kd.R_types aD.out aH.out (by decide)) (fun _ hk=>hk.2) (.int .i64 ((rd_T49 s0_0 aE).f0))) (fun _ hk=>hk.2) (.int .i64 ((rd_T49 s0_0 aE).f1))) (fun _ hk=>hk.2) (.int .i64 ((rd_T49 s0_0 aE).f2))) (fun _ hk=>hk.2) (.string ((rd_T49 s0_0 aE).f3))) (fun _ hk=>hk.2) (.int .i64 ((rd_T49 s0_0 aE).f4))) (fun _ h_=>h_.1))) (by decide)) hk) (Kd.R_base bC)) (fun _ h_=>h_.1));replace aA:=kbo (.cells #[.int .i64 ((rd_T49 s0_0 a1).f0),.int .i64 ((rd_T49 s0_0 a1).f1),.int .i64 ((rd_T49 s0_0 a1).f2),.string ((rd_T49 s0_0 a1).f3),.int .i64 ((rd_T49 s0_0 a1).f4)] 49 (0,0)) hk aA aI;replace aH:=kbo (.cells #[.int .i64 ((rd_T49 s0_0 aE).f0),.int .i64 ((rd_T49 s0_0 aE).f1),.int .i64 ((rd_T49 s0_0 aE).f2),.string ((rd_T49 s0_0 aE).f3),.int .i64 ((rd_T49 s0_0 aE).f4)] 49 (0,0)) hk aH a9;replace HK:=ktr HK hk;replace HB:=am hb;replace HI0:=am hi;clear hb hk hi bC;obtain⟨gC,gD,gE⟩:=Kd.R_slice bI.out;subst gE) | ((with_reducible refine gate_builtin (b:=.append) (xs:=#[.tmp 82,.tmp 85]) rfl ?_);at_builtin;refine Kd.R_append_rows (Kd.int .u8) w.heap.size rfl (.tmp 82) (.tmp 85) 40 5 (.int .u8 0) 1 rfl Try.underlying40 info5 rfl (by decide) (by omega) u6 bV cK _ _ _ (fun k_=>some k_≠(.slice gC cK.length gD:Value).ownBlock) (fun _=>False) rfl rfl ?aO ?aR (fun _ _ h=>h) (fun _ h=>h.elim) ?aF (Below.refl _ _) ?aS ?aL ?_;(case aR=>exact C_later (Kd.R_reads' bI.out).2.2);(case aF=>exact (fun k_ hk=>Kd.fresh' (Kd.R_lt (rL bI)) k_ hk));(case aO=>exact (R_later (Kd.R_mono aD.out (fun _ hk=>hk.2))));(case aS=>exact (keep_size (w:=w) (g:=g) (row:=none) (pL HK)));(case aL=>have:=fG.out;omega);intro iV j4 ho hb hg hat;rw [← eE.out] at ho;have eI:=am ho;replace aA:=bgr aA hg aD;replace HI0:=IsS113.gr HI0 hg aD;replace aH:=bgr aH hg aD;replace bI:=am (Kd.R_after (ok:=(fun _=>True)) (rL bI) hg hat);replace HB:=bwk HB HL hb;replace HK:=kgr HK hg aD;clear aD;clear ho hb hg hat;obtain⟨ASz82_0,cSz82_0,ASz82_1,cSz82_1,HGz82,hgz82,HSz82_0,HSz82_1⟩:=HI0.out;have fS:=cellS113_0 HGz82;have fT:=cellS113_1 HGz82;clear HGz82 hgz82;have dB:0≤(aE:Int):=dcd;have dC:aE < (s0_1.length:Int):=dcd;obtain⟨gF,fI,bY⟩:=Kd.at_int HSz82_1 aE dB dC;cases fI;replace bY:=pw_cell_below HB.out bY;replace dB:=eq_true dB;replace dC:=eq_true dC))
   go_roundg k2
   case measure=>have:=eO.out;have:=eP.out;omega
   case rel=>exact⟨(fH),(rd s0_1 aE),((rd_T49 s0_0 aE).f1),(wrap64 (bW + 1)),sr,sr,sr,H',⟨by have:=eO.out;have:=eP.out;omega⟩,⟨R_later (Kd.R_mono eI.out (fun _ hk=>trivial))⟩,⟨kL aA⟩,⟨IsS113.l HI0⟩,⟨pL HK⟩,⟨bL HB⟩⟩
 replace H:=bnd H;obtain⟨cM,jF,H⟩:=H
 replace H:=ifs H;obtain⟨iW,H⟩:=H
 have fJ:=am iW
 clear iW
 replace H:=bsm H;obtain⟨dX,eJ,H⟩:=H
 replace H:=bnd H;obtain⟨bZ,jG,H⟩:=H
 replace H:=ifs H;obtain⟨iX,H⟩:=H
 have fK:=am iX
 clear iX
 generalize dD:((dX ++ bZ):List Int)=fL at H;have eK:=am dD.symm;clear dD
 replace H:=ifd H;obtain⟨iY,H⟩:=H
 have H':=am H;clear H
 obtain⟨ASz54_0,cSz54_0,ASz54_1,cSz54_1,HGz54,hgz54,HSz54_0,HSz54_1⟩:=HI0.out
 have fU:=cellS113_0 HGz54
 have fV:=cellS113_1 HGz54
 clear HGz54 hgz54
 have bG:0≤(aE:Int):=dcd
 have bH:aE < (s0_0.length:Int):=dcd
 obtain⟨eF,cZ,aY,aZ,a6,a7,a8⟩:=at_T49 HSz54_0 aE bG bH
 cases cZ
 replace aY:=pw_cell_below HB.out aY
 replace aZ:=pw_cell_below HB.out aZ
 replace a6:=pw_cell_below HB.out a6
 replace a7:=pw_cell_below HB.out a7
 replace a8:=pw_cell_below HB.out a8
 replace bG:=eq_true bG
 replace bH:=eq_true bH
 go_wp2_with (first | ((with_reducible refine gd 9 rfl ?_);refine IsS113.bv 9 rfl #[.int .i64 0,.int .i64 0,.int .i64 0,.string ⟨#[]⟩,.int .i64 0] 49 HI0 HK HB HW0 ?_;clear HI0 HK HB;intro aG jH aH eG eH dA a9 HI0 HK HB hg hb;obtain⟨bX,bA⟩:=nbp (nbl aA hg);replace aD:=rbe aD hb;replace aA:=bkb aA hb;clear hg hb;obtain⟨iZ,i1⟩:=nbo bA;obtain⟨i2,i3⟩:=nbo a9;obtain⟨_,_,_,_,_,_,_,_,_,_⟩:=cl5 aH;obtain⟨i4,i5⟩:=nbo aI;obtain⟨_,_,_,_,_,_,_,_,_,_⟩:=cl5 aA) | ((with_reducible refine gc 86 rfl ?_);refine gc2 (some 78) Try.func86 rfl (impl_headOf.calls jF.out) ?_;rintro i6 j5 ⟨bC,hb⟩;have aM:=am (Kd.R_lower (Kd.R_new' bC (Kd.R_lt (R_later (Kd.R_mono (Kd.R_far (p:=⟨aG,4,none⟩) (Kd.R_far (p:=⟨aG,3,none⟩) (Kd.R_far (p:=⟨aG,2,none⟩) (Kd.R_far (p:=⟨aG,1,none⟩) (Kd.R_far (p:=⟨aG,0,none⟩) (Kd.R_types aD.out aH.out (by decide)) (fun _ hk=>hk.2) (.int .i64 ((rd_T49 s0_0 aE).f0))) (fun _ hk=>hk.2) (.int .i64 ((rd_T49 s0_0 aE).f1))) (fun _ hk=>hk.2) (.int .i64 ((rd_T49 s0_0 aE).f2))) (fun _ hk=>hk.2) (.string ((rd_T49 s0_0 aE).f3))) (fun _ hk=>hk.2) (.int .i64 ((rd_T49 s0_0 aE).f4))) (fun _ h_=>h_.1))))) (keep_size (w:=w) (g:=g) (row:=none) (pL HK)));replace aD:=am (Kd.R_elder' (R_later (Kd.R_mono (Kd.R_far (p:=⟨aG,4,none⟩) (Kd.R_far (p:=⟨aG,3,none⟩) (Kd.R_far (p:=⟨aG,2,none⟩) (Kd.R_far (p:=⟨aG,1,none⟩) (Kd.R_far (p:=⟨aG,0,none⟩) (Kd.R_types aD.out aH.out (by decide)) (fun _ hk=>hk.2) (.int .i64 ((rd_T49 s0_0 aE).f0))) (fun _ hk=>hk.2) (.int .i64 ((rd_T49 s0_0 aE).f1))) (fun _ hk=>hk.2) (.int .i64 ((rd_T49 s0_0 aE).f2))) (fun _ hk=>hk.2) (.string ((rd_T49 s0_0 aE).f3))) (fun _ hk=>hk.2) (.int .i64 ((rd_T49 s0_0 aE).f4))) (fun _ h_=>h_.1))) (Kd.R_base bC) hb);replace aA:=bkb aA hb;replace aH:=am (blk_below (g:=aG) (o:=.cells #[.int .i64 ((rd_T49 s0_0 aE).f0),.int .i64 ((rd_T49 s0_0 aE).f1),.int .i64 ((rd_T49 s0_0 aE).f2),.string ((rd_T49 s0_0 aE).f3),.int .i64 ((rd_T49 s0_0 aE).f4)] 49 (0,0)) (blk_later aH.out) hb);replace HK:=kbe HK hb;replace HB:=bst HB hb;replace HI0:=am (IsS113.below (show IsS113 w0 (((((jH.setCell ⟨aG,0,none⟩ (.int .i64 ((rd_T49 s0_0 aE).f0))).setCell ⟨aG,1,none⟩ (.int .i64 ((rd_T49 s0_0 aE).f1))).setCell ⟨aG,2,none⟩ (.int .i64 ((rd_T49 s0_0 aE).f2))).setCell ⟨aG,3,none⟩ (.string ((rd_T49 s0_0 aE).f3))).setCell ⟨aG,4,none⟩ (.int .i64 ((rd_T49 s0_0 aE).f4))) g s0_0 s0_1 from IsS113.l HI0) hb);clear hb;(try clear hk);clear bC;obtain⟨eL,eM,gG⟩:=Kd.R_slice aM.out;subst gG) | ((with_reducible refine gate_builtin (b:=.append) (xs:=#[.tmp 75,.tmp 78]) rfl ?_);at_builtin;refine Kd.R_append_rows (Kd.int .u8) w.heap.size rfl (.tmp 75) (.tmp 78) 40 5 (.int .u8 0) 1 rfl Try.underlying40 info5 rfl (by decide) (by omega) u6 bV cM _ _ _ (fun k_=>some k_≠(.slice eL cM.length eM:Value).ownBlock) (fun _=>False) rfl rfl ?aO ?aR (fun _ _ h=>h) (fun _ h=>h.elim) ?aF (Below.refl _ _) ?aS ?aL ?_;(case aR=>exact C_later (Kd.R_reads' aM.out).2.2);(case aF=>exact (fun k_ hk=>Kd.fresh' (Kd.R_lt (rL aM)) k_ hk));(case aO=>exact (R_later (Kd.R_mono aD.out (fun _ hk=>hk.2))));(case aS=>exact (keep_size (w:=w) (g:=g) (row:=none) (pL HK)));(case aL=>have:=fJ.out;omega);intro fM j6 ho hb hg hat;rw [← eJ.out] at ho;have aN:=am ho;replace aA:=bgr aA hg aD;replace HI0:=IsS113.gr HI0 hg aD;replace aH:=bgr aH hg aD;replace aM:=am (Kd.R_after (ok:=(fun _=>True)) (rL aM) hg hat);replace HB:=bwk HB HL hb;replace HK:=kgr HK hg aD;clear aD;clear ho hb hg hat;obtain⟨_,_,_,_,_,_,_,_,_,_⟩:=cl5 aH) | ((with_reducible refine gc 68 rfl ?_);refine gc2 (some 85) Try.func68 rfl (ih k2 (by have:=eO.out;have:=eP.out;omega) g s0_0 s0_1 aE bZ w0 _ (IsS113.l HI0) (bL HB) jG.out) ?_;rintro i7 j7 ⟨bC,hi,hb,hk⟩;have bJ:=am (Kd.R_lower (Kd.R_new' (Kd.R_new' bC (Kd.R_lt (rL aM))) (Kd.R_lt (rL aN))) (keep_size (w:=w) (g:=g) (row:=none) (pL HK)));replace aA:=kbo (.cells #[.int .i64 ((rd_T49 s0_0 a1).f0),.int .i64 ((rd_T49 s0_0 a1).f1),.int .i64 ((rd_T49 s0_0 a1).f2),.string ((rd_T49 s0_0 a1).f3),.int .i64 ((rd_T49 s0_0 a1).f4)] 49 (0,0)) hk aA aI;replace aH:=kbo (.cells #[.int .i64 ((rd_T49 s0_0 aE).f0),.int .i64 ((rd_T49 s0_0 aE).f1),.int .i64 ((rd_T49 s0_0 aE).f2),.string ((rd_T49 s0_0 aE).f3),.int .i64 ((rd_T49 s0_0 aE).f4)] 49 (0,0)) hk aH a9;replace aM:=am (Kd.R_mono (Kd.R_told (Kd.R_oldK (IsS113.apart (show IsS113 w0 _ g s0_0 s0_1 from IsS113.l HI0) (rL aM) (by decide)) hk) (Kd.R_base bC)) (fun _ h_=>h_.1));replace aN:=am (Kd.R_mono (Kd.R_told (Kd.R_oldK (IsS113.apart (show IsS113 w0 _ g s0_0 s0_1 from IsS113.l HI0) (rL aN) (by decide)) hk) (Kd.R_base bC)) (fun _ h_=>h_.1));replace HK:=ktr HK hk;replace HB:=am hb;replace HI0:=am hi;clear hb hk hi bC;obtain⟨fN,fO,gH⟩:=Kd.R_slice bJ.out;subst gH) | ((with_reducible refine gate_builtin (b:=.append) (xs:=#[.tmp 82,.tmp 85]) rfl ?_);at_builtin;refine Kd.R_append_rows (Kd.int .u8) w.heap.size rfl (.tmp 82) (.tmp 85) 40 5 (.int .u8 0) 1 rfl Try.underlying40 info5 rfl (by decide) (by omega) fM dX bZ _ _ _ (fun k_=>some k_≠(.slice eL cM.length eM:Value).ownBlock∧some k_≠(.slice fN bZ.length fO:Value).ownBlock) (fun _=>False) rfl rfl ?aO ?aR (fun _ _ h=>h) (fun _ h=>h.elim) ?aF (Below.refl _ _) ?aS ?aL ?_;(case aR=>exact C_later (Kd.R_reads' bJ.out).2.2);(case aF=>exact (fun k_ hk=>⟨Kd.fresh' (Kd.R_lt (rL aM)) k_ hk,Kd.fresh' (Kd.R_lt (rL bJ)) k_ hk⟩));(case aO=>exact (rL aN));(case aS=>exact (keep_size (w:=w) (g:=g) (row:=none) (pL HK)));(case aL=>have:=fK.out;omega);intro i8 j8 ho hb hg hat;rw [← eK.out] at ho;have eN:=am ho;replace aA:=bgr aA hg aN;replace HI0:=IsS113.gr HI0 hg aN;replace aH:=bgr aH hg aN;replace aM:=am (Kd.R_after (ok:=(fun k_=>some k_≠(.slice fN bZ.length fO:Value).ownBlock)) (R_later (Kd.R_mono aM.out (fun _ hk=>⟨hk.2,hk.1.2⟩))) hg hat);replace bJ:=am (Kd.R_after (ok:=(fun k_=>some k_≠(.slice eL cM.length eM:Value).ownBlock)) (R_later (Kd.R_mono bJ.out (fun _ hk=>⟨hk.1.2,hk.2⟩))) hg hat);replace HB:=bwk HB HL hb;replace HK:=kgr HK hg aN;clear aN;clear ho hb hg hat;obtain⟨ASz68_0,cSz68_0,ASz68_1,cSz68_1,HGz68,hgz68,HSz68_0,HSz68_1⟩:=HI0.out;have fW:=cellS113_0 HGz68;have fX:=cellS113_1 HGz68;clear HGz68 hgz68;have dE:0≤(aE:Int):=dcd;have dF:aE < (s0_1.length:Int):=dcd;obtain⟨gI,fP,b6⟩:=Kd.at_int HSz68_1 aE dE dF;cases fP;replace b6:=pw_cell_below HB.out b6;replace dE:=eq_true dE;replace dF:=eq_true dF))
 go_roundg k2
 case measure=>have:=eO.out;have:=eP.out;omega
 case rel=>exact⟨(fL),(rd s0_1 aE),((rd_T49 s0_0 aE).f1),(wrap64 (bW + 1)),sr,sr,sr,H',⟨by have:=eO.out;have:=eP.out;omega⟩,⟨R_later (Kd.R_mono eN.out (fun _ hk=>trivial))⟩,⟨kL aA⟩,⟨IsS113.l HI0⟩,⟨pL HK⟩,⟨bL HB⟩⟩
/-! ### impl_TreePack: function 44 -/
def impl_TreePack.f (k:Nat)(l0:List (S49)):Option (List Int × Bool):=(impl_treeOf.f k l0).bind fun aA=>(if aA.2=true then ((impl_tree_bytesOf.f k l0 aA.1 0).bind fun aC=>(some (aC,true))) else (some (([]:List Int),false)))
theorem impl_TreePack.calls {k : Nat} {A0 : Option Addr} {c0 : Nat} {l0 : List (S49)} {r1 : List Int} {r2 : Bool} {w : World} (hr0 : Kd.C k49 w A0 l0.length l0) (aG : l0.length ≤ c0) (h : impl_TreePack.f k l0 = some (r1, r2)) :
    Calls Try.prog 44 #[.slice A0 l0.length c0] w fun e w'=>∃ aH:Value,e=.returned (.tuple #[aH,.bool r2])∧Kd.R (Kd.int .u8) 5 w' w.heap.size (fun _=>True) aH r1∧Below w.heap.size w w':=by
 have aI:=am hr0
 have aJ:=am aG
 clear hr0 aG
 have HB:=am (Below.refl w.heap.size w)
 have H:=h;clear h;unfold impl_TreePack.f at H
 replace H:=bnd2 H;obtain⟨aC,aK,A2,H⟩:=H;dsimp only at H
 replace H:=ibt H;obtain⟨rfl,H⟩ | ⟨rfl,H⟩:=H
 rotate_left
 · replace H:=sj2 H;obtain⟨rfl,rfl⟩:=H
   go_enter Try.func44,Try.ntmps44
   go_wp2_with (first | ((with_reducible refine gc 63 rfl ?_);refine gl_ (some 8) Try.func63 #[.slice A0 l0.length c0] rfl ?_;(with_reducible refine (impl_treeOf.calls ?side1 ?side2 A2.out).mono ?_);(case side1=>exact C_later (Kd.C_below aI.out HB.out));(case side2=>exact aJ.out);rintro e w7 ⟨p_,rfl,hp_⟩;obtain⟨aD,hp1_,_⟩:=hp_;obtain rfl:=hp1_ rfl;have hb:=below_step (bL HB) aD;clear hp1_;refine⟨_,rfl,?_⟩;replace HB:=am hb;(try clear hb);(try clear aD)))
   go_ret2
   exact⟨_,fin_ ⟨by first | exact Kd.R_nil _ _ _ _ _ | exact Kd.N_nil _ _ _ _ _ | exact Kd.V_nil _ _ _ _ _ | exact Kd.Q_nil _ _ _ _ _ | exact Kd.S_nil _ _ _ _ _,by repeat (first | (with_reducible first | exact HB.out | apply below_alloc | apply pw_below_drewN | apply below_drew1 | refine below_set ?_ (IsS113.ge HI1073.out)) | exact HB.out)⟩⟩
 replace H:=bnd H;obtain⟨aE,A4,H⟩:=H
 replace H:=sj2 H;obtain⟨rfl,rfl⟩:=H
 go_enter Try.func44,Try.ntmps44
 go_wp2_with (first | ((with_reducible refine gc 63 rfl ?_);refine gl_ (some 8) Try.func63 #[.slice A0 l0.length c0] rfl ?_;(with_reducible refine (impl_treeOf.calls ?side1 ?side2 A2.out).mono ?_);(case side1=>exact C_later (Kd.C_below aI.out HB.out));(case side2=>exact aJ.out);rintro e w5 ⟨p_,rfl,hp_⟩;obtain⟨aD,_,hp2_⟩:=hp_;obtain⟨g1073,wz,rfl,hi,hbz,hz⟩:=hp2_ rfl;have HZ:=am hbz;have HS:=am (Nat.le_trans (below_size (bL HB)) hz);have hb:=below_step (bL HB) aD;clear hp2_ hbz hz;refine⟨_,rfl,?_⟩;have HI1073:=am hi;replace HB:=am hb;(try clear hb);(try clear aD);(try clear hi)) | ((with_reducible refine gc 68 rfl ?_);refine gl_ (some 14) Try.func68 #[.pointer (some ⟨g1073,0,none⟩),.int .i64 0] rfl ?_;(with_reducible refine (impl_tree_bytesOf.calls k g1073 l0 aC 0 aE wz _ ?side1 ?side2 A4.out).mono ?_);(case side1=>exact IsS113.l HI1073);(case side2=>exact bL HZ);rintro e w6 ⟨aM,rfl,aN,hi,hbz,hk⟩;have hb:=below_via HB.out HZ.out hbz HS.out HS.out;replace HZ:=am hbz;clear hbz;refine⟨_,rfl,?_⟩;have aA:=am (Kd.R_lower aN (below_size (by repeat (first | (with_reducible first | exact HB.out | apply below_alloc | apply pw_below_drewN | apply below_drew1 | refine below_set ?_ (IsS113.ge HI1073.out)) | exact HB.out))));replace HB:=am hb;replace HI1073:=am hi;(try clear hb);clear hk hi aN))
 go_ret2
 exact⟨_,fin_ ⟨rL aA,by repeat (first | (with_reducible first | exact HB.out | apply below_alloc | apply pw_below_drewN | apply below_drew1 | refine below_set ?_ (IsS113.ge HI1073.out)) | exact HB.out)⟩⟩
/-! ### impl_MetaPack: function 15 -/
def impl_MetaPack.f (k:Nat)(aD:List (S84))(aE:Int)(aG:List (S54)):Option (List Int × Bool):=(impl_MetaTree.f k aD aE aG).bind fun aA=>(if aA.2=true then ((impl_TreePack.f k aA.1).bind fun aC=>(some (aC.1,aC.2))) else (some (([]:List Int),false)))
theorem impl_MetaPack.calls {k : Nat} {aG : Option Addr} {aH : Nat} {aD : List (S84)} {aI : Int} {aJ : Option Addr} {aK : Nat} {aE : List (S54)} {r1 : List Int} {r2 : Bool} {w : World} (hr0_0 : Kd.C k84 w aG aD.length aD) (aM : aD.length ≤ aH) (hr0_2 : Kd.C k54 w aJ aE.length aE) (aN : aE.length ≤ aK) (h : impl_MetaPack.f k aD aI aE = some (r1, r2)) :
    Calls Try.prog 15 #[.agg #[.slice aG aD.length aH,.int .i64 aI,.slice aJ aE.length aK]] w fun e w'=>∃ a8:Value,e=.returned (.tuple #[a8,.bool r2])∧Kd.R (Kd.int .u8) 5 w' w.heap.size (fun _=>True) a8 r1∧Below w.heap.size w w':=by
 have hu33:=Try.underlying33
 have aQ:=am hr0_0
 have aT:=am aM
 clear hr0_0 aM
 have aU:=am hr0_2
 have aV:=am aN
 clear hr0_2 aN
 have HB:=am (Below.refl w.heap.size w)
 have H:=h;clear h;unfold impl_MetaPack.f at H
 replace H:=bnd2 H;obtain⟨a9,bA,A2,H⟩:=H;dsimp only at H
 replace H:=ibt H;obtain⟨rfl,H⟩ | ⟨rfl,H⟩:=H
 rotate_left
 · replace H:=sj2 H;obtain⟨rfl,rfl⟩:=H
   go_enter Try.func15,Try.ntmps15
   go_wp2_with (first | ((with_reducible refine gd 1 rfl ?_);refine bxw 1 rfl #[.slice aG aD.length aH,.int .i64 aI,.slice aJ aE.length aK] 33 HB ?_;clear HB;intro aX bF aA aY aZ HB;obtain⟨_,_,_,_,_,_⟩:=cl3 aA) | ((with_reducible refine gc 8 rfl ?_);refine gl_ (some 8) Try.func8 #[.agg #[.slice aG aD.length aH,.int .i64 aI,.slice aJ aE.length aK]] rfl ?_;(with_reducible refine (impl_MetaTree.calls ?side1 ?side2 ?side3 ?side4 A2.out).mono ?_);(case side1=>exact cL aQ HB);(case side2=>exact aT.out);(case side3=>exact cL aU HB);(case side4=>exact aV.out);rintro e bG ⟨a7,rfl,aW,hb⟩;refine⟨_,rfl,?_⟩;have aC:=rlb aW HB;replace aA:=bkb aA hb;replace HB:=bst HB hb;clear hb aW))
   go_ret2
   exact⟨_,fin_ ⟨by first | exact Kd.R_nil _ _ _ _ _ | exact Kd.N_nil _ _ _ _ _ | exact Kd.V_nil _ _ _ _ _ | exact Kd.Q_nil _ _ _ _ _ | exact Kd.S_nil _ _ _ _ _,bL HB⟩⟩
 replace H:=bnd2 H;obtain⟨bB,bC,A4,H⟩:=H;dsimp only at H
 replace H:=sj2 H;obtain⟨rfl,rfl⟩:=H
 go_enter Try.func15,Try.ntmps15
 go_wp2_with (first | ((with_reducible refine gd 1 rfl ?_);refine bxw 1 rfl #[.slice aG aD.length aH,.int .i64 aI,.slice aJ aE.length aK] 33 HB ?_;clear HB;intro aX w5 aA aY aZ HB;obtain⟨_,_,_,_,_,_⟩:=cl3 aA) | ((with_reducible refine gc 8 rfl ?_);refine gl_ (some 8) Try.func8 #[.agg #[.slice aG aD.length aH,.int .i64 aI,.slice aJ aE.length aK]] rfl ?_;(with_reducible refine (impl_MetaTree.calls ?side1 ?side2 ?side3 ?side4 A2.out).mono ?_);(case side1=>exact cL aQ HB);(case side2=>exact aT.out);(case side3=>exact cL aU HB);(case side4=>exact aV.out);rintro e w7 ⟨a7,rfl,aW,hb⟩;refine⟨_,rfl,?_⟩;have aC:=rlb aW HB;replace aA:=bkb aA hb;replace HB:=bst HB hb;clear hb aW;obtain⟨bH,bI,bE⟩:=Kd.R_slice aC.out;subst bE) | ((with_reducible refine gc 44 rfl ?_);refine gc2 (some 14) Try.func44 rfl (impl_TreePack.calls (C_later (Kd.R_reads' aC.out).2.2) ((Kd.R_reads' aC.out).2.1) A4.out) ?_;rintro bD w9 ⟨aW,hb⟩;have a6:=rlb aW HB;replace aC:=rbe aC hb;replace aA:=bkb aA hb;replace HB:=bst HB hb;clear hb aW))
 go_ret2
 exact⟨_,fin_ ⟨rL a6,bL HB⟩⟩
/-! ### laws_eqByteS: function 16 -/
def laws_eqByteS.l0:Nat→List Int→List Int→Int→Option (Bool)
  | 0,_,_,_=>none
  | k + 1,x0,x1,x5=>if x5 < (x0.length:Int) then (if 0≤x5 then (if x5 < (x1.length:Int) then (if (rd x0 x5)=(rd x1 x5) then (laws_eqByteS.l0 k x0 x1 (wrap64 (x5 + 1))) else (some false)) else (none)) else (none)) else (some true)
def laws_eqByteS.f (k:Nat)(l0:List Int)(l1:List Int):Option (Bool):=if (l0.length:Int)=(l1.length:Int) then (laws_eqByteS.l0 k l0 l1 0) else (some false)
theorem laws_eqByteS.calls {k : Nat} {A0 : Option Addr} {c0 : Nat} {l0 : List Int} {A1 : Option Addr} {c1 : Nat} {l1 : List Int} (r : Bool) {w : World} (hr0 : Kd.C (Kd.int .u8) w A0 l0.length l0) (aW : l0.length ≤ c0) (hr1 : Kd.C (Kd.int .u8) w A1 l1.length l1) (aX : l1.length ≤ c1) (h : laws_eqByteS.f k l0 l1 = some true) :
    Calls Try.prog 16 #[.slice A0 l0.length c0,.slice A1 l1.length c1] w fun e w'=>e=.returned (.bool true)∧Drawn0 w w':=by
 have aZ:=am hr0
 have bB:=am aW
 clear hr0 aW
 have a6:=am hr1
 have bC:=am aX
 clear hr1 aX
 have H:=h;clear h;unfold laws_eqByteS.f at H
 by_cases c3:(l0.length:Int)=(l1.length:Int)
 rotate_left
 · rw [if_neg c3] at H
   cases H
 rw [if_pos c3] at H
 have aM:((l0.length:Int) == (l1.length:Int))=true:=beq_iff_eq.mpr c3
 have aN:((l0.length:Int) != (l1.length:Int))=false:=bne_eq_false_iff_eq.mpr c3
 have aQ:(l0.length == l1.length)=true:=by first | simpa using c3 | (simp at c3 ⊢;omega)
 clear c3
 have H':=am H;clear H
 go_enter Try.func16,Try.ntmps16
 go_wp2
 repeat (go_quiet (fail);try go_wp2)
 go_loopg [5] k (fun kq v5 w'=>∃ (aA:Int),v5=.int .i64 aA∧Aside0 (laws_eqByteS.l0 kq l0 l1 aA=some true)∧Aside0 (kq≤k)∧Drawn0 w w')
 case atStart=>exact⟨(0),sr,H',⟨Nat.le_refl _⟩,by repeat (first | exact Drawn0.refl _ | apply Drawn0.step)⟩
 clear H'
 try clear c1 c3 aM aN aQ
 obtain⟨aA,rfl,HA,aY,⟨m1,rfl⟩⟩:=hrel
 cases gk with
 | zero=>exact absurd HA.out (by simp [laws_eqByteS.l0])
 | succ k1=>?_
 have H:=HA.out
 clear HA
 simp only [laws_eqByteS.l0] at H
 replace H:=idc H;obtain⟨aT,H⟩ | ⟨aT,H⟩:=H
 rotate_left
 · clear H
   go_wp2
   repeat (go_quiet (fail);try go_wp2)
   go_ret
   exact⟨sr,drl⟩
 replace H:=if_dd H;obtain⟨a7,a8,H⟩:=H
 by_cases c7:(rd l0 aA)=(rd l1 aA)
 rotate_left
 · rw [if_neg c7] at H
   cases H
 rw [if_pos c7] at H
 have a9:((rd l0 aA) == (rd l1 aA))=true:=beq_iff_eq.mpr c7
 have bA:((rd l0 aA) != (rd l1 aA))=false:=bne_eq_false_iff_eq.mpr c7
 clear c7
 have H':=am H;clear H
 have aC:0≤(aA:Int):=dcd
 have aD:aA < (l0.length:Int):=dcd
 obtain⟨aU,aH,aI⟩:=Kd.at_int aZ.out aA aC aD
 cases aH
 replace aC:=eq_true aC
 replace aD:=eq_true aD
 have aE:0≤(aA:Int):=dcd
 have aG:aA < (l1.length:Int):=dcd
 obtain⟨aV,aJ,aK⟩:=Kd.at_int a6.out aA aE aG
 cases aJ
 replace aE:=eq_true aE
 replace aG:=eq_true aG
 go_wp2
 repeat (go_quiet (fail);try go_wp2)
 go_roundg k1
 case measure=>have:=aY.out;omega
 case rel=>exact⟨(wrap64 (aA + 1)),sr,H',⟨by have:=aY.out;omega⟩,by repeat (first | exact Drawn0.refl _ | apply Drawn0.step)⟩
end Go.Proofs.Ytjdapaocdkcgdaa.PFnExactMetaPack
