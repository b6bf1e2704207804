/- The machine's side of FnExactMetaPack: each Go function, and what its call comes to. No condition. -/
import Derived.Test.YtjdapaocdkcgdaaPFnExactMetaPackx0
import Derived.Test.YtjdapaocdkcgdaaPFnExactMetaPackx9
import Derived.Test.YtjdapaocdkcgdaaPFnExactMetaPackx10
namespace Go.Proofs.Ytjdapaocdkcgdaa.PFnExactMetaPack
open Go.RowKit Go.Proofs.YtjdapaocdkcgdaaW.PrintWords Go.Proofs.YtjdapaocdkcgdaaW.PrintLast Go.Proofs.YtjdapaocdkcgdaaW.PrintMore Go.Proofs.YtjdapaocdkcgdaaW.PrintMore2
attribute [local go_sem] max2_int min2_int max_two min_two max_three min_three max_four min_four
set_option linter.unusedVariables false
set_option linter.unusedSimpArgs false
set_option maxHeartbeats 8000000
set_option maxRecDepth 100000

/-! ### spec_ZigPut: function 82 -/
def spec_ZigPut.f (k:Nat)(a0:Int):Option (List Int):=(spec_Zig.f a0).bind fun aA=>((spec_UvarPut.f k aA).bind fun aC=>(some aC))
theorem spec_ZigPut.calls {k : Nat} {a0 : Int} {r : List Int} {w : World} (h : spec_ZigPut.f k a0 = some r) :
    Calls Try.prog 82 #[.int .i64 a0] w fun e w'=>∃ aC:Value,e=.returned (aC)∧Kd.R (Kd.int .u8) 5 w' w.heap.size (fun _=>True) aC r∧Below w.heap.size w w':=by
 have HB:=am (Below.refl w.heap.size w)
 have H:=h;clear h;unfold spec_ZigPut.f at H
 replace H:=bnd H;obtain⟨aE,A2,H⟩:=H
 replace H:=bnd H;obtain⟨aG,A3,H⟩:=H
 cases H
 go_enter Try.func82,Try.ntmps82
 go_wp2_with (first | ((with_reducible refine gc 98 rfl ?_);refine gc1 (some 4) Try.func98 rfl (spec_Zig.calls A2.out) ?_;rintro w' ⟨nd,rfl⟩) | ((with_reducible refine gc 83 rfl ?_);refine gc2 (some 5) Try.func83 rfl (spec_UvarPut.calls A3.out) ?_;rintro aH w4 ⟨aD,hb⟩;have aA:=rlb aD HB;replace HB:=bst HB hb;clear hb aD))
 go_ret
 exact⟨_,fin_ ⟨rL aA,bL HB⟩⟩
/-! ### spec_l4Pack: function 67 -/
mutual
def spec_l4Pack.j0:Nat→List (S49)→Int→List Int→Int→Bool→Int→Int→Int→ByteArray→Int→Option (List Int × Int)
  | 0,_,_,_,_,_,_,_,_,_,_=>none
  | k + 1,x0,x7,x8,aK,aN,aE,aG,aA,aC,aD=>if aN=true then ((spec_ZigPut.f k aA).bind fun aM=>(some (aM,x7))) else (if aK=8 then ((spec_UvarPut.f k (aC.size:Int)).bind fun aH=>(if aH.length + aC.size < 140737488355328 then (some ((aH ++ bytesOf aC),x7)) else (none))) else (if aK=9 then (if aD≤14 then (if x8.length < 140737488355328 then (spec_l4Pack.j1 k x0 x7 (x8 ++ [(wrap64 ((wrap64 (16 * aD)) + aA)) % 256]) aE aG aA aC aD) else (none)) else (if x8.length < 140737488355328 then ((some (x8 ++ [(wrap64 (240 + aA)) % 256]:List Int)).bind fun aI=>((spec_UvarPut.f k aD).bind fun aJ=>(if aI.length + aJ.length < 140737488355328 then (spec_l4Pack.j1 k x0 x7 (aI ++ aJ) aE aG aA aC aD) else (none)))) else (none))) else (if aK=12 then (spec_l4Pack.l1 k x0 x7 x8 0 0 aE aG aA aC aD) else (some (x8,x7)))))
def spec_l4Pack.j1:Nat→List (S49)→Int→List Int→Int→Int→Int→ByteArray→Int→Option (List Int × Int)
  | 0,_,_,_,_,_,_,_,_=>none
  | k + 1,x0,x7,x8,aA,aC,aD,aE,aG=>spec_l4Pack.l0 k x0 x7 x8 0 aA aC aD aE aG
def spec_l4Pack.l0:Nat→List (S49)→Int→List Int→Int→Int→Int→Int→ByteArray→Int→Option (List Int × Int)
  | 0,_,_,_,_,_,_,_,_,_=>none
  | k + 1,x0,x7,x8,x9,aD,aE,aG,aH,aA=>if x9 < aA then ((spec_l4Pack.f k x0 x7).bind fun aC=>(if x8.length + aC.1.length < 140737488355328 then (spec_l4Pack.l0 k x0 aC.2 (x8 ++ aC.1) (wrap64 (x9 + 1)) aD aE aG aH aA) else (none))) else (some (x8,x7))
def spec_l4Pack.l1:Nat→List (S49)→Int→List Int→Int→Int→Int→Int→Int→ByteArray→Int→Option (List Int × Int)
  | 0,_,_,_,_,_,_,_,_,_,_=>none
  | k + 1,x0,x7,x8,aT,aQ,aC,aD,aE,aG,aA=>if aQ < aA then (if 0≤x7 then (if x7 < (x0.length:Int) then (if (wrap64 (((rd_T49 x0 x7).f1) - aT))≤15 then (if x8.length < 140737488355328 then ((some (x8 ++ [(wrap64 ((wrap64 (16 * (wrap64 (((rd_T49 x0 x7).f1) - aT)))) + ((rd_T49 x0 x7).f0))) % 256]:List Int)).bind fun aJ=>((spec_l4Pack.f k x0 x7).bind fun aH=>(if aJ.length + aH.1.length < 140737488355328 then (spec_l4Pack.l1 k x0 aH.2 (aJ ++ aH.1) ((rd_T49 x0 x7).f1) (wrap64 (aQ + 1)) aC aD aE aG aA) else (none)))) else (none)) else (if x8.length < 140737488355328 then ((some (x8 ++ [((rd_T49 x0 x7).f0) % 256]:List Int)).bind fun aK=>((spec_ZigPut.f k ((rd_T49 x0 x7).f1)).bind fun aM=>(if aK.length + aM.length < 140737488355328 then ((some (aK ++ aM:List Int)).bind fun aN=>((spec_l4Pack.f k x0 x7).bind fun aI=>(if aN.length + aI.1.length < 140737488355328 then (spec_l4Pack.l1 k x0 aI.2 (aN ++ aI.1) ((rd_T49 x0 x7).f1) (wrap64 (aQ + 1)) aC aD aE aG aA) else (none)))) else (none)))) else (none))) else (none)) else (none)) else (if x8.length < 140737488355328 then (some ((x8 ++ [0]),x7)) else (none))
def spec_l4Pack.f:Nat→List (S49)→Int→Option (List Int × Int)
  | 0,_,_=>none
  | k + 1,l0,a1=>if 0≤a1 then (if a1 < (l0.length:Int) then ((some (([]:List Int):List Int)).bind fun aA=>(if ((rd_T49 l0 a1).f0)=5 then (spec_l4Pack.j0 k l0 (wrap64 (a1 + 1)) aA ((rd_T49 l0 a1).f0) (((rd_T49 l0 a1).f0) == 5) ((rd_T49 l0 a1).f0) ((rd_T49 l0 a1).f1) ((rd_T49 l0 a1).f2) ((rd_T49 l0 a1).f3) ((rd_T49 l0 a1).f4)) else (spec_l4Pack.j0 k l0 (wrap64 (a1 + 1)) aA ((rd_T49 l0 a1).f0) (((rd_T49 l0 a1).f0) == 6) ((rd_T49 l0 a1).f0) ((rd_T49 l0 a1).f1) ((rd_T49 l0 a1).f2) ((rd_T49 l0 a1).f3) ((rd_T49 l0 a1).f4)))) else (none)) else (none)
end
def spec_l4Pack.T9:Bool × List (List Nat × List Nat):=(true,[([],[]),([0],[0]),([1],[1]),([2],[2]),([],[]),([4],[4]),([5],[5]),([3,6,3],[3,6]),([],[]),([7,7,0,1,2,3,4,5,6,7],[7]),([8,9,0,1,2,3,4,5,6,7,8,9],[8])])
def spec_l4Pack.B9:List Nat:=[0,1,3,7,0,16,48,127,0,255,1023]
theorem spec_l4Pack.tab9:rtab .any (opsOf Try.f67 9)=spec_l4Pack.T9:=by kernel_rfl
theorem spec_l4Pack.bits9:waitsOk spec_l4Pack.T9.2 spec_l4Pack.B9=true:=by kernel_rfl
theorem spec_l4Pack.calls (k:Nat):∀ (A0:Option Addr) (c0:Nat) (l0:List (S49)) (a1:Int) (r1:List Int) (r2:Int) (w:World) (hr0:Kd.C k49 w A0 l0.length l0) (fM:l0.length≤c0) (h:spec_l4Pack.f k l0 a1=some (r1,r2)),
    Calls Try.prog 67 #[.slice A0 l0.length c0,.int .i64 a1] w fun e w'=>∃ gN:Value,e=.returned (.tuple #[gN,.int .i64 r2])∧Kd.R (Kd.int .u8) 5 w' w.heap.size (fun _=>True) gN r1∧Below w.heap.size w w':=by
 induction k using Nat.strongRecOn with
 | _ k ih =>
 intro A0 c0 l0 a1 r1 r2 w hr0 fM h
 cases k with
 | zero=>exact absurd h (by simp [spec_l4Pack.f])
 | succ k =>
 simp only [spec_l4Pack.f] at h
 have hu49:=Try.underlying49
 have eA:=am hr0
 have fN:=am fM
 clear hr0 fM
 have HB:=am (Below.refl w.heap.size w)
 have H:=h;clear h;unfold spec_l4Pack.f at H
 replace H:=if_dd H;obtain⟨dI,dJ,H⟩:=H
 replace H:=bsm H;obtain⟨cX,dO,H⟩:=H
 have fO:=am H
 clear H
 have cB:0≤(a1:Int):=dcd
 have cC:a1 < (l0.length:Int):=dcd
 obtain⟨bW,fP,aW,aX,aY,aZ,a6⟩:=at_T49 eA.out a1 cB cC
 cases fP
 replace cB:=eq_true cB
 replace cC:=eq_true cC
 go_enter Try.func67,Try.ntmps67
 go_upto_if 26 with (first | ((with_reducible refine gd 6 rfl ?_);refine bxw 6 rfl #[.int .i64 0,.int .i64 0,.int .i64 0,.string ⟨#[]⟩,.int .i64 0] 49 HB ?_;clear HB;intro aH w6 aA gO gP HB;obtain⟨bM,bN,bO,bP,bQ,bR,bS,bT,bU,bV⟩:=cl5 aA) | ((with_reducible refine gd 23 rfl ?_);refine Kd.R_lit (Kd.int .u8) _ 5 ?hg (N:=23) ?hd (xs:=([]:List Int)) (inner:=[]) (ok:=fun _=>True) (okp:=fun _=>True) ?hr ?hp (fun _ hk=>hk) trivial (Below.refl _ _) (Nat.le_refl _) (by simp) ?_;(case hd=>rfl);(case hg=>rfl);(case hr=>first | (go_simp;done) | (go_simp;rfl));(case hp=>exact (Reps.none _ _));intro cZ w8 eC hb hg_ hnew_;clear hg_ hnew_;(first | rw [← dO.out] at eC | (simp only [Int.reduceToNat] at eC;rw [← dO.out] at eC));have dP:=rlb eC HB;replace aA:=am (blk_below (g:=aH) (o:=.cells #[.int .i64 ((rd_T49 l0 a1).f0),.int .i64 ((rd_T49 l0 a1).f1),.int .i64 ((rd_T49 l0 a1).f2),.string ((rd_T49 l0 a1).f3),.int .i64 ((rd_T49 l0 a1).f4)] 49 (0,0)) (blk_later aA.out) hb);replace HB:=bst HB hb;clear hb eC;obtain⟨a7,a8,a9,bA,bB,bC,bD,bE,bF,bG⟩:=cl5 aA))
 (try simp only [Act.put,List.setIfInBounds_toArray,List.set_cons_zero,List.set_cons_succ])
 go_cut [26] (fun v26 wc=>∃ (kq:Nat) (dA:Bool),v26=.bool dA∧Aside0 (spec_l4Pack.j0 kq l0 (wrap64 (a1 + 1)) cX ((rd_T49 l0 a1).f0) dA ((rd_T49 l0 a1).f0) ((rd_T49 l0 a1).f1) ((rd_T49 l0 a1).f2) ((rd_T49 l0 a1).f3) ((rd_T49 l0 a1).f4)=some (r1,r2))∧Aside0 (kq≤k)∧Aside0 (Kd.R (Kd.int .u8) 5 wc w.heap.size (fun _=>True) cZ cX)∧Aside0 (wc.heap[aH]?=some (.cells #[.int .i64 ((rd_T49 l0 a1).f0),.int .i64 ((rd_T49 l0 a1).f1),.int .i64 ((rd_T49 l0 a1).f2),.string ((rd_T49 l0 a1).f3),.int .i64 ((rd_T49 l0 a1).f4)] 49 (0,0)))∧Aside0 (Below w.heap.size w wc))
 case first =>
  have H:=fO.out
  clear fO
  replace H:=ieq H;obtain⟨bX,dB,H⟩ | ⟨iU,bX,dB,H⟩:=H
  · (first | rw [bX] | rw [dB] | (simp only [i64_w,i32_w];rw [bX]) | skip)
    have H':=am H;clear H
    go_wp2
    go_meet
    case rel=>exact⟨_,((((rd_T49 l0 a1).f0) == 5)),sr,H',⟨by first | omega | exact Nat.le_refl _⟩,⟨rL dP⟩,⟨kL aA⟩,⟨bL HB⟩⟩
  (first | rw [bX] | rw [dB] | (simp only [i64_w,i32_w];rw [bX]) | skip)
  have H':=am H;clear H
  go_wp2
  go_meet
  case rel=>exact⟨_,((((rd_T49 l0 a1).f0) == 6)),sr,H',⟨by first | omega | exact Nat.le_refl _⟩,⟨rL dP⟩,⟨kL aA⟩,⟨bL HB⟩⟩
 clear fO
 try clear dI dJ a7 a8 a9 bA bB bM bN bO bP bQ bC bD bE bF bG bR bS bT bU bV aW aX aY aZ a6 cB cC
 obtain⟨kq,dA,rfl,HA,dC,aC,aA,HB⟩:=hcut
 cases kq with
 | zero=>exact absurd HA.out (by simp [spec_l4Pack.j0])
 | succ kj4=>?_
 have H:=HA.out
 clear HA
 simp only [spec_l4Pack.j0] at H
 replace H:=ibt H;obtain⟨rfl,H⟩ | ⟨rfl,H⟩:=H
 · replace H:=bnd H;obtain⟨hU,hV,H⟩:=H
   replace H:=sj2 H;obtain⟨rfl,rfl⟩:=H
   obtain⟨_,_,_,_,_,_,_,_,_,_⟩:=cl5 aA
   go_wp2_with (first | ((with_reducible refine gc 82 rfl ?_);refine gc2 (some 31) Try.func82 rfl (spec_ZigPut.calls hV.out) ?_;rintro hX iV ⟨aJ,hb⟩;have eD:=am (Kd.R_lower (Kd.R_new' aJ (Kd.R_lt (rL aC))) (below_size (bL HB)));replace aC:=am (Kd.R_elder' (rL aC) (Kd.R_base aJ) hb);replace aA:=bkb aA hb;replace HB:=bst HB hb;clear hb aJ))
   go_ret2
   exact⟨_,fin_ ⟨R_later (Kd.R_mono eD.out (fun _ hk=>trivial)),bL HB⟩⟩
 replace H:=ieq H;obtain⟨cG,cH,H⟩ | ⟨fQ,cG,cH,H⟩:=H
 · replace H:=bnd H;obtain⟨d2,gQ,H⟩:=H
   replace H:=ifs H;obtain⟨gR,H⟩:=H
   have cI:=am gR
   clear gR
   generalize dQ:((d2 ++ bytesOf ((rd_T49 l0 a1).f3)):List Int)=hY at H;have dR:=am dQ.symm;clear dQ
   replace H:=sj2 H;obtain⟨rfl,rfl⟩:=H
   try go_wp2
   replace aC:=rdr aC
   replace aA:=bdr aA
   replace HB:=bld HB
   refine start_ (n:=11) (S:=fun w'=>w'.cell? ⟨aH,0,none⟩=some (.int .i64 ((rd_T49 l0 a1).f0))∧w'.cell? ⟨aH,1,none⟩=some (.int .i64 ((rd_T49 l0 a1).f1))∧w'.cell? ⟨aH,2,none⟩=some (.int .i64 ((rd_T49 l0 a1).f2))∧w'.cell? ⟨aH,3,none⟩=some (.string ((rd_T49 l0 a1).f3))∧w'.cell? ⟨aH,4,none⟩=some (.int .i64 ((rd_T49 l0 a1).f4))) (ds:=[]) #[false,false,false,false,false,false,false,false,false,false,false] (by kernel_rfl) rfl rfl ⟨bcl aA 0,bcl aA 1,bcl aA 2,bcl aA 3,bcl aA 4⟩ (fun hHeld=>?_);refine with_tabW spec_l4Pack.tab9 spec_l4Pack.bits9 (fun HT_ HW_=>?_)
   generalize wc.drew=iW at aC aA HB hHeld ⊢
   refine pu_ 0 35 ?_;refine pu_ 4 39 ?_;refine pu_ 8 43 ?_;refine tk_ 1 36 hHeld ?_;refine pu_ 2 37 ?_;refine tk_ 5 40 hHeld ?_
   refine two_ (i:=3) (j:=6) (Ni:=some 38) (Nj:=some 41) #[true,true,true,true,true,true,false,false,true,false,false] #[true,true,true,false,true,true,true,false,true,false,false] rfl rfl rfl rfl (two_of HT_.out (by kernel_rfl)) (by decide) (by decide) (fun K hK=>?_) (fun K hK=>?_)
   rotate_left
   · refine Go.Proofs.YtjdapaocdkcgdaaW.PrintMore2.conv_seen_step (by rfl) 9 40 5 _ rfl Try.underlying9 Try.underlying40 Try.underlying5 ((rd_T49 l0 a1).f3) rfl (by have:=cI.out;omega) ?_
     intro Acv ccv wcv hrc hcc hb
     have HRcv:=am hrc
     clear hrc hcc
     replace aC:=rbe aC hb
     replace aA:=bkb aA hb
     replace HB:=bst HB hb
     clear hb
     refine hK.out _ _ ⟨bcl aA 0,bcl aA 1,bcl aA 2,bcl aA 3,bcl aA 4⟩ (fun hHeld=>?_)
     clear hK K
     refine no_ (some 41) ?_
     refine on_ 3 38 (fun K hK=>?_)
     refine gs_ Try.func83 #[.int .i64 (((rd_T49 l0 a1).f3).size:Int)] rfl ?_
     with_reducible refine (spec_UvarPut.calls gQ.out).mono ?_
     rintro e hZ ⟨d3,rfl,aJ,hb⟩
     refine⟨_,rfl,?_⟩
     replace HRcv:=am (Kd.C_below HRcv.out hb)
     have aK:=am (Kd.R_lower (Kd.R_new' aJ (Kd.R_lt (rL aC))) (below_size (bL HB)))
     replace aC:=am (Kd.R_elder' (rL aC) (Kd.R_base aJ) hb)
     replace aA:=bkb aA hb
     replace HB:=bst HB hb
     (try clear hb)
     (try clear iA)
     (try clear hk)
     (try clear hi)
     (try clear aJ)
     refine hK.out _ _ ⟨bcl aA 0,bcl aA 1,bcl aA 2,bcl aA 3,bcl aA 4⟩ (fun hHeld=>?_)
     clear hK K
     refine no_ (some 38) ?_
     refine on_ 7 42 (fun K hK=>?_)
     refine Kd.R_append_rows_step (Kd.int .u8) (w0:=w) w.heap.size (by rfl) (.tmp 38) (.tmp 41) 40 5 (.int .u8 0) 1 rfl Try.underlying40 info5 rfl (by decide) (by omega) d3 d2 (bytesOf ((rd_T49 l0 a1).f3)) _ _ _ (fun k_=>some k_≠(cZ:Value).ownBlock) (fun _=>False) rfl rfl ?aO ?aR (fun _ _ h=>h) (fun _ h=>h.elim) ?aF ?aB ?aS ?aL ?_
     (case aR=>exact HRcv.out)
     (case aB=>exact (bL HB))
     (case aF=>exact (fun k_ hk=>Kd.fresh' (Kd.R_lt (rL aC)) k_ hk))
     (case aO=>exact (R_later (Kd.R_mono aK.out (fun _ hk=>hk.2))))
     (case aS=>exact (below_size (bL HB)))
     (case aL=>have:=cI.out;omega)
     intro fR iB ho hb hg hat
     rw [← dR.out] at ho
     have dD:=am ho
     replace aC:=am (Kd.R_after (ok:=(fun _=>True)) (rL aC) hg hat)
     replace aA:=bgr aA hg aK
     replace HB:=am hb
     clear aK ho hb hg hat
     refine hK.out _ _ ⟨bcl aA 0,bcl aA 1,bcl aA 2,bcl aA 3,bcl aA 4⟩ (fun hHeld=>?_)
     clear hK K
     refine no_ (some 42) ?_;refine pu_ 9 4 ?_;refine pu_ 10 5 ?_
     refine done_ (done_of HT_.out (by kernel_rfl)) ?_
     try go_wp2
     go_ret2
     exact⟨_,fin_ ⟨R_later (Kd.R_mono dD.out (fun _ hk=>trivial)),bL HB⟩⟩
   refine goes_ Try.func83 (by kernel_rfl) rfl #[.int .i64 (((rd_T49 l0 a1).f3).size:Int)] (by rfl) rfl rfl (by (try simp only [List.map_toArray,List.map_cons,List.map_nil]);first | done | rfl | (simp only [List.length_drop,List.length_take];rfl)) ?_
   with_reducible refine (spec_UvarPut.calls gQ.out).mono ?_
   rintro e hZ ⟨d3,rfl,aJ,hb⟩
   refine⟨_,rfl,?_⟩
   have aK:=am (Kd.R_lower (Kd.R_new' aJ (Kd.R_lt (rL aC))) (below_size (bL HB)))
   replace aC:=am (Kd.R_elder' (rL aC) (Kd.R_base aJ) hb)
   replace aA:=bkb aA hb
   replace HB:=bst HB hb
   (try clear hb)
   (try clear iA)
   (try clear hk)
   (try clear hi)
   (try clear aJ)
   refine hK.out _ _ ⟨bcl aA 0,bcl aA 1,bcl aA 2,bcl aA 3,bcl aA 4⟩ (fun hHeld=>?_)
   clear hK K
   refine no_ (some 38) ?_
   refine on_ 6 41 (fun K hK=>?_)
   refine Go.Proofs.YtjdapaocdkcgdaaW.PrintMore2.conv_seen_step (by rfl) 9 40 5 _ rfl Try.underlying9 Try.underlying40 Try.underlying5 ((rd_T49 l0 a1).f3) rfl (by have:=cI.out;omega) ?_
   intro Acv ccv wcv hrc hcc hb
   have HRcv:=am hrc
   clear hrc hcc
   replace aC:=rbe aC hb
   replace aK:=rbe aK hb
   replace aA:=bkb aA hb
   replace HB:=bst HB hb
   clear hb
   refine hK.out _ _ ⟨bcl aA 0,bcl aA 1,bcl aA 2,bcl aA 3,bcl aA 4⟩ (fun hHeld=>?_)
   clear hK K
   refine no_ (some 41) ?_
   refine on_ 7 42 (fun K hK=>?_)
   refine Kd.R_append_rows_step (Kd.int .u8) (w0:=w) w.heap.size (by rfl) (.tmp 38) (.tmp 41) 40 5 (.int .u8 0) 1 rfl Try.underlying40 info5 rfl (by decide) (by omega) d3 d2 (bytesOf ((rd_T49 l0 a1).f3)) _ _ _ (fun k_=>some k_≠(cZ:Value).ownBlock) (fun _=>False) rfl rfl ?aO ?aR (fun _ _ h=>h) (fun _ h=>h.elim) ?aF ?aB ?aS ?aL ?_
   (case aR=>exact HRcv.out)
   (case aB=>exact (bL HB))
   (case aF=>exact (fun k_ hk=>Kd.fresh' (Kd.R_lt (rL aC)) k_ hk))
   (case aO=>exact (R_later (Kd.R_mono aK.out (fun _ hk=>hk.2))))
   (case aS=>exact (below_size (bL HB)))
   (case aL=>have:=cI.out;omega)
   intro fR iB ho hb hg hat
   rw [← dR.out] at ho
   have dD:=am ho
   replace aC:=am (Kd.R_after (ok:=(fun _=>True)) (rL aC) hg hat)
   replace aA:=bgr aA hg aK
   replace HB:=am hb
   clear aK ho hb hg hat
   refine hK.out _ _ ⟨bcl aA 0,bcl aA 1,bcl aA 2,bcl aA 3,bcl aA 4⟩ (fun hHeld=>?_)
   clear hK K
   refine no_ (some 42) ?_;refine pu_ 9 4 ?_;refine pu_ 10 5 ?_
   refine done_ (done_of HT_.out (by kernel_rfl)) ?_
   try go_wp2
   go_ret2
   exact⟨_,fin_ ⟨R_later (Kd.R_mono dD.out (fun _ hk=>trivial)),bL HB⟩⟩
 replace H:=ieq H;obtain⟨cJ,cK,H⟩ | ⟨fS,cJ,cK,H⟩:=H
 · have d4:=am H
   clear H
   obtain⟨cM,cN,cO,cP,cQ,cR,cS,cT,cU,cV⟩:=cl5 aA
   go_upto_if 48 with (fail)
   go_cut [8] (fun v8 wc=>∃ (kq:Nat) (cW:List Int),Aside0 (spec_l4Pack.j1 kq l0 (wrap64 (a1 + 1)) cW ((rd_T49 l0 a1).f0) ((rd_T49 l0 a1).f1) ((rd_T49 l0 a1).f2) ((rd_T49 l0 a1).f3) ((rd_T49 l0 a1).f4)=some (r1,r2))∧Aside0 (kq≤kj4)∧Aside0 (Kd.R (Kd.int .u8) 5 wc w.heap.size (fun _=>True) v8 cW)∧Aside0 (wc.heap[aH]?=some (.cells #[.int .i64 ((rd_T49 l0 a1).f0),.int .i64 ((rd_T49 l0 a1).f1),.int .i64 ((rd_T49 l0 a1).f2),.string ((rd_T49 l0 a1).f3),.int .i64 ((rd_T49 l0 a1).f4)] 49 (0,0)))∧Aside0 (Below w.heap.size w wc))
   case first =>
    have H:=d4.out
    clear d4
    replace H:=idc H;obtain⟨bY,H⟩ | ⟨bY,H⟩:=H
    · (first | rw [bY] | (simp only [i64_w,i32_w];rw [bY]) | skip)
      replace H:=ifs H;obtain⟨gS,H⟩:=H
      have eE:=am gS
      clear gS
      generalize dS:((cX ++ [(wrap64 ((wrap64 (16 * ((rd_T49 l0 a1).f4))) + ((rd_T49 l0 a1).f2))) % 256]):List Int)=fT at H;have eF:=am dS.symm;clear dS
      have H':=am H;clear H
      obtain⟨_,_,_,_,_,_,_,_,_,_⟩:=cl5 aA
      go_wp2_with (first | ((with_reducible refine gate_builtin (b:=.append) (xs:=#[.tmp 49,.tmp 57]) rfl ?_);at_builtin;refine Kd.R_append (Kd.int .u8) (w0:=w) w.heap.size rfl (.tmp 49) (.tmp 57) 40 5 (.int .u8 0) 1 rfl Try.underlying40 info5 rfl (by decide) (by omega) cZ cX ((wrap64 ((wrap64 (16 * ((rd_T49 l0 a1).f4))) + ((rd_T49 l0 a1).f2))) % 256) [.int .u8 ((wrap64 ((wrap64 (16 * ((rd_T49 l0 a1).f4))) + ((rd_T49 l0 a1).f2))) % 256)] (fun _=>True) (fun _=>False) rfl rfl ?aP (fun _ hk=>hk.elim) ?aF ?aO ?aB ?aS ?aL ?_;(case aP=>exact rfl);(case aB=>exact (bL HB));(case aF=>exact (fun _ _=>trivial));(case aO=>exact (rL aC));(case aS=>exact (below_size (bL HB)));(case aL=>have:=eE.out;omega);intro iC iX ho hb hg hat;rw [← eF.out] at ho;have eG:=am ho;replace aA:=bgr aA hg aC;replace HB:=am hb;clear aC;clear ho hb hg hat))
      go_meet
      case rel=>exact⟨_,(fT),H',⟨by have:=dC.out;first | omega | exact Nat.le_refl _⟩,⟨rL eG⟩,⟨kL aA⟩,⟨bL HB⟩⟩
    (first | rw [bY] | (simp only [i64_w,i32_w];rw [bY]) | skip)
    replace H:=ifs H;obtain⟨gT,H⟩:=H
    have eH:=am gT
    clear gT
    replace H:=bsm H;obtain⟨eI,eJ,H⟩:=H
    replace H:=bnd H;obtain⟨d5,iD,H⟩:=H
    replace H:=ifs H;obtain⟨gU,H⟩:=H
    have eK:=am gU
    clear gU
    generalize dT:((eI ++ d5):List Int)=fU at H;have eL:=am dT.symm;clear dT
    have H':=am H;clear H
    obtain⟨_,_,_,_,_,_,_,_,_,_⟩:=cl5 aA
    go_wp2_with (first | ((with_reducible refine gate_builtin (b:=.append) (xs:=#[.tmp 59,.tmp 64]) rfl ?_);at_builtin;refine Kd.R_append (Kd.int .u8) (w0:=w) w.heap.size rfl (.tmp 59) (.tmp 64) 40 5 (.int .u8 0) 1 rfl Try.underlying40 info5 rfl (by decide) (by omega) cZ cX ((wrap64 (240 + ((rd_T49 l0 a1).f2))) % 256) [.int .u8 ((wrap64 (240 + ((rd_T49 l0 a1).f2))) % 256)] (fun _=>True) (fun _=>False) rfl rfl ?aP (fun _ hk=>hk.elim) ?aF ?aO ?aB ?aS ?aL ?_;(case aP=>exact rfl);(case aB=>exact (bL HB));(case aF=>exact (fun _ _=>trivial));(case aO=>exact (rL aC));(case aS=>exact (below_size (bL HB)));(case aL=>have:=eH.out;omega);intro fV iY ho hb hg hat;rw [← eJ.out] at ho;have bK:=am ho;replace aA:=bgr aA hg aC;replace HB:=am hb;clear aC;clear ho hb hg hat;obtain⟨_,_,_,_,_,_,_,_,_,_⟩:=cl5 aA) | ((with_reducible refine gc 83 rfl ?_);refine gc2 (some 69) Try.func83 rfl (spec_UvarPut.calls iD.out) ?_;rintro iE iZ ⟨aJ,hb⟩;have bZ:=am (Kd.R_lower (Kd.R_new' aJ (Kd.R_lt (rL bK))) (below_size (bL HB)));replace bK:=am (Kd.R_elder' (rL bK) (Kd.R_base aJ) hb);replace aA:=bkb aA hb;replace HB:=bst HB hb;clear hb aJ;obtain⟨fW,fX,fY⟩:=Kd.R_slice bZ.out;subst fY) | ((with_reducible refine gate_builtin (b:=.append) (xs:=#[.tmp 66,.tmp 69]) rfl ?_);at_builtin;refine Kd.R_append_rows (Kd.int .u8) (w0:=w) w.heap.size rfl (.tmp 66) (.tmp 69) 40 5 (.int .u8 0) 1 rfl Try.underlying40 info5 rfl (by decide) (by omega) fV eI d5 _ _ _ (fun k_=>some k_≠(.slice fW d5.length fX:Value).ownBlock) (fun _=>False) rfl rfl ?aO ?aR (fun _ _ h=>h) (fun _ h=>h.elim) ?aF ?aB ?aS ?aL ?_;(case aR=>exact C_later (Kd.R_reads' bZ.out).2.2);(case aB=>exact (bL HB));(case aF=>exact (fun k_ hk=>Kd.fresh' (Kd.R_lt (rL bZ)) k_ hk));(case aO=>exact (R_later (Kd.R_mono bK.out (fun _ hk=>hk.2))));(case aS=>exact (below_size (bL HB)));(case aL=>have:=eK.out;omega);intro iF i1 ho hb hg hat;rw [← eL.out] at ho;have eM:=am ho;replace aA:=bgr aA hg bK;replace bZ:=am (Kd.R_after (ok:=(fun _=>True)) (rL bZ) hg hat);replace HB:=am hb;clear bK;clear ho hb hg hat))
    go_meet
    case rel=>exact⟨_,(fU),H',⟨by have:=dC.out;first | omega | exact Nat.le_refl _⟩,⟨R_later (Kd.R_mono eM.out (fun _ hk=>trivial))⟩,⟨kL aA⟩,⟨bL HB⟩⟩
   clear d4
   try clear dI dJ gV fQ cG cH fS cJ cK a7 a8 a9 bA bB cM cN cO cP cQ bM bN bO bP bQ bC bD bE bF bG cR cS cT cU cV bR bS bT bU bV aW aX aY aZ a6 cB cC
   obtain⟨kq,cW,HA,d6,aC,aA,HB⟩:=hcut
   cases kq with
   | zero=>exact absurd HA.out (by simp [spec_l4Pack.j1])
   | succ kj22=>?_
   have H:=HA.out
   clear HA
   simp only [spec_l4Pack.j1] at H
   have H':=am H;clear H
   go_wp2
   go_loopg [7,8,9] kj22 (fun kq v7 v8 v9 w'=>∃ (dE:Int) (dF:List Int) (dK:Int),v7=.int .i64 dE∧v9=.int .i64 dK∧Aside0 (spec_l4Pack.l0 kq l0 dE dF dK ((rd_T49 l0 a1).f0) ((rd_T49 l0 a1).f1) ((rd_T49 l0 a1).f2) ((rd_T49 l0 a1).f3) ((rd_T49 l0 a1).f4)=some (r1,r2))∧Aside0 (kq≤kj22)∧Aside0 (Kd.R (Kd.int .u8) 5 w' w.heap.size (fun _=>True) v8 dF)∧Aside0 (w'.heap[aH]?=some (.cells #[.int .i64 ((rd_T49 l0 a1).f0),.int .i64 ((rd_T49 l0 a1).f1),.int .i64 ((rd_T49 l0 a1).f2),.string ((rd_T49 l0 a1).f3),.int .i64 ((rd_T49 l0 a1).f4)] 49 (0,0)))∧Aside0 (Below w.heap.size w w'))
   case atStart=>exact⟨((wrap64 (a1 + 1))),(cW),(0),sr,sr,H',⟨Nat.le_refl _⟩,⟨rL aC⟩,⟨kL aA⟩,⟨bL HB⟩⟩
   clear H'
   try clear dI dJ gV fQ cG cH fS cJ cK a7 a8 a9 bA bB cM cN cO cP cQ bM bN bO bP bQ bC bD bE bF bG cR cS cT cU cV bR bS bT bU bV aW aX aY aZ a6 cB cC
   obtain⟨dE,dF,dK,rfl,rfl,HA,fZ,aC,aA,HB⟩:=hrel
   cases gk with
   | zero=>exact absurd HA.out (by simp [spec_l4Pack.l0])
   | succ k3=>?_
   have H:=HA.out
   clear HA
   simp only [spec_l4Pack.l0] at H
   replace H:=idc H;obtain⟨eN,H⟩ | ⟨eN,H⟩:=H
   rotate_left
   · replace H:=sj2 H;obtain⟨rfl,rfl⟩:=H
     obtain⟨_,_,_,_,_,_,_,_,_,_⟩:=cl5 aA
     go_wp2
     go_ret2
     exact⟨_,fin_ ⟨rL aC,bL HB⟩⟩
   replace H:=bnd2 H;obtain⟨dL,eO,iG,H⟩:=H;dsimp only at H
   replace H:=ifs H;obtain⟨gW,H⟩:=H
   have eP:=am gW
   clear gW
   generalize dU:((dF ++ dL):List Int)=f7 at H;have eQ:=am dU.symm;clear dU
   have H':=am H;clear H
   obtain⟨_,_,_,_,_,_,_,_,_,_⟩:=cl5 aA
   go_wp2_with (first | ((with_reducible refine gc 67 rfl ?_);refine gl_ (some 80) Try.func67 #[.slice (some bW) l0.length c0,.int .i64 dE] rfl ?_;(with_reducible refine (ih k3 (by have:=dC.out;have:=d6.out;have:=fZ.out;omega) _ _ l0 dE dL eO _ ?side1 ?side2 iG.out).mono ?_);(case side1=>exact cL eA HB);(case side2=>exact fN.out);rintro e i2 ⟨iH,rfl,aJ,hb⟩;refine⟨_,rfl,?_⟩;have b6:=am (Kd.R_lower (Kd.R_new' aJ (Kd.R_lt (rL aC))) (below_size (bL HB)));replace aC:=am (Kd.R_elder' (rL aC) (Kd.R_base aJ) hb);replace aA:=bkb aA hb;replace HB:=bst HB hb;clear hb aJ;obtain⟨f9,gA,gB⟩:=Kd.R_slice b6.out;subst gB) | ((with_reducible refine gate_builtin (b:=.append) (xs:=#[.tmp 83,.tmp 84]) rfl ?_);at_builtin;refine Kd.R_append_rows (Kd.int .u8) (w0:=w) w.heap.size rfl (.tmp 83) (.tmp 84) 40 5 (.int .u8 0) 1 rfl Try.underlying40 info5 rfl (by decide) (by omega) u8 dF dL _ _ _ (fun k_=>some k_≠(.slice f9 dL.length gA:Value).ownBlock) (fun _=>False) rfl rfl ?aO ?aR (fun _ _ h=>h) (fun _ h=>h.elim) ?aF ?aB ?aS ?aL ?_;(case aR=>exact C_later (Kd.R_reads' b6.out).2.2);(case aB=>exact (bL HB));(case aF=>exact (fun k_ hk=>Kd.fresh' (Kd.R_lt (rL b6)) k_ hk));(case aO=>exact (R_later (Kd.R_mono aC.out (fun _ hk=>hk.2))));(case aS=>exact (below_size (bL HB)));(case aL=>have:=eP.out;omega);intro iI i3 ho hb hg hat;rw [← eQ.out] at ho;have eR:=am ho;replace aA:=bgr aA hg aC;replace b6:=am (Kd.R_after (ok:=(fun _=>True)) (rL b6) hg hat);replace HB:=am hb;clear aC;clear ho hb hg hat))
   go_roundg k3
   case measure=>have:=dC.out;have:=d6.out;have:=fZ.out;omega
   case rel=>exact⟨(eO),(f7),(wrap64 (dK + 1)),sr,sr,H',⟨by have:=dC.out;have:=d6.out;have:=fZ.out;omega⟩,⟨R_later (Kd.R_mono eR.out (fun _ hk=>trivial))⟩,⟨kL aA⟩,⟨bL HB⟩⟩
 replace H:=ieq H;obtain⟨dV,dW,H⟩ | ⟨iJ,dV,dW,H⟩:=H
 rotate_left
 · replace H:=sj2 H;obtain⟨rfl,rfl⟩:=H
   go_wp2
   go_ret2
   exact⟨_,fin_ ⟨rL aC,bL HB⟩⟩
 have H':=am H;clear H
 go_wp2
 go_loopg [7,8,12,13] kj4 (fun kq v7 v8 v12 v13 w'=>∃ (aD:Int) (cD:List Int) (b7:Int) (b8:Int),v7=.int .i64 aD∧v12=.int .i64 b7∧v13=.int .i64 b8∧Aside0 (spec_l4Pack.l1 kq l0 aD cD b7 b8 ((rd_T49 l0 a1).f0) ((rd_T49 l0 a1).f1) ((rd_T49 l0 a1).f2) ((rd_T49 l0 a1).f3) ((rd_T49 l0 a1).f4)=some (r1,r2))∧Aside0 (kq≤kj4)∧Aside0 (Kd.R (Kd.int .u8) 5 w' w.heap.size (fun _=>True) v8 cD)∧Aside0 (w'.heap[aH]?=some (.cells #[.int .i64 ((rd_T49 l0 a1).f0),.int .i64 ((rd_T49 l0 a1).f1),.int .i64 ((rd_T49 l0 a1).f2),.string ((rd_T49 l0 a1).f3),.int .i64 ((rd_T49 l0 a1).f4)] 49 (0,0)))∧Aside0 (Below w.heap.size w w'))
 case atStart=>exact⟨((wrap64 (a1 + 1))),(cX),(0),(0),sr,sr,sr,H',⟨Nat.le_refl _⟩,⟨rL aC⟩,⟨kL aA⟩,⟨bL HB⟩⟩
 clear H'
 try clear dI dJ gV fQ cG cH fS cJ cK iJ dV dW a7 a8 a9 bA bB bM bN bO bP bQ bC bD bE bF bG bR bS bT bU bV aW aX aY aZ a6 cB cC
 obtain⟨aD,cD,b7,b8,rfl,rfl,rfl,HA,eB,aC,aA,HB⟩:=hrel
 cases gk with
 | zero=>exact absurd HA.out (by simp [spec_l4Pack.l1])
 | succ k2=>?_
 have H:=HA.out
 clear HA
 simp only [spec_l4Pack.l1] at H
 replace H:=idc H;obtain⟨eS,H⟩ | ⟨eS,H⟩:=H
 rotate_left
 · replace H:=ifs H;obtain⟨gX,H⟩:=H
   have eT:=am gX
   clear gX
   generalize dX:((cD ++ [0]):List Int)=iK at H;have eU:=am dX.symm;clear dX
   replace H:=sj2 H;obtain⟨rfl,rfl⟩:=H
   obtain⟨_,_,_,_,_,_,_,_,_,_⟩:=cl5 aA
   go_wp2_with (first | ((with_reducible refine gate_builtin (b:=.append) (xs:=#[.tmp 139,.tmp 140]) rfl ?_);at_builtin;refine Kd.R_append (Kd.int .u8) (w0:=w) w.heap.size rfl (.tmp 139) (.tmp 140) 40 5 (.int .u8 0) 1 rfl Try.underlying40 info5 rfl (by decide) (by omega) u8 cD 0 [.int .u8 0] (fun _=>True) (fun _=>False) rfl rfl ?aP (fun _ hk=>hk.elim) ?aF ?aO ?aB ?aS ?aL ?_;(case aP=>exact rfl);(case aB=>exact (bL HB));(case aF=>exact (fun _ _=>trivial));(case aO=>exact (rL aC));(case aS=>exact (below_size (bL HB)));(case aL=>have:=eT.out;omega);intro iL i4 ho hb hg hat;rw [← eU.out] at ho;have eV:=am ho;replace aA:=bgr aA hg aC;replace HB:=am hb;clear aC;clear ho hb hg hat))
   go_ret2
   exact⟨_,fin_ ⟨rL eV,bL HB⟩⟩
 replace H:=if_dd H;obtain⟨gY,gZ,H⟩:=H
 replace H:=idc H;obtain⟨eW,H⟩ | ⟨eW,H⟩:=H
 · replace H:=ifs H;obtain⟨g2,H⟩:=H
   have eX:=am g2
   clear g2
   replace H:=bsm H;obtain⟨eY,eZ,H⟩:=H
   replace H:=bnd2 H;obtain⟨dM,e5,iM,H⟩:=H;dsimp only at H
   replace H:=ifs H;obtain⟨g3,H⟩:=H
   have e6:=am g3
   clear g3
   generalize dY:((eY ++ dM):List Int)=gC at H;have e7:=am dY.symm;clear dY
   have H':=am H;clear H
   obtain⟨_,_,_,_,_,_,_,_,_,_⟩:=cl5 aA
   have cE:0≤(aD:Int):=dcd
   have cF:aD < (l0.length:Int):=dcd
   obtain⟨dG,d7,aM,aN,aQ,aT,aU⟩:=at_T49 eA.out aD cE cF
   obtain rfl:bW=dG:=(by injection d7)
   replace aM:=crd HB aM
   replace aN:=crd HB aN
   replace aQ:=crd HB aQ
   replace aT:=crd HB aT
   replace aU:=crd HB aU
   replace cE:=eq_true cE
   replace cF:=eq_true cF
   go_wp2_with (first | ((with_reducible refine gd 14 rfl ?_);refine bxv 14 rfl #[.int .i64 0,.int .i64 0,.int .i64 0,.string ⟨#[]⟩,.int .i64 0] 49 HB ?_;clear HB;intro aG i5 aE e8 e9 HB hg hb;obtain⟨cY,aV⟩:=nbp (nbl aA hg);replace aC:=rbe aC hb;replace aA:=bkb aA hb;clear hg hb;obtain⟨g4,g6⟩:=nbo aV;obtain⟨_,_,_,_,_,_,_,_,_,_⟩:=cl5 aE) | ((with_reducible refine gate_builtin (b:=.append) (xs:=#[.tmp 104,.tmp 114]) rfl ?_);at_builtin;refine Kd.R_append (Kd.int .u8) (w0:=w) w.heap.size rfl (.tmp 104) (.tmp 114) 40 5 (.int .u8 0) 1 rfl Try.underlying40 info5 rfl (by decide) (by omega) u8 cD ((wrap64 ((wrap64 (16 * (wrap64 (((rd_T49 l0 aD).f1) - b7)))) + ((rd_T49 l0 aD).f0))) % 256) [.int .u8 ((wrap64 ((wrap64 (16 * (wrap64 (((rd_T49 l0 aD).f1) - b7)))) + ((rd_T49 l0 aD).f0))) % 256)] (fun _=>True) (fun _=>False) rfl (by first | (go_simp;done) | (go_simp;rfl)) ?aP (fun _ hk=>hk.elim) ?aF ?aO ?aB ?aS ?aL ?_;(case aP=>exact rfl);(case aB=>exact (bL HB));(case aF=>exact (fun _ _=>trivial));(case aO=>exact (R_later (Kd.R_mono (Kd.R_far (p:=⟨aG,4,none⟩) (Kd.R_far (p:=⟨aG,3,none⟩) (Kd.R_far (p:=⟨aG,2,none⟩) (Kd.R_far (p:=⟨aG,1,none⟩) (Kd.R_far (p:=⟨aG,0,none⟩) (Kd.R_types aC.out aE.out (by decide)) (fun _ hk=>hk.2) (.int .i64 ((rd_T49 l0 aD).f0))) (fun _ hk=>hk.2) (.int .i64 ((rd_T49 l0 aD).f1))) (fun _ hk=>hk.2) (.int .i64 ((rd_T49 l0 aD).f2))) (fun _ hk=>hk.2) (.string ((rd_T49 l0 aD).f3))) (fun _ hk=>hk.2) (.int .i64 ((rd_T49 l0 aD).f4))) (fun _ hk=>trivial))));(case aS=>exact (below_size (bL HB)));(case aL=>have:=eX.out;omega);intro gD i6 ho hb hg hat;rw [← eZ.out] at ho;have bH:=am ho;replace aA:=am (blk_grown (g:=aH) (o:=.cells #[.int .i64 ((rd_T49 l0 a1).f0),.int .i64 ((rd_T49 l0 a1).f1),.int .i64 ((rd_T49 l0 a1).f2),.string ((rd_T49 l0 a1).f3),.int .i64 ((rd_T49 l0 a1).f4)] 49 (0,0)) (blk_later aA.out) hg (Kd.R_ne aC.out aA.out (by decide)));replace aE:=am (blk_grown (g:=aG) (o:=.cells #[.int .i64 ((rd_T49 l0 aD).f0),.int .i64 ((rd_T49 l0 aD).f1),.int .i64 ((rd_T49 l0 aD).f2),.string ((rd_T49 l0 aD).f3),.int .i64 ((rd_T49 l0 aD).f4)] 49 (0,0)) (blk_later aE.out) hg (Kd.R_ne aC.out aE.out (by decide)));replace HB:=am hb;clear aC;clear ho hb hg hat;obtain⟨_,_,_,_,_,_,_,_,_,_⟩:=cl5 aE) | ((with_reducible refine gc 67 rfl ?_);refine gl_ (some 132) Try.func67 #[.slice (some bW) l0.length c0,.int .i64 aD] rfl ?_;(with_reducible refine (ih k2 (by have:=dC.out;have:=eB.out;omega) _ _ l0 aD dM e5 _ ?side1 ?side2 iM.out).mono ?_);(case side1=>exact cL eA HB);(case side2=>exact fN.out);rintro e i7 ⟨iN,rfl,aJ,hb⟩;refine⟨_,rfl,?_⟩;have b9:=am (Kd.R_lower (Kd.R_new' aJ (Kd.R_lt (rL bH))) (below_size (bL HB)));replace bH:=am (Kd.R_elder' (rL bH) (Kd.R_base aJ) hb);replace aA:=bkb aA hb;replace aE:=bkb aE hb;replace HB:=bst HB hb;clear hb aJ;obtain⟨gE,gF,gG⟩:=Kd.R_slice b9.out;subst gG) | ((with_reducible refine gate_builtin (b:=.append) (xs:=#[.tmp 135,.tmp 136]) rfl ?_);at_builtin;refine Kd.R_append_rows (Kd.int .u8) (w0:=w) w.heap.size rfl (.tmp 135) (.tmp 136) 40 5 (.int .u8 0) 1 rfl Try.underlying40 info5 rfl (by decide) (by omega) gD eY dM _ _ _ (fun k_=>some k_≠(.slice gE dM.length gF:Value).ownBlock) (fun _=>False) rfl rfl ?aO ?aR (fun _ _ h=>h) (fun _ h=>h.elim) ?aF ?aB ?aS ?aL ?_;(case aR=>exact C_later (Kd.R_reads' b9.out).2.2);(case aB=>exact (bL HB));(case aF=>exact (fun k_ hk=>Kd.fresh' (Kd.R_lt (rL b9)) k_ hk));(case aO=>exact (R_later (Kd.R_mono bH.out (fun _ hk=>hk.2))));(case aS=>exact (below_size (bL HB)));(case aL=>have:=e6.out;omega);intro iO i8 ho hb hg hat;rw [← e7.out] at ho;have fA:=am ho;replace aA:=bgr aA hg bH;replace aE:=bgr aE hg bH;replace b9:=am (Kd.R_after (ok:=(fun _=>True)) (rL b9) hg hat);replace HB:=am hb;clear bH;clear ho hb hg hat))
   go_roundg k2
   case measure=>have:=dC.out;have:=eB.out;omega
   case rel=>exact⟨(e5),(gC),((rd_T49 l0 aD).f1),(wrap64 (b8 + 1)),sr,sr,sr,H',⟨by have:=dC.out;have:=eB.out;omega⟩,⟨R_later (Kd.R_mono fA.out (fun _ hk=>trivial))⟩,⟨kL aA⟩,⟨bL HB⟩⟩
 replace H:=ifs H;obtain⟨g7,H⟩:=H
 have fB:=am g7
 clear g7
 replace H:=bsm H;obtain⟨gH,fC,H⟩:=H
 replace H:=bnd H;obtain⟨dN,iP,H⟩:=H
 replace H:=ifs H;obtain⟨g8,H⟩:=H
 have fD:=am g8
 clear g8
 replace H:=bsm H;obtain⟨fE,fF,H⟩:=H
 replace H:=bnd2 H;obtain⟨dH,fG,iQ,H⟩:=H;dsimp only at H
 replace H:=ifs H;obtain⟨g9,H⟩:=H
 have fH:=am g9
 clear g9
 generalize dZ:((fE ++ dH):List Int)=gI at H;have fI:=am dZ.symm;clear dZ
 have H':=am H;clear H
 obtain⟨_,_,_,_,_,_,_,_,_,_⟩:=cl5 aA
 have cE:0≤(aD:Int):=dcd
 have cF:aD < (l0.length:Int):=dcd
 obtain⟨dG,d7,aM,aN,aQ,aT,aU⟩:=at_T49 eA.out aD cE cF
 obtain rfl:bW=dG:=(by injection d7)
 replace aM:=crd HB aM
 replace aN:=crd HB aN
 replace aQ:=crd HB aQ
 replace aT:=crd HB aT
 replace aU:=crd HB aU
 replace cE:=eq_true cE
 replace cF:=eq_true cF
 go_wp2_with (first | ((with_reducible refine gd 14 rfl ?_);refine bxv 14 rfl #[.int .i64 0,.int .i64 0,.int .i64 0,.string ⟨#[]⟩,.int .i64 0] 49 HB ?_;clear HB;intro aG i9 aE e8 e9 HB hg hb;obtain⟨cY,aV⟩:=nbp (nbl aA hg);replace aC:=rbe aC hb;replace aA:=bkb aA hb;clear hg hb;obtain⟨hD,hJ⟩:=nbo aV;obtain⟨_,_,_,_,_,_,_,_,_,_⟩:=cl5 aE) | ((with_reducible refine gate_builtin (b:=.append) (xs:=#[.tmp 116,.tmp 120]) rfl ?_);at_builtin;refine Kd.R_append (Kd.int .u8) (w0:=w) w.heap.size rfl (.tmp 116) (.tmp 120) 40 5 (.int .u8 0) 1 rfl Try.underlying40 info5 rfl (by decide) (by omega) u8 cD (((rd_T49 l0 aD).f0) % 256) [.int .u8 (((rd_T49 l0 aD).f0) % 256)] (fun _=>True) (fun _=>False) rfl (by first | (go_simp;done) | (go_simp;rfl)) ?aP (fun _ hk=>hk.elim) ?aF ?aO ?aB ?aS ?aL ?_;(case aP=>exact rfl);(case aB=>exact (bL HB));(case aF=>exact (fun _ _=>trivial));(case aO=>exact (R_later (Kd.R_mono (Kd.R_far (p:=⟨aG,4,none⟩) (Kd.R_far (p:=⟨aG,3,none⟩) (Kd.R_far (p:=⟨aG,2,none⟩) (Kd.R_far (p:=⟨aG,1,none⟩) (Kd.R_far (p:=⟨aG,0,none⟩) (Kd.R_types aC.out aE.out (by decide)) (fun _ hk=>hk.2) (.int .i64 ((rd_T49 l0 aD).f0))) (fun _ hk=>hk.2) (.int .i64 ((rd_T49 l0 aD).f1))) (fun _ hk=>hk.2) (.int .i64 ((rd_T49 l0 aD).f2))) (fun _ hk=>hk.2) (.string ((rd_T49 l0 aD).f3))) (fun _ hk=>hk.2) (.int .i64 ((rd_T49 l0 aD).f4))) (fun _ hk=>trivial))));(case aS=>exact (below_size (bL HB)));(case aL=>have:=fB.out;omega);intro gJ jA ho hb hg hat;rw [← fC.out] at ho;have bI:=am ho;replace aA:=am (blk_grown (g:=aH) (o:=.cells #[.int .i64 ((rd_T49 l0 a1).f0),.int .i64 ((rd_T49 l0 a1).f1),.int .i64 ((rd_T49 l0 a1).f2),.string ((rd_T49 l0 a1).f3),.int .i64 ((rd_T49 l0 a1).f4)] 49 (0,0)) (blk_later aA.out) hg (Kd.R_ne aC.out aA.out (by decide)));replace aE:=am (blk_grown (g:=aG) (o:=.cells #[.int .i64 ((rd_T49 l0 aD).f0),.int .i64 ((rd_T49 l0 aD).f1),.int .i64 ((rd_T49 l0 aD).f2),.string ((rd_T49 l0 aD).f3),.int .i64 ((rd_T49 l0 aD).f4)] 49 (0,0)) (blk_later aE.out) hg (Kd.R_ne aC.out aE.out (by decide)));replace HB:=am hb;clear aC;clear ho hb hg hat;obtain⟨_,_,_,_,_,_,_,_,_,_⟩:=cl5 aE) | ((with_reducible refine gc 82 rfl ?_);refine gc2 (some 125) Try.func82 rfl (spec_ZigPut.calls iP.out) ?_;rintro iR jB ⟨aJ,hb⟩;have aI:=am (Kd.R_lower (Kd.R_new' aJ (Kd.R_lt (rL bI))) (below_size (bL HB)));replace bI:=am (Kd.R_elder' (rL bI) (Kd.R_base aJ) hb);replace aA:=bkb aA hb;replace aE:=bkb aE hb;replace HB:=bst HB hb;clear hb aJ;obtain⟨d8,d9,gK⟩:=Kd.R_slice aI.out;subst gK) | ((with_reducible refine gate_builtin (b:=.append) (xs:=#[.tmp 122,.tmp 125]) rfl ?_);at_builtin;refine Kd.R_append_rows (Kd.int .u8) (w0:=w) w.heap.size rfl (.tmp 122) (.tmp 125) 40 5 (.int .u8 0) 1 rfl Try.underlying40 info5 rfl (by decide) (by omega) gJ gH dN _ _ _ (fun k_=>some k_≠(.slice d8 dN.length d9:Value).ownBlock) (fun _=>False) rfl rfl ?aO ?aR (fun _ _ h=>h) (fun _ h=>h.elim) ?aF ?aB ?aS ?aL ?_;(case aR=>exact C_later (Kd.R_reads' aI.out).2.2);(case aB=>exact (bL HB));(case aF=>exact (fun k_ hk=>Kd.fresh' (Kd.R_lt (rL aI)) k_ hk));(case aO=>exact (R_later (Kd.R_mono bI.out (fun _ hk=>hk.2))));(case aS=>exact (below_size (bL HB)));(case aL=>have:=fD.out;omega);intro gL jC ho hb hg hat;rw [← fF.out] at ho;have bJ:=am ho;replace aA:=bgr aA hg bI;replace aE:=bgr aE hg bI;replace aI:=am (Kd.R_after (ok:=(fun _=>True)) (rL aI) hg hat);replace HB:=am hb;clear bI;clear ho hb hg hat;obtain⟨_,_,_,_,_,_,_,_,_,_⟩:=cl5 aE) | ((with_reducible refine gc 67 rfl ?_);refine gl_ (some 132) Try.func67 #[.slice (some bW) l0.length c0,.int .i64 aD] rfl ?_;(with_reducible refine (ih k2 (by have:=dC.out;have:=eB.out;omega) _ _ l0 aD dH fG _ ?side1 ?side2 iQ.out).mono ?_);(case side1=>exact cL eA HB);(case side2=>exact fN.out);rintro e jD ⟨iS,rfl,aJ,hb⟩;refine⟨_,rfl,?_⟩;have cA:=am (Kd.R_lower (Kd.R_new' (Kd.R_new' aJ (Kd.R_lt (rL aI))) (Kd.R_lt (rL bJ))) (below_size (bL HB)));replace aI:=am (Kd.R_elder' (rL aI) (Kd.R_base aJ) hb);replace bJ:=am (Kd.R_elder' (rL bJ) (Kd.R_base aJ) hb);replace aA:=bkb aA hb;replace aE:=bkb aE hb;replace HB:=bst HB hb;clear hb aJ;obtain⟨fJ,fK,gM⟩:=Kd.R_slice cA.out;subst gM) | ((with_reducible refine gate_builtin (b:=.append) (xs:=#[.tmp 135,.tmp 136]) rfl ?_);at_builtin;refine Kd.R_append_rows (Kd.int .u8) (w0:=w) w.heap.size rfl (.tmp 135) (.tmp 136) 40 5 (.int .u8 0) 1 rfl Try.underlying40 info5 rfl (by decide) (by omega) gL fE dH _ _ _ (fun k_=>some k_≠(.slice d8 dN.length d9:Value).ownBlock∧some k_≠(.slice fJ dH.length fK:Value).ownBlock) (fun _=>False) rfl rfl ?aO ?aR (fun _ _ h=>h) (fun _ h=>h.elim) ?aF ?aB ?aS ?aL ?_;(case aR=>exact C_later (Kd.R_reads' cA.out).2.2);(case aB=>exact (bL HB));(case aF=>exact (fun k_ hk=>⟨Kd.fresh' (Kd.R_lt (rL aI)) k_ hk,Kd.fresh' (Kd.R_lt (rL cA)) k_ hk⟩));(case aO=>exact (rL bJ));(case aS=>exact (below_size (bL HB)));(case aL=>have:=fH.out;omega);intro iT jE ho hb hg hat;rw [← fI.out] at ho;have fL:=am ho;replace aA:=bgr aA hg bJ;replace aE:=bgr aE hg bJ;replace aI:=am (Kd.R_after (ok:=(fun k_=>some k_≠(.slice fJ dH.length fK:Value).ownBlock)) (R_later (Kd.R_mono aI.out (fun _ hk=>⟨hk.2,hk.1.2⟩))) hg hat);replace cA:=am (Kd.R_after (ok:=(fun k_=>some k_≠(.slice d8 dN.length d9:Value).ownBlock)) (R_later (Kd.R_mono cA.out (fun _ hk=>⟨hk.1.2,hk.2⟩))) hg hat);replace HB:=am hb;clear bJ;clear ho hb hg hat))
 go_roundg k2
 case measure=>have:=dC.out;have:=eB.out;omega
 case rel=>exact⟨(fG),(gI),((rd_T49 l0 aD).f1),(wrap64 (b8 + 1)),sr,sr,sr,H',⟨by have:=dC.out;have:=eB.out;omega⟩,⟨R_later (Kd.R_mono fL.out (fun _ hk=>trivial))⟩,⟨kL aA⟩,⟨bL HB⟩⟩
/-! ### spec_TreePack: function 43 -/
def spec_TreePack.f (k:Nat)(l0:List (S49)):Option (List Int × Bool):=(spec_TreeOk.f k l0).bind fun aC=>(if aC=true then ((spec_l4Pack.f k l0 0).bind fun aA=>(some (aA.1,true))) else (some ((([]:List Int)),false)))
theorem spec_TreePack.calls {k : Nat} {A0 : Option Addr} {c0 : Nat} {l0 : List (S49)} {r1 : List Int} {r2 : Bool} {w : World} (hr0 : Kd.C k49 w A0 l0.length l0) (aM : l0.length ≤ c0) (h : spec_TreePack.f k l0 = some (r1, r2)) :
    Calls Try.prog 43 #[.slice A0 l0.length c0] w fun e w'=>∃ aN:Value,e=.returned (.tuple #[aN,.bool r2])∧Kd.R (Kd.int .u8) 5 w' w.heap.size (fun _=>True) aN r1∧Below w.heap.size w w':=by
 have aH:=am hr0
 have aI:=am aM
 clear hr0 aM
 have HB:=am (Below.refl w.heap.size w)
 have H:=h;clear h;unfold spec_TreePack.f at H
 replace H:=bnd H;obtain⟨aT,A2,H⟩:=H
 replace H:=ibt H;obtain⟨rfl,H⟩ | ⟨rfl,H⟩:=H
 · replace H:=bnd2 H;obtain⟨aJ,aK,A4,H⟩:=H;dsimp only at H
   replace H:=sj2 H;obtain⟨rfl,rfl⟩:=H
   go_enter Try.func43,Try.ntmps43
   go_wp2_with (first | ((with_reducible refine gc 26 rfl ?_);refine gc1 (some 7) Try.func26 rfl (spec_TreeOk.calls (C_later aH.out) aI.out A2.out) ?_;rintro w5 hb;replace HB:=bst HB hb;clear hb) | ((with_reducible refine gc 67 rfl ?_);refine gl_ (some 12) Try.func67 #[.slice A0 l0.length c0,.int .i64 0] rfl ?_;(with_reducible refine (spec_l4Pack.calls k _ _ l0 0 aJ aK _ ?side1 ?side2 A4.out).mono ?_);(case side1=>exact cL aH HB);(case side2=>exact aI.out);rintro e w6 ⟨aU,rfl,aQ,hb⟩;refine⟨_,rfl,?_⟩;have aD:=rlb aQ HB;replace HB:=bst HB hb;clear hb aQ))
   go_ret2
   exact⟨_,fin_ ⟨rL aD,bL HB⟩⟩
 generalize aA:((([]:List Int)):List Int)=aV at H;have aC:=am aA.symm;clear aA
 replace H:=sj2 H;obtain⟨rfl,rfl⟩:=H
 go_enter Try.func43,Try.ntmps43
 go_wp2_with (first | ((with_reducible refine gc 26 rfl ?_);refine gc1 (some 7) Try.func26 rfl (spec_TreeOk.calls (C_later aH.out) aI.out A2.out) ?_;rintro w7 hb;replace HB:=bst HB hb;clear hb) | ((with_reducible refine gd 9 rfl ?_);refine Kd.R_lit (Kd.int .u8) _ 5 ?hg (N:=9) ?hd (xs:=([]:List Int)) (inner:=[]) (ok:=fun _=>True) (okp:=fun _=>True) ?hr ?hp (fun _ hk=>hk) trivial (Below.refl _ _) (Nat.le_refl _) (by simp) ?_;(case hd=>rfl);(case hg=>rfl);(case hr=>first | (go_simp;done) | (go_simp;rfl));(case hp=>exact (Reps.none _ _));intro aW w8 aE hb hg_ hnew_;clear hg_ hnew_;(first | rw [← aC.out] at aE | (simp only [Int.reduceToNat] at aE;rw [← aC.out] at aE));have aG:=rlb aE HB;replace HB:=bst HB hb;clear hb aE))
 go_ret2
 exact⟨_,fin_ ⟨rL aG,bL HB⟩⟩
/-! ### spec_MetaPack: function 14 -/
def spec_MetaPack.f (k:Nat)(aD:List (S84))(aE:Int)(aG:List (S54)):Option (List Int × Bool):=(spec_MetaTree.f k aD aE aG).bind fun aA=>(if aA.2=true then ((spec_TreePack.f k aA.1).bind fun aC=>(some (aC.1,aC.2))) else (some ((([]:List Int)),false)))
theorem spec_MetaPack.calls {k : Nat} {aG : Option Addr} {aH : Nat} {aD : List (S84)} {aI : Int} {aJ : Option Addr} {aK : Nat} {aE : List (S54)} {r1 : List Int} {r2 : Bool} {w : World} (hr0_0 : Kd.C k84 w aG aD.length aD) (aN : aD.length ≤ aH) (hr0_2 : Kd.C k54 w aJ aE.length aE) (aQ : aE.length ≤ aK) (h : spec_MetaPack.f k aD aI aE = some (r1, r2)) :
    Calls Try.prog 14 #[.agg #[.slice aG aD.length aH,.int .i64 aI,.slice aJ aE.length aK]] w fun e w'=>∃ bC:Value,e=.returned (.tuple #[bC,.bool r2])∧Kd.R (Kd.int .u8) 5 w' w.heap.size (fun _=>True) bC r1∧Below w.heap.size w w':=by
 have hu33:=Try.underlying33
 have aT:=am hr0_0
 have aU:=am aN
 clear hr0_0 aN
 have aV:=am hr0_2
 have aW:=am aQ
 clear hr0_2 aQ
 have HB:=am (Below.refl w.heap.size w)
 have H:=h;clear h;unfold spec_MetaPack.f at H
 replace H:=bnd2 H;obtain⟨bD,bE,A2,H⟩:=H;dsimp only at H
 replace H:=ibt H;obtain⟨rfl,H⟩ | ⟨rfl,H⟩:=H
 · replace H:=bnd2 H;obtain⟨bF,bG,A4,H⟩:=H;dsimp only at H
   replace H:=sj2 H;obtain⟨rfl,rfl⟩:=H
   go_enter Try.func14,Try.ntmps14
   go_wp2_with (first | ((with_reducible refine gd 1 rfl ?_);refine bxw 1 rfl #[.slice aG aD.length aH,.int .i64 aI,.slice aJ aE.length aK] 33 HB ?_;clear HB;intro a6 w5 aA a7 a8 HB;obtain⟨_,_,_,_,_,_⟩:=cl3 aA) | ((with_reducible refine gc 6 rfl ?_);refine gl_ (some 8) Try.func6 #[.agg #[.slice aG aD.length aH,.int .i64 aI,.slice aJ aE.length aK]] rfl ?_;(with_reducible refine (spec_MetaTree.calls ?side1 ?side2 ?side3 ?side4 A2.out).mono ?_);(case side1=>exact cL aT HB);(case side2=>exact aU.out);(case side3=>exact cL aV HB);(case side4=>exact aW.out);rintro e w7 ⟨bB,rfl,aX,hb⟩;refine⟨_,rfl,?_⟩;have aC:=rlb aX HB;replace aA:=bkb aA hb;replace HB:=bst HB hb;clear hb aX;obtain⟨bM,bN,bH⟩:=Kd.R_slice aC.out;subst bH) | ((with_reducible refine gc 43 rfl ?_);refine gc2 (some 15) Try.func43 rfl (spec_TreePack.calls (C_later (Kd.R_reads' aC.out).2.2) ((Kd.R_reads' aC.out).2.1) A4.out) ?_;rintro bI w9 ⟨aX,hb⟩;have a9:=rlb aX HB;replace aC:=rbe aC hb;replace aA:=bkb aA hb;replace HB:=bst HB hb;clear hb aX))
   go_ret2
   exact⟨_,fin_ ⟨rL a9,bL HB⟩⟩
 generalize aY:((([]:List Int)):List Int)=bJ at H;have aZ:=am aY.symm;clear aY
 replace H:=sj2 H;obtain⟨rfl,rfl⟩:=H
 go_enter Try.func14,Try.ntmps14
 go_wp2_with (first | ((with_reducible refine gd 1 rfl ?_);refine bxw 1 rfl #[.slice aG aD.length aH,.int .i64 aI,.slice aJ aE.length aK] 33 HB ?_;clear HB;intro a6 bO aA a7 a8 HB;obtain⟨_,_,_,_,_,_⟩:=cl3 aA) | ((with_reducible refine gc 6 rfl ?_);refine gl_ (some 8) Try.func6 #[.agg #[.slice aG aD.length aH,.int .i64 aI,.slice aJ aE.length aK]] rfl ?_;(with_reducible refine (spec_MetaTree.calls ?side1 ?side2 ?side3 ?side4 A2.out).mono ?_);(case side1=>exact cL aT HB);(case side2=>exact aU.out);(case side3=>exact cL aV HB);(case side4=>exact aW.out);rintro e bP ⟨bB,rfl,aX,hb⟩;refine⟨_,rfl,?_⟩;have aC:=rlb aX HB;replace aA:=bkb aA hb;replace HB:=bst HB hb;clear hb aX) | ((with_reducible refine gd 13 rfl ?_);refine Kd.R_lit (Kd.int .u8) _ 5 ?hg (N:=13) ?hd (xs:=([]:List Int)) (inner:=[]) (ok:=fun _=>True) (okp:=fun _=>True) ?hr ?hp (fun _ hk=>hk) trivial (Below.refl _ _) (Nat.le_refl _) (by simp) ?_;(case hd=>rfl);(case hg=>rfl);(case hr=>first | (go_simp;done) | (go_simp;rfl));(case hp=>exact (Reps.none _ _));intro bK bQ aM hb hg_ hnew_;clear hg_ hnew_;(first | rw [← aZ.out] at aM | (simp only [Int.reduceToNat] at aM;rw [← aZ.out] at aM));have bA:=rlb aM HB;replace aC:=rbe aC hb;replace aA:=bkb aA hb;replace HB:=bst HB hb;clear hb aM))
 go_ret2
 exact⟨_,fin_ ⟨rL bA,bL HB⟩⟩
/-! ### impl_within: function 57 -/
def impl_within.f (a0:Int)(a1:Int)(a2:Int):Option (Bool):=if a0 ≥ a1 then (some (decide (a0≤a2))) else (some false)
theorem impl_within.calls {a0 a1 a2 : Int} {r : Bool} {w : World} (h : impl_within.f a0 a1 a2 = some r) :
    Calls Try.prog 57 #[.int .i64 a0,.int .i64 a1,.int .i64 a2] w fun e w'=>e=.returned (.bool r)∧Drawn0 w w':=by
 have H:=h;clear h;unfold impl_within.f at H
 replace H:=ige H;obtain⟨aA,H⟩ | ⟨aA,H⟩:=H
 · cases H
   go_enter Try.func57,Try.ntmps57
   go_wp2
   go_ret
   exact⟨sr,drl⟩
 cases H
 go_enter Try.func57,Try.ntmps57
 go_wp2
 go_ret
 exact⟨sr,drl⟩
/-! ### impl_TypeOk: function 104 -/
def impl_TypeOk.f (a0:Int):Option (Bool):=(impl_within.f a0 0 2).bind fun aA=>(if aA=true then (some true) else (if a0=5 then (some true) else (some (a0 == 6))))
theorem impl_TypeOk.calls {a0 : Int} {r : Bool} {w : World} (h : impl_TypeOk.f a0 = some r) :
    Calls Try.prog 104 #[.int .i64 a0] w fun e w'=>e=.returned (.bool r)∧Drawn0 w w':=by
 have H:=h;clear h;unfold impl_TypeOk.f at H
 replace H:=bnd H;obtain⟨aD,A2,H⟩:=H
 replace H:=ibt H;obtain⟨rfl,H⟩ | ⟨rfl,H⟩:=H
 · cases H
   go_enter Try.func104,Try.ntmps104
   go_wp2_with (first | ((with_reducible refine gc 57 rfl ?_);refine gc1 (some 4) Try.func57 rfl (impl_within.calls A2.out) ?_;rintro w' ⟨nd,rfl⟩))
   go_ret
   exact⟨sr,drl⟩
 replace H:=ieq H;obtain⟨aA,aC,H⟩ | ⟨c4,aA,aC,H⟩:=H
 · cases H
   go_enter Try.func104,Try.ntmps104
   go_wp2_with (first | ((with_reducible refine gc 57 rfl ?_);refine gc1 (some 4) Try.func57 rfl (impl_within.calls A2.out) ?_;rintro w' ⟨nd,rfl⟩))
   go_ret
   exact⟨sr,drl⟩
 cases H
 go_enter Try.func104,Try.ntmps104
 go_wp2_with (first | ((with_reducible refine gc 57 rfl ?_);refine gc1 (some 4) Try.func57 rfl (impl_within.calls A2.out) ?_;rintro w' ⟨nd,rfl⟩))
 go_ret
 exact⟨sr,drl⟩
end Go.Proofs.Ytjdapaocdkcgdaa.PFnExactMetaPack
