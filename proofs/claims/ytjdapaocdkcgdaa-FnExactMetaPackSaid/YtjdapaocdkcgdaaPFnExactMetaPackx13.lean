/- The machine's side of FnExactMetaPack: each Go function, and what its call comes to. No condition. -/
import Derived.Test.YtjdapaocdkcgdaaPFnExactMetaPackx0
import Derived.Test.YtjdapaocdkcgdaaPFnExactMetaPackx11
import Derived.Test.YtjdapaocdkcgdaaPFnExactMetaPackx12
namespace Go.Proofs.Ytjdapaocdkcgdaa.PFnExactMetaPack
open Go.RowKit Go.Proofs.YtjdapaocdkcgdaaW.PrintWords Go.Proofs.YtjdapaocdkcgdaaW.PrintLast Go.Proofs.YtjdapaocdkcgdaaW.PrintMore Go.Proofs.YtjdapaocdkcgdaaW.PrintMore2
attribute [local go_sem] max2_int min2_int max_two min_two max_three min_three max_four min_four
set_option linter.unusedVariables false
set_option linter.unusedSimpArgs false
set_option maxHeartbeats 8000000
set_option maxRecDepth 100000

/-! ### impl_chunkOk: function 59 -/
def impl_chunkOk.f (k:Nat)(aA:Int)(aC:Int)(aD:Int)(aE:Int)(aG:Int)(aH:List Int)(a1:Int):Option (Bool):=(impl_within.f aC 0 60000).bind fun aI=>(if aI=true then ((impl_within.f aD (-1) 60000).bind fun aJ=>(if aJ=true then ((impl_within.f aG 0 60000).bind fun aK=>(if aA=a1 then (if aK=true then ((impl_within.f aE 1 2000).bind fun aM=>(if aM=true then ((impl_encsRight.f k aH).bind fun aN=>(some aN)) else (some false))) else (some false)) else (some false))) else (if aA=a1 then (some false) else (some false)))) else (if aA=a1 then (some false) else (some false)))
theorem impl_chunkOk.calls {k : Nat} {aH aI aJ aK aM : Int} {aN : Option Addr} {aQ : Nat} {aC : List Int} {a1 : Int} {r : Bool} {w : World} (hr0_5 : Kd.C (Kd.int .i64) w aN aC.length aC) (aT : aC.length ≤ aQ) (h : impl_chunkOk.f k aH aI aJ aK aM aC a1 = some r) :
    Calls Try.prog 59 #[.agg #[.int .i64 aH,.int .i64 aI,.int .i64 aJ,.int .i64 aK,.int .i64 aM,.slice aN aC.length aQ],.int .i64 a1] w fun e w'=>e=.returned (.bool r)∧Below w.heap.size w w':=by
 have hu58:=Try.underlying58
 have aU:=am hr0_5
 have aV:=am aT
 clear hr0_5 aT
 have HB:=am (Below.refl w.heap.size w)
 have H:=h;clear h;unfold impl_chunkOk.f at H
 replace H:=bnd H;obtain⟨a9,A3,H⟩:=H
 replace H:=ibt H;obtain⟨rfl,H⟩ | ⟨rfl,H⟩:=H
 rotate_left
 · replace H:=ieq H;obtain⟨aW,aX,H⟩ | ⟨bF,aW,aX,H⟩:=H
   · cases H
     go_enter Try.func59,Try.ntmps59
     go_wp2_with (first | ((with_reducible refine gd 2 rfl ?_);refine bxw 2 rfl #[.int .i64 aH,.int .i64 aI,.int .i64 aJ,.int .i64 aK,.int .i64 aM,.slice aN aC.length aQ] 58 HB ?_;clear HB;intro aD bG aA aE aG HB;obtain⟨_,_,_,_,_,_,_,_,_,_,_,_⟩:=cl6 aA) | ((with_reducible refine gc 57 rfl ?_);refine gc1 (some 8) Try.func57 rfl (impl_within.calls A3.out) ?_;rintro w' ⟨nd,rfl⟩))
     go_ret
     exact fin_ (bL HB)
   cases H
   go_enter Try.func59,Try.ntmps59
   go_wp2_with (first | ((with_reducible refine gd 2 rfl ?_);refine bxw 2 rfl #[.int .i64 aH,.int .i64 aI,.int .i64 aJ,.int .i64 aK,.int .i64 aM,.slice aN aC.length aQ] 58 HB ?_;clear HB;intro aD bH aA aE aG HB;obtain⟨_,_,_,_,_,_,_,_,_,_,_,_⟩:=cl6 aA) | ((with_reducible refine gc 57 rfl ?_);refine gc1 (some 8) Try.func57 rfl (impl_within.calls A3.out) ?_;rintro w' ⟨nd,rfl⟩))
   go_ret
   exact fin_ (bL HB)
 replace H:=bnd H;obtain⟨bA,A5,H⟩:=H
 replace H:=ibt H;obtain⟨rfl,H⟩ | ⟨rfl,H⟩:=H
 rotate_left
 · replace H:=ieq H;obtain⟨aY,aZ,H⟩ | ⟨bI,aY,aZ,H⟩:=H
   · cases H
     go_enter Try.func59,Try.ntmps59
     go_wp2_with (first | ((with_reducible refine gd 2 rfl ?_);refine bxw 2 rfl #[.int .i64 aH,.int .i64 aI,.int .i64 aJ,.int .i64 aK,.int .i64 aM,.slice aN aC.length aQ] 58 HB ?_;clear HB;intro aD bJ aA aE aG HB;obtain⟨_,_,_,_,_,_,_,_,_,_,_,_⟩:=cl6 aA) | ((with_reducible refine gc 57 rfl ?_);refine gc1 (some 8) Try.func57 rfl (impl_within.calls A3.out) ?_;rintro w' ⟨nd,rfl⟩) | (go_at_call 57;(with_reducible refine (impl_within.calls A5.out).mono ?_);rintro e w' ⟨rfl,⟨nd,rfl⟩⟩))
     go_ret
     exact fin_ (bL HB)
   cases H
   go_enter Try.func59,Try.ntmps59
   go_wp2_with (first | ((with_reducible refine gd 2 rfl ?_);refine bxw 2 rfl #[.int .i64 aH,.int .i64 aI,.int .i64 aJ,.int .i64 aK,.int .i64 aM,.slice aN aC.length aQ] 58 HB ?_;clear HB;intro aD bK aA aE aG HB;obtain⟨_,_,_,_,_,_,_,_,_,_,_,_⟩:=cl6 aA) | ((with_reducible refine gc 57 rfl ?_);refine gc1 (some 8) Try.func57 rfl (impl_within.calls A3.out) ?_;rintro w' ⟨nd,rfl⟩) | (go_at_call 57;(with_reducible refine (impl_within.calls A5.out).mono ?_);rintro e w' ⟨rfl,⟨nd,rfl⟩⟩))
   go_ret
   exact fin_ (bL HB)
 replace H:=bnd H;obtain⟨bB,A7,H⟩:=H
 replace H:=ieq H;obtain⟨a6,a7,H⟩ | ⟨c8,a6,a7,H⟩:=H
 rotate_left
 · cases H
   go_enter Try.func59,Try.ntmps59
   go_wp2_with (first | ((with_reducible refine gd 2 rfl ?_);refine bxw 2 rfl #[.int .i64 aH,.int .i64 aI,.int .i64 aJ,.int .i64 aK,.int .i64 aM,.slice aN aC.length aQ] 58 HB ?_;clear HB;intro aD bM aA aE aG HB;obtain⟨_,_,_,_,_,_,_,_,_,_,_,_⟩:=cl6 aA) | ((with_reducible refine gc 57 rfl ?_);refine gc1 (some 8) Try.func57 rfl (impl_within.calls A3.out) ?_;rintro w' ⟨nd,rfl⟩) | (go_at_call 57;(with_reducible refine (impl_within.calls A5.out).mono ?_);rintro e w' ⟨rfl,⟨nd,rfl⟩⟩) | (go_at_call 57;(with_reducible refine (impl_within.calls A7.out).mono ?_);rintro e w' ⟨rfl,⟨nd,rfl⟩⟩))
   go_ret
   exact fin_ (bL HB)
 replace H:=ibt H;obtain⟨rfl,H⟩ | ⟨rfl,H⟩:=H
 rotate_left
 · cases H
   go_enter Try.func59,Try.ntmps59
   go_wp2_with (first | ((with_reducible refine gd 2 rfl ?_);refine bxw 2 rfl #[.int .i64 aH,.int .i64 aI,.int .i64 aJ,.int .i64 aK,.int .i64 aM,.slice aN aC.length aQ] 58 HB ?_;clear HB;intro aD bN aA aE aG HB;obtain⟨_,_,_,_,_,_,_,_,_,_,_,_⟩:=cl6 aA) | ((with_reducible refine gc 57 rfl ?_);refine gc1 (some 8) Try.func57 rfl (impl_within.calls A3.out) ?_;rintro w' ⟨nd,rfl⟩) | (go_at_call 57;(with_reducible refine (impl_within.calls A5.out).mono ?_);rintro e w' ⟨rfl,⟨nd,rfl⟩⟩) | (go_at_call 57;(with_reducible refine (impl_within.calls A7.out).mono ?_);rintro e w' ⟨rfl,⟨nd,rfl⟩⟩))
   go_ret
   exact fin_ (bL HB)
 replace H:=bnd H;obtain⟨bC,a8,H⟩:=H
 replace H:=ibt H;obtain⟨rfl,H⟩ | ⟨rfl,H⟩:=H
 rotate_left
 · cases H
   go_enter Try.func59,Try.ntmps59
   go_wp2_with (first | ((with_reducible refine gd 2 rfl ?_);refine bxw 2 rfl #[.int .i64 aH,.int .i64 aI,.int .i64 aJ,.int .i64 aK,.int .i64 aM,.slice aN aC.length aQ] 58 HB ?_;clear HB;intro aD bO aA aE aG HB;obtain⟨_,_,_,_,_,_,_,_,_,_,_,_⟩:=cl6 aA) | ((with_reducible refine gc 57 rfl ?_);refine gc1 (some 8) Try.func57 rfl (impl_within.calls A3.out) ?_;rintro w' ⟨nd,rfl⟩) | (go_at_call 57;(with_reducible refine (impl_within.calls A5.out).mono ?_);rintro e w' ⟨rfl,⟨nd,rfl⟩⟩) | (go_at_call 57;(with_reducible refine (impl_within.calls A7.out).mono ?_);rintro e w' ⟨rfl,⟨nd,rfl⟩⟩) | (go_at_call 57;(with_reducible refine (impl_within.calls a8.out).mono ?_);rintro e w' ⟨rfl,⟨nd,rfl⟩⟩))
   go_ret
   exact fin_ (bL HB)
 replace H:=bnd H;obtain⟨bD,bE,H⟩:=H
 cases H
 go_enter Try.func59,Try.ntmps59
 go_wp2_with (first | ((with_reducible refine gd 2 rfl ?_);refine bxw 2 rfl #[.int .i64 aH,.int .i64 aI,.int .i64 aJ,.int .i64 aK,.int .i64 aM,.slice aN aC.length aQ] 58 HB ?_;clear HB;intro aD bP aA aE aG HB;obtain⟨_,_,_,_,_,_,_,_,_,_,_,_⟩:=cl6 aA) | ((with_reducible refine gc 57 rfl ?_);refine gc1 (some 8) Try.func57 rfl (impl_within.calls A3.out) ?_;rintro w' ⟨nd,rfl⟩) | (go_at_call 57;(with_reducible refine (impl_within.calls A5.out).mono ?_);rintro e w' ⟨rfl,⟨nd,rfl⟩⟩) | (go_at_call 57;(with_reducible refine (impl_within.calls A7.out).mono ?_);rintro e w' ⟨rfl,⟨nd,rfl⟩⟩) | (go_at_call 57;(with_reducible refine (impl_within.calls a8.out).mono ?_);rintro e w' ⟨rfl,⟨nd,rfl⟩⟩) | (go_at_call 75;(with_reducible refine (impl_encsRight.calls ?side1 ?side2 bE.out).mono ?_);(case side1=>repeat (first | exact (Kd.C_below aU.out (bL HB)) | (with_reducible refine Kd.C_alloc ?_ _) | (with_reducible refine Kd.C_drewN ?_ _) | (with_reducible refine Kd.C_drew ?_)));(case side2=>exact aV.out);rintro e w' ⟨rfl,⟨nd,rfl⟩⟩))
 go_ret
 exact fin_ (bL HB)
/-! ### impl_MetaOk: function 29 -/
mutual
def impl_MetaOk.j0:Nat→Bool→List (S84)→Int→List (S54)→Option (Bool)
  | 0,_,_,_,_=>none
  | k + 1,aE,aC,aD,aA=>if aE=true then (some false) else (impl_MetaOk.l0 k 0 aA (aA.length:Int) 0 aC aD aA)
def impl_MetaOk.l0:Nat→Int→List (S54)→Int→Int→List (S84)→Int→List (S54)→Option (Bool)
  | 0,_,_,_,_,_,_,_=>none
  | k + 1,x3,aG,aH,aE,aA,aC,aD=>if aE < aH then (if 0≤aE then (if aE < (aG.length:Int) then ((impl_within.f ((rd_T54 aG aE).f0) 1 200).bind fun aI=>(if aI=true then ((impl_leavesOf.f k aA).bind fun aJ=>(impl_MetaOk.j2 k x3 aG aH aE ((((rd_T54 aG aE).f1).length:Int) != (aJ.length:Int)) aA aC aD ((rd_T54 aG aE).f0) ((rd_T54 aG aE).f1))) else (impl_MetaOk.j2 k x3 aG aH aE true aA aC aD ((rd_T54 aG aE).f0) ((rd_T54 aG aE).f1)))) else (none)) else (none)) else (if x3=aC then (some (decide (x3≤200))) else (some false))
def impl_MetaOk.j2:Nat→Int→List (S54)→Int→Int→Bool→List (S84)→Int→List (S54)→Int→List (S58)→Option (Bool)
  | 0,_,_,_,_,_,_,_,_,_,_=>none
  | k + 1,x3,aH,aI,aJ,aK,aC,aD,aE,aG,aA=>if aK=true then (some false) else (impl_MetaOk.l1 k x3 aH aI aJ aA (aA.length:Int) 0 aC aD aE aG aA)
def impl_MetaOk.l1:Nat→Int→List (S54)→Int→Int→List (S58)→Int→Int→List (S84)→Int→List (S54)→Int→List (S58)→Option (Bool)
  | 0,_,_,_,_,_,_,_,_,_,_,_,_=>none
  | k + 1,x3,aK,aM,aN,aI,aQ,aG,aA,aC,aD,aE,aH=>if aG < aQ then (if 0≤aG then (if aG < (aI.length:Int) then ((impl_chunkOk.f k ((rd_T58 aI aG).f0) ((rd_T58 aI aG).f1) ((rd_T58 aI aG).f2) ((rd_T58 aI aG).f3) ((rd_T58 aI aG).f4) ((rd_T58 aI aG).f5) aG).bind fun aJ=>(if aJ=true then (impl_MetaOk.l1 k x3 aK aM aN aI aQ (wrap64 (aG + 1)) aA aC aD aE aH) else (some false))) else (none)) else (none)) else (impl_MetaOk.l0 k (wrap64 (x3 + aE)) aK aM (wrap64 (aN + 1)) aA aC aD)
end
def impl_MetaOk.f (k:Nat)(aA:List (S84))(aD:Int)(aC:List (S54)):Option (Bool):=(impl_SchemaOk.f k aA).bind fun aE=>(if aE=true then (impl_MetaOk.j0 k (decide ((aC.length:Int) > 40)) aA aD aC) else (impl_MetaOk.j0 k true aA aD aC))
def impl_MetaOk.T7:Bool × List (List Nat × List Nat):=(true,[([],[]),([0],[0]),([1],[1]),([2],[2]),([3,2],[3]),([4],[4]),([5,4],[4,5]),([6,4],[4,6]),([4],[4]),([8,4],[4,8]),([9,4,4],[4,9]),([10,4],[4,10]),([7,11,4],[4,7,11]),([4,12],[4,12])])
def impl_MetaOk.B7:List Nat:=[0,1,3,7,15,31,63,127,31,287,799,1823,4095,8191]
theorem impl_MetaOk.tab7:rtab .any (opsOf Try.f29 7)=impl_MetaOk.T7:=by kernel_rfl
theorem impl_MetaOk.bits7:waitsOk impl_MetaOk.T7.2 impl_MetaOk.B7=true:=by kernel_rfl
theorem impl_MetaOk.calls {k : Nat} {a6 : Option Addr} {a7 : Nat} {aK : List (S84)} {aM : Int} {cA : Option Addr} {bE : Nat} {aD : List (S54)} {r : Bool} {w : World} (hr0_0 : Kd.C k84 w a6 aK.length aK) (cO : aK.length ≤ a7) (hr0_2 : Kd.C k54 w cA aD.length aD) (cP : aD.length ≤ bE) (h : impl_MetaOk.f k aK aM aD = some r) :
    Calls Try.prog 29 #[.agg #[.slice a6 aK.length a7,.int .i64 aM,.slice cA aD.length bE]] w fun e w'=>e=.returned (.bool r)∧Below w.heap.size w w':=by
 have hu33:=Try.underlying33
 have hu54:=Try.underlying54
 have hu58:=Try.underlying58
 have cB:=am hr0_0
 have cC:=am cO
 clear hr0_0 cO
 have dB:=am hr0_2
 have dP:=am cP
 clear hr0_2 cP
 have HB:=am (Below.refl w.heap.size w)
 have H:=h;clear h;unfold impl_MetaOk.f at H
 have dM:=am H
 clear H
 go_enter Try.func29,Try.ntmps29
 go_upto_region 1 with (first | ((with_reducible refine gd 1 rfl ?_);(try refine gg ?_;dsimp only);refine bxw 1 rfl #[.slice a6 aK.length a7,.int .i64 aM,.slice cA aD.length bE] 33 HB ?_;clear HB;intro aN w3 aC dQ dR HB))
 (try simp only [Act.put,List.setIfInBounds_toArray,List.set_cons_zero,List.set_cons_succ])
 go_cut [17] (fun v17 wc=>∃ (kq:Nat) (cD:Bool),v17=.bool cD∧Aside0 (impl_MetaOk.j0 kq cD aK aM aD=some r)∧Aside0 (kq≤k)∧Aside0 (wc.heap[aN]?=some (.cells #[(.slice a6 aK.length a7),.int .i64 aM,(.slice cA aD.length bE)] 33 (0,0)))∧Aside0 (Below w.heap.size w wc))
 case first =>
  have H:=dM.out
  clear dM
  replace H:=bnd H;obtain⟨eG,A4,H⟩:=H
  replace H:=ibt H;obtain⟨rfl,H⟩ | ⟨rfl,H⟩:=H
  rotate_left
  · have H':=am H;clear H
    obtain⟨_,_,_,_,_,_⟩:=cl3 aC
    go_wp2_with (first | ((with_reducible refine gc 56 rfl ?_);refine gl_ (some 10) Try.func56 #[.slice a6 aK.length a7] rfl ?_;(with_reducible refine (impl_SchemaOk.calls ?side1 ?side2 A4.out).mono ?_);(case side1=>exact cL cB HB);(case side2=>exact cC.out);rintro e eQ ⟨rfl,hb⟩;refine⟨_,rfl,?_⟩;replace aC:=bkb aC hb;replace HB:=bst HB hb;clear hb))
    go_meet
    case rel=>exact⟨_,(true),sr,H',⟨by first | omega | exact Nat.le_refl _⟩,⟨kL aC⟩,⟨bL HB⟩⟩
  have H':=am H;clear H
  obtain⟨_,_,_,_,_,_⟩:=cl3 aC
  go_wp2_with (first | ((with_reducible refine gc 56 rfl ?_);refine gl_ (some 10) Try.func56 #[.slice a6 aK.length a7] rfl ?_;(with_reducible refine (impl_SchemaOk.calls ?side1 ?side2 A4.out).mono ?_);(case side1=>exact cL cB HB);(case side2=>exact cC.out);rintro e w7 ⟨rfl,hb⟩;refine⟨_,rfl,?_⟩;replace aC:=bkb aC hb;replace HB:=bst HB hb;clear hb;obtain⟨_,_,_,_,_,_⟩:=cl3 aC))
  go_meet
  case rel=>exact⟨_,(decide ((aD.length:Int) > 40)),sr,H',⟨by first | omega | exact Nat.le_refl _⟩,⟨kL aC⟩,⟨bL HB⟩⟩
 clear dM
 obtain⟨kq,cD,rfl,HA,cY,aC,HB⟩:=hcut
 cases kq with
 | zero=>exact absurd HA.out (by simp [impl_MetaOk.j0])
 | succ kj1=>?_
 have H:=HA.out
 clear HA
 simp only [impl_MetaOk.j0] at H
 replace H:=ibt H;obtain⟨rfl,H⟩ | ⟨rfl,H⟩:=H
 · cases H
   go_wp2
   go_ret
   exact fin_ (bL HB)
 have H':=am H;clear H
 obtain⟨bF,bG,bH,bI,bJ,bK⟩:=cl3 aC
 go_wp2
 go_loopg [3,21] kj1 (fun kq v3 v21 w'=>∃ (b7:Int) (aA:Int),v3=.int .i64 b7∧v21=.int .i64 aA∧Aside0 (impl_MetaOk.l0 kq b7 aD (aD.length:Int) aA aK aM aD=some r)∧Aside0 (kq≤kj1)∧Aside0 (w'.heap[aN]?=some (.cells #[(.slice a6 aK.length a7),.int .i64 aM,(.slice cA aD.length bE)] 33 (0,0)))∧Aside0 (Below w.heap.size w w'))
 case atStart=>exact⟨(0),(0),sr,sr,H',⟨Nat.le_refl _⟩,⟨kL aC⟩,⟨bL HB⟩⟩
 clear H'
 try clear dS bF bG bH bI bJ bK
 obtain⟨b7,aA,rfl,rfl,HA,cZ,aC,HB⟩:=hrel
 cases gk with
 | zero=>exact absurd HA.out (by simp [impl_MetaOk.l0])
 | succ k2=>?_
 have H:=HA.out
 clear HA
 simp only [impl_MetaOk.l0] at H
 replace H:=idc H;obtain⟨cE,H⟩ | ⟨cE,H⟩:=H
 rotate_left
 · replace H:=ieq H;obtain⟨dC,dD,H⟩ | ⟨eR,dC,dD,H⟩:=H
   · cases H
     obtain⟨_,_,_,_,_,_⟩:=cl3 aC
     go_wp2
     go_ret
     exact fin_ (bL HB)
   cases H
   obtain⟨_,_,_,_,_,_⟩:=cl3 aC
   go_wp2
   go_ret
   exact fin_ (bL HB)
 replace H:=if_dd H;obtain⟨cQ,cR,H⟩:=H
 have cT:=am H
 clear H
 have cF:0≤(aA:Int):=dcd
 have cG:aA < (aD.length:Int):=dcd
 obtain⟨bO,aI,aJ,dN,bB,bC,bU,bV⟩:=at_T54 dB.out aA cF cG
 cases dN
 replace bB:=crd HB bB
 replace bC:=crd HB bC
 have bW:=am bV
 have dK:=am bU
 clear bV bU
 replace cF:=eq_true cF
 replace cG:=eq_true cG
 go_upto_region 7 with (first | ((with_reducible refine gd 5 rfl ?_);(try refine gg ?_;dsimp only);refine bxv 5 rfl #[.int .i64 0,.slice none 0 0] 54 HB ?_;clear HB;intro aG cS aE dT dU HB hg hb;obtain⟨dA,a8⟩:=nbp (nbl aC hg);replace aC:=bkb aC hb;clear hg hb;obtain⟨dV,dW⟩:=nbo a8;obtain⟨bX,bY,bZ,b6⟩:=cl2 aE))
 (try simp only [Act.put,List.setIfInBounds_toArray,List.set_cons_zero,List.set_cons_succ])
 go_cut [38] (fun v38 wc=>∃ (kq:Nat) (bP:Bool),v38=.bool bP∧Aside0 (impl_MetaOk.j2 kq b7 aD (aD.length:Int) aA bP aK aM aD ((rd_T54 aD aA).f0) ((rd_T54 aD aA).f1)=some r)∧Aside0 (kq≤k2)∧Aside0 (wc.heap[aN]?=some (.cells #[(.slice a6 aK.length a7),.int .i64 aM,(.slice (some bO) aD.length bE)] 33 (0,0)))∧Aside0 (wc.heap[aG]?=some (.cells #[.int .i64 ((rd_T54 aD aA).f0),(.slice aI ((rd_T54 aD aA).f1).length aJ)] 54 (0,0)))∧Aside0 (Below w.heap.size w wc))
 case first =>
  have H:=cT.out
  clear cT
  replace H:=bnd H;obtain⟨eH,dX,H⟩:=H
  replace H:=ibt H;obtain⟨rfl,H⟩ | ⟨rfl,H⟩:=H
  rotate_left
  · have H':=am H;clear H
    try go_wp2
    have cU:Aside0 (((cS.setCell ⟨aG,0,none⟩ (.int .i64 ((rd_T54 aD aA).f0))).setCell ⟨aG,1,none⟩ (.slice aI ((rd_T54 aD aA).f1).length aJ)).heap[aN]?=some (.cells #[.slice a6 aK.length a7,.int .i64 aM,.slice (some bO) aD.length bE] 33 (0,0))):=⟨blk_later aC.out⟩
    have cV:Aside0 (((cS.setCell ⟨aG,0,none⟩ (.int .i64 ((rd_T54 aD aA).f0))).setCell ⟨aG,1,none⟩ (.slice aI ((rd_T54 aD aA).f1).length aJ)).heap[aG]?=some (.cells #[.int .i64 ((rd_T54 aD aA).f0),.slice aI ((rd_T54 aD aA).f1).length aJ] 54 (0,0))):=⟨blk_later aE.out⟩
    have cW:Aside0 (Below w.heap.size w ((cS.setCell ⟨aG,0,none⟩ (.int .i64 ((rd_T54 aD aA).f0))).setCell ⟨aG,1,none⟩ (.slice aI ((rd_T54 aD aA).f1).length aJ))):=⟨bL HB⟩
    (try clear aC)
    (try clear aE)
    (try clear HB)
    generalize ((cS.setCell ⟨aG,0,none⟩ (.int .i64 ((rd_T54 aD aA).f0))).setCell ⟨aG,1,none⟩ (.slice aI ((rd_T54 aD aA).f1).length aJ))=eI at cU cV cW ⊢
    have aC:=cU
    have aE:=cV
    have HB:=cW
    clear cU cV cW
    replace aC:=bdr aC
    replace aE:=bdr aE
    replace HB:=bld HB
    refine start_ (n:=14) (S:=fun w'=>w'.cell? ⟨aG,0,none⟩=some (.int .i64 ((rd_T54 aD aA).f0))∧w'.cell? ⟨aG,1,none⟩=some (.slice aI ((rd_T54 aD aA).f1).length aJ)) (ds:=[]) #[false,false,false,false,false,false,false,false,false,false,false,false,false,false] (by kernel_rfl) rfl rfl ⟨bcl aE 0,bcl aE 1⟩ (fun hHeld=>?_);refine with_tabW impl_MetaOk.tab7 impl_MetaOk.bits7 (fun HT_ HW_=>?_)
    generalize eI.drew=eS at aC aE HB hHeld ⊢
    refine pu_ 0 25 ?_;refine tk_ 1 26 hHeld ?_
    refine on_ 2 27 (fun K hK=>?_)
    refine gs_ Try.func57 #[.int .i64 ((rd_T54 aD aA).f0),.int .i64 1,.int .i64 200] rfl ?_
    with_reducible refine (impl_within.calls dX.out).mono ?_
    rintro e w' ⟨rfl,⟨nd,rfl⟩⟩
    refine⟨_,rfl,?_⟩
    refine hK.out _ _ ⟨bcl aE 0,bcl aE 1⟩ (fun hHeld=>?_)
    clear hK K
    refine no_ (some 27) ?_;refine pu_ 3 28 ?_;refine pu_ 4 29 ?_;refine pn_ 5 30 ?_;refine pn_ 6 31 ?_;refine pn_ 7 32 ?_;refine pn_ 8 33 ?_;refine pn_ 9 34 ?_;refine pn_ 10 35 ?_;refine pn_ 11 36 ?_;refine pn_ 12 37 ?_;refine pu_ 13 38 ?_
    refine done_ (done_of HT_.out (by kernel_rfl)) ?_
    try go_wp2
    go_meet
    case rel=>exact⟨_,(true),sr,H',⟨by have:=cY.out;have:=cZ.out;first | omega | exact Nat.le_refl _⟩,⟨kL aC⟩,⟨kL aE⟩,⟨bL HB⟩⟩
  replace H:=bnd H;obtain⟨dO,eJ,H⟩:=H
  have H':=am H;clear H
  try go_wp2
  have cU:Aside0 (((cS.setCell ⟨aG,0,none⟩ (.int .i64 ((rd_T54 aD aA).f0))).setCell ⟨aG,1,none⟩ (.slice aI ((rd_T54 aD aA).f1).length aJ)).heap[aN]?=some (.cells #[.slice a6 aK.length a7,.int .i64 aM,.slice (some bO) aD.length bE] 33 (0,0))):=⟨blk_later aC.out⟩
  have cV:Aside0 (((cS.setCell ⟨aG,0,none⟩ (.int .i64 ((rd_T54 aD aA).f0))).setCell ⟨aG,1,none⟩ (.slice aI ((rd_T54 aD aA).f1).length aJ)).heap[aG]?=some (.cells #[.int .i64 ((rd_T54 aD aA).f0),.slice aI ((rd_T54 aD aA).f1).length aJ] 54 (0,0))):=⟨blk_later aE.out⟩
  have cW:Aside0 (Below w.heap.size w ((cS.setCell ⟨aG,0,none⟩ (.int .i64 ((rd_T54 aD aA).f0))).setCell ⟨aG,1,none⟩ (.slice aI ((rd_T54 aD aA).f1).length aJ))):=⟨bL HB⟩
  (try clear aC)
  (try clear aE)
  (try clear HB)
  generalize ((cS.setCell ⟨aG,0,none⟩ (.int .i64 ((rd_T54 aD aA).f0))).setCell ⟨aG,1,none⟩ (.slice aI ((rd_T54 aD aA).f1).length aJ))=eK at cU cV cW ⊢
  have aC:=cU
  have aE:=cV
  have HB:=cW
  clear cU cV cW
  replace aC:=bdr aC
  replace aE:=bdr aE
  replace HB:=bld HB
  refine start_ (n:=14) (S:=fun w'=>w'.cell? ⟨aG,0,none⟩=some (.int .i64 ((rd_T54 aD aA).f0))∧w'.cell? ⟨aG,1,none⟩=some (.slice aI ((rd_T54 aD aA).f1).length aJ)∧w'.cell? ⟨aN,0,none⟩=some (.slice a6 aK.length a7)∧w'.cell? ⟨aN,1,none⟩=some (.int .i64 aM)∧w'.cell? ⟨aN,2,none⟩=some (.slice (some bO) aD.length bE)) (ds:=[]) #[false,false,false,false,false,false,false,false,false,false,false,false,false,false] (by kernel_rfl) rfl rfl ⟨bcl aE 0,bcl aE 1,bcl aC 0,bcl aC 1,bcl aC 2⟩ (fun hHeld=>?_);refine with_tabW impl_MetaOk.tab7 impl_MetaOk.bits7 (fun HT_ HW_=>?_)
  generalize eK.drew=eT at aC aE HB hHeld ⊢
  refine pu_ 0 25 ?_;refine tk_ 1 26 hHeld ?_
  refine on_ 2 27 (fun K hK=>?_)
  refine gs_ Try.func57 #[.int .i64 ((rd_T54 aD aA).f0),.int .i64 1,.int .i64 200] rfl ?_
  with_reducible refine (impl_within.calls dX.out).mono ?_
  rintro e w' ⟨rfl,⟨nd,rfl⟩⟩
  refine⟨_,rfl,?_⟩
  refine hK.out _ _ ⟨bcl aE 0,bcl aE 1,bcl aC 0,bcl aC 1,bcl aC 2⟩ (fun hHeld=>?_)
  clear hK K
  refine no_ (some 27) ?_;refine pu_ 3 28 ?_;refine pu_ 4 29 ?_;refine pu_ 5 30 ?_;refine pu_ 8 33 ?_;refine tk_ 6 31 hHeld ?_;refine pu_ 7 32 ?_;refine tk_ 9 34 hHeld ?_
  refine on_ 10 35 (fun K hK=>?_)
  refine gs_ Try.func58 #[.slice a6 aK.length a7] rfl ?_
  with_reducible refine (impl_leavesOf.calls ?side1 ?side2 eJ.out).mono ?_
  (case side1=>repeat (first | exact (Kd.C_below cB.out (bL HB)) | (with_reducible refine Kd.C_alloc ?_ _) | (with_reducible refine Kd.C_drewN ?_ _) | (with_reducible refine Kd.C_drew ?_)))
  (case side2=>exact cC.out)
  rintro e eU ⟨eL,rfl,dY,hb⟩
  refine⟨_,rfl,?_⟩
  have dE:=rlb dY HB
  replace aC:=bkb aC hb
  replace aE:=bkb aE hb
  replace HB:=bst HB hb
  (try clear hb)
  (try clear eV)
  (try clear hk)
  (try clear hi)
  (try clear dY)
  obtain⟨eM,eN,dF⟩:=Kd.R_slice dE.out
  (first | subst dF | (injection dF with f1_ f2_ f3_;have f4_:=f1_.symm;have f5_:=f3_.symm;clear f1_ f2_ f3_;subst f4_;subst f5_))
  refine hK.out _ _ ⟨bcl aE 0,bcl aE 1,bcl aC 0,bcl aC 1,bcl aC 2⟩ (fun hHeld=>?_)
  clear hK K
  refine no_ (some 35) ?_;refine pu_ 11 36 ?_;refine pu_ 12 37 ?_;refine pu_ 13 38 ?_
  refine done_ (done_of HT_.out (by kernel_rfl)) ?_
  try go_wp2
  go_meet
  case rel=>exact⟨_,(((((rd_T54 aD aA).f1).length:Int) != (dO.length:Int))),sr,H',⟨by have:=cY.out;have:=cZ.out;first | omega | exact Nat.le_refl _⟩,⟨kL aC⟩,⟨kL aE⟩,⟨bL HB⟩⟩
 clear cT
 try clear dS eO cE cQ cR bF bG bH bX bY bI bJ bK bZ b6 bB bC cF cG
 obtain⟨kq,bP,rfl,HA,cI,aC,aE,HB⟩:=hcut
 cases kq with
 | zero=>exact absurd HA.out (by simp [impl_MetaOk.j2])
 | succ kj15=>?_
 have H:=HA.out
 clear HA
 simp only [impl_MetaOk.j2] at H
 replace H:=ibt H;obtain⟨rfl,H⟩ | ⟨rfl,H⟩:=H
 · cases H
   go_wp2
   go_ret
   exact fin_ (bL HB)
 have H':=am H;clear H
 obtain⟨dZ,d2⟩:=nbo a8
 obtain⟨cJ,cK,cM,cN⟩:=cl2 aE
 go_wp2
 go_loopg [42] kj15 (fun kq v42 w'=>∃ (aH:Int),v42=.int .i64 aH∧Aside0 (impl_MetaOk.l1 kq b7 aD (aD.length:Int) aA ((rd_T54 aD aA).f1) (((rd_T54 aD aA).f1).length:Int) aH aK aM aD ((rd_T54 aD aA).f0) ((rd_T54 aD aA).f1)=some r)∧Aside0 (kq≤kj15)∧Aside0 (w'.heap[aN]?=some (.cells #[(.slice a6 aK.length a7),.int .i64 aM,(.slice (some bO) aD.length bE)] 33 (0,0)))∧Aside0 (w'.heap[aG]?=some (.cells #[.int .i64 ((rd_T54 aD aA).f0),(.slice aI ((rd_T54 aD aA).f1).length aJ)] 54 (0,0)))∧Aside0 (Below w.heap.size w w'))
 case atStart=>exact⟨(0),sr,H',⟨Nat.le_refl _⟩,⟨kL aC⟩,⟨kL aE⟩,⟨bL HB⟩⟩
 clear H'
 try clear dS eO cE cQ cR eW bF bG bH bX bY cJ cK bI bJ bK bZ b6 cM cN bB bC cF cG
 obtain⟨aH,rfl,HA,dL,aC,aE,HB⟩:=hrel
 cases gk with
 | zero=>exact absurd HA.out (by simp [impl_MetaOk.l1])
 | succ k4=>?_
 have H:=HA.out
 clear HA
 simp only [impl_MetaOk.l1] at H
 replace H:=idc H;obtain⟨dG,H⟩ | ⟨dG,H⟩:=H
 rotate_left
 · have H':=am H;clear H
   obtain⟨d3,d4⟩:=nbo a8
   obtain⟨_,_,_,_⟩:=cl2 aE
   go_wp2
   go_roundg k4
   case measure=>have:=cY.out;have:=cZ.out;have:=cI.out;have:=dL.out;omega
   case rel=>exact⟨(wrap64 (b7 + ((rd_T54 aD aA).f0))),(wrap64 (aA + 1)),sr,sr,H',⟨by have:=cY.out;have:=cZ.out;have:=cI.out;have:=dL.out;omega⟩,⟨kL aC⟩,⟨bL HB⟩⟩
 replace H:=if_dd H;obtain⟨d5,d6,H⟩:=H
 replace H:=bnd H;obtain⟨eP,d7,H⟩:=H
 replace H:=ibt H;obtain⟨rfl,H⟩ | ⟨rfl,H⟩:=H
 rotate_left
 · cases H
   have bQ:0≤(aH:Int):=dcd
   have bR:aH < (((rd_T54 aD aA).f1).length:Int):=dcd
   obtain⟨dH,bS,bT,cX,aQ,aT,aU,aV,aW,aX,aY,aZ⟩:=at_T58 bW.out aH bQ bR
   cases cX
   replace aQ:=crd HB aQ
   replace aT:=crd HB aT
   replace aU:=crd HB aU
   replace aV:=crd HB aV
   replace aW:=crd HB aW
   replace aX:=crd HB aX
   have bM:=am aZ
   have bN:=am aY
   clear aZ aY
   replace bQ:=eq_true bQ
   replace bR:=eq_true bR
   go_wp2_with (first | ((with_reducible refine gd 7 rfl ?_);(try refine gg ?_;dsimp only);refine bxv 7 rfl #[.int .i64 0,.int .i64 0,.int .i64 0,.int .i64 0,.int .i64 0,.slice none 0 0] 58 HB ?_;clear HB;intro cH eX bD dI dJ HB hg hb;obtain⟨b8,a9⟩:=nbp (nbl aC hg);obtain⟨b9,bA⟩:=nbp (nbl aE hg);replace aC:=bkb aC hb;replace aE:=bkb aE hb;clear hg hb;obtain⟨d8,d9⟩:=nbo a9;obtain⟨eA,eB⟩:=nbo bA;obtain⟨_,_,_,_,_,_,_,_,_,_,_,_⟩:=cl6 bD) | ((with_reducible refine gc 59 rfl ?_);refine gc1 (some 49) Try.func59 rfl (impl_chunkOk.calls (Kd.C_below bM.out (bL HB)) bN.out d7.out) ?_;rintro eY hb;replace aC:=bkb aC hb;replace aE:=bkb aE hb;replace bD:=am (blk_below (g:=cH) (o:=.cells #[.int .i64 ((rd_T58 ((rd_T54 aD aA).f1) aH).f0),.int .i64 ((rd_T58 ((rd_T54 aD aA).f1) aH).f1),.int .i64 ((rd_T58 ((rd_T54 aD aA).f1) aH).f2),.int .i64 ((rd_T58 ((rd_T54 aD aA).f1) aH).f3),.int .i64 ((rd_T58 ((rd_T54 aD aA).f1) aH).f4),.slice bS ((rd_T58 ((rd_T54 aD aA).f1) aH).f5).length bT] 58 (0,0)) (blk_later bD.out) hb);replace HB:=bst HB hb;clear hb))
   go_ret
   exact fin_ (bL HB)
 have H':=am H;clear H
 have bQ:0≤(aH:Int):=dcd
 have bR:aH < (((rd_T54 aD aA).f1).length:Int):=dcd
 obtain⟨dH,bS,bT,cX,aQ,aT,aU,aV,aW,aX,aY,aZ⟩:=at_T58 bW.out aH bQ bR
 cases cX
 replace aQ:=crd HB aQ
 replace aT:=crd HB aT
 replace aU:=crd HB aU
 replace aV:=crd HB aV
 replace aW:=crd HB aW
 replace aX:=crd HB aX
 have bM:=am aZ
 have bN:=am aY
 clear aZ aY
 replace bQ:=eq_true bQ
 replace bR:=eq_true bR
 go_wp2_with (first | ((with_reducible refine gd 7 rfl ?_);(try refine gg ?_;dsimp only);refine bxv 7 rfl #[.int .i64 0,.int .i64 0,.int .i64 0,.int .i64 0,.int .i64 0,.slice none 0 0] 58 HB ?_;clear HB;intro cH eZ bD dI dJ HB hg hb;obtain⟨b8,a9⟩:=nbp (nbl aC hg);obtain⟨b9,bA⟩:=nbp (nbl aE hg);replace aC:=bkb aC hb;replace aE:=bkb aE hb;clear hg hb;obtain⟨eC,eD⟩:=nbo a9;obtain⟨eE,eF⟩:=nbo bA;obtain⟨_,_,_,_,_,_,_,_,_,_,_,_⟩:=cl6 bD) | ((with_reducible refine gc 59 rfl ?_);refine gc1 (some 49) Try.func59 rfl (impl_chunkOk.calls (Kd.C_below bM.out (bL HB)) bN.out d7.out) ?_;rintro e5 hb;replace aC:=bkb aC hb;replace aE:=bkb aE hb;replace bD:=am (blk_below (g:=cH) (o:=.cells #[.int .i64 ((rd_T58 ((rd_T54 aD aA).f1) aH).f0),.int .i64 ((rd_T58 ((rd_T54 aD aA).f1) aH).f1),.int .i64 ((rd_T58 ((rd_T54 aD aA).f1) aH).f2),.int .i64 ((rd_T58 ((rd_T54 aD aA).f1) aH).f3),.int .i64 ((rd_T58 ((rd_T54 aD aA).f1) aH).f4),.slice bS ((rd_T58 ((rd_T54 aD aA).f1) aH).f5).length bT] 58 (0,0)) (blk_later bD.out) hb);replace HB:=bst HB hb;clear hb))
 go_roundg k4
 case measure=>have:=cY.out;have:=cZ.out;have:=cI.out;have:=dL.out;omega
 case rel=>exact⟨(wrap64 (aH + 1)),sr,H',⟨by have:=cY.out;have:=cZ.out;have:=cI.out;have:=dL.out;omega⟩,⟨kL aC⟩,⟨kL aE⟩,⟨bL HB⟩⟩
/-! ### impl_structNode: function 31 -/
def impl_structNode.l0:Nat→List (S49)→List (List (S49))→Int→Int→Option ((List (S49)))
  | 0,_,_,_,_=>none
  | k + 1,x5,aC,aD,aA=>if aA < aD then (if 0≤aA then (if aA < (aC.length:Int) then (if x5.length + (rd_L15 aC aA).length < 2932031007402 then (impl_structNode.l0 k (x5 ++ (rd_L15 aC aA)) aC aD (wrap64 (aA + 1))) else (none)) else (none)) else (none)) else (some x5)
def impl_structNode.f (k:Nat)(a0:Int)(l1:List (List (S49))):Option ((List (S49))):=impl_structNode.l0 k (([(⟨12,a0,0,(⟨#[]⟩:ByteArray),(l1.length:Int)⟩:S49)]:List (S49))) l1 (l1.length:Int) 0
theorem impl_structNode.calls {k : Nat} {a0 : Int} {A1 : Option Addr} {c1 : Nat} {l1 : List (List (S49))} {r : List (S49)} {w : World} (hr1 : Kd.C (Kd.slice 49 k49) w A1 l1.length l1) (bB : l1.length ≤ c1) (h : impl_structNode.f k a0 l1 = some r) :
    Calls Try.prog 31 #[.int .i64 a0,.slice A1 l1.length c1] w fun e w'=>∃ bC:Value,e=.returned (bC)∧Kd.R k49 49 w' w.heap.size (fun _=>True) bC r∧Below w.heap.size w w':=by
 have hu49:=Try.underlying49
 have bF:=am hr1
 have bK:=am bB
 clear hr1 bB
 have HB:=am (Below.refl w.heap.size w)
 have H:=h;clear h;unfold impl_structNode.f at H
 generalize aI:((([(⟨12,a0,0,(⟨#[]⟩:ByteArray),(l1.length:Int)⟩:S49)]:List (S49))):List (S49))=aY at H;have aJ:=am aI.symm;clear aI
 have H':=am H;clear H
 go_enter Try.func31,Try.ntmps31
 go_wp2_with (first | ((with_reducible refine gd 12 rfl ?_);refine Kd.R_lit k49 _ 49 ?hg (N:=12) ?hd (xs:=([(⟨12,a0,0,(⟨#[]⟩:ByteArray),(l1.length:Int)⟩:S49)]:List (S49))) (inner:=[.int .i64 12,.int .i64 a0,.int .i64 0,.string ⟨#[]⟩,.int .i64 (l1.length:Int)]) (ok:=fun _=>True) (okp:=fun _=>True) ?hr ?hp (fun _ hk=>hk) trivial (Below.refl _ _) (Nat.le_refl _) (by simp) ?_;(case hd=>rfl);(case hg=>rfl);(case hr=>first | (go_simp;done) | (go_simp;rfl));(case hp=>exact (Reps.c5 (show Kd.M k49 _ _ _ (⟨12,a0,0,(⟨#[]⟩:ByteArray),(l1.length:Int)⟩:S49) [.int .i64 12,.int .i64 a0,.int .i64 0,.string ⟨#[]⟩,.int .i64 (l1.length:Int)] from (k49_mkM _ _ _ (⟨12,a0,0,(⟨#[]⟩:ByteArray),(l1.length:Int)⟩:S49) )) (Reps.none _ _)));intro bG w3 aT hb hg_ hnew_;clear hg_ hnew_;(first | rw [← aJ.out] at aT | (simp only [Int.reduceToNat] at aT;rw [← aJ.out] at aT));have aU:=rlb aT HB;replace HB:=bst HB hb;clear hb aT))
 go_loopg [5,15] k (fun kq v5 v15 w'=>∃ (aG:List (S49)) (aA:Int),v15=.int .i64 aA∧Aside0 (impl_structNode.l0 kq aG l1 (l1.length:Int) aA=some r)∧Aside0 (kq≤k)∧Aside0 (Kd.R k49 49 w' w.heap.size (fun _=>True) v5 aG)∧Aside0 (Below w.heap.size w w'))
 case atStart=>exact⟨(aY),(0),sr,H',⟨Nat.le_refl _⟩,⟨rL aU⟩,⟨bL HB⟩⟩
 clear H'
 try clear c1
 obtain⟨aG,aA,rfl,HA,bD,aM,HB⟩:=hrel
 cases gk with
 | zero=>exact absurd HA.out (by simp [impl_structNode.l0])
 | succ k1=>?_
 have H:=HA.out
 clear HA
 simp only [impl_structNode.l0] at H
 replace H:=idc H;obtain⟨aZ,H⟩ | ⟨aZ,H⟩:=H
 rotate_left
 · cases H
   go_wp2
   go_ret
   exact⟨_,fin_ ⟨rL aM,bL HB⟩⟩
 replace H:=if_dds H;obtain⟨bH,bI,c8,H⟩:=H
 have a6:=am c8
 clear c8
 generalize aK:((aG ++ (rd_L15 l1 aA)):List (S49))=a7 at H;have aV:=am aK.symm;clear aK
 have H':=am H;clear H
 have aN:0≤(aA:Int):=dcd
 have aQ:aA < (l1.length:Int):=dcd
 obtain⟨bE,a8,a9,bA,aC,aD,aE⟩:=at_L15 bF.out aA aN aQ
 cases bA
 replace aC:=crd HB aC
 have aH:=am aE
 have aX:=am aD
 clear aE aD
 replace aN:=eq_true aN
 replace aQ:=eq_true aQ
 go_wp2_with (first | ((with_reducible refine gate_builtin (b:=.append) (xs:=#[.tmp 19,.tmp 20]) rfl ?_);at_builtin;refine Kd.R_append_rows k49 (w0:=w) w.heap.size rfl (.tmp 19) (.tmp 20) 27 49 (.agg #[(.int .i64 0),(.int .i64 0),(.int .i64 0),(.string ⟨#[]⟩),(.int .i64 0)]) 48 rfl Try.underlying27 info49 rfl (by decide) (by omega) u5 aG (rd_L15 l1 aA) _ _ _ (fun _=>True) (fun _=>False) rfl rfl ?aO ?aR (fun _ _ h=>h) (fun _ h=>h.elim) ?aF ?aB ?aS ?aL ?_;(case aR=>repeat (first | exact (Kd.C_below aH.out HB.out) | (with_reducible refine Kd.C_alloc ?_ _) | (with_reducible refine Kd.C_drewN ?_ _) | (with_reducible refine Kd.C_drew ?_)));(case aB=>exact (bL HB));(case aF=>exact (fun _ _=>trivial));(case aO=>exact (rL aM));(case aS=>exact (below_size (bL HB)));(case aL=>have:=a6.out;omega);intro bJ w9 ho hb hg hat;rw [← aV.out] at ho;have aW:=am ho;replace HB:=am hb;clear aM;clear ho hb hg hat))
 go_roundg k1
 case measure=>have:=bD.out;omega
 case rel=>exact⟨(a7),(wrap64 (aA + 1)),sr,H',⟨by have:=bD.out;omega⟩,⟨rL aW⟩,⟨bL HB⟩⟩
/-! ### impl_listNode: function 32 -/
mutual
def impl_listNode.j0:Nat→List (List (S49))→List (S49)→Option ((List (S49)))
  | 0,_,_=>none
  | k + 1,x2,x7=>impl_listNode.l0 k x7 x2 (x2.length:Int) 0
def impl_listNode.l0:Nat→List (S49)→List (List (S49))→Int→Int→Option ((List (S49)))
  | 0,_,_,_,_=>none
  | k + 1,x7,aC,aD,aA=>if aA < aD then (if 0≤aA then (if aA < (aC.length:Int) then (if x7.length + (rd_L15 aC aA).length < 2932031007402 then (impl_listNode.l0 k (x7 ++ (rd_L15 aC aA)) aC aD (wrap64 (aA + 1))) else (none)) else (none)) else (none)) else (some x7)
end
def impl_listNode.f (k:Nat)(a0:Int)(a1:Int)(l2:List (List (S49))):Option ((List (S49))):=(some (([(⟨9,a0,a1,(⟨#[]⟩:ByteArray),(l2.length:Int)⟩:S49)]:List (S49)):List (S49))).bind fun aA=>(if (l2.length:Int)=0 then (if 0 < (aA.length:Int) then (impl_listNode.j0 k l2 (aA.set (0:Int).toNat (⟨(rd_T49 aA 0).f0,(rd_T49 aA 0).f1,0,(rd_T49 aA 0).f3,(rd_T49 aA 0).f4⟩:S49))) else (none)) else (impl_listNode.j0 k l2 aA))
theorem impl_listNode.calls {k : Nat} {a0 a1 : Int} {A2 : Option Addr} {c2 : Nat} {l2 : List (List (S49))} {r : List (S49)} {w : World} (hr2 : Kd.C (Kd.slice 49 k49) w A2 l2.length l2) (b6 : l2.length ≤ c2) (h : impl_listNode.f k a0 a1 l2 = some r) :
    Calls Try.prog 32 #[.int .i64 a0,.int .i64 a1,.slice A2 l2.length c2] w fun e w'=>∃ b7:Value,e=.returned (b7)∧Kd.R k49 49 w' w.heap.size (fun _=>True) b7 r∧Below w.heap.size w w':=by
 have hu49:=Try.underlying49
 have cH:=am hr2
 have cN:=am b6
 clear hr2 b6
 have HB:=am (Below.refl w.heap.size w)
 have H:=h;clear h;unfold impl_listNode.f at H
 replace H:=bsm H;obtain⟨aA,aX,H⟩:=H
 have bT:=am H
 clear H
 go_enter Try.func32,Try.ntmps32
 go_upto_if 18 with (first | ((with_reducible refine gd 15 rfl ?_);refine Kd.R_lit k49 _ 49 ?hg (N:=15) ?hd (xs:=([(⟨9,a0,a1,(⟨#[]⟩:ByteArray),(l2.length:Int)⟩:S49)]:List (S49))) (inner:=[.int .i64 9,.int .i64 a0,.int .i64 a1,.string ⟨#[]⟩,.int .i64 (l2.length:Int)]) (ok:=fun _=>True) (okp:=fun _=>True) ?hr ?hp (fun _ hk=>hk) trivial (Below.refl _ _) (Nat.le_refl _) (by simp) ?_;(case hd=>rfl);(case hg=>rfl);(case hr=>first | (go_simp;done) | (go_simp;rfl));(case hp=>exact (Reps.c5 (show Kd.M k49 _ _ _ (⟨9,a0,a1,(⟨#[]⟩:ByteArray),(l2.length:Int)⟩:S49) [.int .i64 9,.int .i64 a0,.int .i64 a1,.string ⟨#[]⟩,.int .i64 (l2.length:Int)] from (k49_mkM _ _ _ (⟨9,a0,a1,(⟨#[]⟩:ByteArray),(l2.length:Int)⟩:S49) )) (Reps.none _ _)));intro bU w5 bK hb hg_ hnew_;clear hg_ hnew_;(first | rw [← aX.out] at bK | (simp only [Int.reduceToNat] at bK;rw [← aX.out] at bK));have aD:=rlb bK HB;replace HB:=bst HB hb;clear hb bK))
 (try simp only [Act.put,List.setIfInBounds_toArray,List.set_cons_zero,List.set_cons_succ])
 go_cut [] (fun wc=>∃ (kq:Nat) (aV:List (S49)),Aside0 (impl_listNode.j0 kq l2 aV=some r)∧Aside0 (kq≤k)∧Aside0 (Kd.R k49 49 wc w.heap.size (fun _=>True) bU aV)∧Aside0 (Below w.heap.size w wc))
 case first =>
  have H:=bT.out
  clear bT
  replace H:=ieq H;obtain⟨aN,bH,H⟩ | ⟨c7,aN,bH,H⟩:=H
  rotate_left
  · have cI:¬ (l2=[]):=fun h_=>c7 (by rw [h_];rfl)
    (first | rw [aN] | rw [bH] | (simp only [i64_w,i32_w];rw [aN]) | skip)
    have H':=am H;clear H
    go_wp2
    go_meet
    case rel=>exact⟨_,(aA),H',⟨by first | omega | exact Nat.le_refl _⟩,⟨rL aD⟩,⟨bL HB⟩⟩
  (first | rw [aN] | rw [bH] | (simp only [i64_w,i32_w];rw [aN]) | skip)
  replace H:=ifs H;obtain⟨c8,H⟩:=H
  have cJ:=decide_eq_true c8
  have cK:decide (0 < aA.length)=true:=decide_eq_true (by omega)
  clear c8
  generalize aY:((aA.set (0:Int).toNat (⟨(rd_T49 aA 0).f0,(rd_T49 aA 0).f1,0,(rd_T49 aA 0).f3,(rd_T49 aA 0).f4⟩:S49)):List (S49))=bM at H;have bN:=am aY.symm;clear aY
  have H':=am H;clear H
  have p9:0≤(0:Int):=(by omega)
  have q9:(0:Int) < ((aA.length:Int):Int):=dcd
  have qi9:(0 < aA.length)=True:=eq_true (by omega)
  obtain⟨go9,b8,b9,cA,gl9,cl9,HG9⟩:=Kd.R_form aD.out (by omega)
  (first | cases b9 | (injection b9 with ea_ en_ ec_;(first | subst ea_ | (injection ea_ with ea_;subst ea_));subst ec_;clear en_))
  have GB9:=am cA
  have GG9:=am HG9
  clear cA gl9 HG9
  obtain⟨ce9,hcl9,hM9,aK,aM⟩:=Kd.R_elem aD.out z49 (0:Int) p9 q9
  obtain rfl:=k49_openM hM9
  have aZ:w5.cell? ⟨go9,(0:Int).toNat * 5,none⟩=some (.int .i64 ((rd_T49 aA 0).f0)):=aK 0 _ rfl
  have a6:w5.cell? ⟨go9,(0:Int).toNat * 5 + 1,none⟩=some (.int .i64 ((rd_T49 aA 0).f1)):=aK 1 _ rfl
  have a7:w5.cell? ⟨go9,(0:Int).toNat * 5 + 2,none⟩=some (.int .i64 ((rd_T49 aA 0).f2)):=aK 2 _ rfl
  have a8:w5.cell? ⟨go9,(0:Int).toNat * 5 + 3,none⟩=some (.string ((rd_T49 aA 0).f3)):=aK 3 _ rfl
  have a9:w5.cell? ⟨go9,(0:Int).toNat * 5 + 4,none⟩=some (.int .i64 ((rd_T49 aA 0).f4)):=aK 4 _ rfl
  have bA:w5.frozen? ⟨go9,(0:Int).toNat * 5,none⟩=false:=aM 0
  have bB:w5.frozen? ⟨go9,(0:Int).toNat * 5 + 1,none⟩=false:=aM 1
  have bC:w5.frozen? ⟨go9,(0:Int).toNat * 5 + 2,none⟩=false:=aM 2
  have bD:w5.frozen? ⟨go9,(0:Int).toNat * 5 + 3,none⟩=false:=aM 3
  have bE:w5.frozen? ⟨go9,(0:Int).toNat * 5 + 4,none⟩=false:=aM 4
  clear hcl9 aK aM hM9
  (try rw [show ((0:Int)).toNat=0 from rfl] at aZ)
  (try simp only [Nat.reduceMul,Nat.zero_mul,Nat.zero_add,Nat.reduceAdd] at aZ)
  (try rw [show ((0:Int)).toNat=0 from rfl] at bA)
  (try simp only [Nat.reduceMul,Nat.zero_mul,Nat.zero_add,Nat.reduceAdd] at bA)
  (try rw [show ((0:Int)).toNat=0 from rfl] at a6)
  (try simp only [Nat.reduceMul,Nat.zero_mul,Nat.zero_add,Nat.reduceAdd] at a6)
  (try rw [show ((0:Int)).toNat=0 from rfl] at bB)
  (try simp only [Nat.reduceMul,Nat.zero_mul,Nat.zero_add,Nat.reduceAdd] at bB)
  (try rw [show ((0:Int)).toNat=0 from rfl] at a7)
  (try simp only [Nat.reduceMul,Nat.zero_mul,Nat.zero_add,Nat.reduceAdd] at a7)
  (try rw [show ((0:Int)).toNat=0 from rfl] at bC)
  (try simp only [Nat.reduceMul,Nat.zero_mul,Nat.zero_add,Nat.reduceAdd] at bC)
  (try rw [show ((0:Int)).toNat=0 from rfl] at a8)
  (try simp only [Nat.reduceMul,Nat.zero_mul,Nat.zero_add,Nat.reduceAdd] at a8)
  (try rw [show ((0:Int)).toNat=0 from rfl] at bD)
  (try simp only [Nat.reduceMul,Nat.zero_mul,Nat.zero_add,Nat.reduceAdd] at bD)
  (try rw [show ((0:Int)).toNat=0 from rfl] at a9)
  (try simp only [Nat.reduceMul,Nat.zero_mul,Nat.zero_add,Nat.reduceAdd] at a9)
  (try rw [show ((0:Int)).toNat=0 from rfl] at bE)
  (try simp only [Nat.reduceMul,Nat.zero_mul,Nat.zero_add,Nat.reduceAdd] at bE)
  replace p9:=eq_true p9
  replace q9:=eq_true q9
  have HX10:=am (show Kd.R k49 49 w5 w.heap.size (fun _=>True) (.slice (some ⟨go9,0,none⟩) aA.length b8) aA from (rL aD))
  obtain⟨ce10,hcl10,hM10,aQ,bF⟩:=Kd.R_elem HX10.out z49 (0:Int) (by omega) (by have h_:(0:Int) < ((aA.length:Int):Int):=dcd;first | exact h_ | (have e_:=(Kd.R_reads' aD.out).1;omega) | simpa using h_)
  obtain rfl:=k49_openM hM10
  have HP10:=Kd.R_seg HX10.out (0:Int) (by omega) (by have h_:(0:Int) < ((aA.length:Int):Int):=dcd;first | exact h_ | (have e_:=(Kd.R_reads' aD.out).1;omega) | simpa using h_) (seg:=[.int .i64 0]) (j:=2) hcl10 aQ (show 3≤5 from by decide) (x':=(⟨(rd_T49 aA 0).f0,(rd_T49 aA 0).f1,0,(rd_T49 aA 0).f3,(rd_T49 aA 0).f4⟩:S49)) (k49_mkM _ _ _ (⟨(rd_T49 aA 0).f0,(rd_T49 aA 0).f1,0,(rd_T49 aA 0).f3,(rd_T49 aA 0).f4⟩:S49) ) (fun _ hk=>hk)
  have aE:=aQ 2 _ rfl
  (try simp only [show (k49).sz=5 from rfl,Nat.mul_one,Nat.add_zero] at aE)
  (try rw [show ((0:Int)).toNat=0 from rfl] at aE)
  (try simp only [Nat.reduceMul,Nat.zero_mul,Nat.zero_add,Nat.reduceAdd] at aE)
  have aG:=bF 2
  (try simp only [show (k49).sz=5 from rfl,Nat.mul_one,Nat.add_zero] at aG)
  (try rw [show ((0:Int)).toNat=0 from rfl] at aG)
  (try simp only [Nat.reduceMul,Nat.zero_mul,Nat.zero_add,Nat.reduceAdd] at aG)
  clear hcl10 aQ bF hM10
  go_wp2_with (first | ((with_reducible refine gate_store (t:=3) (p:=21) rfl ?_);refine st_ 3 21 (w5.setCell ⟨go9,2,none⟩ (.int .i64 0)) ?_;intro bV hw;have hg:w5.grownBy bV (some go9):=(by rw [hw];exact HP10.2);have hp_:Kd.R k49 49 bV w.heap.size (fun _=>True) (.slice (some ⟨go9,0,none⟩) aA.length b8) bM:=(by rw [hw,bN.out];exact HP10.1);clear HP10;replace aD:=am hp_;replace HB:=am ((by rw [hw];exact below_set (HB.out) GB9.out:Below w.heap.size w bV));clear hg hw hp_))
  go_meet
  case rel=>exact⟨_,(bM),H',⟨by first | omega | exact Nat.le_refl _⟩,⟨rL aD⟩,⟨bL HB⟩⟩
 clear bT
 try clear c2 c5
 obtain⟨kq,aV,HA,cB,aT,HB⟩:=hcut
 cases kq with
 | zero=>exact absurd HA.out (by simp [impl_listNode.j0])
 | succ kj3=>?_
 have H:=HA.out
 clear HA
 simp only [impl_listNode.j0] at H
 have H':=am H;clear H
 go_wp2
 go_loopg [7,24] kj3 (fun kq v7 v24 w'=>∃ (aU:List (S49)) (aC:Int),v24=.int .i64 aC∧Aside0 (impl_listNode.l0 kq aU l2 (l2.length:Int) aC=some r)∧Aside0 (kq≤kj3)∧Aside0 (Kd.R k49 49 w' w.heap.size (fun _=>True) v7 aU)∧Aside0 (Below w.heap.size w w'))
 case atStart=>exact⟨(aV),(0),sr,H',⟨Nat.le_refl _⟩,⟨rL aT⟩,⟨bL HB⟩⟩
 clear H'
 try clear c2 c5
 obtain⟨aU,aC,rfl,HA,cC,aT,HB⟩:=hrel
 cases gk with
 | zero=>exact absurd HA.out (by simp [impl_listNode.l0])
 | succ k2=>?_
 have H:=HA.out
 clear HA
 simp only [impl_listNode.l0] at H
 replace H:=idc H;obtain⟨bO,H⟩ | ⟨bO,H⟩:=H
 rotate_left
 · cases H
   go_wp2
   go_ret
   exact⟨_,fin_ ⟨rL aT,bL HB⟩⟩
 replace H:=if_dds H;obtain⟨cD,cE,cF,H⟩:=H
 have bP:=am cF
 clear cF
 generalize bG:((aU ++ (rd_L15 l2 aC)):List (S49))=bW at H;have bQ:=am bG.symm;clear bG
 have H':=am H;clear H
 have bI:0≤(aC:Int):=dcd
 have bJ:aC < (l2.length:Int):=dcd
 obtain⟨cG,bX,bY,bZ,aH,aI,aJ⟩:=at_L15 cH.out aC bI bJ
 cases bZ
 replace aH:=crd HB aH
 have aW:=am aJ
 have bS:=am aI
 clear aJ aI
 replace bI:=eq_true bI
 replace bJ:=eq_true bJ
 go_wp2_with (first | ((with_reducible refine gate_builtin (b:=.append) (xs:=#[.tmp 28,.tmp 29]) rfl ?_);at_builtin;refine Kd.R_append_rows k49 (w0:=w) w.heap.size rfl (.tmp 28) (.tmp 29) 27 49 (.agg #[(.int .i64 0),(.int .i64 0),(.int .i64 0),(.string ⟨#[]⟩),(.int .i64 0)]) 48 rfl Try.underlying27 info49 rfl (by decide) (by omega) u7 aU (rd_L15 l2 aC) _ _ _ (fun _=>True) (fun _=>False) rfl rfl ?aO ?aR (fun _ _ h=>h) (fun _ h=>h.elim) ?aF ?aB ?aS ?aL ?_;(case aR=>repeat (first | exact (Kd.C_below aW.out HB.out) | (with_reducible refine Kd.C_alloc ?_ _) | (with_reducible refine Kd.C_drewN ?_ _) | (with_reducible refine Kd.C_drew ?_)));(case aB=>exact (bL HB));(case aF=>exact (fun _ _=>trivial));(case aO=>exact (rL aT));(case aS=>exact (below_size (bL HB)));(case aL=>have:=bP.out;omega);intro cM cO ho hb hg hat;rw [← bQ.out] at ho;have bR:=am ho;replace HB:=am hb;clear aT;clear ho hb hg hat))
 go_roundg k2
 case measure=>have:=cB.out;have:=cC.out;omega
 case rel=>exact⟨(bW),(wrap64 (aC + 1)),sr,H',⟨by have:=cB.out;have:=cC.out;omega⟩,⟨rL bR⟩,⟨bL HB⟩⟩
/-! ### impl_longNode: function 33 -/
def impl_longNode.f (a0:Int)(a1:Int):Option (Int × Int × Int × ByteArray × Int):=some (6,a0,a1,(⟨#[]⟩:ByteArray),0)
theorem impl_longNode.calls {a0 a1 r1 r2 r3 : Int} {r4 : ByteArray} {r5 : Int} {w : World} (h : impl_longNode.f a0 a1 = some (r1, r2, r3, r4, r5)) :
    Calls Try.prog 33 #[.int .i64 a0,.int .i64 a1] w fun e w'=>e=.returned (.agg #[.int .i64 r1,.int .i64 r2,.int .i64 r3,.string r4,.int .i64 r5])∧Below w.heap.size w w':=by
 have hu49:=Try.underlying49
 have HB:=am (Below.refl w.heap.size w)
 have H:=h;clear h;unfold impl_longNode.f at H
 replace H:=sj5 H;obtain⟨rfl,rfl,rfl,rfl,rfl⟩:=H
 go_enter Try.func33,Try.ntmps33
 go_wp2_with (first | ((with_reducible refine gd 4 rfl ?_);refine bxw 4 rfl #[.int .i64 0,.int .i64 0,.int .i64 0,.string ⟨#[]⟩,.int .i64 0] 49 HB ?_;clear HB;intro aC w3 aA aD aE HB;obtain⟨_,_,_,_,_,_,_,_,_,_⟩:=cl5 aA))
 refine bodyPost_ret (results_cell_row rfl _ _ aC 49 #[.int .i64 6,.int .i64 a0,.int .i64 a1,.string ⟨#[]⟩,.int .i64 0] (0,0) _ rfl (kL aA) Try.underlying49 rfl (by kernel_rfl)) rfl ?_
 exact fin_ (bL HB)
/-! ### impl_intNode: function 34 -/
def impl_intNode.f (a0:Int)(a1:Int):Option (Int × Int × Int × ByteArray × Int):=some (5,a0,a1,(⟨#[]⟩:ByteArray),0)
theorem impl_intNode.calls {a0 a1 r1 r2 r3 : Int} {r4 : ByteArray} {r5 : Int} {w : World} (h : impl_intNode.f a0 a1 = some (r1, r2, r3, r4, r5)) :
    Calls Try.prog 34 #[.int .i64 a0,.int .i64 a1] w fun e w'=>e=.returned (.agg #[.int .i64 r1,.int .i64 r2,.int .i64 r3,.string r4,.int .i64 r5])∧Below w.heap.size w w':=by
 have hu49:=Try.underlying49
 have HB:=am (Below.refl w.heap.size w)
 have H:=h;clear h;unfold impl_intNode.f at H
 replace H:=sj5 H;obtain⟨rfl,rfl,rfl,rfl,rfl⟩:=H
 go_enter Try.func34,Try.ntmps34
 go_wp2_with (first | ((with_reducible refine gd 4 rfl ?_);refine bxw 4 rfl #[.int .i64 0,.int .i64 0,.int .i64 0,.string ⟨#[]⟩,.int .i64 0] 49 HB ?_;clear HB;intro aC w3 aA aD aE HB;obtain⟨_,_,_,_,_,_,_,_,_,_⟩:=cl5 aA))
 refine bodyPost_ret (results_cell_row rfl _ _ aC 49 #[.int .i64 5,.int .i64 a0,.int .i64 a1,.string ⟨#[]⟩,.int .i64 0] (0,0) _ rfl (kL aA) Try.underlying49 rfl (by kernel_rfl)) rfl ?_
 exact fin_ (bL HB)
/-! ### impl_SchemaLeaves: function 77 -/
def impl_SchemaLeaves.f (k:Nat)(l0:List (S84)):Option (List Int):=(impl_SchemaOk.f k l0).bind fun aA=>(if aA=true then ((impl_leavesOf.f k l0).bind fun aC=>(some aC)) else (some ([]:List Int)))
theorem impl_SchemaLeaves.calls {k : Nat} {A0 : Option Addr} {c0 : Nat} {l0 : List (S84)} {r : List Int} {w : World} (hr0 : Kd.C k84 w A0 l0.length l0) (aE : l0.length ≤ c0) (h : impl_SchemaLeaves.f k l0 = some r) :
    Calls Try.prog 77 #[.slice A0 l0.length c0] w fun e w'=>∃ aG:Value,e=.returned (aG)∧Kd.R (Kd.int .i64) 3 w' w.heap.size (fun _=>True) aG r∧Below w.heap.size w w':=by
 have aC:=am hr0
 have aD:=am aE
 clear hr0 aE
 have HB:=am (Below.refl w.heap.size w)
 have H:=h;clear h;unfold impl_SchemaLeaves.f at H
 replace H:=bnd H;obtain⟨aI,A2,H⟩:=H
 replace H:=ibt H;obtain⟨rfl,H⟩ | ⟨rfl,H⟩:=H
 rotate_left
 · cases H
   go_enter Try.func77,Try.ntmps77
   go_wp2_with (first | ((with_reducible refine gc 56 rfl ?_);refine gc1 (some 4) Try.func56 rfl (impl_SchemaOk.calls (C_later aC.out) aD.out A2.out) ?_;rintro w7 hb;replace HB:=bst HB hb;clear hb))
   go_ret
   exact⟨_,fin_ ⟨by first | exact Kd.R_nil _ _ _ _ _ | exact Kd.N_nil _ _ _ _ _ | exact Kd.V_nil _ _ _ _ _ | exact Kd.Q_nil _ _ _ _ _ | exact Kd.S_nil _ _ _ _ _,bL HB⟩⟩
 replace H:=bnd H;obtain⟨aJ,A4,H⟩:=H
 cases H
 go_enter Try.func77,Try.ntmps77
 go_wp2_with (first | ((with_reducible refine gc 56 rfl ?_);refine gc1 (some 4) Try.func56 rfl (impl_SchemaOk.calls (C_later aC.out) aD.out A2.out) ?_;rintro w5 hb;replace HB:=bst HB hb;clear hb) | ((with_reducible refine gc 58 rfl ?_);refine gl_ (some 7) Try.func58 #[.slice A0 l0.length c0] rfl ?_;(with_reducible refine (impl_leavesOf.calls ?side1 ?side2 A4.out).mono ?_);(case side1=>exact cL aC HB);(case side2=>exact aD.out);rintro e w6 ⟨aK,rfl,aH,hb⟩;refine⟨_,rfl,?_⟩;have aA:=rlb aH HB;replace HB:=bst HB hb;clear hb aH))
 go_ret
 exact⟨_,fin_ ⟨rL aA,bL HB⟩⟩
end Go.Proofs.Ytjdapaocdkcgdaa.PFnExactMetaPack
