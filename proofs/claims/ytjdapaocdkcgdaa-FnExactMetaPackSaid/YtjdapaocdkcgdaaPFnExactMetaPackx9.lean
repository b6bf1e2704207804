/- The machine's side of FnExactMetaPack: each Go function, and what its call comes to. No condition. -/
import Derived.Test.YtjdapaocdkcgdaaPFnExactMetaPackx0
import Derived.Test.YtjdapaocdkcgdaaPFnExactMetaPackx3
import Derived.Test.YtjdapaocdkcgdaaPFnExactMetaPackx8
namespace Go.Proofs.Ytjdapaocdkcgdaa.PFnExactMetaPack
open Go.RowKit Go.Proofs.YtjdapaocdkcgdaaW.PrintWords Go.Proofs.YtjdapaocdkcgdaaW.PrintLast Go.Proofs.YtjdapaocdkcgdaaW.PrintMore Go.Proofs.YtjdapaocdkcgdaaW.PrintMore2
attribute [local go_sem] max2_int min2_int max_two min_two max_three min_three max_four min_four
set_option linter.unusedVariables false
set_option linter.unusedSimpArgs false
set_option maxHeartbeats 8000000
set_option maxRecDepth 100000

/-! ### spec_l4Check: function 53 -/
mutual
def spec_l4Check.j0:Nat→List (S49)→Int→Int→Bool→Option (Int)
  | 0,_,_,_,_=>none
  | k + 1,x0,x1,x2,aA=>if aA=true then (some (-1)) else (if 0≤x1 then (if x1 < (x0.length:Int) then (spec_l4Check.l0 k x0 x2 (wrap64 (x1 + 1)) 0 0 ((rd_T49 x0 x1).f0) ((rd_T49 x0 x1).f1) ((rd_T49 x0 x1).f2) ((rd_T49 x0 x1).f3) ((rd_T49 x0 x1).f4)) else (none)) else (none))
def spec_l4Check.l0:Nat→List (S49)→Int→Int→Int→Int→Int→Int→Int→ByteArray→Int→Option (Int)
  | 0,_,_,_,_,_,_,_,_,_,_=>none
  | k + 1,x0,x2,x8,x9,aH,aA,aE,aC,aG,aD=>if aH < aD then (if x8 ≥ (x0.length:Int) then (some (-1)) else (if 0≤x8 then (if x8 < (x0.length:Int) then (if aA=9 then (if ((rd_T49 x0 x8).f0)=aC then (if ((rd_T49 x0 x8).f1)=0 then (if aA=12 then (if ((rd_T49 x0 x8).f1)≤x9 then (spec_l4Check.j2 k x0 x2 x8 aH true aA aE aC aG aD ((rd_T49 x0 x8).f0) ((rd_T49 x0 x8).f1) ((rd_T49 x0 x8).f2) ((rd_T49 x0 x8).f3) ((rd_T49 x0 x8).f4)) else (spec_l4Check.j2 k x0 x2 x8 aH (decide (((rd_T49 x0 x8).f1) > 1000)) aA aE aC aG aD ((rd_T49 x0 x8).f0) ((rd_T49 x0 x8).f1) ((rd_T49 x0 x8).f2) ((rd_T49 x0 x8).f3) ((rd_T49 x0 x8).f4))) else (spec_l4Check.j2 k x0 x2 x8 aH false aA aE aC aG aD ((rd_T49 x0 x8).f0) ((rd_T49 x0 x8).f1) ((rd_T49 x0 x8).f2) ((rd_T49 x0 x8).f3) ((rd_T49 x0 x8).f4))) else (spec_l4Check.j2 k x0 x2 x8 aH true aA aE aC aG aD ((rd_T49 x0 x8).f0) ((rd_T49 x0 x8).f1) ((rd_T49 x0 x8).f2) ((rd_T49 x0 x8).f3) ((rd_T49 x0 x8).f4))) else (spec_l4Check.j2 k x0 x2 x8 aH true aA aE aC aG aD ((rd_T49 x0 x8).f0) ((rd_T49 x0 x8).f1) ((rd_T49 x0 x8).f2) ((rd_T49 x0 x8).f3) ((rd_T49 x0 x8).f4))) else (if aA=12 then (if ((rd_T49 x0 x8).f1)≤x9 then (spec_l4Check.j2 k x0 x2 x8 aH true aA aE aC aG aD ((rd_T49 x0 x8).f0) ((rd_T49 x0 x8).f1) ((rd_T49 x0 x8).f2) ((rd_T49 x0 x8).f3) ((rd_T49 x0 x8).f4)) else (spec_l4Check.j2 k x0 x2 x8 aH (decide (((rd_T49 x0 x8).f1) > 1000)) aA aE aC aG aD ((rd_T49 x0 x8).f0) ((rd_T49 x0 x8).f1) ((rd_T49 x0 x8).f2) ((rd_T49 x0 x8).f3) ((rd_T49 x0 x8).f4))) else (spec_l4Check.j2 k x0 x2 x8 aH false aA aE aC aG aD ((rd_T49 x0 x8).f0) ((rd_T49 x0 x8).f1) ((rd_T49 x0 x8).f2) ((rd_T49 x0 x8).f3) ((rd_T49 x0 x8).f4)))) else (none)) else (none))) else (some x8)
def spec_l4Check.j2:Nat→List (S49)→Int→Int→Int→Bool→Int→Int→Int→ByteArray→Int→Int→Int→Int→ByteArray→Int→Option (Int)
  | 0,_,_,_,_,_,_,_,_,_,_,_,_,_,_,_=>none
  | k + 1,x0,x2,x8,aQ,aT,aA,aC,aD,aE,aG,aJ,aH,aK,aM,aN=>if aT=true then (some (-1)) else ((spec_l4Check.f k x0 x8 (wrap64 (x2 + 1))).bind fun aI=>(if aI < 0 then (some (-1)) else (spec_l4Check.l0 k x0 x2 aI aH (wrap64 (aQ + 1)) aA aC aD aE aG)))
def spec_l4Check.f:Nat→List (S49)→Int→Int→Option (Int)
  | 0,_,_,_=>none
  | k + 1,l0,a1,a2=>if a1 ≥ (l0.length:Int) then (spec_l4Check.j0 k l0 a1 a2 true) else (if a2 > 12 then (spec_l4Check.j0 k l0 a1 a2 true) else (if 0≤a1 then (if a1 < (l0.length:Int) then ((spec_l4Plain.f k ((rd_T49 l0 a1).f0) ((rd_T49 l0 a1).f1) ((rd_T49 l0 a1).f2) ((rd_T49 l0 a1).f3) ((rd_T49 l0 a1).f4)).bind fun aA=>(spec_l4Check.j0 k l0 a1 a2 (!aA))) else (none)) else (none)))
end
theorem spec_l4Check.calls (k:Nat):∀ (A0:Option Addr) (c0:Nat) (l0:List (S49)) (a1:Int) (a2:Int) (r:Int) (w:World) (hr0:Kd.C k49 w A0 l0.length l0) (dL:l0.length≤c0) (h:spec_l4Check.f k l0 a1 a2=some r),
    Calls Try.prog 53 #[.slice A0 l0.length c0,.int .i64 a1,.int .i64 a2] w fun e w'=>e=.returned (.int .i64 r)∧Below w.heap.size w w':=by
 induction k using Nat.strongRecOn with
 | _ k ih =>
 intro A0 c0 l0 a1 a2 r w hr0 dL h
 cases k with
 | zero=>exact absurd h (by simp [spec_l4Check.f])
 | succ k =>
 simp only [spec_l4Check.f] at h
 have hu49:=Try.underlying49
 have cO:=am hr0
 have dS:=am dL
 clear hr0 dL
 have HB:=am (Below.refl w.heap.size w)
 have H:=h;clear h;unfold spec_l4Check.f at H
 have dM:=am H
 clear H
 go_enter Try.func53,Try.ntmps53
 go_upto_region 1 with (fail)
 go_cut [27] (fun v27 wc=>∃ (kq:Nat) (bH:Bool),v27=.bool bH∧Aside0 (spec_l4Check.j0 kq l0 a1 a2 bH=some r)∧Aside0 (kq≤k)∧Aside0 (Below w.heap.size w wc))
 case first =>
  have H:=dM.out
  clear dM
  replace H:=ige H;obtain⟨bI,H⟩ | ⟨bI,H⟩:=H
  · (first | rw [bI] | (simp only [i64_w,i32_w];rw [bI]) | skip)
    have H':=am H;clear H
    go_wp2
    go_meet
    case rel=>exact⟨_,(true),sr,H',⟨by first | omega | exact Nat.le_refl _⟩,⟨bL HB⟩⟩
  (first | rw [bI] | (simp only [i64_w,i32_w];rw [bI]) | skip)
  replace H:=igt H;obtain⟨dN,H⟩ | ⟨dN,H⟩:=H
  · have H':=am H;clear H
    go_wp2
    go_meet
    case rel=>exact⟨_,(true),sr,H',⟨by first | omega | exact Nat.le_refl _⟩,⟨bL HB⟩⟩
  replace H:=if_dd H;obtain⟨eN,eO,H⟩:=H
  replace H:=bnd H;obtain⟨dO,A9,H⟩:=H
  have H':=am H;clear H
  obtain⟨eP,eQ,dT,dP,dG,dH,dI,dJ,dK⟩:=at_T49b HB cO a1;cases dP
  go_wp2_with (first | (go_at_call 72;(with_reducible refine (spec_l4Plain.calls A9.out).mono ?_);rintro e eS ⟨rfl,hb⟩;replace HB:=bst HB hb;clear hb))
  go_meet
  case rel=>exact⟨_,(!dO),sr,H',⟨by first | omega | exact Nat.le_refl _⟩,⟨bL HB⟩⟩
 clear dM
 obtain⟨kq,bH,rfl,HA,bF,HB⟩:=hcut
 cases kq with
 | zero=>exact absurd HA.out (by simp [spec_l4Check.j0])
 | succ kj3=>?_
 have H:=HA.out
 clear HA
 simp only [spec_l4Check.j0] at H
 replace H:=ibt H;obtain⟨rfl,H⟩ | ⟨rfl,H⟩:=H
 · cases H
   go_wp2
   go_ret
   exact fin_ (bL HB)
 replace H:=if_dd H;obtain⟨cF,cG,H⟩:=H
 have H':=am H;clear H
 obtain⟨cP,cQ,bJ,dQ,aU,aV,aW,aX,aY⟩:=at_T49b HB cO a1;cases dQ
 go_wp2_with (first | ((with_reducible refine gd 7 rfl ?_);refine bxw 7 rfl #[.int .i64 0,.int .i64 0,.int .i64 0,.string ⟨#[]⟩,.int .i64 0] 49 HB ?_;clear HB;intro cH eT aA dU dV HB;obtain⟨aZ,a6,a7,a8,a9,bA,bB,bC,bD,bE⟩:=cl5 aA))
 go_loopg [8,9,10] kj3 (fun kq v8 v9 v10 w'=>∃ (aE:Int) (cK:Int) (aN:Int),v8=.int .i64 aE∧v9=.int .i64 cK∧v10=.int .i64 aN∧Aside0 (spec_l4Check.l0 kq l0 a2 aE cK aN ((rd_T49 l0 a1).f0) ((rd_T49 l0 a1).f1) ((rd_T49 l0 a1).f2) ((rd_T49 l0 a1).f3) ((rd_T49 l0 a1).f4)=some r)∧Aside0 (kq≤kj3)∧Aside0 (w'.heap[cH]?=some (.cells #[.int .i64 ((rd_T49 l0 a1).f0),.int .i64 ((rd_T49 l0 a1).f1),.int .i64 ((rd_T49 l0 a1).f2),.string ((rd_T49 l0 a1).f3),.int .i64 ((rd_T49 l0 a1).f4)] 49 (0,0)))∧Aside0 (Below w.heap.size w w'))
 case atStart=>exact⟨(wrap64 (a1 + 1)),(0),(0),sr,sr,sr,H',⟨Nat.le_refl _⟩,⟨kL aA⟩,⟨bL HB⟩⟩
 clear H'
 try clear eR cF cG aZ a6 a7 a8 a9 bA bB bC bD bE aU aV aW aX aY cP cQ
 obtain⟨aE,cK,aN,rfl,rfl,rfl,HA,bG,aA,HB⟩:=hrel
 cases gk with
 | zero=>exact absurd HA.out (by simp [spec_l4Check.l0])
 | succ k2=>?_
 have H:=HA.out
 clear HA
 simp only [spec_l4Check.l0] at H
 replace H:=idc H;obtain⟨cI,H⟩ | ⟨cI,H⟩:=H
 rotate_left
 · cases H
   obtain⟨_,_,_,_,_,_,_,_,_,_⟩:=cl5 aA
   go_wp2
   go_ret
   exact fin_ (bL HB)
 replace H:=ige H;obtain⟨cJ,H⟩ | ⟨cJ,H⟩:=H
 · cases H
   obtain⟨_,_,_,_,_,_,_,_,_,_⟩:=cl5 aA
   go_wp2
   go_ret
   exact fin_ (bL HB)
 replace H:=if_dd H;obtain⟨cR,cS,H⟩:=H
 have cM:=am H
 clear H
 obtain⟨bM,bN,bO,bP,bQ,bR,bS,bT,bU,bV⟩:=cl5 aA
 have bW:0≤(aE:Int):=dcd
 have bX:aE < (l0.length:Int):=dcd
 obtain⟨cT,dR,aH,aI,aJ,aK,aM⟩:=at_T49 cO.out aE bW bX
 obtain rfl:bJ=cT:=(by injection dR)
 replace aH:=crd HB aH
 replace aI:=crd HB aI
 replace aJ:=crd HB aJ
 replace aK:=crd HB aK
 replace aM:=crd HB aM
 replace bW:=eq_true bW
 replace bX:=eq_true bX
 go_upto_region 12 with (first | ((with_reducible refine gd 11 rfl ?_);refine bxv 11 rfl #[.int .i64 0,.int .i64 0,.int .i64 0,.string ⟨#[]⟩,.int .i64 0] 49 HB ?_;clear HB;intro cU eU aC dW dX HB hg hb;obtain⟨aD,aG⟩:=nbp (nbl aA hg);replace aA:=bkb aA hb;clear hg hb;obtain⟨dY,dZ⟩:=nbo aG;obtain⟨bY,bZ,b6,b7,b8,b9,cA,cB,cC,cD⟩:=cl5 aC))
 (try simp only [Act.put,List.setIfInBounds_toArray,List.set_cons_zero,List.set_cons_succ])
 go_cut [78] (fun v78 wc=>∃ (kq:Nat) (aT:Bool),v78=.bool aT∧Aside0 (spec_l4Check.j2 kq l0 a2 aE aN aT ((rd_T49 l0 a1).f0) ((rd_T49 l0 a1).f1) ((rd_T49 l0 a1).f2) ((rd_T49 l0 a1).f3) ((rd_T49 l0 a1).f4) ((rd_T49 l0 aE).f0) ((rd_T49 l0 aE).f1) ((rd_T49 l0 aE).f2) ((rd_T49 l0 aE).f3) ((rd_T49 l0 aE).f4)=some r)∧Aside0 (kq≤k2)∧Aside0 (wc.heap[cH]?=some (.cells #[.int .i64 ((rd_T49 l0 a1).f0),.int .i64 ((rd_T49 l0 a1).f1),.int .i64 ((rd_T49 l0 a1).f2),.string ((rd_T49 l0 a1).f3),.int .i64 ((rd_T49 l0 a1).f4)] 49 (0,0)))∧Aside0 (wc.heap[cU]?=some (.cells #[.int .i64 ((rd_T49 l0 aE).f0),.int .i64 ((rd_T49 l0 aE).f1),.int .i64 ((rd_T49 l0 aE).f2),.string ((rd_T49 l0 aE).f3),.int .i64 ((rd_T49 l0 aE).f4)] 49 (0,0)))∧Aside0 (Below w.heap.size w wc))
 case first =>
  have H:=cM.out
  clear cM
  replace H:=ieq H;obtain⟨aQ,bK,H⟩ | ⟨eV,aQ,bK,H⟩:=H
  rotate_left
  · (first | rw [aQ] | rw [bK] | (simp only [i64_w,i32_w];rw [aQ]) | skip)
    replace H:=ieq H;obtain⟨cV,cW,H⟩ | ⟨eW,cV,cW,H⟩:=H
    rotate_left
    · have H':=am H;clear H
      obtain⟨d2,d3⟩:=nbo aD
      obtain⟨_,_,_,_,_,_,_,_,_,_⟩:=cl5 aA
      go_wp2
      go_meet
      case rel=>exact⟨_,(false),sr,H',⟨by have:=bF.out;have:=bG.out;first | omega | exact Nat.le_refl _⟩,⟨kL aA⟩,⟨kL aC⟩,⟨bL HB⟩⟩
    replace H:=idc H;obtain⟨cX,H⟩ | ⟨cX,H⟩:=H
    · have H':=am H;clear H
      obtain⟨d4,d5⟩:=nbo aD
      obtain⟨_,_,_,_,_,_,_,_,_,_⟩:=cl5 aA
      obtain⟨_,_,_,_,_,_,_,_,_,_⟩:=cl5 aC
      go_wp2
      go_meet
      case rel=>exact⟨_,(true),sr,H',⟨by have:=bF.out;have:=bG.out;first | omega | exact Nat.le_refl _⟩,⟨kL aA⟩,⟨kL aC⟩,⟨bL HB⟩⟩
    have H':=am H;clear H
    obtain⟨d6,d7⟩:=nbo aD
    obtain⟨_,_,_,_,_,_,_,_,_,_⟩:=cl5 aA
    obtain⟨_,_,_,_,_,_,_,_,_,_⟩:=cl5 aC
    go_wp2
    go_meet
    case rel=>exact⟨_,(decide (((rd_T49 l0 aE).f1) > 1000)),sr,H',⟨by have:=bF.out;have:=bG.out;first | omega | exact Nat.le_refl _⟩,⟨kL aA⟩,⟨kL aC⟩,⟨bL HB⟩⟩
  (first | rw [aQ] | rw [bK] | (simp only [i64_w,i32_w];rw [aQ]) | skip)
  replace H:=ieq H;obtain⟨cY,cZ,H⟩ | ⟨eX,cY,cZ,H⟩:=H
  rotate_left
  · have H':=am H;clear H
    obtain⟨d8,d9⟩:=nbo aD
    obtain⟨_,_,_,_,_,_,_,_,_,_⟩:=cl5 aA
    obtain⟨_,_,_,_,_,_,_,_,_,_⟩:=cl5 aC
    go_wp2
    go_meet
    case rel=>exact⟨_,(true),sr,H',⟨by have:=bF.out;have:=bG.out;first | omega | exact Nat.le_refl _⟩,⟨kL aA⟩,⟨kL aC⟩,⟨bL HB⟩⟩
  replace H:=ieq H;obtain⟨dA,dB,H⟩ | ⟨eY,dA,dB,H⟩:=H
  rotate_left
  · have H':=am H;clear H
    obtain⟨eA,eB⟩:=nbo aD
    obtain⟨_,_,_,_,_,_,_,_,_,_⟩:=cl5 aA
    obtain⟨_,_,_,_,_,_,_,_,_,_⟩:=cl5 aC
    go_wp2
    go_meet
    case rel=>exact⟨_,(true),sr,H',⟨by have:=bF.out;have:=bG.out;first | omega | exact Nat.le_refl _⟩,⟨kL aA⟩,⟨kL aC⟩,⟨bL HB⟩⟩
  replace H:=ieq H;obtain⟨dC,dD,H⟩ | ⟨eZ,dC,dD,H⟩:=H
  rotate_left
  · have H':=am H;clear H
    obtain⟨eC,eD⟩:=nbo aD
    obtain⟨_,_,_,_,_,_,_,_,_,_⟩:=cl5 aA
    obtain⟨_,_,_,_,_,_,_,_,_,_⟩:=cl5 aC
    go_wp2
    go_meet
    case rel=>exact⟨_,(false),sr,H',⟨by have:=bF.out;have:=bG.out;first | omega | exact Nat.le_refl _⟩,⟨kL aA⟩,⟨kL aC⟩,⟨bL HB⟩⟩
  replace H:=idc H;obtain⟨dE,H⟩ | ⟨dE,H⟩:=H
  · have H':=am H;clear H
    obtain⟨eE,eF⟩:=nbo aD
    obtain⟨_,_,_,_,_,_,_,_,_,_⟩:=cl5 aA
    obtain⟨_,_,_,_,_,_,_,_,_,_⟩:=cl5 aC
    go_wp2
    go_meet
    case rel=>exact⟨_,(true),sr,H',⟨by have:=bF.out;have:=bG.out;first | omega | exact Nat.le_refl _⟩,⟨kL aA⟩,⟨kL aC⟩,⟨bL HB⟩⟩
  have H':=am H;clear H
  obtain⟨eG,eH⟩:=nbo aD
  obtain⟨_,_,_,_,_,_,_,_,_,_⟩:=cl5 aA
  obtain⟨_,_,_,_,_,_,_,_,_,_⟩:=cl5 aC
  go_wp2
  go_meet
  case rel=>exact⟨_,(decide (((rd_T49 l0 aE).f1) > 1000)),sr,H',⟨by have:=bF.out;have:=bG.out;first | omega | exact Nat.le_refl _⟩,⟨kL aA⟩,⟨kL aC⟩,⟨bL HB⟩⟩
 clear cM
 try clear eR cF cG e5 cI e6 cJ cR cS aZ a6 a7 a8 a9 bM bN bO bP bQ bY bZ b6 b7 b8 bA bB bC bD bE bR bS bT bU bV b9 cA cB cC cD aU aV aW aX aY aH aI aJ aK aM cP bW cQ bX
 obtain⟨kq,aT,rfl,HA,cE,aA,aC,HB⟩:=hcut
 cases kq with
 | zero=>exact absurd HA.out (by simp [spec_l4Check.j2])
 | succ kj20=>?_
 have H:=HA.out
 clear HA
 simp only [spec_l4Check.j2] at H
 replace H:=ibt H;obtain⟨rfl,H⟩ | ⟨rfl,H⟩:=H
 · cases H
   go_wp2
   go_ret
   exact fin_ (bL HB)
 replace H:=bnd H;obtain⟨cN,eI,H⟩:=H
 replace H:=idc H;obtain⟨dF,H⟩ | ⟨dF,H⟩:=H
 · cases H
   obtain⟨eJ,eK⟩:=nbo aG
   obtain⟨_,_,_,_,_,_,_,_,_,_⟩:=cl5 aC
   go_wp2_with (first | ((with_reducible refine gc 53 rfl ?_);refine gl_ (some 85) Try.func53 #[.slice (some bJ) l0.length c0,.int .i64 aE,.int .i64 (wrap64 (a2 + 1))] rfl ?_;(with_reducible refine (ih kj20 (by have:=bF.out;have:=bG.out;have:=cE.out;omega) _ _ l0 aE (wrap64 (a2 + 1)) cN _ ?side1 ?side2 eI.out).mono ?_);(case side1=>exact cL cO HB);(case side2=>exact dS.out);rintro e e7 ⟨rfl,hb⟩;refine⟨_,rfl,?_⟩;replace aA:=bkb aA hb;replace aC:=bkb aC hb;replace HB:=bst HB hb;clear hb))
   go_ret
   exact fin_ (bL HB)
 have H':=am H;clear H
 obtain⟨eL,eM⟩:=nbo aG
 obtain⟨_,_,_,_,_,_,_,_,_,_⟩:=cl5 aC
 go_wp2_with (first | ((with_reducible refine gc 53 rfl ?_);refine gl_ (some 85) Try.func53 #[.slice (some bJ) l0.length c0,.int .i64 aE,.int .i64 (wrap64 (a2 + 1))] rfl ?_;(with_reducible refine (ih kj20 (by have:=bF.out;have:=bG.out;have:=cE.out;omega) _ _ l0 aE (wrap64 (a2 + 1)) cN _ ?side1 ?side2 eI.out).mono ?_);(case side1=>exact cL cO HB);(case side2=>exact dS.out);rintro e e8 ⟨rfl,hb⟩;refine⟨_,rfl,?_⟩;replace aA:=bkb aA hb;replace aC:=bkb aC hb;replace HB:=bst HB hb;clear hb))
 go_roundg kj20
 case measure=>have:=bF.out;have:=bG.out;have:=cE.out;omega
 case rel=>exact⟨(cN),(((rd_T49 l0 aE).f1)),(wrap64 (aN + 1)),sr,sr,sr,H',⟨by have:=bF.out;have:=bG.out;have:=cE.out;omega⟩,⟨kL aA⟩,⟨bL HB⟩⟩
/-! ### spec_TreeOk: function 26 -/
def spec_TreeOk.f (k:Nat)(l0:List (S49)):Option (Bool):=(spec_l1In.f (l0.length:Int) 1 1500).bind fun aA=>(if aA=true then (if 0 < (l0.length:Int) then (if ((rd_T49 l0 0).f0)=12 then (if ((rd_T49 l0 0).f1)=0 then ((spec_l4Check.f k l0 0 1).bind fun aC=>(some (aC == (l0.length:Int)))) else (some false)) else (some false)) else (none)) else (some false))
theorem spec_TreeOk.calls {k : Nat} {A0 : Option Addr} {c0 : Nat} {l0 : List (S49)} {r : Bool} {w : World} (hr0 : Kd.C k49 w A0 l0.length l0) (bB : l0.length ≤ c0) (h : spec_TreeOk.f k l0 = some r) :
    Calls Try.prog 26 #[.slice A0 l0.length c0] w fun e w'=>e=.returned (.bool r)∧Below w.heap.size w w':=by
 have aZ:=am hr0
 have bC:=am bB
 clear hr0 bB
 have HB:=am (Below.refl w.heap.size w)
 have H:=h;clear h;unfold spec_TreeOk.f at H
 replace H:=bnd H;obtain⟨bD,A2,H⟩:=H
 replace H:=ibt H;obtain⟨rfl,H⟩ | ⟨rfl,H⟩:=H
 rotate_left
 · cases H
   go_enter Try.func26,Try.ntmps26
   go_wp2_with (first | ((with_reducible refine gc 49 rfl ?_);refine gc1 (some 5) Try.func49 rfl (spec_l1In.calls A2.out) ?_;rintro w' ⟨nd,rfl⟩))
   go_ret
   exact fin_ (bL HB)
 replace H:=ifs H;obtain⟨c4,H⟩:=H
 have bE:=decide_eq_true c4
 have bF:decide (0 < l0.length)=true:=decide_eq_true (by omega)
 clear c4
 replace H:=ieq H;obtain⟨a6,a7,H⟩ | ⟨c5,a6,a7,H⟩:=H
 rotate_left
 · cases H
   go_enter Try.func26,Try.ntmps26
   go_wp2_with (first | ((with_reducible refine gc 49 rfl ?_);refine gc1 (some 5) Try.func49 rfl (spec_l1In.calls A2.out) ?_;rintro w' ⟨nd,rfl⟩;have aH:0≤(0:Int):=(by omega);have aI:0 < (l0.length:Int):=dcd;obtain⟨aV,aW,aA,aC,aD,aE,aG⟩:=at_T49 aZ.out 0 aH aI;cases aW;have qi414:(0 < l0.length)=True:=eq_true (by omega);(try simp only [Int.toNat_zero,Nat.zero_mul,Addr.add_zero'] at aA);(try simp only [Int.toNat_zero,Nat.zero_mul,Addr.add_zero'] at aC);(try simp only [Int.toNat_zero,Nat.zero_mul,Addr.add_zero'] at aD);(try simp only [Int.toNat_zero,Nat.zero_mul,Addr.add_zero'] at aE);(try simp only [Int.toNat_zero,Nat.zero_mul,Addr.add_zero'] at aG);replace aH:=eq_true aH;replace aI:=eq_true aI))
   go_ret
   exact fin_ (bL HB)
 replace H:=ieq H;obtain⟨a8,a9,H⟩ | ⟨c6,a8,a9,H⟩:=H
 rotate_left
 · cases H
   go_enter Try.func26,Try.ntmps26
   go_wp2_with (first | ((with_reducible refine gc 49 rfl ?_);refine gc1 (some 5) Try.func49 rfl (spec_l1In.calls A2.out) ?_;rintro w' ⟨nd,rfl⟩;have aH:0≤(0:Int):=(by omega);have aI:0 < (l0.length:Int):=dcd;obtain⟨aV,aW,aA,aC,aD,aE,aG⟩:=at_T49 aZ.out 0 aH aI;cases aW;have qi414:(0 < l0.length)=True:=eq_true (by omega);(try simp only [Int.toNat_zero,Nat.zero_mul,Addr.add_zero'] at aA);(try simp only [Int.toNat_zero,Nat.zero_mul,Addr.add_zero'] at aC);(try simp only [Int.toNat_zero,Nat.zero_mul,Addr.add_zero'] at aD);(try simp only [Int.toNat_zero,Nat.zero_mul,Addr.add_zero'] at aE);(try simp only [Int.toNat_zero,Nat.zero_mul,Addr.add_zero'] at aG);replace aH:=eq_true aH;replace aI:=eq_true aI;have aT:0≤(0:Int):=(by omega);have aU:0 < (l0.length:Int):=dcd;obtain⟨aX,aY,aJ,aK,aM,aN,aQ⟩:=at_T49 aZ.out 0 aT aU;obtain rfl:aV=aX:=(by injection aY);have qi415:(0 < l0.length)=True:=eq_true (by omega);(try simp only [Int.toNat_zero,Nat.zero_mul,Addr.add_zero'] at aJ);(try simp only [Int.toNat_zero,Nat.zero_mul,Addr.add_zero'] at aK);(try simp only [Int.toNat_zero,Nat.zero_mul,Addr.add_zero'] at aM);(try simp only [Int.toNat_zero,Nat.zero_mul,Addr.add_zero'] at aN);(try simp only [Int.toNat_zero,Nat.zero_mul,Addr.add_zero'] at aQ);replace aT:=eq_true aT;replace aU:=eq_true aU))
   go_ret
   exact fin_ (bL HB)
 replace H:=bnd H;obtain⟨bA,A7,H⟩:=H
 cases H
 go_enter Try.func26,Try.ntmps26
 go_wp2_with (first | ((with_reducible refine gc 49 rfl ?_);refine gc1 (some 5) Try.func49 rfl (spec_l1In.calls A2.out) ?_;rintro w' ⟨nd,rfl⟩;have aH:0≤(0:Int):=(by omega);have aI:0 < (l0.length:Int):=dcd;obtain⟨aV,aW,aA,aC,aD,aE,aG⟩:=at_T49 aZ.out 0 aH aI;cases aW;have qi414:(0 < l0.length)=True:=eq_true (by omega);(try simp only [Int.toNat_zero,Nat.zero_mul,Addr.add_zero'] at aA);(try simp only [Int.toNat_zero,Nat.zero_mul,Addr.add_zero'] at aC);(try simp only [Int.toNat_zero,Nat.zero_mul,Addr.add_zero'] at aD);(try simp only [Int.toNat_zero,Nat.zero_mul,Addr.add_zero'] at aE);(try simp only [Int.toNat_zero,Nat.zero_mul,Addr.add_zero'] at aG);replace aH:=eq_true aH;replace aI:=eq_true aI;have aT:0≤(0:Int):=(by omega);have aU:0 < (l0.length:Int):=dcd;obtain⟨aX,aY,aJ,aK,aM,aN,aQ⟩:=at_T49 aZ.out 0 aT aU;obtain rfl:aV=aX:=(by injection aY);have qi415:(0 < l0.length)=True:=eq_true (by omega);(try simp only [Int.toNat_zero,Nat.zero_mul,Addr.add_zero'] at aJ);(try simp only [Int.toNat_zero,Nat.zero_mul,Addr.add_zero'] at aK);(try simp only [Int.toNat_zero,Nat.zero_mul,Addr.add_zero'] at aM);(try simp only [Int.toNat_zero,Nat.zero_mul,Addr.add_zero'] at aN);(try simp only [Int.toNat_zero,Nat.zero_mul,Addr.add_zero'] at aQ);replace aT:=eq_true aT;replace aU:=eq_true aU) | ((with_reducible refine gc 53 rfl ?_);refine gc1 (some 22) Try.func53 rfl (spec_l4Check.calls k _ _ l0 0 1 bA _ (C_later aZ.out) bC.out A7.out) ?_;rintro w8 hb;replace HB:=bst HB hb;clear hb))
 go_ret
 exact fin_ (bL HB)
end Go.Proofs.Ytjdapaocdkcgdaa.PFnExactMetaPack
