/- The machine's side of FnExactMetaPack: each Go function, and what its call comes to. No condition. -/
import Derived.Test.YtjdapaocdkcgdaaPFnExactMetaPackx0
import Derived.Test.YtjdapaocdkcgdaaPFnExactMetaPackx11
namespace Go.Proofs.Ytjdapaocdkcgdaa.PFnExactMetaPack
open Go.RowKit Go.Proofs.YtjdapaocdkcgdaaW.PrintWords Go.Proofs.YtjdapaocdkcgdaaW.PrintLast Go.Proofs.YtjdapaocdkcgdaaW.PrintMore Go.Proofs.YtjdapaocdkcgdaaW.PrintMore2
attribute [local go_sem] max2_int min2_int max_two min_two max_three min_three max_four min_four
set_option linter.unusedVariables false
set_option linter.unusedSimpArgs false
set_option maxHeartbeats 8000000
set_option maxRecDepth 100000

/-! ### impl_colOk: function 94 -/
def impl_colOk.f (aM:ByteArray)(aD:Int)(aA:Int)(aC:Int):Option (Bool):=if aD=7 then ((impl_TypeOk.f aD).bind fun aE=>(if aE=true then (if aC > 0 then ((impl_within.f aA 0 2).bind fun aG=>(some aG)) else (if aC=0 then ((impl_within.f aA 0 2).bind fun aH=>(some aH)) else (some false))) else (if aC > 0 then ((impl_within.f aA 0 2).bind fun aI=>(some aI)) else (some false)))) else ((impl_TypeOk.f aD).bind fun aJ=>(if aJ=true then (if aC=0 then ((impl_within.f aA 0 2).bind fun aK=>(some aK)) else (some false)) else (some false)))
theorem impl_colOk.calls {aG : ByteArray} {aH aI aJ : Int} {r : Bool} {w : World} (h : impl_colOk.f aG aH aI aJ = some r) :
    Calls Try.prog 94 #[.agg #[.string aG,.int .i64 aH,.int .i64 aI,.int .i64 aJ]] w fun e w'=>e=.returned (.bool r)∧Below w.heap.size w w':=by
 have hu84:=Try.underlying84
 have HB:=am (Below.refl w.heap.size w)
 have H:=h;clear h;unfold impl_colOk.f at H
 replace H:=ieq H;obtain⟨aQ,aT,H⟩ | ⟨c2,aQ,aT,H⟩:=H
 rotate_left
 · replace H:=bnd H;obtain⟨aY,aU,H⟩:=H
   replace H:=ibt H;obtain⟨rfl,H⟩ | ⟨rfl,H⟩:=H
   rotate_left
   · cases H
     go_enter Try.func94,Try.ntmps94
     go_wp2_with (first | ((with_reducible refine gd 1 rfl ?_);refine bxw 1 rfl #[.string aG,.int .i64 aH,.int .i64 aI,.int .i64 aJ] 84 HB ?_;clear HB;intro aC bD aA aD aE HB;obtain⟨_,_,_,_,_,_,_,_⟩:=cl4 aA) | ((with_reducible refine gc 104 rfl ?_);refine gc1 (some 15) Try.func104 rfl (impl_TypeOk.calls aU.out) ?_;rintro w' ⟨nd,rfl⟩))
     go_ret
     exact fin_ (bL HB)
   replace H:=ieq H;obtain⟨aK,aM,H⟩ | ⟨bE,aK,aM,H⟩:=H
   rotate_left
   · cases H
     go_enter Try.func94,Try.ntmps94
     go_wp2_with (first | ((with_reducible refine gd 1 rfl ?_);refine bxw 1 rfl #[.string aG,.int .i64 aH,.int .i64 aI,.int .i64 aJ] 84 HB ?_;clear HB;intro aC bF aA aD aE HB;obtain⟨_,_,_,_,_,_,_,_⟩:=cl4 aA) | ((with_reducible refine gc 104 rfl ?_);refine gc1 (some 15) Try.func104 rfl (impl_TypeOk.calls aU.out) ?_;rintro w' ⟨nd,rfl⟩))
     go_ret
     exact fin_ (bL HB)
   replace H:=bnd H;obtain⟨aZ,a6,H⟩:=H
   cases H
   go_enter Try.func94,Try.ntmps94
   go_wp2_with (first | ((with_reducible refine gd 1 rfl ?_);refine bxw 1 rfl #[.string aG,.int .i64 aH,.int .i64 aI,.int .i64 aJ] 84 HB ?_;clear HB;intro aC bG aA aD aE HB;obtain⟨_,_,_,_,_,_,_,_⟩:=cl4 aA) | ((with_reducible refine gc 104 rfl ?_);refine gc1 (some 15) Try.func104 rfl (impl_TypeOk.calls aU.out) ?_;rintro w' ⟨nd,rfl⟩) | (go_at_call 57;(with_reducible refine (impl_within.calls a6.out).mono ?_);rintro e w' ⟨rfl,⟨nd,rfl⟩⟩))
   go_ret
   exact fin_ (bL HB)
 replace H:=bnd H;obtain⟨a7,A3,H⟩:=H
 replace H:=ibt H;obtain⟨rfl,H⟩ | ⟨rfl,H⟩:=H
 rotate_left
 · replace H:=igt H;obtain⟨aN,H⟩ | ⟨aN,H⟩:=H
   rotate_left
   · cases H
     go_enter Try.func94,Try.ntmps94
     go_wp2_with (first | ((with_reducible refine gd 1 rfl ?_);refine bxw 1 rfl #[.string aG,.int .i64 aH,.int .i64 aI,.int .i64 aJ] 84 HB ?_;clear HB;intro aC bH aA aD aE HB;obtain⟨_,_,_,_,_,_,_,_⟩:=cl4 aA) | ((with_reducible refine gc 104 rfl ?_);refine gc1 (some 15) Try.func104 rfl (impl_TypeOk.calls A3.out) ?_;rintro w' ⟨nd,rfl⟩))
     go_ret
     exact fin_ (bL HB)
   replace H:=bnd H;obtain⟨a8,a9,H⟩:=H
   cases H
   go_enter Try.func94,Try.ntmps94
   go_wp2_with (first | ((with_reducible refine gd 1 rfl ?_);refine bxw 1 rfl #[.string aG,.int .i64 aH,.int .i64 aI,.int .i64 aJ] 84 HB ?_;clear HB;intro aC bI aA aD aE HB;obtain⟨_,_,_,_,_,_,_,_⟩:=cl4 aA) | ((with_reducible refine gc 104 rfl ?_);refine gc1 (some 15) Try.func104 rfl (impl_TypeOk.calls A3.out) ?_;rintro w' ⟨nd,rfl⟩) | (go_at_call 57;(with_reducible refine (impl_within.calls a9.out).mono ?_);rintro e w' ⟨rfl,⟨nd,rfl⟩⟩))
   go_ret
   exact fin_ (bL HB)
 replace H:=igt H;obtain⟨aV,H⟩ | ⟨aV,H⟩:=H
 · replace H:=bnd H;obtain⟨bA,A6,H⟩:=H
   cases H
   go_enter Try.func94,Try.ntmps94
   go_wp2_with (first | ((with_reducible refine gd 1 rfl ?_);refine bxw 1 rfl #[.string aG,.int .i64 aH,.int .i64 aI,.int .i64 aJ] 84 HB ?_;clear HB;intro aC w7 aA aD aE HB;obtain⟨_,_,_,_,_,_,_,_⟩:=cl4 aA) | ((with_reducible refine gc 104 rfl ?_);refine gc1 (some 15) Try.func104 rfl (impl_TypeOk.calls A3.out) ?_;rintro w' ⟨nd,rfl⟩) | (go_at_call 57;(with_reducible refine (impl_within.calls A6.out).mono ?_);rintro e w' ⟨rfl,⟨nd,rfl⟩⟩))
   go_ret
   exact fin_ (bL HB)
 replace H:=ieq H;obtain⟨aW,aX,H⟩ | ⟨c9,aW,aX,H⟩:=H
 rotate_left
 · cases H
   go_enter Try.func94,Try.ntmps94
   go_wp2_with (first | ((with_reducible refine gd 1 rfl ?_);refine bxw 1 rfl #[.string aG,.int .i64 aH,.int .i64 aI,.int .i64 aJ] 84 HB ?_;clear HB;intro aC bJ aA aD aE HB;obtain⟨_,_,_,_,_,_,_,_⟩:=cl4 aA) | ((with_reducible refine gc 104 rfl ?_);refine gc1 (some 15) Try.func104 rfl (impl_TypeOk.calls A3.out) ?_;rintro w' ⟨nd,rfl⟩))
   go_ret
   exact fin_ (bL HB)
 replace H:=bnd H;obtain⟨bB,bC,H⟩:=H
 cases H
 go_enter Try.func94,Try.ntmps94
 go_wp2_with (first | ((with_reducible refine gd 1 rfl ?_);refine bxw 1 rfl #[.string aG,.int .i64 aH,.int .i64 aI,.int .i64 aJ] 84 HB ?_;clear HB;intro aC bK aA aD aE HB;obtain⟨_,_,_,_,_,_,_,_⟩:=cl4 aA) | ((with_reducible refine gc 104 rfl ?_);refine gc1 (some 15) Try.func104 rfl (impl_TypeOk.calls A3.out) ?_;rintro w' ⟨nd,rfl⟩) | (go_at_call 57;(with_reducible refine (impl_within.calls bC.out).mono ?_);rintro e w' ⟨rfl,⟨nd,rfl⟩⟩))
 go_ret
 exact fin_ (bL HB)
/-! ### impl_isColName: function 95 -/
def impl_isColName.l0:Nat→ByteArray→Int→Int→Option (Bool)
  | 0,_,_,_=>none
  | k + 1,x0,x5,x6=>if x6 < x5 then (if 0≤x6 then (if x6 < (x0.size:Int) then ((impl_within.f (wrap64 (bt x0 x6)) 97 122).bind fun aA=>(if aA=true then (impl_isColName.l0 k x0 x5 (wrap64 (x6 + 1))) else (some false))) else (none)) else (none)) else ((impl_within.f (x0.size:Int) 1 20).bind fun aC=>(some aC))
def impl_isColName.f (k:Nat)(a0:ByteArray):Option (Bool):=impl_isColName.l0 k a0 (a0.size:Int) 0
theorem impl_isColName.calls {k : Nat} {a0 : ByteArray} {r : Bool} {w : World} (h : impl_isColName.f k a0 = some r) :
    Calls Try.prog 95 #[.string a0] w fun e w'=>e=.returned (.bool r)∧Drawn0 w w':=by
 have H:=h;clear h;unfold impl_isColName.f at H
 have H':=am H;clear H
 go_enter Try.func95,Try.ntmps95
 go_wp2
 go_loopg [6] k (fun kq v6 w'=>∃ (aA:Int),v6=.int .i64 aA∧Aside0 (impl_isColName.l0 kq a0 (a0.size:Int) aA=some r)∧Aside0 (kq≤k)∧Drawn0 w w')
 case atStart=>exact⟨(0),sr,H',⟨Nat.le_refl _⟩,by repeat (first | exact Drawn0.refl _ | apply Drawn0.step)⟩
 clear H'
 obtain⟨aA,rfl,HA,aD,⟨m1,rfl⟩⟩:=hrel
 cases gk with
 | zero=>exact absurd HA.out (by simp [impl_isColName.l0])
 | succ k1=>?_
 have H:=HA.out
 clear HA
 simp only [impl_isColName.l0] at H
 replace H:=idc H;obtain⟨aC,H⟩ | ⟨aC,H⟩:=H
 rotate_left
 · replace H:=bnd H;obtain⟨aE,A8,H⟩:=H
   cases H
   go_wp2_with (first | ((with_reducible refine gc 57 rfl ?_);refine gc1 (some 18) Try.func57 rfl (impl_within.calls A8.out) ?_;rintro w' ⟨nd,rfl⟩))
   go_ret
   exact⟨sr,drl⟩
 replace H:=if_dd H;obtain⟨aG,aH,H⟩:=H
 replace H:=bnd H;obtain⟨aI,A6,H⟩:=H
 replace H:=ibt H;obtain⟨rfl,H⟩ | ⟨rfl,H⟩:=H
 rotate_left
 · cases H
   have p5:0≤(aA:Int):=dcd
   have q5:aA < (a0.size:Int):=dcd
   have aJ:=bt_at a0 aA
   replace p5:=eq_true p5
   replace q5:=eq_true q5
   go_wp2_with (first | ((with_reducible refine gc 57 rfl ?_);refine gc1 (some 13) Try.func57 rfl (impl_within.calls A6.out) ?_;rintro w' ⟨nd,rfl⟩))
   go_ret
   exact⟨sr,drl⟩
 have H':=am H;clear H
 have p5:0≤(aA:Int):=dcd
 have q5:aA < (a0.size:Int):=dcd
 have aJ:=bt_at a0 aA
 replace p5:=eq_true p5
 replace q5:=eq_true q5
 go_wp2_with (first | ((with_reducible refine gc 57 rfl ?_);refine gc1 (some 13) Try.func57 rfl (impl_within.calls A6.out) ?_;rintro w' ⟨nd,rfl⟩))
 go_roundg k1
 case measure=>have:=aD.out;omega
 case rel=>exact⟨(wrap64 (aA + 1)),sr,H',⟨by have:=aD.out;omega⟩,by repeat (first | exact Drawn0.refl _ | apply Drawn0.step)⟩
/-! ### impl_colAfter: function 74 -/
mutual
def impl_colAfter.j0:Nat→List (S84)→Int→Int→Bool→Option (Int)
  | 0,_,_,_,_=>none
  | k + 1,x0,x1,x2,aA=>if aA=true then (some (-1)) else (if 0≤x1 then (if x1 < (x0.length:Int) then (impl_colAfter.l0 k x0 x2 (wrap64 (x1 + 1)) (([]:List ByteArray)) ((rd_T84 x0 x1).f3) 0) else (none)) else (none))
def impl_colAfter.l0:Nat→List (S84)→Int→Int→List ByteArray→Int→Int→Option (Int)
  | 0,_,_,_,_,_,_=>none
  | k + 1,x0,x2,x7,x8,aA,aC=>if aC < aA then (if x7 ≥ (x0.length:Int) then (some (-1)) else (impl_colAfter.l1 k x0 x2 x7 x8 aA aC (x8.length:Int) 0)) else (some x7)
def impl_colAfter.l1:Nat→List (S84)→Int→Int→List ByteArray→Int→Int→Int→Int→Option (Int)
  | 0,_,_,_,_,_,_,_,_=>none
  | k + 1,x0,x2,x7,x8,aD,aE,aG,aA=>if aA < aG then (if 0≤aA then (if aA < (x8.length:Int) then (if 0≤x7 then (if x7 < (x0.length:Int) then (if (rdOf ByteArray.empty x8 aA).toList=((rd_T84 x0 x7).f0).toList then (some (-1)) else (impl_colAfter.l1 k x0 x2 x7 x8 aD aE aG (wrap64 (aA + 1)))) else (none)) else (none)) else (none)) else (none)) else (if 0≤x7 then (if x7 < (x0.length:Int) then (if x8.length < 8796093022208 then ((impl_colAfter.f k x0 x7 (wrap64 (x2 + 1))).bind fun aC=>(if aC < 0 then (some (-1)) else (impl_colAfter.l0 k x0 x2 aC (x8 ++ [(rd_T84 x0 x7).f0]) aD (wrap64 (aE + 1))))) else (none)) else (none)) else (none))
def impl_colAfter.f:Nat→List (S84)→Int→Int→Option (Int)
  | 0,_,_,_=>none
  | k + 1,l0,a1,a2=>if a1 ≥ (l0.length:Int) then (impl_colAfter.j0 k l0 a1 a2 true) else (if a2 > 6 then (impl_colAfter.j0 k l0 a1 a2 true) else (if 0≤a1 then (if a1 < (l0.length:Int) then ((impl_colOk.f ((rd_T84 l0 a1).f0) ((rd_T84 l0 a1).f1) ((rd_T84 l0 a1).f2) ((rd_T84 l0 a1).f3)).bind fun aA=>(if aA=true then (if a1 > 0 then ((impl_isColName.f k ((rd_T84 l0 a1).f0)).bind fun aC=>(impl_colAfter.j0 k l0 a1 a2 (!aC))) else (impl_colAfter.j0 k l0 a1 a2 false)) else (impl_colAfter.j0 k l0 a1 a2 true))) else (none)) else (none)))
end
theorem impl_colAfter.calls (k:Nat):∀ (A0:Option Addr) (c0:Nat) (l0:List (S84)) (a1:Int) (a2:Int) (r:Int) (w:World) (hr0:Kd.C k84 w A0 l0.length l0) (cX:l0.length≤c0) (h:impl_colAfter.f k l0 a1 a2=some r),
    Calls Try.prog 74 #[.slice A0 l0.length c0,.int .i64 a1,.int .i64 a2] w fun e w'=>e=.returned (.int .i64 r)∧Below w.heap.size w w':=by
 induction k using Nat.strongRecOn with
 | _ k ih =>
 intro A0 c0 l0 a1 a2 r w hr0 cX h
 cases k with
 | zero=>exact absurd h (by simp [impl_colAfter.f])
 | succ k =>
 simp only [impl_colAfter.f] at h
 have hu84:=Try.underlying84
 have bK:=am hr0
 have dH:=am cX
 clear hr0 cX
 have HB:=am (Below.refl w.heap.size w)
 have H:=h;clear h;unfold impl_colAfter.f at H
 have cY:=am H
 clear H
 go_enter Try.func74,Try.ntmps74
 go_upto_region 1 with (fail)
 go_cut [39] (fun v39 wc=>∃ (kq:Nat) (bM:Bool),v39=.bool bM∧Aside0 (impl_colAfter.j0 kq l0 a1 a2 bM=some r)∧Aside0 (kq≤k)∧Aside0 (Below w.heap.size w wc))
 case first =>
  have H:=cY.out
  clear cY
  replace H:=ige H;obtain⟨bN,H⟩ | ⟨bN,H⟩:=H
  · (first | rw [bN] | (simp only [i64_w,i32_w];rw [bN]) | skip)
    have H':=am H;clear H
    go_wp2
    go_meet
    case rel=>exact⟨_,(true),sr,H',⟨by first | omega | exact Nat.le_refl _⟩,⟨bL HB⟩⟩
  (first | rw [bN] | (simp only [i64_w,i32_w];rw [bN]) | skip)
  replace H:=igt H;obtain⟨cZ,H⟩ | ⟨cZ,H⟩:=H
  · have H':=am H;clear H
    go_wp2
    go_meet
    case rel=>exact⟨_,(true),sr,H',⟨by first | omega | exact Nat.le_refl _⟩,⟨bL HB⟩⟩
  replace H:=if_dd H;obtain⟨dQ,dR,H⟩:=H
  replace H:=bnd H;obtain⟨dS,A9,H⟩:=H
  replace H:=ibt H;obtain⟨rfl,H⟩ | ⟨rfl,H⟩:=H
  rotate_left
  · have H':=am H;clear H
    obtain⟨cN,cO,bO,bP,bC,bD,bE,bF⟩:=at_T84b HB bK a1;cases bP
    go_wp2_with (first | (go_at_call 94;(with_reducible refine (impl_colOk.calls A9.out).mono ?_);rintro e dW ⟨rfl,hb⟩;replace HB:=bst HB hb;clear hb))
    go_meet
    case rel=>exact⟨_,(true),sr,H',⟨by first | omega | exact Nat.le_refl _⟩,⟨bL HB⟩⟩
  replace H:=igt H;obtain⟨cP,H⟩ | ⟨cP,H⟩:=H
  rotate_left
  · have H':=am H;clear H
    obtain⟨cN,cO,bO,bP,bC,bD,bE,bF⟩:=at_T84b HB bK a1;cases bP
    go_wp2_with (first | (go_at_call 94;(with_reducible refine (impl_colOk.calls A9.out).mono ?_);rintro e dX ⟨rfl,hb⟩;replace HB:=bst HB hb;clear hb))
    go_meet
    case rel=>exact⟨_,(false),sr,H',⟨by first | omega | exact Nat.le_refl _⟩,⟨bL HB⟩⟩
  replace H:=bnd H;obtain⟨dA,dT,H⟩:=H
  have H':=am H;clear H
  obtain⟨cN,cO,bO,bP,bC,bD,bE,bF⟩:=at_T84b HB bK a1;cases bP
  go_wp2_with (first | (go_at_call 94;(with_reducible refine (impl_colOk.calls A9.out).mono ?_);rintro e dY ⟨rfl,hb⟩;replace HB:=bst HB hb;clear hb;have cB:0≤(a1:Int):=dcd;have cC:a1 < (l0.length:Int):=dcd;obtain⟨cQ,dB,bG,bH,bI,bJ⟩:=at_T84 bK.out a1 cB cC;obtain rfl:bO=cQ:=(by injection dB);replace bG:=crd HB bG;replace bH:=crd HB bH;replace bI:=crd HB bI;replace bJ:=crd HB bJ;replace cB:=eq_true cB;replace cC:=eq_true cC) | (go_at_call 95;(with_reducible refine (impl_isColName.calls dT.out).mono ?_);rintro e w' ⟨rfl,⟨nd,rfl⟩⟩))
  go_meet
  case rel=>exact⟨_,(!dA),sr,H',⟨by first | omega | exact Nat.le_refl _⟩,⟨bL HB⟩⟩
 clear cY
 obtain⟨kq,bM,rfl,HA,cJ,HB⟩:=hcut
 cases kq with
 | zero=>exact absurd HA.out (by simp [impl_colAfter.j0])
 | succ kj3=>?_
 have H:=HA.out
 clear HA
 simp only [impl_colAfter.j0] at H
 replace H:=ibt H;obtain⟨rfl,H⟩ | ⟨rfl,H⟩:=H
 · cases H
   go_wp2
   go_ret
   exact fin_ (bL HB)
 generalize bW:((([]:List ByteArray)):List ByteArray)=dC at H;have bX:=am bW.symm;clear bW
 replace H:=if_dd H;obtain⟨bY,bZ,H⟩:=H
 have H':=am H;clear H
 go_wp2_with (first | ((with_reducible refine gd 42 rfl ?_);refine Kd.R_lit Kd.string _ 9 ?hg (N:=42) ?hd (xs:=([]:List ByteArray)) (inner:=[]) (ok:=fun _=>True) (okp:=fun _=>True) ?hr ?hp (fun _ hk=>hk) trivial (Below.refl _ _) (Nat.le_refl _) (by simp) ?_;(case hd=>rfl);(case hg=>rfl);(case hr=>first | (go_simp;done) | (go_simp;rfl));(case hp=>exact (Reps.none _ _));intro dU dZ bQ hb hg_ hnew_;clear hg_ hnew_;(first | rw [← bX.out] at bQ | (simp only [Int.reduceToNat] at bQ;rw [← bX.out] at bQ));have cR:=rlb bQ HB;replace HB:=bst HB hb;clear hb bQ;have bR:0≤(a1:Int):=dcd;have bS:a1 < (l0.length:Int):=dcd;obtain⟨aX,dD,aQ,aT,aU,aV⟩:=at_T84 bK.out a1 bR bS;cases dD;replace aQ:=crd HB aQ;replace aT:=crd HB aT;replace aU:=crd HB aU;replace aV:=crd HB aV;replace bR:=eq_true bR;replace bS:=eq_true bS))
 go_loopg [7,8,48] kj3 (fun kq v7 v8 v48 w'=>∃ (aA:Int) (aD:List ByteArray) (aZ:Int),v7=.int .i64 aA∧v48=.int .i64 aZ∧Aside0 (impl_colAfter.l0 kq l0 a2 aA aD ((rd_T84 l0 a1).f3) aZ=some r)∧Aside0 (kq≤kj3)∧Aside0 (Kd.R Kd.string 9 w' w.heap.size (fun _=>True) v8 aD)∧Aside0 (Below w.heap.size w w'))
 case atStart=>exact⟨(wrap64 (a1 + 1)),(dC),(0),sr,sr,H',⟨Nat.le_refl _⟩,⟨rL cR⟩,⟨bL HB⟩⟩
 clear H'
 try clear dV bY bZ aQ aT aU aV bR bS
 obtain⟨aA,aD,aZ,rfl,rfl,HA,cK,aW,HB⟩:=hrel
 cases gk with
 | zero=>exact absurd HA.out (by simp [impl_colAfter.l0])
 | succ k2=>?_
 have H:=HA.out
 clear HA
 simp only [impl_colAfter.l0] at H
 replace H:=idc H;obtain⟨b6,H⟩ | ⟨b6,H⟩:=H
 rotate_left
 · cases H
   go_wp2
   go_ret
   exact fin_ (bL HB)
 replace H:=ige H;obtain⟨b7,H⟩ | ⟨b7,H⟩:=H
 · cases H
   go_wp2
   go_ret
   exact fin_ (bL HB)
 have H':=am H;clear H
 obtain⟨cD,cE,dE⟩:=Kd.R_slice aW.out
 subst dE
 go_wp2
 go_loopg [56] k2 (fun kq v56 w'=>∃ (aC:Int),v56=.int .i64 aC∧Aside0 (impl_colAfter.l1 kq l0 a2 aA aD ((rd_T84 l0 a1).f3) aZ (aD.length:Int) aC=some r)∧Aside0 (kq≤k2)∧Aside0 (Kd.R Kd.string 9 w' w.heap.size (fun _=>True) (.slice cD aD.length cE) aD)∧Aside0 (Below w.heap.size w w'))
 case atStart=>exact⟨(0),sr,H',⟨Nat.le_refl _⟩,⟨rL aW⟩,⟨bL HB⟩⟩
 clear H'
 try clear dV bY bZ d2 b6 d3 b7 aQ aT aU aV bR bS
 obtain⟨aC,rfl,HA,cM,aW,HB⟩:=hrel
 cases gk with
 | zero=>exact absurd HA.out (by simp [impl_colAfter.l1])
 | succ k3=>?_
 have H:=HA.out
 clear HA
 simp only [impl_colAfter.l1] at H
 replace H:=idc H;obtain⟨cS,H⟩ | ⟨cS,H⟩:=H
 · replace H:=if_dddd H;obtain⟨dI,dJ,dK,dL,H⟩:=H
   replace H:=ieq H;obtain⟨cT,cU,H⟩ | ⟨d4,cT,cU,H⟩:=H
   · cases H
     have a6:0≤(aC:Int):=dcd
     have a7:aC < (aD.length:Int):=dcd
     obtain⟨cV,cF,bV⟩:=Kd.at_string (Kd.R_reads' aW.out).2.2 aC a6 a7
     cases cF
     replace a6:=eq_true a6
     replace a7:=eq_true a7
     have a8:0≤(aA:Int):=dcd
     have a9:aA < (l0.length:Int):=dcd
     obtain⟨bT,cG,aE,aG,aH,aI⟩:=at_T84 bK.out aA a8 a9
     obtain rfl:aX=bT:=(by injection cG)
     replace aE:=crd HB aE
     replace aG:=crd HB aG
     replace aH:=crd HB aH
     replace aI:=crd HB aI
     replace a8:=eq_true a8
     replace a9:=eq_true a9
     go_wp2
     go_ret
     exact fin_ (bL HB)
   have H':=am H;clear H
   have a6:0≤(aC:Int):=dcd
   have a7:aC < (aD.length:Int):=dcd
   obtain⟨cV,cF,bV⟩:=Kd.at_string (Kd.R_reads' aW.out).2.2 aC a6 a7
   cases cF
   replace a6:=eq_true a6
   replace a7:=eq_true a7
   have a8:0≤(aA:Int):=dcd
   have a9:aA < (l0.length:Int):=dcd
   obtain⟨bT,cG,aE,aG,aH,aI⟩:=at_T84 bK.out aA a8 a9
   obtain rfl:aX=bT:=(by injection cG)
   replace aE:=crd HB aE
   replace aG:=crd HB aG
   replace aH:=crd HB aH
   replace aI:=crd HB aI
   replace a8:=eq_true a8
   replace a9:=eq_true a9
   go_wp2
   go_roundg k3
   case measure=>have:=cJ.out;have:=cK.out;have:=cM.out;omega
   case rel=>exact⟨(wrap64 (aC + 1)),sr,H',⟨by have:=cJ.out;have:=cK.out;have:=cM.out;omega⟩,⟨rL aW⟩,⟨bL HB⟩⟩
 replace H:=if_dds H;obtain⟨dM,dN,dO,H⟩:=H
 have b8:=am dO
 clear dO
 generalize b9:((aD ++ [(rd_T84 l0 aA).f0]):List ByteArray)=dF at H;have cA:=am b9.symm;clear b9
 replace H:=bnd H;obtain⟨cH,dP,H⟩:=H
 replace H:=idc H;obtain⟨cW,H⟩ | ⟨cW,H⟩:=H
 · cases H
   have bA:0≤(aA:Int):=dcd
   have bB:aA < (l0.length:Int):=dcd
   obtain⟨bU,cI,aJ,aK,aM,aN⟩:=at_T84 bK.out aA bA bB
   obtain rfl:aX=bU:=(by injection cI)
   replace aJ:=crd HB aJ
   replace aK:=crd HB aK
   replace aM:=crd HB aM
   replace aN:=crd HB aN
   replace bA:=eq_true bA
   replace bB:=eq_true bB
   go_wp2_with (first | ((with_reducible refine gate_builtin (b:=.append) (xs:=#[.tmp 68,.tmp 74]) rfl ?_);at_builtin;refine Kd.R_append Kd.string (w0:=w) w.heap.size rfl (.tmp 68) (.tmp 74) 85 9 (.string ⟨#[]⟩) 16 rfl Try.underlying85 info9 rfl (by decide) (by omega) (.slice cD aD.length cE) aD ((rd_T84 l0 aA).f0) [.string ((rd_T84 l0 aA).f0)] (fun _=>True) (fun _=>False) rfl rfl ?aP (fun _ hk=>hk.elim) ?aF ?aO ?aB ?aS ?aL ?_;(case aP=>exact rfl);(case aB=>exact (bL HB));(case aF=>exact (fun _ _=>trivial));(case aO=>exact (rL aW));(case aS=>exact (below_size (bL HB)));(case aL=>have:=b8.out;omega);intro dG d5 ho hb hg hat;rw [← cA.out] at ho;have aY:=am ho;replace HB:=am hb;clear aW;clear ho hb hg hat) | ((with_reducible refine gc 74 rfl ?_);refine gl_ (some 80) Try.func74 #[.slice (some aX) l0.length c0,.int .i64 aA,.int .i64 (wrap64 (a2 + 1))] rfl ?_;(with_reducible refine (ih k3 (by have:=cJ.out;have:=cK.out;have:=cM.out;omega) _ _ l0 aA (wrap64 (a2 + 1)) cH _ ?side1 ?side2 dP.out).mono ?_);(case side1=>exact cL bK HB);(case side2=>exact dH.out);rintro e d6 ⟨rfl,hb⟩;refine⟨_,rfl,?_⟩;replace aY:=rbe aY hb;replace HB:=bst HB hb;clear hb))
   go_ret
   exact fin_ (bL HB)
 have H':=am H;clear H
 have bA:0≤(aA:Int):=dcd
 have bB:aA < (l0.length:Int):=dcd
 obtain⟨bU,cI,aJ,aK,aM,aN⟩:=at_T84 bK.out aA bA bB
 obtain rfl:aX=bU:=(by injection cI)
 replace aJ:=crd HB aJ
 replace aK:=crd HB aK
 replace aM:=crd HB aM
 replace aN:=crd HB aN
 replace bA:=eq_true bA
 replace bB:=eq_true bB
 go_wp2_with (first | ((with_reducible refine gate_builtin (b:=.append) (xs:=#[.tmp 68,.tmp 74]) rfl ?_);at_builtin;refine Kd.R_append Kd.string (w0:=w) w.heap.size rfl (.tmp 68) (.tmp 74) 85 9 (.string ⟨#[]⟩) 16 rfl Try.underlying85 info9 rfl (by decide) (by omega) (.slice cD aD.length cE) aD ((rd_T84 l0 aA).f0) [.string ((rd_T84 l0 aA).f0)] (fun _=>True) (fun _=>False) rfl rfl ?aP (fun _ hk=>hk.elim) ?aF ?aO ?aB ?aS ?aL ?_;(case aP=>exact rfl);(case aB=>exact (bL HB));(case aF=>exact (fun _ _=>trivial));(case aO=>exact (rL aW));(case aS=>exact (below_size (bL HB)));(case aL=>have:=b8.out;omega);intro dG d7 ho hb hg hat;rw [← cA.out] at ho;have aY:=am ho;replace HB:=am hb;clear aW;clear ho hb hg hat) | ((with_reducible refine gc 74 rfl ?_);refine gl_ (some 80) Try.func74 #[.slice (some aX) l0.length c0,.int .i64 aA,.int .i64 (wrap64 (a2 + 1))] rfl ?_;(with_reducible refine (ih k3 (by have:=cJ.out;have:=cK.out;have:=cM.out;omega) _ _ l0 aA (wrap64 (a2 + 1)) cH _ ?side1 ?side2 dP.out).mono ?_);(case side1=>exact cL bK HB);(case side2=>exact dH.out);rintro e d8 ⟨rfl,hb⟩;refine⟨_,rfl,?_⟩;replace aY:=rbe aY hb;replace HB:=bst HB hb;clear hb))
 go_roundg k3
 case measure=>have:=cJ.out;have:=cK.out;have:=cM.out;omega
 case rel=>exact⟨(cH),(dF),(wrap64 (aZ + 1)),sr,sr,H',⟨by have:=cJ.out;have:=cK.out;have:=cM.out;omega⟩,⟨rL aY⟩,⟨bL HB⟩⟩
/-! ### impl_SchemaOk: function 56 -/
def impl_SchemaOk.f (k:Nat)(l0:List (S84)):Option (Bool):=(impl_within.f (l0.length:Int) 2 20).bind fun aA=>(if aA=true then (if 0 < (l0.length:Int) then (if ((rd_T84 l0 0).f1)=7 then (if ((rd_T84 l0 0).f2)=0 then (if ((rd_T84 l0 0).f0).toList=([]:List UInt8) then ((impl_colAfter.f k l0 0 1).bind fun aC=>(some (aC == (l0.length:Int)))) else (some false)) else (some false)) else (some false)) else (none)) else (some false))
theorem impl_SchemaOk.calls {k : Nat} {A0 : Option Addr} {c0 : Nat} {l0 : List (S84)} {r : Bool} {w : World} (hr0 : Kd.C k84 w A0 l0.length l0) (bK : l0.length ≤ c0) (h : impl_SchemaOk.f k l0 = some r) :
    Calls Try.prog 56 #[.slice A0 l0.length c0] w fun e w'=>e=.returned (.bool r)∧Below w.heap.size w w':=by
 have bA:=am hr0
 have bM:=am bK
 clear hr0 bK
 have HB:=am (Below.refl w.heap.size w)
 have H:=h;clear h;unfold impl_SchemaOk.f at H
 replace H:=bnd H;obtain⟨bN,A2,H⟩:=H
 replace H:=ibt H;obtain⟨rfl,H⟩ | ⟨rfl,H⟩:=H
 rotate_left
 · cases H
   go_enter Try.func56,Try.ntmps56
   go_wp2_with (first | ((with_reducible refine gc 57 rfl ?_);refine gc1 (some 5) Try.func57 rfl (impl_within.calls A2.out) ?_;rintro w' ⟨nd,rfl⟩))
   go_ret
   exact fin_ (bL HB)
 replace H:=ifs H;obtain⟨c4,H⟩:=H
 have bO:=decide_eq_true c4
 have bP:decide (0 < l0.length)=true:=decide_eq_true (by omega)
 clear c4
 replace H:=ieq H;obtain⟨bC,bD,H⟩ | ⟨c5,bC,bD,H⟩:=H
 rotate_left
 · cases H
   go_enter Try.func56,Try.ntmps56
   go_wp2_with (first | ((with_reducible refine gc 57 rfl ?_);refine gc1 (some 5) Try.func57 rfl (impl_within.calls A2.out) ?_;rintro w' ⟨nd,rfl⟩;have aG:0≤(0:Int):=(by omega);have aH:0 < (l0.length:Int):=dcd;obtain⟨aN,aZ,aA,aC,aD,aE⟩:=at_T84 bA.out 0 aG aH;cases aZ;have qi606:(0 < l0.length)=True:=eq_true (by omega);(try simp only [Int.toNat_zero,Nat.zero_mul,Addr.add_zero'] at aA);(try simp only [Int.toNat_zero,Nat.zero_mul,Addr.add_zero'] at aC);(try simp only [Int.toNat_zero,Nat.zero_mul,Addr.add_zero'] at aD);(try simp only [Int.toNat_zero,Nat.zero_mul,Addr.add_zero'] at aE);replace aG:=eq_true aG;replace aH:=eq_true aH))
   go_ret
   exact fin_ (bL HB)
 replace H:=ieq H;obtain⟨bE,bF,H⟩ | ⟨c6,bE,bF,H⟩:=H
 rotate_left
 · cases H
   go_enter Try.func56,Try.ntmps56
   go_wp2_with (first | ((with_reducible refine gc 57 rfl ?_);refine gc1 (some 5) Try.func57 rfl (impl_within.calls A2.out) ?_;rintro w' ⟨nd,rfl⟩;have aG:0≤(0:Int):=(by omega);have aH:0 < (l0.length:Int):=dcd;obtain⟨aN,aZ,aA,aC,aD,aE⟩:=at_T84 bA.out 0 aG aH;cases aZ;have qi606:(0 < l0.length)=True:=eq_true (by omega);(try simp only [Int.toNat_zero,Nat.zero_mul,Addr.add_zero'] at aA);(try simp only [Int.toNat_zero,Nat.zero_mul,Addr.add_zero'] at aC);(try simp only [Int.toNat_zero,Nat.zero_mul,Addr.add_zero'] at aD);(try simp only [Int.toNat_zero,Nat.zero_mul,Addr.add_zero'] at aE);replace aG:=eq_true aG;replace aH:=eq_true aH;have aQ:0≤(0:Int):=(by omega);have aT:0 < (l0.length:Int):=dcd;obtain⟨aY,a8,aI,aJ,aK,aM⟩:=at_T84 bA.out 0 aQ aT;obtain rfl:aN=aY:=(by injection a8);have qi607:(0 < l0.length)=True:=eq_true (by omega);(try simp only [Int.toNat_zero,Nat.zero_mul,Addr.add_zero'] at aI);(try simp only [Int.toNat_zero,Nat.zero_mul,Addr.add_zero'] at aJ);(try simp only [Int.toNat_zero,Nat.zero_mul,Addr.add_zero'] at aK);(try simp only [Int.toNat_zero,Nat.zero_mul,Addr.add_zero'] at aM);replace aQ:=eq_true aQ;replace aT:=eq_true aT))
   go_ret
   exact fin_ (bL HB)
 by_cases c7:((rd_T84 l0 0).f0).toList=([]:List UInt8)
 rotate_left
 · rw [if_neg c7] at H
   have bG:(((rd_T84 l0 0).f0).toList == ([]:List UInt8))=false:=beq_eq_false_iff_ne.mpr c7
   try have bH:((rd_T84 l0 0).f0).toList.isEmpty=false:=by simpa using c7
   have bI:(((rd_T84 l0 0).f0).toList != ([]:List UInt8))=true:=bne_iff_ne.mpr c7
   cases H
   go_enter Try.func56,Try.ntmps56
   go_wp2_with (first | ((with_reducible refine gc 57 rfl ?_);refine gc1 (some 5) Try.func57 rfl (impl_within.calls A2.out) ?_;rintro w' ⟨nd,rfl⟩;have aG:0≤(0:Int):=(by omega);have aH:0 < (l0.length:Int):=dcd;obtain⟨aN,aZ,aA,aC,aD,aE⟩:=at_T84 bA.out 0 aG aH;cases aZ;have qi606:(0 < l0.length)=True:=eq_true (by omega);(try simp only [Int.toNat_zero,Nat.zero_mul,Addr.add_zero'] at aA);(try simp only [Int.toNat_zero,Nat.zero_mul,Addr.add_zero'] at aC);(try simp only [Int.toNat_zero,Nat.zero_mul,Addr.add_zero'] at aD);(try simp only [Int.toNat_zero,Nat.zero_mul,Addr.add_zero'] at aE);replace aG:=eq_true aG;replace aH:=eq_true aH;have aQ:0≤(0:Int):=(by omega);have aT:0 < (l0.length:Int):=dcd;obtain⟨aY,a8,aI,aJ,aK,aM⟩:=at_T84 bA.out 0 aQ aT;obtain rfl:aN=aY:=(by injection a8);have qi607:(0 < l0.length)=True:=eq_true (by omega);(try simp only [Int.toNat_zero,Nat.zero_mul,Addr.add_zero'] at aI);(try simp only [Int.toNat_zero,Nat.zero_mul,Addr.add_zero'] at aJ);(try simp only [Int.toNat_zero,Nat.zero_mul,Addr.add_zero'] at aK);(try simp only [Int.toNat_zero,Nat.zero_mul,Addr.add_zero'] at aM);replace aQ:=eq_true aQ;replace aT:=eq_true aT;have a6:0≤(0:Int):=(by omega);have a7:0 < (l0.length:Int):=dcd;obtain⟨a9,bB,aU,aV,aW,aX⟩:=at_T84 bA.out 0 a6 a7;obtain rfl:aN=a9:=(by injection bB);have qi608:(0 < l0.length)=True:=eq_true (by omega);(try simp only [Int.toNat_zero,Nat.zero_mul,Addr.add_zero'] at aU);(try simp only [Int.toNat_zero,Nat.zero_mul,Addr.add_zero'] at aV);(try simp only [Int.toNat_zero,Nat.zero_mul,Addr.add_zero'] at aW);(try simp only [Int.toNat_zero,Nat.zero_mul,Addr.add_zero'] at aX);replace a6:=eq_true a6;replace a7:=eq_true a7))
   go_ret
   exact fin_ (bL HB)
 rw [if_pos c7] at H
 have bG:(((rd_T84 l0 0).f0).toList == ([]:List UInt8))=true:=beq_iff_eq.mpr c7
 try have bH:((rd_T84 l0 0).f0).toList.isEmpty=true:=by simpa using c7
 have bI:(((rd_T84 l0 0).f0).toList != ([]:List UInt8))=false:=bne_eq_false_iff_eq.mpr c7
 clear c7
 replace H:=bnd H;obtain⟨bJ,A8,H⟩:=H
 cases H
 go_enter Try.func56,Try.ntmps56
 go_wp2_with (first | ((with_reducible refine gc 57 rfl ?_);refine gc1 (some 5) Try.func57 rfl (impl_within.calls A2.out) ?_;rintro w' ⟨nd,rfl⟩;have aG:0≤(0:Int):=(by omega);have aH:0 < (l0.length:Int):=dcd;obtain⟨aN,aZ,aA,aC,aD,aE⟩:=at_T84 bA.out 0 aG aH;cases aZ;have qi606:(0 < l0.length)=True:=eq_true (by omega);(try simp only [Int.toNat_zero,Nat.zero_mul,Addr.add_zero'] at aA);(try simp only [Int.toNat_zero,Nat.zero_mul,Addr.add_zero'] at aC);(try simp only [Int.toNat_zero,Nat.zero_mul,Addr.add_zero'] at aD);(try simp only [Int.toNat_zero,Nat.zero_mul,Addr.add_zero'] at aE);replace aG:=eq_true aG;replace aH:=eq_true aH;have aQ:0≤(0:Int):=(by omega);have aT:0 < (l0.length:Int):=dcd;obtain⟨aY,a8,aI,aJ,aK,aM⟩:=at_T84 bA.out 0 aQ aT;obtain rfl:aN=aY:=(by injection a8);have qi607:(0 < l0.length)=True:=eq_true (by omega);(try simp only [Int.toNat_zero,Nat.zero_mul,Addr.add_zero'] at aI);(try simp only [Int.toNat_zero,Nat.zero_mul,Addr.add_zero'] at aJ);(try simp only [Int.toNat_zero,Nat.zero_mul,Addr.add_zero'] at aK);(try simp only [Int.toNat_zero,Nat.zero_mul,Addr.add_zero'] at aM);replace aQ:=eq_true aQ;replace aT:=eq_true aT;have a6:0≤(0:Int):=(by omega);have a7:0 < (l0.length:Int):=dcd;obtain⟨a9,bB,aU,aV,aW,aX⟩:=at_T84 bA.out 0 a6 a7;obtain rfl:aN=a9:=(by injection bB);have qi608:(0 < l0.length)=True:=eq_true (by omega);(try simp only [Int.toNat_zero,Nat.zero_mul,Addr.add_zero'] at aU);(try simp only [Int.toNat_zero,Nat.zero_mul,Addr.add_zero'] at aV);(try simp only [Int.toNat_zero,Nat.zero_mul,Addr.add_zero'] at aW);(try simp only [Int.toNat_zero,Nat.zero_mul,Addr.add_zero'] at aX);replace a6:=eq_true a6;replace a7:=eq_true a7) | ((with_reducible refine gc 74 rfl ?_);refine gc1 (some 29) Try.func74 rfl (impl_colAfter.calls k _ _ l0 0 1 bJ _ (C_later bA.out) bM.out A8.out) ?_;rintro w9 hb;replace HB:=bst HB hb;clear hb))
 go_ret
 exact fin_ (bL HB)
/-! ### impl_leavesOf: function 58 -/
def impl_leavesOf.l0:Nat→List Int→List (S84)→Int→Int→Option (List Int)
  | 0,_,_,_,_=>none
  | k + 1,x3,x7,x8,x9=>if x9 < x8 then (if 0≤x9 then (if x9 < (x7.length:Int) then (if ((rd_T84 x7 x9).f1)=7 then (impl_leavesOf.l0 k x3 x7 x8 (wrap64 (x9 + 1))) else (if x3.length < 17592186044416 then (impl_leavesOf.l0 k (x3 ++ [x9]) x7 x8 (wrap64 (x9 + 1))) else (none))) else (none)) else (none)) else (some x3)
def impl_leavesOf.f (k:Nat)(l0:List (S84)):Option (List Int):=impl_leavesOf.l0 k (([]:List Int)) l0 (l0.length:Int) 0
theorem impl_leavesOf.calls {k : Nat} {A0 : Option Addr} {c0 : Nat} {l0 : List (S84)} {r : List Int} {w : World} (hr0 : Kd.C k84 w A0 l0.length l0) (bG : l0.length ≤ c0) (h : impl_leavesOf.f k l0 = some r) :
    Calls Try.prog 58 #[.slice A0 l0.length c0] w fun e w'=>∃ bH:Value,e=.returned (bH)∧Kd.R (Kd.int .i64) 3 w' w.heap.size (fun _=>True) bH r∧Below w.heap.size w w':=by
 have hu84:=Try.underlying84
 have bI:=am hr0
 have bO:=am bG
 clear hr0 bG
 have HB:=am (Below.refl w.heap.size w)
 have H:=h;clear h;unfold impl_leavesOf.f at H
 generalize aM:((([]:List Int)):List Int)=a9 at H;have aN:=am aM.symm;clear aM
 have H':=am H;clear H
 go_enter Try.func58,Try.ntmps58
 go_wp2_with (first | ((with_reducible refine gd 6 rfl ?_);refine Kd.R_lit (Kd.int .i64) _ 3 ?hg (N:=6) ?hd (xs:=([]:List Int)) (inner:=[]) (ok:=fun _=>True) (okp:=fun _=>True) ?hr ?hp (fun _ hk=>hk) trivial (Below.refl _ _) (Nat.le_refl _) (by simp) ?_;(case hd=>rfl);(case hg=>rfl);(case hr=>first | (go_simp;done) | (go_simp;rfl));(case hp=>exact (Reps.none _ _));intro bJ w2 aU hb hg_ hnew_;clear hg_ hnew_;(first | rw [← aN.out] at aU | (simp only [Int.reduceToNat] at aU;rw [← aN.out] at aU));have aV:=rlb aU HB;replace HB:=bst HB hb;clear hb aU))
 go_loopg [3,9] k (fun kq v3 v9 w'=>∃ (aG:List Int) (aA:Int),v9=.int .i64 aA∧Aside0 (impl_leavesOf.l0 kq aG l0 (l0.length:Int) aA=some r)∧Aside0 (kq≤k)∧Aside0 (Kd.R (Kd.int .i64) 3 w' w.heap.size (fun _=>True) v3 aG)∧Aside0 (Below w.heap.size w w'))
 case atStart=>exact⟨(a9),(0),sr,H',⟨Nat.le_refl _⟩,⟨rL aV⟩,⟨bL HB⟩⟩
 clear H'
 obtain⟨aG,aA,rfl,HA,a8,aE,HB⟩:=hrel
 cases gk with
 | zero=>exact absurd HA.out (by simp [impl_leavesOf.l0])
 | succ k1=>?_
 have H:=HA.out
 clear HA
 simp only [impl_leavesOf.l0] at H
 replace H:=idc H;obtain⟨bA,H⟩ | ⟨bA,H⟩:=H
 rotate_left
 · cases H
   go_wp2
   go_ret
   exact⟨_,fin_ ⟨rL aE,bL HB⟩⟩
 replace H:=if_dd H;obtain⟨bK,bM,H⟩:=H
 replace H:=ieq H;obtain⟨bB,bC,H⟩ | ⟨c7,bB,bC,H⟩:=H
 · have H':=am H;clear H
   obtain⟨bD,bE,aW,aT,aH,aI,aJ,aK⟩:=at_T84b HB bI aA;cases aT
   go_wp2_with (first | ((with_reducible refine gd 5 rfl ?_);refine bxv 5 rfl #[.string ⟨#[]⟩,.int .i64 0,.int .i64 0,.int .i64 0] 84 HB ?_;clear HB;intro aC w8 aD aX aY HB hg hb;replace aE:=rbe aE hb;clear hg hb;obtain⟨_,_,_,_,_,_,_,_⟩:=cl4 aD))
   go_roundg k1
   case measure=>have:=a8.out;omega
   case rel=>exact⟨(aG),(wrap64 (aA + 1)),sr,H',⟨by have:=a8.out;omega⟩,⟨R_later (Kd.R_mono (Kd.R_far (p:=⟨aC,3,none⟩) (Kd.R_far (p:=⟨aC,2,none⟩) (Kd.R_far (p:=⟨aC,1,none⟩) (Kd.R_far (p:=⟨aC,0,none⟩) (Kd.R_types aE.out aD.out (by decide)) (fun _ hk=>hk.2) (.string ((rd_T84 l0 aA).f0))) (fun _ hk=>hk.2) (.int .i64 ((rd_T84 l0 aA).f1))) (fun _ hk=>hk.2) (.int .i64 ((rd_T84 l0 aA).f2))) (fun _ hk=>hk.2) (.int .i64 ((rd_T84 l0 aA).f3))) (fun _ hk=>trivial))⟩,⟨bL HB⟩⟩
 replace H:=ifs H;obtain⟨c10,H⟩:=H
 have aZ:=am c10
 clear c10
 generalize aQ:((aG ++ [aA]):List Int)=bF at H;have a6:=am aQ.symm;clear aQ
 have H':=am H;clear H
 obtain⟨bD,bE,aW,aT,aH,aI,aJ,aK⟩:=at_T84b HB bI aA;cases aT
 go_wp2_with (first | ((with_reducible refine gd 5 rfl ?_);refine bxv 5 rfl #[.string ⟨#[]⟩,.int .i64 0,.int .i64 0,.int .i64 0] 84 HB ?_;clear HB;intro aC bP aD aX aY HB hg hb;replace aE:=rbe aE hb;clear hg hb;obtain⟨_,_,_,_,_,_,_,_⟩:=cl4 aD) | ((with_reducible refine gate_builtin (b:=.append) (xs:=#[.tmp 17,.tmp 19]) rfl ?_);at_builtin;refine Kd.R_append (Kd.int .i64) (w0:=w) w.heap.size rfl (.tmp 17) (.tmp 19) 56 3 (.int .i64 0) 8 rfl Try.underlying56 info3 rfl (by decide) (by omega) u3 aG aA [.int .i64 aA] (fun _=>True) (fun _=>False) rfl (by first | (go_simp;done) | (go_simp;rfl)) ?aP (fun _ hk=>hk.elim) ?aF ?aO ?aB ?aS ?aL ?_;(case aP=>exact rfl);(case aB=>exact (bL HB));(case aF=>exact (fun _ _=>trivial));(case aO=>exact (R_later (Kd.R_mono (Kd.R_far (p:=⟨aC,3,none⟩) (Kd.R_far (p:=⟨aC,2,none⟩) (Kd.R_far (p:=⟨aC,1,none⟩) (Kd.R_far (p:=⟨aC,0,none⟩) (Kd.R_types aE.out aD.out (by decide)) (fun _ hk=>hk.2) (.string ((rd_T84 l0 aA).f0))) (fun _ hk=>hk.2) (.int .i64 ((rd_T84 l0 aA).f1))) (fun _ hk=>hk.2) (.int .i64 ((rd_T84 l0 aA).f2))) (fun _ hk=>hk.2) (.int .i64 ((rd_T84 l0 aA).f3))) (fun _ hk=>trivial))));(case aS=>exact (below_size (bL HB)));(case aL=>have:=aZ.out;omega);intro bN bQ ho hb hg hat;rw [← a6.out] at ho;have a7:=am ho;replace aD:=am (blk_grown (g:=aC) (o:=.cells #[.string ((rd_T84 l0 aA).f0),.int .i64 ((rd_T84 l0 aA).f1),.int .i64 ((rd_T84 l0 aA).f2),.int .i64 ((rd_T84 l0 aA).f3)] 84 (0,0)) (blk_later aD.out) hg (Kd.R_ne aE.out aD.out (by decide)));replace HB:=am hb;clear aE;clear ho hb hg hat))
 go_roundg k1
 case measure=>have:=a8.out;omega
 case rel=>exact⟨(bF),(wrap64 (aA + 1)),sr,H',⟨by have:=a8.out;omega⟩,⟨rL a7⟩,⟨bL HB⟩⟩
/-! ### impl_encsRight: function 75 -/
def impl_encsRight.l0:Nat→List Int→List Int→Int→Int→Option (Bool)
  | 0,_,_,_,_=>none
  | k + 1,x0,x5,x6,x7=>if x7 < x6 then (if 0≤x7 then (if x7 < (x5.length:Int) then ((impl_within.f (rd x5 x7) 0 9).bind fun aA=>(if aA=true then (if x7 > 0 then (if 0≤(wrap64 (x7 - 1)) then (if (wrap64 (x7 - 1)) < (x0.length:Int) then (if (rd x0 (wrap64 (x7 - 1))) ≥ (rd x5 x7) then (some false) else (impl_encsRight.l0 k x0 x5 x6 (wrap64 (x7 + 1)))) else (none)) else (none)) else (impl_encsRight.l0 k x0 x5 x6 (wrap64 (x7 + 1)))) else (some false))) else (none)) else (none)) else ((impl_within.f (x0.length:Int) 1 5).bind fun aC=>(some aC))
def impl_encsRight.f (k:Nat)(l0:List Int):Option (Bool):=impl_encsRight.l0 k l0 l0 (l0.length:Int) 0
theorem impl_encsRight.calls {k : Nat} {A0 : Option Addr} {c0 : Nat} {l0 : List Int} {r : Bool} {w : World} (hr0 : Kd.C (Kd.int .i64) w A0 l0.length l0) (aX : l0.length ≤ c0) (h : impl_encsRight.f k l0 = some r) :
    Calls Try.prog 75 #[.slice A0 l0.length c0] w fun e w'=>e=.returned (.bool r)∧Drawn0 w w':=by
 have aQ:=am hr0
 have bB:=am aX
 clear hr0 aX
 have H:=h;clear h;unfold impl_encsRight.f at H
 have H':=am H;clear H
 go_enter Try.func75,Try.ntmps75
 go_wp2
 go_loopg [7] k (fun kq v7 w'=>∃ (aA:Int),v7=.int .i64 aA∧Aside0 (impl_encsRight.l0 kq l0 l0 (l0.length:Int) aA=some r)∧Aside0 (kq≤k)∧Drawn0 w w')
 case atStart=>exact⟨(0),sr,H',⟨Nat.le_refl _⟩,by repeat (first | exact Drawn0.refl _ | apply Drawn0.step)⟩
 clear H'
 obtain⟨aA,rfl,HA,aU,⟨m1,rfl⟩⟩:=hrel
 cases gk with
 | zero=>exact absurd HA.out (by simp [impl_encsRight.l0])
 | succ k1=>?_
 have H:=HA.out
 clear HA
 simp only [impl_encsRight.l0] at H
 replace H:=idc H;obtain⟨aV,H⟩ | ⟨aV,H⟩:=H
 rotate_left
 · replace H:=bnd H;obtain⟨aZ,a6,H⟩:=H
   cases H
   go_wp2_with (first | ((with_reducible refine gc 57 rfl ?_);refine gc1 (some 31) Try.func57 rfl (impl_within.calls a6.out) ?_;rintro w' ⟨nd,rfl⟩))
   go_ret
   exact⟨sr,drl⟩
 replace H:=if_dd H;obtain⟨a7,a8,H⟩:=H
 replace H:=bnd H;obtain⟨a9,A5,H⟩:=H
 replace H:=ibt H;obtain⟨rfl,H⟩ | ⟨rfl,H⟩:=H
 rotate_left
 · cases H
   have aC:0≤(aA:Int):=dcd
   have aD:aA < (l0.length:Int):=dcd
   obtain⟨aG,aH,aE⟩:=Kd.at_int aQ.out aA aC aD
   cases aH
   replace aC:=eq_true aC
   replace aD:=eq_true aD
   go_wp2_with (first | ((with_reducible refine gc 57 rfl ?_);refine gc1 (some 13) Try.func57 rfl (impl_within.calls A5.out) ?_;rintro w' ⟨nd,rfl⟩))
   go_ret
   exact⟨sr,drl⟩
 replace H:=igt H;obtain⟨aW,H⟩ | ⟨aW,H⟩:=H
 rotate_left
 · have H':=am H;clear H
   have aC:0≤(aA:Int):=dcd
   have aD:aA < (l0.length:Int):=dcd
   obtain⟨aG,aH,aE⟩:=Kd.at_int aQ.out aA aC aD
   cases aH
   replace aC:=eq_true aC
   replace aD:=eq_true aD
   go_wp2_with (first | ((with_reducible refine gc 57 rfl ?_);refine gc1 (some 13) Try.func57 rfl (impl_within.calls A5.out) ?_;rintro w' ⟨nd,rfl⟩))
   go_roundg k1
   case measure=>have:=aU.out;omega
   case rel=>exact⟨(wrap64 (aA + 1)),sr,H',⟨by have:=aU.out;omega⟩,by repeat (first | exact Drawn0.refl _ | apply Drawn0.step)⟩
 obtain⟨ji8,hji8⟩:∃ j_:Int,(wrap64 (aA - 1))=j_:=⟨_,rfl⟩
 replace H:(if 0≤(ji8) then (if (ji8) < (l0.length:Int) then (if (rd l0 (ji8)) ≥ (rd l0 aA) then (some false) else (impl_encsRight.l0 k1 l0 l0 (l0.length:Int) (wrap64 (aA + 1)))) else (none)) else (none))=some r:=by first | (rw [hji8] at H;exact H) | (simp only [hji8] at H ⊢;exact H)
 (try rw [hji8] at A5)
 have hji8w:(IntKind.i64.wrap (aA - 1))=ji8:=(i64_w _).trans hji8
 replace H:=if_dd H;obtain⟨bA,aY,H⟩:=H
 replace H:=ige H;obtain⟨aT,H⟩ | ⟨aT,H⟩:=H
 · cases H
   have aC:0≤(aA:Int):=dcd
   have aD:aA < (l0.length:Int):=dcd
   obtain⟨aG,aH,aE⟩:=Kd.at_int aQ.out aA aC aD
   cases aH
   replace aC:=eq_true aC
   replace aD:=eq_true aD
   go_wp2_with (first | ((with_reducible refine gc 57 rfl ?_);refine gc1 (some 13) Try.func57 rfl (impl_within.calls A5.out) ?_;rintro w' ⟨nd,rfl⟩;have aI:0≤((ji8):Int):=dcd;have aJ:(ji8) < (l0.length:Int):=dcd;obtain⟨aK,aN,aM⟩:=Kd.at_int aQ.out (ji8) aI aJ;obtain rfl:aG=aK:=(by injection aN);replace aI:=eq_true aI;replace aJ:=eq_true aJ))
   go_ret
   exact⟨by first | rfl | (simp;done) | (simp only [← hji8] <;> (first | rfl | simp)) | (simp [*];done),by repeat (first | exact Drawn0.refl _ | apply Drawn0.step)⟩
 have H':=am H;clear H
 have aC:0≤(aA:Int):=dcd
 have aD:aA < (l0.length:Int):=dcd
 obtain⟨aG,aH,aE⟩:=Kd.at_int aQ.out aA aC aD
 cases aH
 replace aC:=eq_true aC
 replace aD:=eq_true aD
 go_wp2_with (first | ((with_reducible refine gc 57 rfl ?_);refine gc1 (some 13) Try.func57 rfl (impl_within.calls A5.out) ?_;rintro w' ⟨nd,rfl⟩;have aI:0≤((ji8):Int):=dcd;have aJ:(ji8) < (l0.length:Int):=dcd;obtain⟨aK,aN,aM⟩:=Kd.at_int aQ.out (ji8) aI aJ;obtain rfl:aG=aK:=(by injection aN);replace aI:=eq_true aI;replace aJ:=eq_true aJ))
 go_roundg k1
 case measure=>have:=aU.out;omega
 case rel=>exact⟨(wrap64 (aA + 1)),sr,H',⟨by have:=aU.out;omega⟩,by repeat (first | exact Drawn0.refl _ | apply Drawn0.step)⟩
end Go.Proofs.Ytjdapaocdkcgdaa.PFnExactMetaPack
