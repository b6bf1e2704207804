/- The machine's side of FnExactMetaPack: each Go function, and what its call comes to. No condition. -/
import Derived.Test.YtjdapaocdkcgdaaPFnExactMetaPackx0
import Derived.Test.YtjdapaocdkcgdaaPFnExactMetaPackx1
import Derived.Test.YtjdapaocdkcgdaaPFnExactMetaPackx2
import Derived.Test.YtjdapaocdkcgdaaPFnExactMetaPackx3
import Derived.Test.YtjdapaocdkcgdaaPFnExactMetaPackx11
import Derived.Test.YtjdapaocdkcgdaaPFnExactMetaPackx20
namespace Go.Proofs.Ytjdapaocdkcgdaa.PFnExactMetaPack
open Go.RowKit Go.Proofs.YtjdapaocdkcgdaaW.PrintWords Go.Proofs.YtjdapaocdkcgdaaW.PrintLast Go.Proofs.YtjdapaocdkcgdaaW.PrintMore Go.Proofs.YtjdapaocdkcgdaaW.PrintMore2
attribute [local go_sem] max2_int min2_int max_two min_two max_three min_three max_four min_four
set_option linter.unusedVariables false
set_option linter.unusedSimpArgs false
set_option maxHeartbeats 8000000
set_option maxRecDepth 100000

/-! ### laws_markByteS: function 17 -/
def laws_markByteS.l0:Nat→List Int→Int→Int→Option (Int × List Int)
  | 0,_,_,_=>none
  | k + 1,x0,x1,x5=>if x5 < (x0.length:Int) then (if 0≤x5 then (laws_markByteS.l0 k (x0.set (x5:Int).toNat ((x1) % 256)) (wrap64 (x1 + 1)) (wrap64 (x5 + 1))) else (none)) else (some (x1,x0))
def laws_markByteS.f (k:Nat)(l0:List Int)(a1:Int):Option (Int × List Int):=laws_markByteS.l0 k l0 a1 0
theorem laws_markByteS.calls {k : Nat} (P0_ : Nat → Prop) {u9000_ : Value} {l0 : List Int} {a1 r1 : Int} {r2 : List Int} {w0 w : World} (hB : Below w0.heap.size w0 w) (aU : Kd.R (Kd.int .u8) 5 w w0.heap.size P0_ u9000_ l0) (h : laws_markByteS.f k l0 a1 = some (r1, r2)) :
    Calls Try.prog 17 #[u9000_,.int .i64 a1] w fun e w'=>e=.returned (.int .i64 r1)∧Kd.R (Kd.int .u8) 5 w' w0.heap.size (fun k_=>(P0_ k_∨w.heap.size≤k_)) u9000_ r2∧Below w0.heap.size w0 w'∧Kept w w' (fun k_=>P0_ k_):=by
 have aV:=am (show Kd.R (Kd.int .u8) 5 w w0.heap.size (fun k_=>(P0_ k_∨w.heap.size≤k_)) u9000_ l0 from Kd.R_mono aU (fun k_ hk=>(.inl hk)))
 have HK:=am (Kept.refl w (fun k_=>P0_ k_))
 have HW0:=am hB.size
 have HB:=am hB
 clear hB
 have H:=h;clear h;unfold laws_markByteS.f at H
 have H':=am H;clear H
 go_enter Try.func17,Try.ntmps17
 go_wp2
 go_loopg [1,5] k (fun kq v1 v5 w'=>∃ (aE:List Int) (aD:Int) (aA:Int),v1=.int .i64 aD∧v5=.int .i64 aA∧Aside0 (laws_markByteS.l0 kq aE aD aA=some (r1,r2))∧Aside0 (kq≤k)∧Aside0 (Kd.R (Kd.int .u8) 5 w' w0.heap.size (fun k_=>(P0_ k_∨w.heap.size≤k_)) u9000_ aE)∧Aside0 (Kept w w' (fun k_=>P0_ k_))∧Aside0 (Below w0.heap.size w0 w'))
 case atStart=>exact⟨(l0),(a1),(0),sr,sr,H',⟨Nat.le_refl _⟩,⟨rL aV⟩,⟨kept_later HK.out⟩,⟨bL HB⟩⟩
 clear H'
 obtain⟨aE,aD,aA,rfl,rfl,HA,aK,aC,HK,HB⟩:=hrel
 cases gk with
 | zero=>exact absurd HA.out (by simp [laws_markByteS.l0])
 | succ k1=>?_
 have H:=HA.out
 clear HA
 simp only [laws_markByteS.l0] at H
 replace H:=idc H;obtain⟨aJ,H⟩ | ⟨aJ,H⟩:=H
 rotate_left
 · replace H:=sj2 H;obtain⟨rfl,rfl⟩:=H
   obtain⟨a6,a7,aW⟩:=Kd.R_slice aC.out
   subst aW
   go_wp2
   go_ret
   exact fin_ ⟨rL aC,bL HB,kept_later HK.out⟩
 replace H:=ifd H;obtain⟨aX,H⟩:=H
 generalize aG:((aE.set (aA:Int).toNat ((aD) % 256)):List Int)=aH at H;have aI:=am aG.symm;clear aG
 have H':=am H;clear H
 obtain⟨a8,aY,aZ⟩:=Kd.R_slice aC.out
 subst aZ
 have p5:0≤(aA:Int):=dcd
 have q5:(aA:Int) < ((aE.length:Int):Int):=dcd
 obtain⟨go5,a9,aM,aN,gl5,cl5,HG5⟩:=Kd.R_form aC.out (by omega)
 (first | cases aM | (injection aM with ea_ en_ ec_;(first | subst ea_ | (injection ea_ with ea_;subst ea_));subst ec_;clear en_))
 have GB5:=am aN
 have GG5:=am HG5
 clear aN gl5 HG5
 have HMgo5:=am (show (P0_ go5∨w.heap.size≤go5) from (aC.out.1 _ rfl))
 obtain⟨aQ,aT⟩:=Kd.R_celln 0 aC.out (aA:Int) p5 q5
 replace p5:=eq_true p5
 replace q5:=eq_true q5
 have HP7:=Kd.R_putg aC.out (aA:Int) ((aD) % 256)
 go_wp2_with (first | ((with_reducible refine gate_store (t:=5) (p:=16) rfl ?_);refine st_ 5 16 (wr.setCell ⟨go5,(aA:Int).toNat,none⟩ (.int .u8 ((aD) % 256))) ?_;intro w8 hw;have hg:wr.grownBy w8 (some go5):=(by rw [hw];exact HP7.2);have hp_:Kd.R (Kd.int .u8) 5 w8 w0.heap.size (fun k_=>(P0_ k_∨w.heap.size≤k_)) (.slice (some ⟨go5,0,none⟩) aE.length aY) aH:=(by rw [hw,aI.out];exact HP7.1);clear HP7;replace HB:=am ((by rw [hw];exact below_set (HB.out) GB5.out:Below w0.heap.size w0 w8));replace HK:=am (Kept.of_grown (S:=(fun k_=>P0_ k_)) hg (kept_later HK.out) (fun k_ e_=>(aC.out.1 k_ e_)));replace aC:=am hp_;clear hg hw hp_))
 go_roundg k1
 case measure=>have:=aK.out;omega
 case rel=>exact⟨(aH),(wrap64 (aD + 1)),(wrap64 (aA + 1)),sr,sr,H',⟨by have:=aK.out;omega⟩,⟨rL aC⟩,⟨kept_later HK.out⟩,⟨bL HB⟩⟩
/-! ### laws_heldByteS: function 18 -/
def laws_heldByteS.l0:Nat→List Int→Int→Int→Option (Int)
  | 0,_,_,_=>none
  | k + 1,x0,x1,x5=>if x5 < (x0.length:Int) then (if 0≤x5 then (if (rd x0 x5)=((x1) % 256) then (laws_heldByteS.l0 k x0 (wrap64 (x1 + 1)) (wrap64 (x5 + 1))) else (some (-1))) else (none)) else (some x1)
def laws_heldByteS.f (k:Nat)(l0:List Int)(a1:Int):Option (Int):=laws_heldByteS.l0 k l0 a1 0
theorem laws_heldByteS.calls {k : Nat} {A0 : Option Addr} {c0 : Nat} {l0 : List Int} {a1 r : Int} {w : World} (hr0 : Kd.C (Kd.int .u8) w A0 l0.length l0) (aN : l0.length ≤ c0) (h : laws_heldByteS.f k l0 a1 = some r) :
    Calls Try.prog 18 #[.slice A0 l0.length c0,.int .i64 a1] w fun e w'=>e=.returned (.int .i64 r)∧Drawn0 w w':=by
 have aQ:=am hr0
 have aV:=am aN
 clear hr0 aN
 have H:=h;clear h;unfold laws_heldByteS.f at H
 have H':=am H;clear H
 go_enter Try.func18,Try.ntmps18
 go_wp2
 go_loopg [1,5] k (fun kq v1 v5 w'=>∃ (aH:Int) (aD:Int),v1=.int .i64 aH∧v5=.int .i64 aD∧Aside0 (laws_heldByteS.l0 kq l0 aH aD=some r)∧Aside0 (kq≤k)∧Drawn0 w w')
 case atStart=>exact⟨(a1),(0),sr,sr,H',⟨Nat.le_refl _⟩,by repeat (first | exact Drawn0.refl _ | apply Drawn0.step)⟩
 clear H'
 obtain⟨aH,aD,rfl,rfl,HA,aT,⟨m1,rfl⟩⟩:=hrel
 cases gk with
 | zero=>exact absurd HA.out (by simp [laws_heldByteS.l0])
 | succ k1=>?_
 have H:=HA.out
 clear HA
 simp only [laws_heldByteS.l0] at H
 replace H:=idc H;obtain⟨aJ,H⟩ | ⟨aJ,H⟩:=H
 rotate_left
 · cases H
   go_wp2
   go_ret
   exact⟨sr,drl⟩
 replace H:=ifd H;obtain⟨aU,H⟩:=H
 replace H:=ieq H;obtain⟨aK,aM,H⟩ | ⟨c5,aK,aM,H⟩:=H
 rotate_left
 · cases H
   have aA:0≤(aD:Int):=dcd
   have aC:aD < (l0.length:Int):=dcd
   obtain⟨aI,aE,aG⟩:=Kd.at_int aQ.out aD aA aC
   cases aE
   replace aA:=eq_true aA
   replace aC:=eq_true aC
   go_wp2
   go_ret
   exact⟨sr,drl⟩
 have H':=am H;clear H
 have aA:0≤(aD:Int):=dcd
 have aC:aD < (l0.length:Int):=dcd
 obtain⟨aI,aE,aG⟩:=Kd.at_int aQ.out aD aA aC
 cases aE
 replace aA:=eq_true aA
 replace aC:=eq_true aC
 go_wp2
 go_roundg k1
 case measure=>have:=aT.out;omega
 case rel=>exact⟨(wrap64 (aH + 1)),(wrap64 (aD + 1)),sr,sr,H',⟨by have:=aT.out;omega⟩,by repeat (first | exact Drawn0.refl _ | apply Drawn0.step)⟩
/-! ### laws_FnExactMetaPack: function 4 -/
mutual
def laws_FnExactMetaPack.j0:Nat→List Int→Bool→List Int→Bool→Bool→List (S75)→Int→List (S79)→List (S84)→Int→List (S54)→Option (Bool)
  | 0,_,_,_,_,_,_,_,_,_,_,_=>none
  | k + 1,x4,x5,x7,x8,aN,aA,aC,aD,aE,aG,aH=>if aN=true then (some false) else ((laws_toMeta.f k aA aC aD).bind fun aI=>((laws_eqMeta.f k aE aG aH aI.1 aI.2.1 aI.2.2).bind fun aK=>(if aK=true then ((laws_markMeta.f k aE aG aH 1).bind fun aJ=>(if aJ.1 < 0 then (laws_FnExactMetaPack.j1 k x4 x5 x7 true aA aC aD) else ((laws_eqByteS.f k x7 x4).bind fun aM=>(if aM=true then (laws_FnExactMetaPack.j1 k x4 x5 x7 (x8 != x5) aA aC aD) else (laws_FnExactMetaPack.j1 k x4 x5 x7 true aA aC aD))))) else (some false))))
def laws_FnExactMetaPack.j1:Nat→List Int→Bool→List Int→Bool→List (S75)→Int→List (S79)→Option (Bool)
  | 0,_,_,_,_,_,_,_=>none
  | k + 1,x4,x5,x7,aK,aD,aE,aG=>if aK=true then (some false) else ((laws_markByteS.f k x7 1).bind fun aA=>((laws_heldByteS.f k aA.2 1).bind fun aI=>(if aI < 0 then (some false) else (if aI=aA.1 then ((laws_toMeta.f k aD aE aG).bind fun aC=>((impl_MetaPack.f k aC.1 aC.2.1 aC.2.2).bind fun aH=>((laws_eqByteS.f k aH.1 x4).bind fun aJ=>(if aJ=true then (laws_FnExactMetaPack.j2 k aA.2 aA.1 (aH.2 != x5)) else (laws_FnExactMetaPack.j2 k aA.2 aA.1 true))))) else (some false)))))
def laws_FnExactMetaPack.j2:Nat→List Int→Int→Bool→Option (Bool)
  | 0,_,_,_=>none
  | k + 1,x7,aC,aD=>if aD=true then (some false) else ((laws_heldByteS.f k x7 1).bind fun aA=>(if aA < 0 then (some false) else (if aA=aC then (some true) else (some false))))
end
def laws_FnExactMetaPack.f (k:Nat)(aG:List (S75))(aH:Int)(aI:List (S79)):Option (Bool):=(laws_szMeta.f k aG aH aI 1048576).bind fun aJ=>(if aJ < 0 then (some true) else ((laws_toMeta.f k aG aH aI).bind fun aE=>((spec_MetaPack.f k aE.1 aE.2.1 aE.2.2).bind fun aC=>((laws_toMeta.f k aG aH aI).bind fun aA=>((impl_MetaPack.f k aA.1 aA.2.1 aA.2.2).bind fun aD=>((laws_eqByteS.f k aD.1 aC.1).bind fun aK=>(if aK=true then (laws_FnExactMetaPack.j0 k aC.1 aC.2 aD.1 aD.2 (aD.2 != aC.2) aG aH aI aA.1 aA.2.1 aA.2.2) else (laws_FnExactMetaPack.j0 k aC.1 aC.2 aD.1 aD.2 true aG aH aI aA.1 aA.2.1 aA.2.2))))))))
theorem R_markedB {α:Type}{d:Kd α}{e base e' base2:Nat}{ok ok2:Nat→Prop}{v u:Value}{xs:List α}{l:List Nat}{W W2 W3:World}(h:d.R e W base ok v xs)(hk:Kept W W2 (fun k=>some k=u.ownBlock∨(ok2 k∧base2≤k∧k < W3.heap.size∧∃ q,q ∈ l∧∃ cells,W.heap[k]?=some (.cells cells q (0,0)))))(hty:∀ k,u.ownBlock=some k→∃ cells,W.heap[k]?=some (.cells cells e' (0,0)))(ht:∀ q,q ∈ e :: d.E→∀ q',q' ∈ e' :: l→q'≠q):d.R e W2 base ok v xs :=
  R_marked h (hk.mono (fun k h_=>h_.elim .inl (fun h_=>.inr h_.2.2.2))) hty ht
theorem blk_markedB {e' g t base2:Nat}{ok2:Nat→Prop}{u:Value}{cs:Array Value}{l:List Nat}{W W2 W3:World}(h:W.heap[g]?=some (.cells cs t (0,0)))(hk:Kept W W2 (fun k=>some k=u.ownBlock∨(ok2 k∧base2≤k∧k < W3.heap.size∧∃ q,q ∈ l∧∃ cells,W.heap[k]?=some (.cells cells q (0,0)))))(hty:∀ k,u.ownBlock=some k→∃ cells,W.heap[k]?=some (.cells cells e' (0,0)))(ht:∀ q',q' ∈ e' :: l→q'≠t):W2.heap[g]?=some (.cells cs t (0,0)) :=
  blk_marked h (hk.mono (fun k h_=>h_.elim .inl (fun h_=>.inr h_.2.2.2))) hty ht
theorem laws_FnExactMetaPack.calls (k : Nat) (bC : Option Addr) (bD : Nat) (aV : List (S75)) (aZ : Int) (bE : Option Addr) (bF : Nat) (aW : List (S79)) (r : Bool) (w : World) (hr0_0 : Kd.C k75 w bC aV.length aV) (dU : aV.length ≤ bD) (hr0_2 : Kd.C k79 w bE aW.length aW) (dV : aW.length ≤ bF) (h : laws_FnExactMetaPack.f k aV aZ aW = some true) :
    Calls Try.prog 4 #[.agg #[.slice bC aV.length bD,.int .i64 aZ,.slice bE aW.length bF]] w fun e w'=>e=.returned (.bool true)∧Below w.heap.size w w':=by
 have hu25:=Try.underlying25
 have hu33:=Try.underlying33
 have bQ:=am hr0_0
 have bR:=am dU
 clear hr0_0 dU
 have bS:=am hr0_2
 have bT:=am dV
 clear hr0_2 dV
 have HB:=am (Below.refl w.heap.size w)
 have H:=h;clear h;unfold laws_FnExactMetaPack.f at H
 replace H:=bnd H;obtain⟨fO,A2,H⟩:=H
 replace H:=idc H;obtain⟨dL,H⟩ | ⟨dL,H⟩:=H
 · clear H
   go_enter Try.func4,Try.ntmps4
   go_wp2_with (first | ((with_reducible refine gd 1 rfl ?_);refine bxw 1 rfl #[.slice bC aV.length bD,.int .i64 aZ,.slice bE aW.length bF] 25 HB ?_;clear HB;intro bB w4 aC dW dX HB;obtain⟨_,_,_,_,_,_⟩:=cl3 aC) | ((with_reducible refine gc 5 rfl ?_);refine gl_ (some 16) Try.func5 #[.agg #[.slice bC aV.length bD,.int .i64 aZ,.slice bE aW.length bF],.int .i64 1048576] rfl ?_;(with_reducible refine (laws_szMeta.calls ?side1 ?side2 ?side3 ?side4 A2.out).mono ?_);(case side1=>exact cL bQ HB);(case side2=>exact bR.out);(case side3=>exact cL bS HB);(case side4=>exact bT.out);rintro e w6 ⟨rfl,hb⟩;refine⟨_,rfl,?_⟩;replace aC:=bkb aC hb;replace HB:=bst HB hb;clear hb))
   go_ret
   exact fin_ (bL HB)
 replace H:=bnd3 H;obtain⟨d7,fP,d8,A7,H⟩:=H;dsimp only at H
 replace H:=bnd2 H;obtain⟨bU,bM,A8,H⟩:=H;dsimp only at H
 replace H:=bnd3 H;obtain⟨aJ,aM,aK,A9,H⟩:=H;dsimp only at H
 replace H:=bnd2 H;obtain⟨a6,cY,gL,H⟩:=H;dsimp only at H
 have dY:=am H
 clear H
 go_enter Try.func4,Try.ntmps4
 go_upto_region 8 with (first | ((with_reducible refine gd 1 rfl ?_);refine bxw 1 rfl #[.slice bC aV.length bD,.int .i64 aZ,.slice bE aW.length bF] 25 HB ?_;clear HB;intro bB iB aC dW dX HB;obtain⟨bW,bX,bY,bZ,b6,b7⟩:=cl3 aC) | ((with_reducible refine gc 5 rfl ?_);refine gl_ (some 16) Try.func5 #[.agg #[.slice bC aV.length bD,.int .i64 aZ,.slice bE aW.length bF],.int .i64 1048576] rfl ?_;(with_reducible refine (laws_szMeta.calls ?side1 ?side2 ?side3 ?side4 A2.out).mono ?_);(case side1=>exact cL bQ HB);(case side2=>exact bR.out);(case side3=>exact cL bS HB);(case side4=>exact bT.out);rintro e iC ⟨rfl,hb⟩;refine⟨_,rfl,?_⟩;replace aC:=bkb aC hb;replace HB:=bst HB hb;clear hb;obtain⟨b8,b9,cA,cB,cC,cD⟩:=cl3 aC) | ((with_reducible refine gc 7 rfl ?_);refine gl_ (some 21) Try.func7 #[.agg #[.slice bC aV.length bD,.int .i64 aZ,.slice bE aW.length bF]] rfl ?_;(with_reducible refine (laws_toMeta.calls ?side1 ?side2 ?side3 ?side4 A7.out).mono ?_);(case side1=>exact cL bQ HB);(case side2=>exact bR.out);(case side3=>exact cL bS HB);(case side4=>exact bT.out);rintro e iD ⟨fQ,fR,rfl,bI,dK,hb⟩;refine⟨_,rfl,?_⟩;have aQ:=rlb bI HB;have aT:=rlb (Kd.S_R dK) HB;replace aC:=bkb aC hb;replace HB:=bst HB hb;clear hb bI dK;obtain⟨eV,eW,eX⟩:=Kd.R_slice aQ.out;subst eX;obtain⟨eY,eZ,e5⟩:=Kd.R_slice aT.out;subst e5) | ((with_reducible refine gc 14 rfl ?_);refine gc2 (some 22) Try.func14 rfl (spec_MetaPack.calls (C_later (Kd.R_reads' aQ.out).2.2) ((Kd.R_reads' aQ.out).2.1) (C_later (Kd.R_reads' aT.out).2.2) ((Kd.R_reads' aT.out).2.1) A8.out) ?_;rintro cZ iE ⟨bI,hb⟩;have aU:=rlb bI HB;replace aQ:=rbe aQ hb;replace aT:=rbe aT hb;replace aC:=bkb aC hb;replace HB:=bst HB hb;clear hb bI;obtain⟨cE,cF,cG,cH,cI,cJ⟩:=cl3 aC) | ((with_reducible refine gc 7 rfl ?_);refine gl_ (some 26) Try.func7 #[.agg #[.slice bC aV.length bD,.int .i64 aZ,.slice bE aW.length bF]] rfl ?_;(with_reducible refine (laws_toMeta.calls ?side1 ?side2 ?side3 ?side4 A9.out).mono ?_);(case side1=>exact cL bQ HB);(case side2=>exact bR.out);(case side3=>exact cL bS HB);(case side4=>exact bT.out);rintro e iF ⟨fS,fT,rfl,bI,dK,hb⟩;refine⟨_,rfl,?_⟩;have a7:=am (Kd.R_lower (Kd.R_new' bI (Kd.R_lt (rL aQ))) (below_size (bL HB)));have a8:=am (Kd.S_lower (Kd.S_new' dK (Kd.R_lt (rL aT))) (below_size (bL HB)));replace aQ:=am (Kd.R_elder' (rL aQ) (Kd.R_base bI) hb);replace aT:=am (Kd.R_elder' (rL aT) (Kd.S_base dK) hb);replace aU:=rbe aU hb;replace aC:=bkb aC hb;replace HB:=bst HB hb;clear hb bI dK) | ((with_reducible refine gd 6 rfl ?_);refine bxv 6 rfl #[.slice none 0 0,.int .i64 0,.slice none 0 0] 33 HB ?_;clear HB;intro aE iG aD e6 e7 HB hg hb;obtain⟨cV,bJ⟩:=nbp (nbl aC hg);replace aQ:=rbe aQ hb;replace aT:=rbe aT hb;replace aU:=rbe aU hb;replace a7:=rbe a7 hb;replace a8:=am (Kd.S_below (S_later a8.out) hb);replace aC:=bkb aC hb;clear hg hb;obtain⟨aY,aX,e8⟩:=Kd.R_slice a7.out;subst e8;obtain⟨fU,fV⟩:=nbo bJ;obtain⟨cK,cM,cN,cO,cP,cQ⟩:=cl3 aD;obtain⟨bA,a9,e9⟩:=Kd.S_slice a8.out;subst e9) | ((with_reducible refine gc 15 rfl ?_);refine gl_ (some 29) Try.func15 #[.agg #[.slice aY aJ.length aX,.int .i64 aM,.slice bA aK.length a9]] rfl ?_;(with_reducible refine (impl_MetaPack.calls ?side1 ?side2 ?side3 ?side4 gL.out).mono ?_);(case side1=>refine (Kd.R_reads' (e:=84) (base:=w.heap.size) (ok:=fun k_=>(True∧some k_≠(.slice eV d7.length eW:Value).ownBlock)) (n:=aJ.length) (c:=aX) ?_).2.2;exact (R_later (Kd.R_mono (Kd.R_far (p:=⟨aE,2,none⟩) (Kd.R_far (p:=⟨aE,1,none⟩) (Kd.R_far (p:=⟨aE,0,none⟩) (Kd.R_types a7.out aD.out (by decide)) (fun _ hk=>hk.2) (.slice aY aJ.length aX)) (fun _ hk=>hk.2) (.int .i64 aM)) (fun _ hk=>hk.2) (.slice bA aK.length a9)) (fun _ h_=>h_.1))));(case side2=>exact (Kd.R_reads' a7.out).2.1);(case side3=>refine (Kd.R_reads' (e:=54) (base:=w.heap.size) (ok:=fun k_=>(True∧some k_≠(.slice eY d8.length eZ:Value).ownBlock)) (n:=aK.length) (c:=a9) ?_).2.2;exact (R_later (Kd.R_mono (Kd.R_far (p:=⟨aE,2,none⟩) (Kd.R_far (p:=⟨aE,1,none⟩) (Kd.R_far (p:=⟨aE,0,none⟩) (Kd.R_types (Kd.S_R a8.out) aD.out (by decide)) (fun _ hk=>hk.2) (.slice aY aJ.length aX)) (fun _ hk=>hk.2) (.int .i64 aM)) (fun _ hk=>hk.2) (.slice bA aK.length a9)) (fun _ h_=>h_.1))));(case side4=>exact (Kd.S_reads' a8.out).2.1);rintro e iH ⟨dA,rfl,bI,hb⟩;refine⟨_,rfl,?_⟩;have cR:=am (Kd.R_lower (Kd.R_new' bI (Kd.R_lt (R_later (Kd.R_mono (Kd.R_far (p:=⟨aE,2,none⟩) (Kd.R_far (p:=⟨aE,1,none⟩) (Kd.R_far (p:=⟨aE,0,none⟩) (Kd.R_types aU.out aD.out (by decide)) (fun _ hk=>hk.2) (.slice aY aJ.length aX)) (fun _ hk=>hk.2) (.int .i64 aM)) (fun _ hk=>hk.2) (.slice bA aK.length a9)) (fun _ h_=>h_.1))))) (below_size (bL HB)));replace aQ:=am (Kd.R_below (R_later (Kd.R_mono (Kd.R_far (p:=⟨aE,2,none⟩) (Kd.R_far (p:=⟨aE,1,none⟩) (Kd.R_far (p:=⟨aE,0,none⟩) (Kd.R_types aQ.out aD.out (by decide)) (fun _ hk=>hk.2) (.slice aY aJ.length aX)) (fun _ hk=>hk.2) (.int .i64 aM)) (fun _ hk=>hk.2) (.slice bA aK.length a9)) (fun _ h_=>h_.1))) hb);replace aT:=am (Kd.R_below (R_later (Kd.R_mono (Kd.R_far (p:=⟨aE,2,none⟩) (Kd.R_far (p:=⟨aE,1,none⟩) (Kd.R_far (p:=⟨aE,0,none⟩) (Kd.R_types aT.out aD.out (by decide)) (fun _ hk=>hk.2) (.slice aY aJ.length aX)) (fun _ hk=>hk.2) (.int .i64 aM)) (fun _ hk=>hk.2) (.slice bA aK.length a9)) (fun _ h_=>h_.1))) hb);replace aU:=am (Kd.R_elder' (R_later (Kd.R_mono (Kd.R_far (p:=⟨aE,2,none⟩) (Kd.R_far (p:=⟨aE,1,none⟩) (Kd.R_far (p:=⟨aE,0,none⟩) (Kd.R_types aU.out aD.out (by decide)) (fun _ hk=>hk.2) (.slice aY aJ.length aX)) (fun _ hk=>hk.2) (.int .i64 aM)) (fun _ hk=>hk.2) (.slice bA aK.length a9)) (fun _ h_=>h_.1))) (Kd.R_base bI) hb);replace a7:=am (Kd.R_below (R_later (Kd.R_mono (Kd.R_far (p:=⟨aE,2,none⟩) (Kd.R_far (p:=⟨aE,1,none⟩) (Kd.R_far (p:=⟨aE,0,none⟩) (Kd.R_types a7.out aD.out (by decide)) (fun _ hk=>hk.2) (.slice aY aJ.length aX)) (fun _ hk=>hk.2) (.int .i64 aM)) (fun _ hk=>hk.2) (.slice bA aK.length a9)) (fun _ h_=>h_.1))) hb);replace a8:=am (Kd.S_below (S_later (Kd.S_mono (Kd.S_far (p:=⟨aE,2,none⟩) (Kd.S_far (p:=⟨aE,1,none⟩) (Kd.S_far (p:=⟨aE,0,none⟩) (Kd.S_types a8.out aD.out (by decide)) (fun _ hk=>hk.2) (.slice aY aJ.length aX)) (fun _ hk=>hk.2) (.int .i64 aM)) (fun _ hk=>hk.2) (.slice bA aK.length a9)) (fun _ h_=>h_.1))) hb);replace aC:=bkb aC hb;replace aD:=am (blk_below (g:=aE) (o:=.cells #[.slice aY aJ.length aX,.int .i64 aM,.slice bA aK.length a9] 33 (0,0)) (blk_later aD.out) hb);replace HB:=bst HB hb;clear hb;(try clear hk);clear bI))
 (try simp only [Act.put,List.setIfInBounds_toArray,List.set_cons_zero,List.set_cons_succ])
 go_cut [40] (fun v40 wc=>∃ (kq:Nat) (cS:Bool),v40=.bool cS∧Aside0 (laws_FnExactMetaPack.j0 kq bU bM a6 cY cS aV aZ aW aJ aM aK=some true)∧Aside0 (kq≤k)∧Aside0 (Kd.R (Kd.int .u8) 5 wc w.heap.size (fun k_=>some k_≠(dA:Value).ownBlock) cZ bU)∧Aside0 (Kd.R (Kd.int .u8) 5 wc w.heap.size (fun k_=>some k_≠(cZ:Value).ownBlock) dA a6)∧Aside0 (Kd.R k84 84 wc w.heap.size (fun _=>True) (.slice aY aJ.length aX) aJ)∧Aside0 (Kd.S k54 54 wc w.heap.size (fun _=>True) (.slice bA aK.length a9) aK)∧Aside0 (wc.heap[bB]?=some (.cells #[(.slice bC aV.length bD),.int .i64 aZ,(.slice bE aW.length bF)] 25 (0,0)))∧Aside0 (wc.heap[aE]?=some (.cells #[(.slice aY aJ.length aX),.int .i64 aM,(.slice bA aK.length a9)] 33 (0,0)))∧Aside0 (Below w.heap.size w wc))
 case first =>
  have H:=dY.out
  clear dY
  replace H:=bnd H;obtain⟨d9,gM,H⟩:=H
  by_cases eQ:d9=true
  rotate_left
  · replace eQ:=Bool.eq_false_iff.mpr eQ
    subst eQ
    have H1:(laws_FnExactMetaPack.j0 k bU bM a6 cY true aV aZ aW aJ aM aK)=some true:=by rw [if_neg (show ¬ (false=true) by decide)] at H;exact H
    exact absurd H1 (by cases k <;> simp [laws_FnExactMetaPack.j0])
  subst eQ
  replace H:=ifp rfl H
  have H':=am H;clear H
  obtain⟨gN,gO,fA⟩:=Kd.R_slice cR.out
  subst fA
  obtain⟨gP,gQ,fB⟩:=Kd.R_slice aU.out
  subst fB
  go_wp2_with (first | ((with_reducible refine gc 16 rfl ?_);refine gc1 (some 34) Try.func16 rfl (laws_eqByteS.calls true (C_later (Kd.R_reads' cR.out).2.2) ((Kd.R_reads' cR.out).2.1) (C_later (Kd.R_reads' aU.out).2.2) ((Kd.R_reads' aU.out).2.1) gM.out) ?_;rintro w' ⟨nd,rfl⟩))
  go_meet
  case rel=>exact⟨_,((cY != bM)),sr,H',⟨by first | omega | exact Nat.le_refl _⟩,⟨R_later (Kd.R_mono aU.out (fun _ hk=>hk.2))⟩,⟨R_later (Kd.R_mono cR.out (fun _ hk=>hk.2))⟩,⟨R_later (Kd.R_mono a7.out (fun _ hk=>trivial))⟩,⟨S_later (Kd.S_mono a8.out (fun _ hk=>trivial))⟩,⟨kL aC⟩,⟨kL aD⟩,⟨bL HB⟩⟩
 clear dY
 try clear c3 dL bW bX bY b8 b9 cA cE cF cG cK cM cN bZ b6 b7 cB cC cD cH cI cJ cO cP cQ
 obtain⟨kq,cS,rfl,HA,dZ,aN,aI,aA,aH,aC,aD,HB⟩:=hcut
 cases kq with
 | zero=>exact absurd HA.out (by simp [laws_FnExactMetaPack.j0])
 | succ kj10=>?_
 have H:=HA.out
 clear HA
 simp only [laws_FnExactMetaPack.j0] at H
 by_cases d4:cS=true
 · subst d4
   have H1:(some false)=some true:=by rw [if_pos rfl] at H;exact H
   cases H1
 replace d4:=Bool.eq_false_iff.mpr d4
 subst d4
 replace H:=ifn Bool.false_ne_true H
 replace H:=bnd3 H;obtain⟨eA,eB,eC,gR,H⟩:=H;dsimp only at H
 replace H:=bnd H;obtain⟨eD,gS,H⟩:=H
 by_cases d5:eD=true
 rotate_left
 · replace d5:=Bool.eq_false_iff.mpr d5
   subst d5
   have H1:(some false)=some true:=by rw [if_neg (show ¬ (false=true) by decide)] at H;exact H
   cases H1
 subst d5
 replace H:=ifp rfl H
 replace H:=bnd2 H;obtain⟨fW,dB,gT,H⟩:=H;dsimp only at H
 have d2:=am H
 clear H
 try go_wp2
 replace aN:=rdr aN
 replace aI:=rdr aI
 replace aA:=rdr aA
 replace aH:=am (Kd.S_drew aH.out)
 replace aC:=bdr aC
 replace aD:=bdr aD
 replace HB:=bld HB
 refine start_ (n:=5) (S:=fun w'=>w'.cell? ⟨aE,0,none⟩=some (.slice aY aJ.length aX)∧w'.cell? ⟨aE,1,none⟩=some (.int .i64 aM)∧w'.cell? ⟨aE,2,none⟩=some (.slice bA aK.length a9)∧w'.cell? ⟨bB,0,none⟩=some (.slice bC aV.length bD)∧w'.cell? ⟨bB,1,none⟩=some (.int .i64 aZ)∧w'.cell? ⟨bB,2,none⟩=some (.slice bE aW.length bF)) (ds:=[]) #[false,false,false,false,false] (by kernel_rfl) rfl rfl ⟨bcl aD 0,bcl aD 1,bcl aD 2,bcl aC 0,bcl aC 1,bcl aC 2⟩ (fun hHeld=>?_)
 generalize wc.drew=iI at aN aI aA aH aC aD HB hHeld ⊢
 refine take_ (i:=0) (N:=some 41) (v:=?_) (a':=?_) #[true,false,false,false,false] rfl rfl (by kernel_rfl) (fun _ _ _ h=>h) (Or.inl ⟨by rfl,?_⟩) hHeld ?_ ?_
 rotate_left
 · rintro w' ⟨s0,s1,s2,s3,s4,s5⟩
   go_simp
   with_reducible rfl
 rotate_left
 · simp only [Act.put,List.setIfInBounds_toArray,List.set_cons_zero,List.set_cons_succ,i64_w,i32_w]
   rfl
 refine take_ (i:=1) (N:=some 42) (v:=?_) (a':=?_) #[true,true,false,false,false] rfl rfl (by kernel_rfl) (fun _ _ _ h=>h) (Or.inl ⟨by rfl,?_⟩) hHeld ?_ ?_
 rotate_left
 · rintro w' ⟨s0,s1,s2,s3,s4,s5⟩
   go_simp
   with_reducible rfl
 rotate_left
 · simp only [Act.put,List.setIfInBounds_toArray,List.set_cons_zero,List.set_cons_succ,i64_w,i32_w]
   rfl
 refine one_ (i:=2) (N:=some 43) #[true,true,true,false,false] rfl rfl (by kernel_rfl) (by decide) (fun K hK=>?_)
 refine gs_ Try.func7 #[.agg #[.slice bC aV.length bD,.int .i64 aZ,.slice bE aW.length bF]] rfl ?_
 with_reducible refine (laws_toMeta.calls ?side1 ?side2 ?side3 ?side4 gR.out).mono ?_
 (case side1=>exact cL bQ HB)
 (case side2=>exact bR.out)
 (case side3=>exact cL bS HB)
 (case side4=>exact bT.out)
 rintro e iJ ⟨fX,fY,rfl,bI,dK,hb⟩
 refine⟨_,rfl,?_⟩
 have bG:=am (Kd.R_lower (Kd.R_new' bI (Kd.R_lt (rL aA))) (below_size (bL HB)))
 have bH:=am (Kd.R_lower (Kd.R_new' (Kd.S_R dK) (Kd.S_lt (S_later aH.out))) (below_size (bL HB)))
 replace aN:=rbe aN hb
 replace aI:=rbe aI hb
 replace aA:=am (Kd.R_elder' (rL aA) (Kd.R_base bI) hb)
 replace aH:=am (Kd.S_elder' (S_later aH.out) (Kd.S_base dK) hb)
 replace aC:=bkb aC hb
 replace aD:=bkb aD hb
 replace HB:=bst HB hb
 (try clear hb)
 (try clear gU)
 (try clear hk)
 (try clear hi)
 (try clear bI)
 (try clear dK)
 obtain⟨fC,fD,eE⟩:=Kd.R_slice bG.out
 (first | subst eE | (injection eE with f1_ f2_ f3_;have f4_:=f1_.symm;have f5_:=f3_.symm;clear f1_ f2_ f3_;subst f4_;subst f5_))
 obtain⟨fE,fF,eF⟩:=Kd.R_slice bH.out
 (first | subst eF | (injection eF with f1_ f2_ f3_;have f4_:=f1_.symm;have f5_:=f3_.symm;clear f1_ f2_ f3_;subst f4_;subst f5_))
 refine hK.out _ _ ⟨bcl aD 0,bcl aD 1,bcl aD 2,bcl aC 0,bcl aC 1,bcl aC 2⟩ (fun hHeld=>?_)
 clear hK K
 refine no_ (some 43) ?_
 refine one_ (i:=3) (N:=some 44) #[true,true,true,true,false] rfl rfl (by kernel_rfl) (by decide) (fun K hK=>?_)
 refine gs_ Try.func10 #[.agg #[.slice aY aJ.length aX,.int .i64 aM,.slice bA aK.length a9],.agg #[.slice fC eA.length fD,.int .i64 eB,.slice fE eC.length fF]] rfl ?_
 with_reducible refine (laws_eqMeta.calls true ?side1 ?side2 ?side3 ?side4 ?side5 ?side6 ?side7 ?side8 gS.out).mono ?_
 (case side1=>exact C_later (Kd.R_reads' aA.out).2.2)
 (case side2=>exact (Kd.R_reads' aA.out).2.1)
 (case side3=>exact C_later (Kd.S_reads' aH.out).2.2)
 (case side4=>exact (Kd.S_reads' aH.out).2.1)
 (case side5=>exact C_later (Kd.R_reads' bG.out).2.2)
 (case side6=>exact (Kd.R_reads' bG.out).2.1)
 (case side7=>exact C_later (Kd.R_reads' bH.out).2.2)
 (case side8=>exact (Kd.R_reads' bH.out).2.1)
 rintro e iK ⟨rfl,hb⟩
 refine⟨_,rfl,?_⟩
 replace aN:=rbe aN hb
 replace aI:=rbe aI hb
 replace aA:=rbe aA hb
 replace aH:=am (Kd.S_below (S_later aH.out) hb)
 replace bG:=rbe bG hb
 replace bH:=rbe bH hb
 replace aC:=bkb aC hb
 replace aD:=bkb aD hb
 replace HB:=bst HB hb
 (try clear hb)
 (try clear gU)
 (try clear hk)
 (try clear hi)
 refine hK.out _ _ ⟨bcl aD 0,bcl aD 1,bcl aD 2,bcl aC 0,bcl aC 1,bcl aC 2⟩ (fun hHeld=>?_)
 clear hK K
 refine no_ (some 44) ?_
 refine pure_ (i:=4) (N:=some 45) (v:=?_) (a':=?_) #[true,true,true,true,true] rfl rfl (by kernel_rfl) (fun _ _ _ h=>h) (Or.inl ⟨by rfl,?_⟩) ?_ ?_
 rotate_left
 · intro w'
   go_simp
   with_reducible rfl
 rotate_left
 · simp only [Act.put,List.setIfInBounds_toArray,List.set_cons_zero,List.set_cons_succ,i64_w,i32_w]
   rfl
 refine done_ (by kernel_rfl) ?_
 obtain⟨fZ,f7⟩:=nbo bJ
 obtain⟨dC,dD,dE,dF,dG,dH⟩:=cl3 aD
 go_upto_region 14 with (first | ((with_reducible refine gc 11 rfl ?_);refine gc1 (some 48) Try.func11 rfl (laws_markMeta.calls (fun k_=>some k_=(.slice aY aJ.length aX:Value).ownBlock) (bL HB) (Kd.R_tight rfl aA.out) (Kd.S_bound (Kd.S_apart' aH.out (Kd.R_typed aA.out) (by decide))) (fun k_ h_ e_=>h_.1.2 e_) gT.out) ?_;rintro iL ⟨eG,hb,hkp⟩;replace aN:=am (R_markedB aN.out hkp (Kd.R_typed aA.out) (by decide));replace aI:=am (R_markedB aI.out hkp (Kd.R_typed aA.out) (by decide));replace aC:=am (blk_markedB (blk_later aC.out) hkp (Kd.R_typed aA.out) (by decide));replace aD:=am (blk_markedB (blk_later aD.out) hkp (Kd.R_typed aA.out) (by decide));clear bG bH aH;replace aA:=am (Kd.R_reok rfl eG (fun k_ e_=>aA.out.1 k_ e_));replace HB:=am hb;clear hb hkp eG))
 (try simp only [Act.put,List.setIfInBounds_toArray,List.set_cons_zero,List.set_cons_succ])
 go_cut [61] (fun v61 wc=>∃ (kq:Nat) (cT:Bool),v61=.bool cT∧Aside0 (laws_FnExactMetaPack.j1 kq bU bM a6 cT aV aZ aW=some true)∧Aside0 (kq≤kj10)∧Aside0 (Kd.R (Kd.int .u8) 5 wc w.heap.size (fun k_=>some k_≠(dA:Value).ownBlock) cZ bU)∧Aside0 (Kd.R (Kd.int .u8) 5 wc w.heap.size (fun k_=>some k_≠(cZ:Value).ownBlock) dA a6)∧Aside0 (Kd.R k84 84 wc w.heap.size (fun _=>True) (.slice aY aJ.length aX) dB)∧Aside0 (wc.heap[bB]?=some (.cells #[(.slice bC aV.length bD),.int .i64 aZ,(.slice bE aW.length bF)] 25 (0,0)))∧Aside0 (wc.heap[aE]?=some (.cells #[(.slice aY aJ.length aX),.int .i64 aM,(.slice bA aK.length a9)] 33 (0,0)))∧Aside0 (Below w.heap.size w wc))
 case first =>
  have H:=d2.out
  clear d2
  replace H:=idc H;obtain⟨cW,H⟩ | ⟨cW,H⟩:=H
  · (first | rw [cW] | (simp only [i64_w,i32_w];rw [cW]) | skip)
    have H':=am H;clear H
    go_wp2
    go_meet
    case rel=>exact⟨_,(true),sr,H',⟨by have:=dZ.out;first | omega | exact Nat.le_refl _⟩,⟨rL aN⟩,⟨rL aI⟩,⟨R_later (Kd.R_mono aA.out (fun _ hk=>trivial))⟩,⟨kL aC⟩,⟨kL aD⟩,⟨bL HB⟩⟩
  (first | rw [cW] | (simp only [i64_w,i32_w];rw [cW]) | skip)
  replace H:=bnd H;obtain⟨eH,gV,H⟩:=H
  by_cases eR:eH=true
  rotate_left
  · replace eR:=Bool.eq_false_iff.mpr eR
    subst eR
    have H1:(laws_FnExactMetaPack.j1 kj10 bU bM a6 true aV aZ aW)=some true:=by rw [if_neg (show ¬ (false=true) by decide)] at H;exact H
    exact absurd H1 (by cases kj10 <;> simp [laws_FnExactMetaPack.j1])
  subst eR
  replace H:=ifp rfl H
  have H':=am H;clear H
  obtain⟨gW,gX,fG⟩:=Kd.R_slice aI.out
  subst fG
  obtain⟨gY,gZ,fH⟩:=Kd.R_slice aN.out
  subst fH
  go_wp2_with (first | (go_at_call 16;(with_reducible refine (laws_eqByteS.calls true ?side1 ?side2 ?side3 ?side4 gV.out).mono ?_);(case side1=>exact C_later (Kd.R_reads' aI.out).2.2);(case side2=>exact (Kd.R_reads' aI.out).2.1);(case side3=>exact C_later (Kd.R_reads' aN.out).2.2);(case side4=>exact (Kd.R_reads' aN.out).2.1);rintro e w' ⟨rfl,⟨nd,rfl⟩⟩))
  go_meet
  case rel=>exact⟨_,((cY != bM)),sr,H',⟨by have:=dZ.out;first | omega | exact Nat.le_refl _⟩,⟨rL aN⟩,⟨rL aI⟩,⟨R_later (Kd.R_mono aA.out (fun _ hk=>trivial))⟩,⟨kL aC⟩,⟨kL aD⟩,⟨bL HB⟩⟩
 clear d2
 try clear c3 dL d4 d5 bW bX bY b8 b9 cA cE cF cG cK cM cN dC dD dE bZ b6 b7 cB cC cD cH cI cJ cO cP cQ dF dG dH
 obtain⟨kq,cT,rfl,HA,fI,aN,aI,aA,aC,aD,HB⟩:=hcut
 have aG:=(Kd.R_reads' aA.out).1
 rw [aG] at aA
 (try simp only [aG])
 (try simp only [aG] at aC)
 (try simp only [aG] at aD)
 (try simp only [aG] at aN)
 (try simp only [aG] at aI)
 cases kq with
 | zero=>exact absurd HA.out (by simp [laws_FnExactMetaPack.j1])
 | succ kj38=>?_
 have H:=HA.out
 clear HA
 simp only [laws_FnExactMetaPack.j1] at H
 by_cases eI:cT=true
 · subst eI
   have H1:(some false)=some true:=by rw [if_pos rfl] at H;exact H
   cases H1
 replace eI:=Bool.eq_false_iff.mpr eI
 subst eI
 replace H:=ifn Bool.false_ne_true H
 replace H:=bnd2 H;obtain⟨bK,bV,g2,H⟩:=H;dsimp only at H
 replace H:=bnd H;obtain⟨dI,g3,H⟩:=H
 by_cases eJ:dI < 0
 · rw [if_pos eJ] at H
   cases H
 rw [if_neg eJ] at H
 have eK:=decide_eq_false eJ
 clear eJ
 by_cases d6:dI=bK
 rotate_left
 · rw [if_neg d6] at H
   cases H
 rw [if_pos d6] at H
 have eL:(dI == bK)=true:=beq_iff_eq.mpr d6
 have eM:(dI != bK)=false:=bne_eq_false_iff_eq.mpr d6
 clear d6
 replace H:=bnd3 H;obtain⟨f9,gA,gB,g4,H⟩:=H;dsimp only at H
 replace H:=bnd2 H;obtain⟨gC,eN,g6,H⟩:=H;dsimp only at H
 have d3:=am H
 clear H
 obtain⟨dM,dN,fJ⟩:=Kd.R_slice aI.out
 subst fJ
 go_upto_region 25 with (first | ((with_reducible refine gc 17 rfl ?_);refine gc1 (some 64) Try.func17 rfl (laws_markByteS.calls (fun k_=>some k_=(.slice dM a6.length dN:Value).ownBlock) (bL HB) (Kd.R_tight rfl aI.out) g2.out) ?_;rintro iM ⟨eG,hb,hkp⟩;replace aN:=am (Kd.R_mono (ok':=fun k_=>some k_≠(.slice dM a6.length dN:Value).ownBlock) (Kd.R_keptB (aN.out) hkp (fun k_ hk_ hs_=>(hk_) hs_)) (fun k_ hk_=>hk_.1));replace aA:=am (Kd.R_mono (ok':=fun k_=>True) (Kd.R_keptB ((Kd.R_apart' aA.out (Kd.R_typed aI.out) (by decide))) hkp (fun k_ hk_ hs_=>(hk_.2) hs_)) (fun k_ hk_=>trivial));replace aC:=am (blk_kept (blk_later aC.out) hkp (fun hs_=>(fun e_=>(Kd.R_ne aI.out aC.out (by decide)) e_) hs_));replace aD:=am (blk_kept (blk_later aD.out) hkp (fun hs_=>(fun e_=>(Kd.R_ne aI.out aD.out (by decide)) e_) hs_));replace aI:=am (Kd.R_reok rfl eG (fun k_ e_=>aI.out.1 k_ e_));replace HB:=am hb;clear hb hkp eG) | ((with_reducible refine gc 18 rfl ?_);refine goesL_ (some 67) rfl rfl Try.func18 (by kernel_rfl) rfl #[.slice dM bV.length dN,.int .i64 1] rfl (by (try simp only [List.map_toArray,List.map_cons,List.map_nil]);first | done | (rw [show bV.length=a6.length from (Kd.R_reads' aI.out).1.symm] <;> rfl) | rfl | (simp only [List.length_drop,List.length_take];rfl)) ?_;(with_reducible refine (laws_heldByteS.calls ?side1 ?side2 g3.out).mono ?_);(case side1=>exact C_later (Kd.R_reads' aI.out).2.2);(case side2=>rw [show bV.length=a6.length from (Kd.R_reads' aI.out).1.symm];exact (Kd.R_reads' aI.out).2.1);rintro e w' ⟨rfl,⟨nd,rfl⟩⟩;refine⟨_,rfl,?_⟩;obtain⟨gD,gE⟩:=nbo cV;obtain⟨dO,dP,dQ,dR,dS,dT⟩:=cl3 aC) | ((with_reducible refine gc 7 rfl ?_);refine gl_ (some 75) Try.func7 #[.agg #[.slice bC aV.length bD,.int .i64 aZ,.slice bE aW.length bF]] rfl ?_;(with_reducible refine (laws_toMeta.calls ?side1 ?side2 ?side3 ?side4 g4.out).mono ?_);(case side1=>repeat (first | exact (Kd.C_below bQ.out (bL HB)) | (with_reducible refine Kd.C_alloc ?_ _) | (with_reducible refine Kd.C_drewN ?_ _) | (with_reducible refine Kd.C_drew ?_)));(case side2=>exact bR.out);(case side3=>repeat (first | exact (Kd.C_below bS.out (bL HB)) | (with_reducible refine Kd.C_alloc ?_ _) | (with_reducible refine Kd.C_drewN ?_ _) | (with_reducible refine Kd.C_drew ?_)));(case side4=>exact bT.out);rintro e iN ⟨gF,gG,rfl,bI,dK,hb⟩;refine⟨_,rfl,?_⟩;have bN:=am (Kd.R_lower (Kd.R_new' bI (Kd.R_lt (rL aA))) (below_size (bL HB)));have bO:=rlb (Kd.S_R dK) HB;replace aN:=rbe aN hb;replace aI:=rbe aI hb;replace aA:=am (Kd.R_elder' (rL aA) (Kd.R_base bI) hb);replace aC:=bkb aC hb;replace aD:=bkb aD hb;replace HB:=bst HB hb;clear hb bI dK;obtain⟨g7,g8,fK⟩:=Kd.R_slice bN.out;subst fK;obtain⟨g9,hD,fL⟩:=Kd.R_slice bO.out;subst fL) | ((with_reducible refine gc 15 rfl ?_);refine gc2 (some 76) Try.func15 rfl (impl_MetaPack.calls (C_later (Kd.R_reads' bN.out).2.2) ((Kd.R_reads' bN.out).2.1) (C_later (Kd.R_reads' bO.out).2.2) ((Kd.R_reads' bO.out).2.1) g6.out) ?_;rintro gH iO ⟨bI,hb⟩;have cX:=am (Kd.R_lower (Kd.R_new' (Kd.R_new' bI (Kd.R_lt (rL aN))) (Kd.R_lt (rL aI))) (below_size (bL HB)));replace aN:=am (Kd.R_elder' (rL aN) (Kd.R_base bI) hb);replace aI:=am (Kd.R_elder' (rL aI) (Kd.R_base bI) hb);replace aA:=rbe aA hb;replace bN:=rbe bN hb;replace bO:=rbe bO hb;replace aC:=bkb aC hb;replace aD:=bkb aD hb;replace HB:=bst HB hb;clear hb bI))
 (try simp only [Act.put,List.setIfInBounds_toArray,List.set_cons_zero,List.set_cons_succ])
 go_cut [87] (fun v87 wc=>∃ (kq:Nat) (cU:Bool),v87=.bool cU∧Aside0 (laws_FnExactMetaPack.j2 kq bV bK cU=some true)∧Aside0 (kq≤kj38)∧Aside0 (Kd.R (Kd.int .u8) 5 wc w.heap.size (fun _=>True) (.slice dM a6.length dN) bV)∧Aside0 (Kd.R k84 84 wc w.heap.size (fun _=>True) (.slice aY dB.length aX) dB)∧Aside0 (wc.heap[bB]?=some (.cells #[(.slice bC aV.length bD),.int .i64 aZ,(.slice bE aW.length bF)] 25 (0,0)))∧Aside0 (wc.heap[aE]?=some (.cells #[(.slice aY dB.length aX),.int .i64 aM,(.slice bA aK.length a9)] 33 (0,0)))∧Aside0 (Below w.heap.size w wc))
 case first =>
  have H:=d3.out
  clear d3
  replace H:=bnd H;obtain⟨eO,hJ,H⟩:=H
  by_cases eS:eO=true
  rotate_left
  · replace eS:=Bool.eq_false_iff.mpr eS
    subst eS
    have H1:(laws_FnExactMetaPack.j2 kj38 bV bK true)=some true:=by rw [if_neg (show ¬ (false=true) by decide)] at H;exact H
    exact absurd H1 (by cases kj38 <;> simp [laws_FnExactMetaPack.j2])
  subst eS
  replace H:=ifp rfl H
  have H':=am H;clear H
  obtain⟨hU,hV,fM⟩:=Kd.R_slice cX.out
  subst fM
  obtain⟨hX,hY,fN⟩:=Kd.R_slice aN.out
  subst fN
  go_wp2_with (first | ((with_reducible refine gc 16 rfl ?_);refine gc1 (some 81) Try.func16 rfl (laws_eqByteS.calls true (C_later (Kd.R_reads' cX.out).2.2) ((Kd.R_reads' cX.out).2.1) (C_later (Kd.R_reads' aN.out).2.2) ((Kd.R_reads' aN.out).2.1) hJ.out) ?_;rintro w' ⟨nd,rfl⟩))
  go_meet
  case rel=>exact⟨_,((eN != bM)),sr,H',⟨by have:=dZ.out;have:=fI.out;first | omega | exact Nat.le_refl _⟩,⟨by (try simp only [aG]);(with_reducible repeat (first | apply Kd.R_alloc | apply Kd.R_drewN | apply Kd.R_drew));exact Kd.R_mono aI.out (fun _ hk=>trivial)⟩,⟨by (try simp only [aG]);(with_reducible repeat (first | apply Kd.R_alloc | apply Kd.R_drewN | apply Kd.R_drew));exact Kd.R_mono aA.out (fun _ hk=>trivial)⟩,⟨by (try simp only [aG]);(with_reducible repeat (first | refine blk_drewN ?_ _ | refine blk_drew ?_ | refine blk_alloc ?_ _));exact aC.out⟩,⟨by (try simp only [aG]);(with_reducible repeat (first | refine blk_drewN ?_ _ | refine blk_drew ?_ | refine blk_alloc ?_ _));exact aD.out⟩,⟨bL HB⟩⟩
 clear d3
 try clear c3 dL d4 d5 eI eJ eK d6 eL eM bW bX bY b8 b9 cA cE cF cG cK cM cN dC dD dE dO dP dQ bZ b6 b7 cB cC cD cH cI cJ cO cP cQ dF dG dH dR dS dT
 obtain⟨kq,cU,rfl,HA,hZ,aI,aA,aC,aD,HB⟩:=hcut
 have bP:=(Kd.R_reads' aI.out).1
 rw [bP] at aI
 (try simp only [bP])
 (try simp only [bP] at aC)
 (try simp only [bP] at aD)
 (try simp only [bP] at aA)
 cases kq with
 | zero=>exact absurd HA.out (by simp [laws_FnExactMetaPack.j2])
 | succ kj63=>?_
 have H:=HA.out
 clear HA
 simp only [laws_FnExactMetaPack.j2] at H
 by_cases eT:cU=true
 · subst eT
   have H1:(some false)=some true:=by rw [if_pos rfl] at H;exact H
   cases H1
 replace eT:=Bool.eq_false_iff.mpr eT
 subst eT
 replace H:=ifn Bool.false_ne_true H
 replace H:=bnd H;obtain⟨dJ,iA,H⟩:=H
 by_cases eU:dJ < 0
 · rw [if_pos eU] at H
   cases H
 rw [if_neg eU] at H
 have gI:=decide_eq_false eU
 clear eU
 by_cases eP:dJ=bK
 rotate_left
 · rw [if_neg eP] at H
   cases H
 rw [if_pos eP] at H
 have gJ:(dJ == bK)=true:=beq_iff_eq.mpr eP
 have gK:(dJ != bK)=false:=bne_eq_false_iff_eq.mpr eP
 clear eP H
 go_wp2_with (first | ((with_reducible refine gc 18 rfl ?_);refine gc1 (some 90) Try.func18 rfl (laws_heldByteS.calls (C_later (Kd.R_reads' aI.out).2.2) ((Kd.R_reads' aI.out).2.1) iA.out) ?_;rintro w' ⟨nd,rfl⟩))
 go_ret
 exact fin_ (bL HB)
end Go.Proofs.Ytjdapaocdkcgdaa.PFnExactMetaPack
