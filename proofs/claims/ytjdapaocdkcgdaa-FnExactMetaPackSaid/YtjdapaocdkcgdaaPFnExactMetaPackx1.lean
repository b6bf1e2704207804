/- The machine's side of FnExactMetaPack: each Go function, and what its call comes to. No condition. -/
import Derived.Test.YtjdapaocdkcgdaaPFnExactMetaPackx0
namespace Go.Proofs.Ytjdapaocdkcgdaa.PFnExactMetaPack
open Go.RowKit Go.Proofs.YtjdapaocdkcgdaaW.PrintWords Go.Proofs.YtjdapaocdkcgdaaW.PrintLast Go.Proofs.YtjdapaocdkcgdaaW.PrintMore Go.Proofs.YtjdapaocdkcgdaaW.PrintMore2
attribute [local go_sem] max2_int min2_int max_two min_two max_three min_three max_four min_four
set_option linter.unusedVariables false
set_option linter.unusedSimpArgs false
set_option maxHeartbeats 8000000
set_option maxRecDepth 100000

/-! ### laws_szCol: function 45 -/
def laws_szCol.f (aA:ByteArray)(aC:Int)(aD:Int)(aE:Int)(a1:Int):Option (Int):=if (wrap64 (a1 - (aA.size:Int))) < 0 then (some (-1)) else (some (wrap64 (a1 - (aA.size:Int))))
theorem laws_szCol.calls {aC : ByteArray} {aD aE aG a1 r : Int} {w : World} (h : laws_szCol.f aC aD aE aG a1 = some r) :
    Calls Try.prog 45 #[.agg #[.string aC,.int .i64 aD,.int .i64 aE,.int .i64 aG],.int .i64 a1] w fun e w'=>e=.returned (.int .i64 r)∧Below w.heap.size w w':=by
 have hu75:=Try.underlying75
 have HB:=am (Below.refl w.heap.size w)
 have H:=h;clear h;unfold laws_szCol.f at H
 replace H:=idc H;obtain⟨aK,H⟩ | ⟨aK,H⟩:=H
 · cases H
   go_enter Try.func45,Try.ntmps45
   go_wp2_with (first | ((with_reducible refine gd 2 rfl ?_);refine bxw 2 rfl #[.string aC,.int .i64 aD,.int .i64 aE,.int .i64 aG] 75 HB ?_;clear HB;intro aH w4 aA aI aJ HB;obtain⟨_,_,_,_,_,_,_,_⟩:=cl4 aA))
   go_ret
   exact fin_ (bL HB)
 cases H
 go_enter Try.func45,Try.ntmps45
 go_wp2_with (first | ((with_reducible refine gd 2 rfl ?_);refine bxw 2 rfl #[.string aC,.int .i64 aD,.int .i64 aE,.int .i64 aG] 75 HB ?_;clear HB;intro aH w6 aA aI aJ HB;obtain⟨_,_,_,_,_,_,_,_⟩:=cl4 aA))
 go_ret
 exact fin_ (bL HB)
/-! ### laws_szColS: function 19 -/
def laws_szColS.l0:Nat→List (S75)→Int→Int→Option (Int)
  | 0,_,_,_=>none
  | k + 1,x0,x1,x5=>if x5 < (x0.length:Int) then (if 0≤x5 then ((laws_szCol.f ((rd_T75 x0 x5).f0) ((rd_T75 x0 x5).f1) ((rd_T75 x0 x5).f2) ((rd_T75 x0 x5).f3) x1).bind fun aA=>(if aA < 0 then (some (-1)) else (laws_szColS.l0 k x0 aA (wrap64 (x5 + 1))))) else (none)) else (some x1)
def laws_szColS.f (k:Nat)(l0:List (S75))(a1:Int):Option (Int):=if (wrap64 (a1 - (l0.length:Int))) < 0 then (some (-1)) else (laws_szColS.l0 k l0 (wrap64 (a1 - (l0.length:Int))) 0)
theorem laws_szColS.calls {k : Nat} {A0 : Option Addr} {c0 : Nat} {l0 : List (S75)} {a1 r : Int} {w : World} (hr0 : Kd.C k75 w A0 l0.length l0) (aV : l0.length ≤ c0) (h : laws_szColS.f k l0 a1 = some r) :
    Calls Try.prog 19 #[.slice A0 l0.length c0,.int .i64 a1] w fun e w'=>e=.returned (.int .i64 r)∧Below w.heap.size w w':=by
 have hu75:=Try.underlying75
 have aW:=am hr0
 have aZ:=am aV
 clear hr0 aV
 have HB:=am (Below.refl w.heap.size w)
 have H:=h;clear h;unfold laws_szColS.f at H
 replace H:=idc H;obtain⟨aJ,H⟩ | ⟨aJ,H⟩:=H
 · cases H
   go_enter Try.func19,Try.ntmps19
   go_wp2
   go_ret
   exact fin_ (bL HB)
 have H':=am H;clear H
 go_enter Try.func19,Try.ntmps19
 go_wp2
 go_loopg [1,5] k (fun kq v1 v5 w'=>∃ (aH:Int) (aA:Int),v1=.int .i64 aH∧v5=.int .i64 aA∧Aside0 (laws_szColS.l0 kq l0 aH aA=some r)∧Aside0 (kq≤k)∧Aside0 (Below w.heap.size w w'))
 case atStart=>exact⟨(wrap64 (a1 - (l0.length:Int))),(0),sr,sr,H',⟨Nat.le_refl _⟩,⟨bL HB⟩⟩
 clear H'
 try clear c3 aJ
 obtain⟨aH,aA,rfl,rfl,HA,aX,HB⟩:=hrel
 cases gk with
 | zero=>exact absurd HA.out (by simp [laws_szColS.l0])
 | succ k1=>?_
 have H:=HA.out
 clear HA
 simp only [laws_szColS.l0] at H
 replace H:=idc H;obtain⟨aM,H⟩ | ⟨aM,H⟩:=H
 rotate_left
 · cases H
   go_wp2
   go_ret
   exact fin_ (bL HB)
 replace H:=ifd H;obtain⟨aY,H⟩:=H
 replace H:=bnd H;obtain⟨aN,A6,H⟩:=H
 replace H:=idc H;obtain⟨aQ,H⟩ | ⟨aQ,H⟩:=H
 · cases H
   obtain⟨aT,aU,aK,aI,aC,aD,aE,aG⟩:=at_T75b HB aW aA;cases aI
   go_wp2_with (first | ((with_reducible refine gc 45 rfl ?_);refine gc1 (some 23) Try.func45 rfl (laws_szCol.calls A6.out) ?_;rintro w8 hb;replace HB:=bst HB hb;clear hb))
   go_ret
   exact fin_ (bL HB)
 have H':=am H;clear H
 obtain⟨aT,aU,aK,aI,aC,aD,aE,aG⟩:=at_T75b HB aW aA;cases aI
 go_wp2_with (first | ((with_reducible refine gc 45 rfl ?_);refine gc1 (some 23) Try.func45 rfl (laws_szCol.calls A6.out) ?_;rintro w9 hb;replace HB:=bst HB hb;clear hb))
 go_roundg k1
 case measure=>have:=aX.out;omega
 case rel=>exact⟨(aN),(wrap64 (aA + 1)),sr,sr,H',⟨by have:=aX.out;omega⟩,⟨bL HB⟩⟩
/-! ### laws_szIntS: function 101 -/
def laws_szIntS.f (l0:List Int)(a1:Int):Option (Int):=if (wrap64 (a1 - (l0.length:Int))) < 0 then (some (-1)) else (some (wrap64 (a1 - (l0.length:Int))))
theorem laws_szIntS.calls {A0 : Option Addr} {c0 : Nat} {l0 : List Int} {a1 r : Int} {w : World} (hr0 : Kd.C (Kd.int .i64) w A0 l0.length l0) (aC : l0.length ≤ c0) (h : laws_szIntS.f l0 a1 = some r) :
    Calls Try.prog 101 #[.slice A0 l0.length c0,.int .i64 a1] w fun e w'=>e=.returned (.int .i64 r)∧Drawn0 w w':=by
 have aD:=am hr0
 have aE:=am aC
 clear hr0 aC
 have H:=h;clear h;unfold laws_szIntS.f at H
 replace H:=idc H;obtain⟨aA,H⟩ | ⟨aA,H⟩:=H
 · cases H
   go_enter Try.func101,Try.ntmps101
   go_wp2
   go_ret
   exact⟨sr,drl⟩
 cases H
 go_enter Try.func101,Try.ntmps101
 go_wp2
 go_ret
 exact⟨sr,drl⟩
/-! ### laws_szChunk: function 87 -/
def laws_szChunk.f (aD:Int)(aE:Int)(aG:Int)(aH:Int)(aI:Int)(aC:List Int)(a1:Int):Option (Int):=(laws_szIntS.f aC a1).bind fun aA=>(if aA < 0 then (some (-1)) else (some aA))
theorem laws_szChunk.calls {aG aH aI aJ aK : Int} {aC : Option Addr} {aD : Nat} {aA : List Int} {a1 r : Int} {w : World} (hr0_5 : Kd.C (Kd.int .i64) w aC aA.length aA) (aM : aA.length ≤ aD) (h : laws_szChunk.f aG aH aI aJ aK aA a1 = some r) :
    Calls Try.prog 87 #[.agg #[.int .i64 aG,.int .i64 aH,.int .i64 aI,.int .i64 aJ,.int .i64 aK,.slice aC aA.length aD],.int .i64 a1] w fun e w'=>e=.returned (.int .i64 r)∧Below w.heap.size w w':=by
 have hu119:=Try.underlying119
 have aN:=am hr0_5
 have aQ:=am aM
 clear hr0_5 aM
 have HB:=am (Below.refl w.heap.size w)
 have H:=h;clear h;unfold laws_szChunk.f at H
 replace H:=bnd H;obtain⟨aX,A3,H⟩:=H
 replace H:=idc H;obtain⟨aW,H⟩ | ⟨aW,H⟩:=H
 · cases H
   go_enter Try.func87,Try.ntmps87
   go_wp2_with (first | ((with_reducible refine gd 2 rfl ?_);refine bxw 2 rfl #[.int .i64 aG,.int .i64 aH,.int .i64 aI,.int .i64 aJ,.int .i64 aK,.slice aC aA.length aD] 119 HB ?_;clear HB;intro aT w5 aE aU aV HB;obtain⟨_,_,_,_,_,_,_,_,_,_,_,_⟩:=cl6 aE) | ((with_reducible refine gc 101 rfl ?_);refine gl_ (some 8) Try.func101 #[.slice aC aA.length aD,.int .i64 a1] rfl ?_;(with_reducible refine (laws_szIntS.calls ?side1 ?side2 A3.out).mono ?_);(case side1=>exact cL aN HB);(case side2=>exact aQ.out);rintro e w' ⟨rfl,⟨nd,rfl⟩⟩;refine⟨_,rfl,?_⟩))
   go_ret
   exact fin_ (bL HB)
 cases H
 go_enter Try.func87,Try.ntmps87
 go_wp2_with (first | ((with_reducible refine gd 2 rfl ?_);refine bxw 2 rfl #[.int .i64 aG,.int .i64 aH,.int .i64 aI,.int .i64 aJ,.int .i64 aK,.slice aC aA.length aD] 119 HB ?_;clear HB;intro aT w7 aE aU aV HB;obtain⟨_,_,_,_,_,_,_,_,_,_,_,_⟩:=cl6 aE) | ((with_reducible refine gc 101 rfl ?_);refine gl_ (some 8) Try.func101 #[.slice aC aA.length aD,.int .i64 a1] rfl ?_;(with_reducible refine (laws_szIntS.calls ?side1 ?side2 A3.out).mono ?_);(case side1=>exact cL aN HB);(case side2=>exact aQ.out);rintro e w' ⟨rfl,⟨nd,rfl⟩⟩;refine⟨_,rfl,?_⟩))
 go_ret
 exact fin_ (bL HB)
/-! ### laws_szChunkS: function 69 -/
def laws_szChunkS.l0:Nat→List (S119)→Int→Int→Option (Int)
  | 0,_,_,_=>none
  | k + 1,x0,x1,x5=>if x5 < (x0.length:Int) then (if 0≤x5 then ((laws_szChunk.f ((rd_T119 x0 x5).f0) ((rd_T119 x0 x5).f1) ((rd_T119 x0 x5).f2) ((rd_T119 x0 x5).f3) ((rd_T119 x0 x5).f4) ((rd_T119 x0 x5).f5) x1).bind fun aA=>(if aA < 0 then (some (-1)) else (laws_szChunkS.l0 k x0 aA (wrap64 (x5 + 1))))) else (none)) else (some x1)
def laws_szChunkS.f (k:Nat)(l0:List (S119))(a1:Int):Option (Int):=if (wrap64 (a1 - (l0.length:Int))) < 0 then (some (-1)) else (laws_szChunkS.l0 k l0 (wrap64 (a1 - (l0.length:Int))) 0)
theorem laws_szChunkS.calls {k : Nat} {A0 : Option Addr} {c0 : Nat} {l0 : List (S119)} {a1 r : Int} {w : World} (hr0 : Kd.C k119 w A0 l0.length l0) (a9 : l0.length ≤ c0) (h : laws_szChunkS.f k l0 a1 = some r) :
    Calls Try.prog 69 #[.slice A0 l0.length c0,.int .i64 a1] w fun e w'=>e=.returned (.int .i64 r)∧Below w.heap.size w w':=by
 have hu119:=Try.underlying119
 have bA:=am hr0
 have bD:=am a9
 clear hr0 a9
 have HB:=am (Below.refl w.heap.size w)
 have H:=h;clear h;unfold laws_szChunkS.f at H
 replace H:=idc H;obtain⟨aY,H⟩ | ⟨aY,H⟩:=H
 · cases H
   go_enter Try.func69,Try.ntmps69
   go_wp2
   go_ret
   exact fin_ (bL HB)
 have H':=am H;clear H
 go_enter Try.func69,Try.ntmps69
 go_wp2
 go_loopg [1,5] k (fun kq v1 v5 w'=>∃ (aW:Int) (aA:Int),v1=.int .i64 aW∧v5=.int .i64 aA∧Aside0 (laws_szChunkS.l0 kq l0 aW aA=some r)∧Aside0 (kq≤k)∧Aside0 (Below w.heap.size w w'))
 case atStart=>exact⟨(wrap64 (a1 - (l0.length:Int))),(0),sr,sr,H',⟨Nat.le_refl _⟩,⟨bL HB⟩⟩
 clear H'
 try clear c3 aY
 obtain⟨aW,aA,rfl,rfl,HA,bB,HB⟩:=hrel
 cases gk with
 | zero=>exact absurd HA.out (by simp [laws_szChunkS.l0])
 | succ k1=>?_
 have H:=HA.out
 clear HA
 simp only [laws_szChunkS.l0] at H
 replace H:=idc H;obtain⟨a6,H⟩ | ⟨a6,H⟩:=H
 rotate_left
 · cases H
   go_wp2
   go_ret
   exact fin_ (bL HB)
 replace H:=ifd H;obtain⟨bC,H⟩:=H
 replace H:=bnd H;obtain⟨a7,A6,H⟩:=H
 replace H:=idc H;obtain⟨a8,H⟩ | ⟨a8,H⟩:=H
 · cases H
   have aQ:0≤(aA:Int):=dcd
   have aT:aA < (l0.length:Int):=dcd
   obtain⟨aZ,aU,aV,aX,aC,aD,aE,aG,aH,aI,aJ,aK⟩:=at_T119 bA.out aA aQ aT
   cases aX
   replace aC:=crd HB aC
   replace aD:=crd HB aD
   replace aE:=crd HB aE
   replace aG:=crd HB aG
   replace aH:=crd HB aH
   replace aI:=crd HB aI
   have aM:=am aK
   have aN:=am aJ
   clear aK aJ
   replace aQ:=eq_true aQ
   replace aT:=eq_true aT
   go_wp2_with (first | ((with_reducible refine gc 87 rfl ?_);refine gl_ (some 23) Try.func87 #[.agg #[.int .i64 ((rd_T119 l0 aA).f0),.int .i64 ((rd_T119 l0 aA).f1),.int .i64 ((rd_T119 l0 aA).f2),.int .i64 ((rd_T119 l0 aA).f3),.int .i64 ((rd_T119 l0 aA).f4),.slice aU ((rd_T119 l0 aA).f5).length aV],.int .i64 aW] rfl ?_;(with_reducible refine (laws_szChunk.calls ?side1 ?side2 A6.out).mono ?_);(case side1=>exact cL aM HB);(case side2=>exact aN.out);rintro e w8 ⟨rfl,hb⟩;refine⟨_,rfl,?_⟩;replace HB:=bst HB hb;clear hb))
   go_ret
   exact fin_ (bL HB)
 have H':=am H;clear H
 have aQ:0≤(aA:Int):=dcd
 have aT:aA < (l0.length:Int):=dcd
 obtain⟨aZ,aU,aV,aX,aC,aD,aE,aG,aH,aI,aJ,aK⟩:=at_T119 bA.out aA aQ aT
 cases aX
 replace aC:=crd HB aC
 replace aD:=crd HB aD
 replace aE:=crd HB aE
 replace aG:=crd HB aG
 replace aH:=crd HB aH
 replace aI:=crd HB aI
 have aM:=am aK
 have aN:=am aJ
 clear aK aJ
 replace aQ:=eq_true aQ
 replace aT:=eq_true aT
 go_wp2_with (first | ((with_reducible refine gc 87 rfl ?_);refine gl_ (some 23) Try.func87 #[.agg #[.int .i64 ((rd_T119 l0 aA).f0),.int .i64 ((rd_T119 l0 aA).f1),.int .i64 ((rd_T119 l0 aA).f2),.int .i64 ((rd_T119 l0 aA).f3),.int .i64 ((rd_T119 l0 aA).f4),.slice aU ((rd_T119 l0 aA).f5).length aV],.int .i64 aW] rfl ?_;(with_reducible refine (laws_szChunk.calls ?side1 ?side2 A6.out).mono ?_);(case side1=>exact cL aM HB);(case side2=>exact aN.out);rintro e w9 ⟨rfl,hb⟩;refine⟨_,rfl,?_⟩;replace HB:=bst HB hb;clear hb))
 go_roundg k1
 case measure=>have:=bB.out;omega
 case rel=>exact⟨(a7),(wrap64 (aA + 1)),sr,sr,H',⟨by have:=bB.out;omega⟩,⟨bL HB⟩⟩
/-! ### laws_szGroupMeta: function 46 -/
def laws_szGroupMeta.f (k:Nat)(aD:Int)(aC:List (S119))(a1:Int):Option (Int):=(laws_szChunkS.f k aC a1).bind fun aA=>(if aA < 0 then (some (-1)) else (some aA))
theorem laws_szGroupMeta.calls {k : Nat} {aG : Int} {aD : Option Addr} {aE : Nat} {aC : List (S119)} {a1 r : Int} {w : World} (hr0_1 : Kd.C k119 w aD aC.length aC) (aH : aC.length ≤ aE) (h : laws_szGroupMeta.f k aG aC a1 = some r) :
    Calls Try.prog 46 #[.agg #[.int .i64 aG,.slice aD aC.length aE],.int .i64 a1] w fun e w'=>e=.returned (.int .i64 r)∧Below w.heap.size w w':=by
 have hu79:=Try.underlying79
 have aI:=am hr0_1
 have aJ:=am aH
 clear hr0_1 aH
 have HB:=am (Below.refl w.heap.size w)
 have H:=h;clear h;unfold laws_szGroupMeta.f at H
 replace H:=bnd H;obtain⟨aT,A3,H⟩:=H
 replace H:=idc H;obtain⟨aQ,H⟩ | ⟨aQ,H⟩:=H
 · cases H
   go_enter Try.func46,Try.ntmps46
   go_wp2_with (first | ((with_reducible refine gd 2 rfl ?_);refine bxw 2 rfl #[.int .i64 aG,.slice aD aC.length aE] 79 HB ?_;clear HB;intro aK w5 aA aM aN HB;obtain⟨_,_,_,_⟩:=cl2 aA) | ((with_reducible refine gc 69 rfl ?_);refine gl_ (some 8) Try.func69 #[.slice aD aC.length aE,.int .i64 a1] rfl ?_;(with_reducible refine (laws_szChunkS.calls ?side1 ?side2 A3.out).mono ?_);(case side1=>exact cL aI HB);(case side2=>exact aJ.out);rintro e w7 ⟨rfl,hb⟩;refine⟨_,rfl,?_⟩;replace aA:=bkb aA hb;replace HB:=bst HB hb;clear hb))
   go_ret
   exact fin_ (bL HB)
 cases H
 go_enter Try.func46,Try.ntmps46
 go_wp2_with (first | ((with_reducible refine gd 2 rfl ?_);refine bxw 2 rfl #[.int .i64 aG,.slice aD aC.length aE] 79 HB ?_;clear HB;intro aK w8 aA aM aN HB;obtain⟨_,_,_,_⟩:=cl2 aA) | ((with_reducible refine gc 69 rfl ?_);refine gl_ (some 8) Try.func69 #[.slice aD aC.length aE,.int .i64 a1] rfl ?_;(with_reducible refine (laws_szChunkS.calls ?side1 ?side2 A3.out).mono ?_);(case side1=>exact cL aI HB);(case side2=>exact aJ.out);rintro e aU ⟨rfl,hb⟩;refine⟨_,rfl,?_⟩;replace aA:=bkb aA hb;replace HB:=bst HB hb;clear hb))
 go_ret
 exact fin_ (bL HB)
/-! ### laws_szGroupMetaS: function 20 -/
def laws_szGroupMetaS.l0:Nat→List (S79)→Int→Int→Option (Int)
  | 0,_,_,_=>none
  | k + 1,x0,x1,x5=>if x5 < (x0.length:Int) then (if 0≤x5 then ((laws_szGroupMeta.f k ((rd_T79 x0 x5).f0) ((rd_T79 x0 x5).f1) x1).bind fun aA=>(if aA < 0 then (some (-1)) else (laws_szGroupMetaS.l0 k x0 aA (wrap64 (x5 + 1))))) else (none)) else (some x1)
def laws_szGroupMetaS.f (k:Nat)(l0:List (S79))(a1:Int):Option (Int):=if (wrap64 (a1 - (l0.length:Int))) < 0 then (some (-1)) else (laws_szGroupMetaS.l0 k l0 (wrap64 (a1 - (l0.length:Int))) 0)
theorem laws_szGroupMetaS.calls {k : Nat} {A0 : Option Addr} {c0 : Nat} {l0 : List (S79)} {a1 r : Int} {w : World} (hr0 : Kd.C k79 w A0 l0.length l0) (aZ : l0.length ≤ c0) (h : laws_szGroupMetaS.f k l0 a1 = some r) :
    Calls Try.prog 20 #[.slice A0 l0.length c0,.int .i64 a1] w fun e w'=>e=.returned (.int .i64 r)∧Below w.heap.size w w':=by
 have hu79:=Try.underlying79
 have a6:=am hr0
 have a9:=am aZ
 clear hr0 aZ
 have HB:=am (Below.refl w.heap.size w)
 have H:=h;clear h;unfold laws_szGroupMetaS.f at H
 replace H:=idc H;obtain⟨aU,H⟩ | ⟨aU,H⟩:=H
 · cases H
   go_enter Try.func20,Try.ntmps20
   go_wp2
   go_ret
   exact fin_ (bL HB)
 have H':=am H;clear H
 go_enter Try.func20,Try.ntmps20
 go_wp2
 go_loopg [1,5] k (fun kq v1 v5 w'=>∃ (aQ:Int) (aA:Int),v1=.int .i64 aQ∧v5=.int .i64 aA∧Aside0 (laws_szGroupMetaS.l0 kq l0 aQ aA=some r)∧Aside0 (kq≤k)∧Aside0 (Below w.heap.size w w'))
 case atStart=>exact⟨(wrap64 (a1 - (l0.length:Int))),(0),sr,sr,H',⟨Nat.le_refl _⟩,⟨bL HB⟩⟩
 clear H'
 try clear c3 aU
 obtain⟨aQ,aA,rfl,rfl,HA,a7,HB⟩:=hrel
 cases gk with
 | zero=>exact absurd HA.out (by simp [laws_szGroupMetaS.l0])
 | succ k1=>?_
 have H:=HA.out
 clear HA
 simp only [laws_szGroupMetaS.l0] at H
 replace H:=idc H;obtain⟨aW,H⟩ | ⟨aW,H⟩:=H
 rotate_left
 · cases H
   go_wp2
   go_ret
   exact fin_ (bL HB)
 replace H:=ifd H;obtain⟨a8,H⟩:=H
 replace H:=bnd H;obtain⟨aX,A6,H⟩:=H
 replace H:=idc H;obtain⟨aY,H⟩ | ⟨aY,H⟩:=H
 · cases H
   have aJ:0≤(aA:Int):=dcd
   have aK:aA < (l0.length:Int):=dcd
   obtain⟨aV,aM,aN,aT,aC,aD,aE,aG⟩:=at_T79 a6.out aA aJ aK
   cases aT
   replace aC:=crd HB aC
   replace aD:=crd HB aD
   have aH:=am aG
   have aI:=am aE
   clear aG aE
   replace aJ:=eq_true aJ
   replace aK:=eq_true aK
   go_wp2_with (first | ((with_reducible refine gc 46 rfl ?_);refine gl_ (some 23) Try.func46 #[.agg #[.int .i64 ((rd_T79 l0 aA).f0),.slice aM ((rd_T79 l0 aA).f1).length aN],.int .i64 aQ] rfl ?_;(with_reducible refine (laws_szGroupMeta.calls ?side1 ?side2 A6.out).mono ?_);(case side1=>exact cL aH HB);(case side2=>exact aI.out);rintro e w8 ⟨rfl,hb⟩;refine⟨_,rfl,?_⟩;replace HB:=bst HB hb;clear hb))
   go_ret
   exact fin_ (bL HB)
 have H':=am H;clear H
 have aJ:0≤(aA:Int):=dcd
 have aK:aA < (l0.length:Int):=dcd
 obtain⟨aV,aM,aN,aT,aC,aD,aE,aG⟩:=at_T79 a6.out aA aJ aK
 cases aT
 replace aC:=crd HB aC
 replace aD:=crd HB aD
 have aH:=am aG
 have aI:=am aE
 clear aG aE
 replace aJ:=eq_true aJ
 replace aK:=eq_true aK
 go_wp2_with (first | ((with_reducible refine gc 46 rfl ?_);refine gl_ (some 23) Try.func46 #[.agg #[.int .i64 ((rd_T79 l0 aA).f0),.slice aM ((rd_T79 l0 aA).f1).length aN],.int .i64 aQ] rfl ?_;(with_reducible refine (laws_szGroupMeta.calls ?side1 ?side2 A6.out).mono ?_);(case side1=>exact cL aH HB);(case side2=>exact aI.out);rintro e w9 ⟨rfl,hb⟩;refine⟨_,rfl,?_⟩;replace HB:=bst HB hb;clear hb))
 go_roundg k1
 case measure=>have:=a7.out;omega
 case rel=>exact⟨(aX),(wrap64 (aA + 1)),sr,sr,H',⟨by have:=a7.out;omega⟩,⟨bL HB⟩⟩
/-! ### laws_szMeta: function 5 -/
def laws_szMeta.f (k:Nat)(aD:List (S75))(aG:Int)(aE:List (S79))(a1:Int):Option (Int):=(laws_szColS.f k aD a1).bind fun aA=>(if aA < 0 then (some (-1)) else ((laws_szGroupMetaS.f k aE aA).bind fun aC=>(if aC < 0 then (some (-1)) else (some aC))))
theorem laws_szMeta.calls {k : Nat} {aE : Option Addr} {aG : Nat} {aC : List (S75)} {aJ : Int} {aH : Option Addr} {aI : Nat} {aD : List (S79)} {a1 r : Int} {w : World} (hr0_0 : Kd.C k75 w aE aC.length aC) (aN : aC.length ≤ aG) (hr0_2 : Kd.C k79 w aH aD.length aD) (aQ : aD.length ≤ aI) (h : laws_szMeta.f k aC aJ aD a1 = some r) :
    Calls Try.prog 5 #[.agg #[.slice aE aC.length aG,.int .i64 aJ,.slice aH aD.length aI],.int .i64 a1] w fun e w'=>e=.returned (.int .i64 r)∧Below w.heap.size w w':=by
 have hu25:=Try.underlying25
 have aK:=am hr0_0
 have aM:=am aN
 clear hr0_0 aN
 have aT:=am hr0_2
 have aU:=am aQ
 clear hr0_2 aQ
 have HB:=am (Below.refl w.heap.size w)
 have H:=h;clear h;unfold laws_szMeta.f at H
 replace H:=bnd H;obtain⟨aY,A3,H⟩:=H
 replace H:=idc H;obtain⟨aZ,H⟩ | ⟨aZ,H⟩:=H
 · cases H
   go_enter Try.func5,Try.ntmps5
   go_wp2_with (first | ((with_reducible refine gd 2 rfl ?_);refine bxw 2 rfl #[.slice aE aC.length aG,.int .i64 aJ,.slice aH aD.length aI] 25 HB ?_;clear HB;intro aV w5 aA aW aX HB;obtain⟨_,_,_,_,_,_⟩:=cl3 aA) | ((with_reducible refine gc 19 rfl ?_);refine gl_ (some 8) Try.func19 #[.slice aE aC.length aG,.int .i64 a1] rfl ?_;(with_reducible refine (laws_szColS.calls ?side1 ?side2 A3.out).mono ?_);(case side1=>exact cL aK HB);(case side2=>exact aM.out);rintro e w7 ⟨rfl,hb⟩;refine⟨_,rfl,?_⟩;replace aA:=bkb aA hb;replace HB:=bst HB hb;clear hb))
   go_ret
   exact fin_ (bL HB)
 replace H:=bnd H;obtain⟨a7,A8,H⟩:=H
 replace H:=idc H;obtain⟨a6,H⟩ | ⟨a6,H⟩:=H
 · cases H
   go_enter Try.func5,Try.ntmps5
   go_wp2_with (first | ((with_reducible refine gd 2 rfl ?_);refine bxw 2 rfl #[.slice aE aC.length aG,.int .i64 aJ,.slice aH aD.length aI] 25 HB ?_;clear HB;intro aV a8 aA aW aX HB;obtain⟨_,_,_,_,_,_⟩:=cl3 aA) | ((with_reducible refine gc 19 rfl ?_);refine gl_ (some 8) Try.func19 #[.slice aE aC.length aG,.int .i64 a1] rfl ?_;(with_reducible refine (laws_szColS.calls ?side1 ?side2 A3.out).mono ?_);(case side1=>exact cL aK HB);(case side2=>exact aM.out);rintro e a9 ⟨rfl,hb⟩;refine⟨_,rfl,?_⟩;replace aA:=bkb aA hb;replace HB:=bst HB hb;clear hb;obtain⟨_,_,_,_,_,_⟩:=cl3 aA) | ((with_reducible refine gc 20 rfl ?_);refine gl_ (some 14) Try.func20 #[.slice aH aD.length aI,.int .i64 aY] rfl ?_;(with_reducible refine (laws_szGroupMetaS.calls ?side1 ?side2 A8.out).mono ?_);(case side1=>exact cL aT HB);(case side2=>exact aU.out);rintro e bA ⟨rfl,hb⟩;refine⟨_,rfl,?_⟩;replace aA:=bkb aA hb;replace HB:=bst HB hb;clear hb))
   go_ret
   exact fin_ (bL HB)
 cases H
 go_enter Try.func5,Try.ntmps5
 go_wp2_with (first | ((with_reducible refine gd 2 rfl ?_);refine bxw 2 rfl #[.slice aE aC.length aG,.int .i64 aJ,.slice aH aD.length aI] 25 HB ?_;clear HB;intro aV bB aA aW aX HB;obtain⟨_,_,_,_,_,_⟩:=cl3 aA) | ((with_reducible refine gc 19 rfl ?_);refine gl_ (some 8) Try.func19 #[.slice aE aC.length aG,.int .i64 a1] rfl ?_;(with_reducible refine (laws_szColS.calls ?side1 ?side2 A3.out).mono ?_);(case side1=>exact cL aK HB);(case side2=>exact aM.out);rintro e bC ⟨rfl,hb⟩;refine⟨_,rfl,?_⟩;replace aA:=bkb aA hb;replace HB:=bst HB hb;clear hb;obtain⟨_,_,_,_,_,_⟩:=cl3 aA) | ((with_reducible refine gc 20 rfl ?_);refine gl_ (some 14) Try.func20 #[.slice aH aD.length aI,.int .i64 aY] rfl ?_;(with_reducible refine (laws_szGroupMetaS.calls ?side1 ?side2 A8.out).mono ?_);(case side1=>exact cL aT HB);(case side2=>exact aU.out);rintro e bD ⟨rfl,hb⟩;refine⟨_,rfl,?_⟩;replace aA:=bkb aA hb;replace HB:=bst HB hb;clear hb))
 go_ret
 exact fin_ (bL HB)
/-! ### laws_toCol: function 54 -/
def laws_toCol.f (aA:ByteArray)(aC:Int)(aD:Int)(aE:Int):Option (ByteArray × Int × Int × Int):=some (aA,aC,aD,aE)
theorem laws_toCol.calls {aH : ByteArray} {aI aJ aK : Int} {r1 : ByteArray} {r2 r3 r4 : Int} {w : World} (h : laws_toCol.f aH aI aJ aK = some (r1, r2, r3, r4)) :
    Calls Try.prog 54 #[.agg #[.string aH,.int .i64 aI,.int .i64 aJ,.int .i64 aK]] w fun e w'=>e=.returned (.agg #[.string r1,.int .i64 r2,.int .i64 r3,.int .i64 r4])∧Below w.heap.size w w':=by
 have hu75:=Try.underlying75
 have hu84:=Try.underlying84
 have HB:=am (Below.refl w.heap.size w)
 have H:=h;clear h;unfold laws_toCol.f at H
 replace H:=sj4 H;obtain⟨rfl,rfl,rfl,rfl⟩:=H
 go_enter Try.func54,Try.ntmps54
 go_wp2_with (first | ((with_reducible refine gd 1 rfl ?_);refine bxw 1 rfl #[.string aH,.int .i64 aI,.int .i64 aJ,.int .i64 aK] 75 HB ?_;clear HB;intro aV w2 aA aW aX HB) | ((with_reducible refine gd 2 rfl ?_);refine bxv 2 rfl #[.string ⟨#[]⟩,.int .i64 0,.int .i64 0,.int .i64 0] 84 HB ?_;clear HB;intro aT w3 aC aY aZ HB hg hb;obtain⟨aD,aM⟩:=nbp (nbl aA hg);replace aA:=bkb aA hb;clear hg hb) | ((with_reducible refine gd 3 rfl ?_);refine bxv 3 rfl #[.string ⟨#[]⟩,.int .i64 0,.int .i64 0,.int .i64 0] 84 HB ?_;clear HB;intro a6 w4 aU a7 a8 HB hg hb;obtain⟨aE,aN⟩:=nbp (nbl aA hg);obtain⟨aQ,aG⟩:=nbp (nbl aC hg);replace aA:=bkb aA hb;replace aC:=bkb aC hb;clear hg hb;obtain⟨a9,bA⟩:=nbo aD;obtain⟨bB,bC⟩:=nbo aE;obtain⟨_,_,_,_,_,_,_,_⟩:=cl4 aA;obtain⟨bD,bE⟩:=nbo aG;obtain⟨_,_,_,_,_,_,_,_⟩:=cl4 aU;obtain⟨_,_,_,_,_,_,_,_⟩:=cl4 aC))
 refine bodyPost_ret (results_cell_row rfl _ _ aT 84 #[.string aH,.int .i64 aI,.int .i64 aJ,.int .i64 aK] (0,0) _ rfl (kL aC) Try.underlying84 rfl (by kernel_rfl)) rfl ?_
 exact fin_ (bL HB)
/-! ### laws_toColS: function 27 -/
def laws_toColS.l0:Nat→List (S75)→List (S84)→Int→Option ((List (S84)))
  | 0,_,_,_=>none
  | k + 1,x0,x3,x4=>if x4 < (x0.length:Int) then (if 0≤x4 then ((laws_toCol.f ((rd_T75 x0 x4).f0) ((rd_T75 x0 x4).f1) ((rd_T75 x0 x4).f2) ((rd_T75 x0 x4).f3)).bind fun aA=>(if x4 < (x3.length:Int) then (laws_toColS.l0 k x0 (x3.set (x4:Int).toNat (⟨aA.1,aA.2.1,aA.2.2.1,aA.2.2.2⟩:S84)) (wrap64 (x4 + 1))) else (none))) else (none)) else (some x3)
def laws_toColS.f (k:Nat)(l0:List (S75)):Option ((List (S84))):=if 0≤(l0.length:Int) then (if ((l0.length:Int):Int).toNat≤7036874417766 then (laws_toColS.l0 k l0 (List.replicate ((l0.length:Int):Int).toNat z84) 0) else (none)) else (none)
theorem laws_toColS.calls {k : Nat} {A0 : Option Addr} {c0 : Nat} {l0 : List (S75)} {r : List (S84)} {w : World} (hr0 : Kd.C k75 w A0 l0.length l0) (cB : l0.length ≤ c0) (h : laws_toColS.f k l0 = some r) :
    Calls Try.prog 27 #[.slice A0 l0.length c0] w fun e w'=>∃ cC:Value,e=.returned (cC)∧Kd.R k84 84 w' w.heap.size (fun _=>True) cC r∧Below w.heap.size w w':=by
 have hu75:=Try.underlying75
 have hu84:=Try.underlying84
 have cF:=am hr0
 have cK:=am cB
 clear hr0 cB
 have HB:=am (Below.refl w.heap.size w)
 have H:=h;clear h;unfold laws_toColS.f at H
 replace H:=ifs H;obtain⟨c2,H⟩:=H
 have bM:=eq_true c2
 have bN:=decide_eq_true c2
 clear c2
 replace H:=ifs H;obtain⟨c3,H⟩:=H
 have bO:=eq_true c3
 have bP:=decide_eq_true c3
 clear c3
 generalize aT:((List.replicate ((l0.length:Int):Int).toNat z84):List (S84))=bQ at H;have aU:=am aT.symm;clear aT
 have H':=am H;clear H
 go_enter Try.func27,Try.ntmps27
 go_wp2_with (first | ((with_reducible refine gd 7 rfl ?_);refine Kd.R_make k84 _ 84 rfl (N:=7) rfl 30 _ _ rfl (l0.length:Int) rfl rfl Try.underlying30 (.agg #[(.string ⟨#[]⟩),(.int .i64 0),(.int .i64 0),(.int .i64 0)]) 40 info84 rfl (by decide) (by omega) z84 (ok:=fun _=>True) (okp:=fun _=>True) (k84_mkM _ _ _ z84 ) (fun _ hk=>hk) trivial (dcd) (Nat.le_trans (Nat.mul_le_mul_right _ (dcd:(l0.length:Int).toNat≤7036874417766)) (by omega)) (Below.refl _ _) (Nat.le_refl _) ?_;intro bR w4 bA hb hg_ hnew_;clear hg_ hnew_;(first | rw [← aU.out] at bA | (simp only [Int.reduceToNat] at bA;rw [← aU.out] at bA));have bB:=rlb bA HB;replace HB:=bst HB hb;clear hb bA))
 go_loopg [4] k (fun kq v4 w'=>∃ (aC:List (S84)) (aA:Int),v4=.int .i64 aA∧Aside0 (laws_toColS.l0 kq l0 aC aA=some r)∧Aside0 (kq≤k)∧Aside0 (Kd.R k84 84 w' w.heap.size (fun _=>True) bR aC)∧Aside0 (Below w.heap.size w w'))
 case atStart=>exact⟨(bQ),(0),sr,H',⟨Nat.le_refl _⟩,⟨rL bB⟩,⟨bL HB⟩⟩
 clear H'
 try clear c2 bM bN c3 bO bP
 obtain⟨aC,aA,rfl,HA,cD,aD,HB⟩:=hrel
 cases gk with
 | zero=>exact absurd HA.out (by simp [laws_toColS.l0])
 | succ k1=>?_
 have H:=HA.out
 clear HA
 simp only [laws_toColS.l0] at H
 replace H:=idc H;obtain⟨bS,H⟩ | ⟨bS,H⟩:=H
 rotate_left
 · cases H
   go_wp2
   go_ret
   exact⟨_,fin_ ⟨rL aD,bL HB⟩⟩
 replace H:=ifd H;obtain⟨cG,H⟩:=H
 replace H:=bnd4 H;obtain⟨aJ,aK,aM,aN,A8,H⟩:=H;dsimp only at H
 replace H:=ifd H;obtain⟨cH,H⟩:=H
 generalize aV:((aC.set (aA:Int).toNat (⟨aJ,aK,aM,aN⟩:S84)):List (S84))=bC at H;have bD:=am aV.symm;clear aV
 have H':=am H;clear H
 obtain⟨cI,cJ,cE,bT,bH,bI,bJ,bK⟩:=at_T75b HB cF aA;cases bT
 go_wp2_with (first | ((with_reducible refine gc 54 rfl ?_);refine gc1 (some 20) Try.func54 rfl (laws_toCol.calls A8.out) ?_;rintro aQ hb;replace aD:=rbe aD hb;replace HB:=bst HB hb;clear hb;have bU:0≤(aA:Int):=dcd;have bV:(aA:Int) < ((aC.length:Int):Int):=dcd;obtain⟨go10,bE,bF,bG,gl10,cl10,HG10⟩:=Kd.R_form aD.out (by omega);(first | cases bF | (injection bF with ea_ en_ ec_;(first | subst ea_ | (injection ea_ with ea_;subst ea_));subst ec_;clear en_));have GB10:=am bG;have GG10:=am HG10;clear bG gl10 HG10;obtain⟨ce10,hcl10,hM10,aG,aH⟩:=Kd.R_elem aD.out z84 (aA:Int) bU bV;obtain rfl:=k84_openM hM10;have bW:aQ.cell? ⟨go10,(aA:Int).toNat * 4,none⟩=some (.string ((rd_T84 aC aA).f0)):=aG 0 _ rfl;have bX:aQ.cell? ⟨go10,(aA:Int).toNat * 4 + 1,none⟩=some (.int .i64 ((rd_T84 aC aA).f1)):=aG 1 _ rfl;have bY:aQ.cell? ⟨go10,(aA:Int).toNat * 4 + 2,none⟩=some (.int .i64 ((rd_T84 aC aA).f2)):=aG 2 _ rfl;have bZ:aQ.cell? ⟨go10,(aA:Int).toNat * 4 + 3,none⟩=some (.int .i64 ((rd_T84 aC aA).f3)):=aG 3 _ rfl;have b6:aQ.frozen? ⟨go10,(aA:Int).toNat * 4,none⟩=false:=aH 0;have b7:aQ.frozen? ⟨go10,(aA:Int).toNat * 4 + 1,none⟩=false:=aH 1;have b8:aQ.frozen? ⟨go10,(aA:Int).toNat * 4 + 2,none⟩=false:=aH 2;have b9:aQ.frozen? ⟨go10,(aA:Int).toNat * 4 + 3,none⟩=false:=aH 3;clear hcl10 aG aH hM10;replace bU:=eq_true bU;replace bV:=eq_true bV;have HX12:=am (show Kd.R k84 84 aQ w.heap.size (fun _=>True) (.slice (some ⟨go10,0,none⟩) aC.length bE) aC from (rL aD));obtain⟨ce12,hcl12,hM12,aE,aI⟩:=Kd.R_elem HX12.out z84 (aA:Int) (dcd) (by have h_:(aA:Int) < ((aC.length:Int):Int):=dcd;first | exact h_ | (have e_:=(Kd.R_reads' aD.out).1;omega) | simpa using h_);obtain rfl:=k84_openM hM12;have HP12:=Kd.R_seg HX12.out (aA:Int) (dcd) (by have h_:(aA:Int) < ((aC.length:Int):Int):=dcd;first | exact h_ | (have e_:=(Kd.R_reads' aD.out).1;omega) | simpa using h_) (seg:=[.string aJ,.int .i64 aK,.int .i64 aM,.int .i64 aN]) (j:=0) hcl12 aE (show 4≤4 from by decide) (x':=(⟨aJ,aK,aM,aN⟩:S84)) (k84_mkM _ _ _ (⟨aJ,aK,aM,aN⟩:S84) ) (fun _ hk=>hk);have aW:=aE 0 _ rfl;(try simp only [show (k84).sz=4 from rfl,Nat.mul_one,Nat.add_zero] at aW);have aX:=aI 0;(try simp only [show (k84).sz=4 from rfl,Nat.mul_one,Nat.add_zero] at aX);have aY:=aE 1 _ rfl;(try simp only [show (k84).sz=4 from rfl,Nat.mul_one,Nat.add_zero] at aY);have aZ:=aI 1;(try simp only [show (k84).sz=4 from rfl,Nat.mul_one,Nat.add_zero] at aZ);have a6:=aE 2 _ rfl;(try simp only [show (k84).sz=4 from rfl,Nat.mul_one,Nat.add_zero] at a6);have a7:=aI 2;(try simp only [show (k84).sz=4 from rfl,Nat.mul_one,Nat.add_zero] at a7);have a8:=aE 3 _ rfl;(try simp only [show (k84).sz=4 from rfl,Nat.mul_one,Nat.add_zero] at a8);have a9:=aI 3;(try simp only [show (k84).sz=4 from rfl,Nat.mul_one,Nat.add_zero] at a9);clear hcl12 aE aI hM12) | ((with_reducible refine gate_store (t:=84) (p:=21) rfl ?_);refine st_ 84 21 ((((aQ.setCell ⟨go10,(aA:Int).toNat * 4,none⟩ (.string aJ)).setCell ⟨go10,(aA:Int).toNat * 4 + 1,none⟩ (.int .i64 aK)).setCell ⟨go10,(aA:Int).toNat * 4 + 2,none⟩ (.int .i64 aM)).setCell ⟨go10,(aA:Int).toNat * 4 + 3,none⟩ (.int .i64 aN)) ?_;intro cA hw;have hg:aQ.grownBy cA (some go10):=(by rw [hw];exact HP12.2);have hp_:Kd.R k84 84 cA w.heap.size (fun _=>True) (.slice (some ⟨go10,0,none⟩) aC.length bE) bC:=(by rw [hw,bD.out];exact HP12.1);clear HP12;replace aD:=am hp_;replace HB:=am ((by rw [hw];exact below_set (below_set (below_set (below_set (HB.out) GB10.out) GB10.out) GB10.out) GB10.out:Below w.heap.size w cA));clear hg hw hp_))
 go_roundg k1
 case measure=>have:=cD.out;omega
 case rel=>exact⟨(bC),(wrap64 (aA + 1)),sr,H',⟨by have:=cD.out;omega⟩,⟨rL aD⟩,⟨bL HB⟩⟩
/-! ### laws_toIntS: function 103 -/
def laws_toIntS.l0:Nat→List Int→List Int→Int→Option (List Int)
  | 0,_,_,_=>none
  | k + 1,x0,x3,x4=>if x4 < (x0.length:Int) then (if 0≤x4 then (if x4 < (x3.length:Int) then (laws_toIntS.l0 k x0 (x3.set (x4:Int).toNat (rd x0 x4)) (wrap64 (x4 + 1))) else (none)) else (none)) else (some x3)
def laws_toIntS.f (k:Nat)(l0:List Int):Option (List Int):=if 0≤(l0.length:Int) then (if ((l0.length:Int):Int).toNat≤35184372088832 then (laws_toIntS.l0 k l0 (List.replicate ((l0.length:Int):Int).toNat 0) 0) else (none)) else (none)
theorem laws_toIntS.calls {k : Nat} {A0 : Option Addr} {c0 : Nat} {l0 r : List Int} {w : World} (hr0 : Kd.C (Kd.int .i64) w A0 l0.length l0) (a9 : l0.length ≤ c0) (h : laws_toIntS.f k l0 = some r) :
    Calls Try.prog 103 #[.slice A0 l0.length c0] w fun e w'=>∃ bA:Value,e=.returned (bA)∧Kd.R (Kd.int .i64) 3 w' w.heap.size (fun _=>True) bA r∧Below w.heap.size w w':=by
 have bH:=am hr0
 have bM:=am a9
 clear hr0 a9
 have HB:=am (Below.refl w.heap.size w)
 have H:=h;clear h;unfold laws_toIntS.f at H
 replace H:=ifs H;obtain⟨c2,H⟩:=H
 have aU:=eq_true c2
 have aV:=decide_eq_true c2
 clear c2
 replace H:=ifs H;obtain⟨c3,H⟩:=H
 have aW:=eq_true c3
 have aX:=decide_eq_true c3
 clear c3
 generalize aG:((List.replicate ((l0.length:Int):Int).toNat 0):List Int)=aY at H;have aH:=am aG.symm;clear aG
 have H':=am H;clear H
 go_enter Try.func103,Try.ntmps103
 go_wp2_with (first | ((with_reducible refine gd 7 rfl ?_);refine Kd.R_make (Kd.int .i64) _ 3 rfl (N:=7) rfl 56 _ _ rfl (l0.length:Int) rfl rfl Try.underlying56 (.int .i64 0) 8 info3 rfl (by decide) (by omega) 0 (ok:=fun _=>True) (okp:=fun _=>True) rfl (fun _ hk=>hk) trivial (dcd) (Nat.le_trans (Nat.mul_le_mul_right _ (dcd:(l0.length:Int).toNat≤35184372088832)) (by omega)) (Below.refl _ _) (Nat.le_refl _) ?_;intro aZ w4 aM hb hg_ hnew_;clear hg_ hnew_;(first | rw [← aH.out] at aM | (simp only [Int.reduceToNat] at aM;rw [← aH.out] at aM));have aN:=rlb aM HB;replace HB:=bst HB hb;clear hb aM))
 go_loopg [4] k (fun kq v4 w'=>∃ (aD:List Int) (aA:Int),v4=.int .i64 aA∧Aside0 (laws_toIntS.l0 kq l0 aD aA=some r)∧Aside0 (kq≤k)∧Aside0 (Kd.R (Kd.int .i64) 3 w' w.heap.size (fun _=>True) aZ aD)∧Aside0 (Below w.heap.size w w'))
 case atStart=>exact⟨(aY),(0),sr,H',⟨Nat.le_refl _⟩,⟨rL aN⟩,⟨bL HB⟩⟩
 clear H'
 try clear c2 aU aV c3 aW aX
 obtain⟨aD,aA,rfl,HA,bB,aE,HB⟩:=hrel
 cases gk with
 | zero=>exact absurd HA.out (by simp [laws_toIntS.l0])
 | succ k1=>?_
 have H:=HA.out
 clear HA
 simp only [laws_toIntS.l0] at H
 replace H:=idc H;obtain⟨a6,H⟩ | ⟨a6,H⟩:=H
 rotate_left
 · cases H
   go_wp2
   go_ret
   exact⟨_,fin_ ⟨rL aE,bL HB⟩⟩
 replace H:=if_dd H;obtain⟨bI,bJ,H⟩:=H
 generalize aI:((aD.set (aA:Int).toNat (rd l0 aA)):List Int)=aQ at H;have aT:=am aI.symm;clear aI
 have H':=am H;clear H
 have aJ:0≤(aA:Int):=dcd
 have aK:aA < (l0.length:Int):=dcd
 obtain⟨bC,a7,aC⟩:=Kd.at_int bH.out aA aJ aK
 cases a7
 replace aC:=crd HB aC
 replace aJ:=eq_true aJ
 replace aK:=eq_true aK
 have p9:0≤(aA:Int):=dcd
 have q9:(aA:Int) < ((aD.length:Int):Int):=dcd
 obtain⟨go9,bK,bD,bE,gl9,cl9,HG9⟩:=Kd.R_form aE.out (by omega)
 (first | cases bD | (injection bD with ea_ en_ ec_;(first | subst ea_ | (injection ea_ with ea_;subst ea_));subst ec_;clear en_))
 have GB9:=am bE
 have GG9:=am HG9
 clear bE gl9 HG9
 obtain⟨bF,bG⟩:=Kd.R_celln 0 aE.out (aA:Int) p9 q9
 replace p9:=eq_true p9
 replace q9:=eq_true q9
 have HP10:=Kd.R_putg aE.out (aA:Int) (rd l0 aA)
 go_wp2_with (first | ((with_reducible refine gate_store (t:=3) (p:=20) rfl ?_);refine st_ 3 20 (wr.setCell ⟨go9,(aA:Int).toNat,none⟩ (.int .i64 (rd l0 aA))) ?_;intro a8 hw;have hg:wr.grownBy a8 (some go9):=(by rw [hw];exact HP10.2);have hp_:Kd.R (Kd.int .i64) 3 a8 w.heap.size (fun _=>True) (.slice (some ⟨go9,0,none⟩) aD.length bK) aQ:=(by rw [hw,aT.out];exact HP10.1);clear HP10;replace aE:=am hp_;replace HB:=am ((by rw [hw];exact below_set (HB.out) GB9.out:Below w.heap.size w a8));clear hg hw hp_))
 go_roundg k1
 case measure=>have:=bB.out;omega
 case rel=>exact⟨(aQ),(wrap64 (aA + 1)),sr,H',⟨by have:=bB.out;omega⟩,⟨rL aE⟩,⟨bL HB⟩⟩
/-! ### laws_toChunk: function 93 -/
def laws_toChunk.f (k:Nat)(aA:Int)(aC:Int)(aD:Int)(aE:Int)(aG:Int)(aH:List Int):Option (Int × Int × Int × Int × Int × List Int):=(laws_toIntS.f k aH).bind fun aI=>(some (aA,aC,aD,aE,aG,aI))
theorem laws_toChunk.calls {k : Nat} {aG aH aI aJ aK : Int} {aX : Option Addr} {aY : Nat} {aM : List Int} {r1 r2 r3 r4 r5 : Int} {r6 : List Int} {w : World} (hr0_5 : Kd.C (Kd.int .i64) w aX aM.length aM) (aU : aM.length ≤ aY) (h : laws_toChunk.f k aG aH aI aJ aK aM = some (r1, r2, r3, r4, r5, r6)) :
    Calls Try.prog 93 #[.agg #[.int .i64 aG,.int .i64 aH,.int .i64 aI,.int .i64 aJ,.int .i64 aK,.slice aX aM.length aY]] w fun e w'=>∃ bE:Value,e=.returned (.agg #[.int .i64 r1,.int .i64 r2,.int .i64 r3,.int .i64 r4,.int .i64 r5,bE])∧Kd.R (Kd.int .i64) 3 w' w.heap.size (fun _=>True) bE r6∧Below w.heap.size w w':=by
 have hu119:=Try.underlying119
 have hu58:=Try.underlying58
 have bB:=am hr0_5
 have bC:=am aU
 clear hr0_5 aU
 have HB:=am (Below.refl w.heap.size w)
 have H:=h;clear h;unfold laws_toChunk.f at H
 replace H:=bnd H;obtain⟨aZ,A2,H⟩:=H
 replace H:=sj6 H;obtain⟨rfl,rfl,rfl,rfl,rfl,rfl⟩:=H
 go_enter Try.func93,Try.ntmps93
 go_wp2_with (first | ((with_reducible refine gd 1 rfl ?_);refine bxw 1 rfl #[.int .i64 aG,.int .i64 aH,.int .i64 aI,.int .i64 aJ,.int .i64 aK,.slice aX aM.length aY] 119 HB ?_;clear HB;intro bF w3 aA bG bH HB) | ((with_reducible refine gd 2 rfl ?_);refine bxv 2 rfl #[.int .i64 0,.int .i64 0,.int .i64 0,.int .i64 0,.int .i64 0,.slice none 0 0] 58 HB ?_;clear HB;intro aD w4 aC bI bJ HB hg hb;obtain⟨aN,a8⟩:=nbp (nbl aA hg);replace aA:=bkb aA hb;clear hg hb) | ((with_reducible refine gd 3 rfl ?_);refine bxv 3 rfl #[.int .i64 0,.int .i64 0,.int .i64 0,.int .i64 0,.int .i64 0,.slice none 0 0] 58 HB ?_;clear HB;intro aV w5 aE bK bM HB hg hb;obtain⟨aQ,a9⟩:=nbp (nbl aA hg);obtain⟨bA,aT⟩:=nbp (nbl aC hg);replace aA:=bkb aA hb;replace aC:=bkb aC hb;clear hg hb;obtain⟨bO,bP⟩:=nbo aN;obtain⟨bQ,bR⟩:=nbo aQ;obtain⟨_,_,_,_,_,_,_,_,_,_,_,_⟩:=cl6 aA;obtain⟨bS,bT⟩:=nbo aT;obtain⟨_,_,_,_,_,_,_,_,_,_,_,_⟩:=cl6 aE) | ((with_reducible refine gc 103 rfl ?_);refine gc2 (some 21) Try.func103 rfl (laws_toIntS.calls (Kd.C_below bB.out (bL HB)) bC.out A2.out) ?_;rintro bU bV ⟨bN,hb⟩;have aW:=rlb bN HB;replace aA:=bkb aA hb;replace aC:=bkb aC hb;replace aE:=am (blk_below (g:=aV) (o:=.cells #[.int .i64 aG,.int .i64 aH,.int .i64 aI,.int .i64 aJ,.int .i64 aK,.slice none 0 0] 58 (0,0)) (blk_later aE.out) hb);replace HB:=bst HB hb;clear hb bN;obtain⟨a6,a7,bD⟩:=Kd.R_slice aW.out;subst bD;obtain⟨_,_,_,_,_,_,_,_,_,_,_,_⟩:=cl6 aE;obtain⟨_,_,_,_,_,_,_,_,_,_,_,_⟩:=cl6 aC))
 refine bodyPost_ret (results_cell_row rfl _ _ aD 58 #[.int .i64 aG,.int .i64 aH,.int .i64 aI,.int .i64 aJ,.int .i64 aK,.slice a6 aZ.length a7] (0,0) _ rfl (kL aC) Try.underlying58 rfl (by kernel_rfl)) rfl ?_
 exact⟨_,fin_ ⟨R_later (Kd.R_mono (Kd.R_far (p:=⟨aD,5,none⟩) (Kd.R_far (p:=⟨aD,4,none⟩) (Kd.R_far (p:=⟨aD,3,none⟩) (Kd.R_far (p:=⟨aD,2,none⟩) (Kd.R_far (p:=⟨aD,1,none⟩) (Kd.R_far (p:=⟨aD,0,none⟩) (Kd.R_far (p:=⟨aV,5,none⟩) (Kd.R_types (Kd.R_types aW.out aE.out (by decide)) aC.out (by decide)) (fun _ hk=>hk.1.2) (.slice a6 aZ.length a7)) (fun _ hk=>hk.2) (.int .i64 aG)) (fun _ hk=>hk.2) (.int .i64 aH)) (fun _ hk=>hk.2) (.int .i64 aI)) (fun _ hk=>hk.2) (.int .i64 aJ)) (fun _ hk=>hk.2) (.int .i64 aK)) (fun _ hk=>hk.2) (.slice a6 aZ.length a7)) (fun _ hk=>trivial)),bL HB⟩⟩
/-! ### laws_toChunkS: function 73 -/
def laws_toChunkS.l0:Nat→List (S119)→List (S58)→Int→Option ((List (S58)))
  | 0,_,_,_=>none
  | k + 1,x0,x3,x4=>if x4 < (x0.length:Int) then (if 0≤x4 then ((laws_toChunk.f k ((rd_T119 x0 x4).f0) ((rd_T119 x0 x4).f1) ((rd_T119 x0 x4).f2) ((rd_T119 x0 x4).f3) ((rd_T119 x0 x4).f4) ((rd_T119 x0 x4).f5)).bind fun aA=>(if x4 < (x3.length:Int) then (laws_toChunkS.l0 k x0 (x3.set (x4:Int).toNat (⟨aA.1,aA.2.1,aA.2.2.1,aA.2.2.2.1,aA.2.2.2.2.1,aA.2.2.2.2.2⟩:S58)) (wrap64 (x4 + 1))) else (none))) else (none)) else (some x3)
def laws_toChunkS.f (k:Nat)(l0:List (S119)):Option ((List (S58))):=if 0≤(l0.length:Int) then (if ((l0.length:Int):Int).toNat≤4398046511104 then (laws_toChunkS.l0 k l0 (List.replicate ((l0.length:Int):Int).toNat z58) 0) else (none)) else (none)
theorem laws_toChunkS.calls {k : Nat} {A0 : Option Addr} {c0 : Nat} {l0 : List (S119)} {r : List (S58)} {w : World} (hr0 : Kd.C k119 w A0 l0.length l0) (cZ : l0.length ≤ c0) (h : laws_toChunkS.f k l0 = some r) :
    Calls Try.prog 73 #[.slice A0 l0.length c0] w fun e w'=>∃ dA:Value,e=.returned (dA)∧Kd.S k58 58 w' w.heap.size (fun _=>True) dA r∧Below w.heap.size w w':=by
 have hu119:=Try.underlying119
 have hu58:=Try.underlying58
 have dD:=am hr0
 have dG:=am cZ
 clear hr0 cZ
 have HB:=am (Below.refl w.heap.size w)
 have H:=h;clear h;unfold laws_toChunkS.f at H
 replace H:=ifs H;obtain⟨c2,H⟩:=H
 have cA:=eq_true c2
 have cB:=decide_eq_true c2
 clear c2
 replace H:=ifs H;obtain⟨c3,H⟩:=H
 have cC:=eq_true c3
 have cD:=decide_eq_true c3
 clear c3
 generalize bC:((List.replicate ((l0.length:Int):Int).toNat z58):List (S58))=cE at H;have bD:=am bC.symm;clear bC
 have H':=am H;clear H
 go_enter Try.func73,Try.ntmps73
 go_wp2_with (first | ((with_reducible refine gd 7 rfl ?_);refine Kd.S_make k58 _ 58 rfl (N:=7) rfl 52 _ _ rfl (l0.length:Int) rfl rfl Try.underlying52 (.agg #[(.int .i64 0),(.int .i64 0),(.int .i64 0),(.int .i64 0),(.int .i64 0),(.slice none 0 0)]) 64 info58 rfl (by decide) (by omega) z58 (ok:=fun _=>True) (okp:=fun _=>True) (k58_mkM _ _ _ z58 (Kd.R_nil _ _ _ _ _)) (fun _ hk=>hk) trivial (dcd) (Nat.le_trans (Nat.mul_le_mul_right _ (dcd:(l0.length:Int).toNat≤4398046511104)) (by omega)) (Below.refl _ _) (Nat.le_refl _) ?_;intro cF w4 bX hb hg_ hnew_;clear hg_ hnew_;(first | rw [← bD.out] at bX | (simp only [Int.reduceToNat] at bX;rw [← bD.out] at bX));have bY:=am (Kd.S_lower bX (below_size (bL HB)));replace HB:=bst HB hb;clear hb bX))
 go_loopg [4] k (fun kq v4 w'=>∃ (aC:List (S58)) (aA:Int),v4=.int .i64 aA∧Aside0 (laws_toChunkS.l0 kq l0 aC aA=some r)∧Aside0 (kq≤k)∧Aside0 (Kd.S k58 58 w' w.heap.size (fun _=>True) cF aC)∧Aside0 (Below w.heap.size w w'))
 case atStart=>exact⟨(cE),(0),sr,H',⟨Nat.le_refl _⟩,⟨S_later bY.out⟩,⟨bL HB⟩⟩
 clear H'
 try clear c2 cA cB c3 cC cD
 obtain⟨aC,aA,rfl,HA,dB,aD,HB⟩:=hrel
 cases gk with
 | zero=>exact absurd HA.out (by simp [laws_toChunkS.l0])
 | succ k1=>?_
 have H:=HA.out
 clear HA
 simp only [laws_toChunkS.l0] at H
 replace H:=idc H;obtain⟨cG,H⟩ | ⟨cG,H⟩:=H
 rotate_left
 · cases H
   go_wp2
   go_ret
   exact⟨_,fin_ ⟨sL aD,bL HB⟩⟩
 replace H:=ifd H;obtain⟨dE,H⟩:=H
 replace H:=bnd6 H;obtain⟨aY,aZ,a6,a7,a8,bF,A8,H⟩:=H;dsimp only at H
 replace H:=ifd H;obtain⟨dF,H⟩:=H
 generalize bE:((aC.set (aA:Int).toNat (⟨aY,aZ,a6,a7,a8,bF⟩:S58)):List (S58))=bZ at H;have b6:=am bE.symm;clear bE
 have H':=am H;clear H
 have bG:0≤(aA:Int):=dcd
 have bH:aA < (l0.length:Int):=dcd
 obtain⟨dC,bI,bJ,cH,aM,aN,aQ,aT,aU,aV,aW,aX⟩:=at_T119 dD.out aA bG bH
 cases cH
 replace aM:=crd HB aM
 replace aN:=crd HB aN
 replace aQ:=crd HB aQ
 replace aT:=crd HB aT
 replace aU:=crd HB aU
 replace aV:=crd HB aV
 have a9:=am aX
 have bA:=am aW
 clear aX aW
 replace bG:=eq_true bG
 replace bH:=eq_true bH
 go_wp2_with (first | ((with_reducible refine gc 93 rfl ?_);refine gl_ (some 20) Try.func93 #[.agg #[.int .i64 ((rd_T119 l0 aA).f0),.int .i64 ((rd_T119 l0 aA).f1),.int .i64 ((rd_T119 l0 aA).f2),.int .i64 ((rd_T119 l0 aA).f3),.int .i64 ((rd_T119 l0 aA).f4),.slice bI ((rd_T119 l0 aA).f5).length bJ]] rfl ?_;(with_reducible refine (laws_toChunk.calls ?side1 ?side2 A8.out).mono ?_);(case side1=>exact cL a9 HB);(case side2=>exact bA.out);rintro e aK ⟨bB,rfl,cI,hb⟩;refine⟨_,rfl,?_⟩;have aE:=rlb cI HB;replace aD:=am (Kd.S_elder' (S_later aD.out) (Kd.R_base cI) hb);replace HB:=bst HB hb;clear hb cI;have cJ:0≤(aA:Int):=dcd;have cK:(aA:Int) < ((aC.length:Int):Int):=dcd;obtain⟨go10,b7,b8,b9,gl10,cl10,HG10⟩:=Kd.S_form aD.out (by omega);(first | cases b8 | (injection b8 with ea_ en_ ec_;(first | subst ea_ | (injection ea_ with ea_;subst ea_));subst ec_;clear en_));have GB10:=am b9;have GG10:=am HG10;clear b9 gl10 HG10;obtain⟨_,ce10,hcl10,hM10,aG,aH,_,_⟩:=Kd.S_elem aD.out z58 (aA:Int) cJ cK;obtain⟨ve10_5,rfl,ge10_5⟩:=k58_openM hM10;have cM:aK.cell? ⟨go10,(aA:Int).toNat * 6,none⟩=some (.int .i64 ((rd_T58 aC aA).f0)):=aG 0 _ rfl;have cN:aK.cell? ⟨go10,(aA:Int).toNat * 6 + 1,none⟩=some (.int .i64 ((rd_T58 aC aA).f1)):=aG 1 _ rfl;have cO:aK.cell? ⟨go10,(aA:Int).toNat * 6 + 2,none⟩=some (.int .i64 ((rd_T58 aC aA).f2)):=aG 2 _ rfl;have cP:aK.cell? ⟨go10,(aA:Int).toNat * 6 + 3,none⟩=some (.int .i64 ((rd_T58 aC aA).f3)):=aG 3 _ rfl;have cQ:aK.cell? ⟨go10,(aA:Int).toNat * 6 + 4,none⟩=some (.int .i64 ((rd_T58 aC aA).f4)):=aG 4 _ rfl;have cR:aK.cell? ⟨go10,(aA:Int).toNat * 6 + 5,none⟩=some (ve10_5):=aG 5 _ rfl;have cS:aK.frozen? ⟨go10,(aA:Int).toNat * 6,none⟩=false:=aH 0;have cT:aK.frozen? ⟨go10,(aA:Int).toNat * 6 + 1,none⟩=false:=aH 1;have cU:aK.frozen? ⟨go10,(aA:Int).toNat * 6 + 2,none⟩=false:=aH 2;have cV:aK.frozen? ⟨go10,(aA:Int).toNat * 6 + 3,none⟩=false:=aH 3;have cW:aK.frozen? ⟨go10,(aA:Int).toNat * 6 + 4,none⟩=false:=aH 4;have cX:aK.frozen? ⟨go10,(aA:Int).toNat * 6 + 5,none⟩=false:=aH 5;clear hcl10 aG aH hM10;replace cJ:=eq_true cJ;replace cK:=eq_true cK;have n_:=am (Kd.S_mono (ok':=(fun k_=>some k_≠(bB:Value).ownBlock)) aD.out (fun k_ hk=>hk.2));clear aD;have aD:=n_;clear n_;have HX12:=am (show Kd.S k58 58 aK w.heap.size (fun k_=>((fun _=>True)) k_∧¬ ((fun k_=>some k_=(bB:Value).ownBlock)) k_) (.slice (some ⟨go10,0,none⟩) aC.length b7) aC from (S_later (Kd.S_mono aD.out (fun k_ hk=>⟨trivial,fun e_=>hk e_⟩))));obtain⟨oki12,ce12,hcl12,hM12,aI,aJ,hoki12,hH12⟩:=Kd.S_elem HX12.out z58 (aA:Int) (dcd) (by have h_:(aA:Int) < ((aC.length:Int):Int):=dcd;first | exact h_ | (have e_:=(Kd.S_reads' aD.out).1;omega) | simpa using h_);obtain⟨ve12_5,rfl,ge12_5⟩:=k58_openM hM12;have HP12:=Kd.S_seg hH12 (dcd) (by have h_:(aA:Int) < ((aC.length:Int):Int):=dcd;first | exact h_ | (have e_:=(Kd.S_reads' aD.out).1;omega) | simpa using h_) (seg:=[.int .i64 aY,.int .i64 aZ,.int .i64 a6,.int .i64 a7,.int .i64 a8,bB]) (j:=0) (show 6≤6 from by decide) (x':=(⟨aY,aZ,a6,a7,a8,bF⟩:S58)) (k58_mkM _ _ _ (⟨aY,aZ,a6,a7,a8,bF⟩:S58) (Kd.R_mono (Kd.R_tight rfl (Kd.R_mono (ok':=fun k_=>((fun _=>True)) k_∧k_≠go10) (Kd.R_apart' (aE.out) (Kd.S_typed aD.out) (by decide)) (fun k_ hk=>⟨trivial,fun e_=>(hk.2) (by rw [e_];rfl)⟩))) (fun _ h_=>Or.inr (h_)))) (fun _ hk=>hk) (fun k_ hk_=>((Kd.R_mono (ok':=fun k_=>((fun _=>True)) k_∧k_≠go10) (Kd.R_apart' (aE.out) (Kd.S_typed aD.out) (by decide)) (fun k_ hk=>⟨trivial,fun e_=>(hk.2) (by rw [e_];rfl)⟩))).1 k_ hk_.symm);have bK:=aI 0 _ rfl;(try simp only [show (k58).sz=6 from rfl,Nat.mul_one,Nat.add_zero] at bK);have bM:=aJ 0;(try simp only [show (k58).sz=6 from rfl,Nat.mul_one,Nat.add_zero] at bM);have bN:=aI 1 _ rfl;(try simp only [show (k58).sz=6 from rfl,Nat.mul_one,Nat.add_zero] at bN);have bO:=aJ 1;(try simp only [show (k58).sz=6 from rfl,Nat.mul_one,Nat.add_zero] at bO);have bP:=aI 2 _ rfl;(try simp only [show (k58).sz=6 from rfl,Nat.mul_one,Nat.add_zero] at bP);have bQ:=aJ 2;(try simp only [show (k58).sz=6 from rfl,Nat.mul_one,Nat.add_zero] at bQ);have bR:=aI 3 _ rfl;(try simp only [show (k58).sz=6 from rfl,Nat.mul_one,Nat.add_zero] at bR);have bS:=aJ 3;(try simp only [show (k58).sz=6 from rfl,Nat.mul_one,Nat.add_zero] at bS);have bT:=aI 4 _ rfl;(try simp only [show (k58).sz=6 from rfl,Nat.mul_one,Nat.add_zero] at bT);have bU:=aJ 4;(try simp only [show (k58).sz=6 from rfl,Nat.mul_one,Nat.add_zero] at bU);have bV:=aI 5 _ rfl;(try simp only [show (k58).sz=6 from rfl,Nat.mul_one,Nat.add_zero] at bV);have bW:=aJ 5;(try simp only [show (k58).sz=6 from rfl,Nat.mul_one,Nat.add_zero] at bW);clear hcl12 aI aJ hM12 hoki12 hH12) | ((with_reducible refine gate_store (t:=58) (p:=21) rfl ?_);refine store_event (t:=58) (p:=21) (v:=?vo_w13) (w1:=((((((aK.setCell ⟨go10,(aA:Int).toNat * 6,none⟩ (.int .i64 aY)).setCell ⟨go10,(aA:Int).toNat * 6 + 1,none⟩ (.int .i64 aZ)).setCell ⟨go10,(aA:Int).toNat * 6 + 2,none⟩ (.int .i64 a6)).setCell ⟨go10,(aA:Int).toNat * 6 + 3,none⟩ (.int .i64 a7)).setCell ⟨go10,(aA:Int).toNat * 6 + 4,none⟩ (.int .i64 a8)).setCell ⟨go10,(aA:Int).toNat * 6 + 5,none⟩ (bB))) ?hg ?ho ?hn ?hr ?_;(case ho=>rfl);(case hg=>rfl);(case hn=>rfl);(case hr=>first | (go_simp;done) | (go_simp;rfl) | (obtain⟨A_,c_,e_⟩:=Kd.R_slice aE.out;subst e_;go_simp;done) | (obtain⟨A_,c_,e_⟩:=Kd.R_slice aE.out;subst e_;go_simp;rfl) | (obtain⟨A_,c_,e_⟩:=Kd.S_slice aE.out;subst e_;go_simp;done) | (obtain⟨A_,c_,e_⟩:=Kd.S_slice aE.out;subst e_;go_simp;rfl));intro cY hw;have hg:aK.grownBy cY (some go10):=(by rw [hw];exact HP12.2);have hp_:Kd.S k58 58 cY w.heap.size (fun _=>True) (.slice (some ⟨go10,0,none⟩) aC.length b7) bZ:=(by rw [hw,b6.out];exact HP12.1);clear HP12;replace aD:=am hp_;replace HB:=am ((by rw [hw];exact below_set (below_set (below_set (below_set (below_set (below_set (HB.out) GB10.out) GB10.out) GB10.out) GB10.out) GB10.out) GB10.out:Below w.heap.size w cY));clear aE;clear hg hw hp_))
 go_roundg k1
 case measure=>have:=dB.out;omega
 case rel=>exact⟨(bZ),(wrap64 (aA + 1)),sr,H',⟨by have:=dB.out;omega⟩,⟨S_later aD.out⟩,⟨bL HB⟩⟩
/-! ### laws_toGroupMeta: function 55 -/
def laws_toGroupMeta.f (k:Nat)(aA:Int)(aC:List (S119)):Option (Int × (List (S58))):=(laws_toChunkS.f k aC).bind fun aD=>(some (aA,aD))
theorem laws_toGroupMeta.calls {k : Nat} {aE : Int} {aT : Option Addr} {aU : Nat} {aG : List (S119)} {r1 : Int} {r2 : List (S58)} {w : World} (hr0_1 : Kd.C k119 w aT aG.length aG) (aM : aG.length ≤ aU) (h : laws_toGroupMeta.f k aE aG = some (r1, r2)) :
    Calls Try.prog 55 #[.agg #[.int .i64 aE,.slice aT aG.length aU]] w fun e w'=>∃ bA:Value,e=.returned (.agg #[.int .i64 r1,bA])∧Kd.S k58 58 w' w.heap.size (fun _=>True) bA r2∧Below w.heap.size w w':=by
 have hu79:=Try.underlying79
 have hu54:=Try.underlying54
 have a7:=am hr0_1
 have a8:=am aM
 clear hr0_1 aM
 have HB:=am (Below.refl w.heap.size w)
 have H:=h;clear h;unfold laws_toGroupMeta.f at H
 replace H:=bnd H;obtain⟨aV,A2,H⟩:=H
 replace H:=sj2 H;obtain⟨rfl,rfl⟩:=H
 go_enter Try.func55,Try.ntmps55
 go_wp2_with (first | ((with_reducible refine gd 1 rfl ?_);refine bxw 1 rfl #[.int .i64 aE,.slice aT aG.length aU] 79 HB ?_;clear HB;intro bB w3 aA bC bD HB) | ((with_reducible refine gd 2 rfl ?_);refine bxv 2 rfl #[.int .i64 0,.slice none 0 0] 54 HB ?_;clear HB;intro aK w4 aC bE bF HB hg hb;obtain⟨aH,aY⟩:=nbp (nbl aA hg);replace aA:=bkb aA hb;clear hg hb) | ((with_reducible refine gd 3 rfl ?_);refine bxv 3 rfl #[.int .i64 0,.slice none 0 0] 54 HB ?_;clear HB;intro aN w5 aD bG bH HB hg hb;obtain⟨aI,aZ⟩:=nbp (nbl aA hg);obtain⟨a6,aJ⟩:=nbp (nbl aC hg);replace aA:=bkb aA hb;replace aC:=bkb aC hb;clear hg hb;obtain⟨bJ,bK⟩:=nbo aH;obtain⟨bM,bN⟩:=nbo aI;obtain⟨_,_,_,_⟩:=cl2 aA;obtain⟨bO,bP⟩:=nbo aJ;obtain⟨_,_,_,_⟩:=cl2 aD) | ((with_reducible refine gc 73 rfl ?_);refine gc2 (some 9) Try.func73 rfl (laws_toChunkS.calls (Kd.C_below a7.out (bL HB)) a8.out A2.out) ?_;rintro bQ bR ⟨bI,hb⟩;have aQ:=am (Kd.S_lower bI (below_size (bL HB)));replace aA:=bkb aA hb;replace aC:=bkb aC hb;replace aD:=am (blk_below (g:=aN) (o:=.cells #[.int .i64 aE,.slice none 0 0] 54 (0,0)) (blk_later aD.out) hb);replace HB:=bst HB hb;clear hb bI;obtain⟨aW,aX,a9⟩:=Kd.S_slice aQ.out;subst a9;obtain⟨_,_,_,_⟩:=cl2 aD;obtain⟨_,_,_,_⟩:=cl2 aC))
 refine bodyPost_ret (results_cell_row rfl _ _ aK 54 #[.int .i64 aE,.slice aW aV.length aX] (0,0) _ rfl (kL aC) Try.underlying54 rfl (by kernel_rfl)) rfl ?_
 exact⟨_,fin_ ⟨S_later (Kd.S_mono (Kd.S_far (p:=⟨aK,1,none⟩) (Kd.S_far (p:=⟨aK,0,none⟩) (Kd.S_far (p:=⟨aN,1,none⟩) (Kd.S_types (Kd.S_types aQ.out aD.out (by decide)) aC.out (by decide)) (fun _ hk=>hk.1.2) (.slice aW aV.length aX)) (fun _ hk=>hk.2) (.int .i64 aE)) (fun _ hk=>hk.2) (.slice aW aV.length aX)) (fun _ hk=>trivial)),bL HB⟩⟩
/-! ### laws_toGroupMetaS: function 28 -/
theorem infoG:(Try.prog.info? 54).map (fun i=>(i.zero,i.size,i.bytes))=some (some (.agg #[(.int .i64 0),(.slice none 0 0)]),2,32):=by kernel_rfl
def laws_toGroupMetaS.l0:Nat→List (S79)→List (S54)→Int→Option ((List (S54)))
  | 0,_,_,_=>none
  | k + 1,x0,x3,x4=>if x4 < (x0.length:Int) then (if 0≤x4 then ((laws_toGroupMeta.f k ((rd_T79 x0 x4).f0) ((rd_T79 x0 x4).f1)).bind fun aA=>(if x4 < (x3.length:Int) then (laws_toGroupMetaS.l0 k x0 (x3.set (x4:Int).toNat (⟨aA.1,aA.2⟩:S54)) (wrap64 (x4 + 1))) else (none))) else (none)) else (some x3)
def laws_toGroupMetaS.f (k:Nat)(l0:List (S79)):Option ((List (S54))):=if 0≤(l0.length:Int) then (if ((l0.length:Int):Int).toNat≤8796093022208 then (laws_toGroupMetaS.l0 k l0 (List.replicate ((l0.length:Int):Int).toNat z54) 0) else (none)) else (none)
/-- An elder row, and one that was made behind it. -/
theorem tg_apart {α β : Type} {d : Kd α} {d' : Kd β} {e e' : Nat} {u v : Value} {xs : List α} {ys : List β} {w W w1 : World} (hO : Kd.S d e W w.heap.size (fun _ => True) u xs) (ho : Kd.S d' e' w1 W.heap.size (fun _ => True) v ys) (hb : Below W.heap.size W w1) (hB : w.heap.size ≤ W.heap.size) :
    ∃ N,Kd.S d e w1 w.heap.size (fun k=>True∧¬ N≤k) u xs∧Kd.S d' e' w1 w.heap.size (fun k=>N≤k) v ys∧w.heap.size≤N :=
  ⟨W.heap.size,Kd.S_mono (Kd.S_old hO hb) (fun _ h=>⟨trivial,by have:=h.2;omega⟩),Kd.S_lower (Kd.S_mono (Kd.S_bound ho) (fun _ h=>h.2.1)) hB,hB⟩
theorem laws_toGroupMetaS.calls {k : Nat} {A0 : Option Addr} {c0 : Nat} {l0 : List (S79)} {r : List (S54)} {w : World} (hr0 : Kd.C k79 w A0 l0.length l0) (bD : l0.length ≤ c0) (h : laws_toGroupMetaS.f k l0 = some r) :
    Calls Try.prog 28 #[.slice A0 l0.length c0] w fun e w'=>∃ bE:Value,e=.returned (bE)∧Kd.S k54 54 w' w.heap.size (fun _=>True) bE r∧Below w.heap.size w w':=by
 have hu79:=Try.underlying79
 have hu54:=Try.underlying54
 have bK:=am hr0
 have bS:=am bD
 clear hr0 bD
 have HB:=am (Below.refl w.heap.size w)
 unfold laws_toGroupMetaS.f at h
 obtain⟨c2,h⟩:=ifs h
 have bM:=eq_true c2
 have bN:=decide_eq_true c2
 obtain⟨c3,h⟩:=ifs h
 have bO:=eq_true c3
 have bP:=decide_eq_true c3
 have H':=am h
 clear c2 c3 h
 go_enter Try.func28,Try.ntmps28
 go_wp2_with (first | ((with_reducible refine gd 7 rfl ?_);refine Kd.S_make k54 _ 54 rfl (N:=7) rfl 31 _ _ rfl (l0.length:Int) rfl rfl Try.underlying31 (.agg #[(.int .i64 0),(.slice none 0 0)]) 32 infoG rfl (by decide) (by omega) z54 (ok:=fun _=>True) (okp:=fun _=>True) (k54_mkM _ _ _ z54 (Kd.S_nil _ _ _ _ _)) (fun _ hk=>hk) trivial (dcd) (Nat.le_trans (Nat.mul_le_mul_right _ (dcd:(l0.length:Int).toNat≤8796093022208)) (by omega)) (Below.refl _ _) (Nat.le_refl _) ?_;intro a6 w4 bF hb hg_ hnew_;clear hg_ hnew_;have aK:=am (Kd.S_lower bF (below_size (bL HB)));replace HB:=bst HB hb;clear hb bF))
 go_loopg [4] k (fun kq v4 w'=>∃ (aD:List (S54)) (aA:Int),v4=.int .i64 aA∧Aside0 (laws_toGroupMetaS.l0 kq l0 aD aA=some r)∧Aside0 (kq≤k)∧Aside0 (Kd.S k54 54 w' w.heap.size (fun _=>True) a6 aD)∧Aside0 (Below w.heap.size w w'))
 case atStart=>exact⟨_,(0),sr,H',⟨Nat.le_refl _⟩,⟨S_later aK.out⟩,⟨bL HB⟩⟩
 clear H'
 obtain⟨aD,aA,rfl,HA,bG,aC,HB⟩:=hrel
 cases gk with
 | zero=>exact absurd HA.out (by simp [laws_toGroupMetaS.l0])
 | succ k1=>?_
 have H:=HA.out
 clear HA aK
 simp only [laws_toGroupMetaS.l0] at H
 replace H:=idc H
 obtain⟨a7,H⟩ | ⟨a7,H⟩:=H
 rotate_left
 · cases H
   go_wp2
   go_ret
   exact⟨_,fin_ ⟨S_later aC.out,bL HB⟩⟩
 replace H:=ifd H;obtain⟨bQ,H⟩:=H
 obtain⟨⟨aJ,aM⟩,h8,H⟩:=Option.bind_eq_some_iff.mp H
 have A8:=am h8
 dsimp only at H
 replace H:=ifd H;obtain⟨bR,H⟩:=H
 have H':=am H
 clear H h8
 have aN:0≤(aA:Int):=dcd
 have aQ:aA < (l0.length:Int):=dcd
 obtain⟨bH,a8,a9,bA,aE,aG,aH,aI⟩:=at_T79 bK.out aA aN aQ
 cases bA
 replace aE:=crd HB aE
 replace aG:=crd HB aG
 have aT:=am aI
 have aU:=am aH
 clear aI aH
 replace aN:=eq_true aN
 replace aQ:=eq_true aQ
 go_wp2_with (first | (go_at_call 55;(refine (laws_toGroupMeta.calls (Kd.C_below aT.out HB.out) aU.out A8.out).mono ?_);rintro e aV ⟨aW,rfl,bI,hb⟩;obtain⟨N,hx,hy,hn⟩:=tg_apart aC.out bI hb HB.out.size;replace aC:=am hx;have HY:=am hy;have HN:=am hn;replace HB:=bst HB hb;clear hx hy hn hb bI;have aY:0≤(aA:Int):=dcd;have aZ:(aA:Int) < (aD.length:Int):=dcd;obtain⟨go10,bB,bC,aX,gl10,cl10,HG10⟩:=Kd.S_form aC.out (by omega);cases bC;have GB10:=am aX;have hgo:go10 < N:=(by have:=aC.out.choose_spec.1 go10 rfl;omega);obtain⟨oki,ce,hcl,hM,hcc,hfr,hoki,hH⟩:=Kd.S_elem aC.out z54 (aA:Int) aY aZ;obtain⟨ve,rfl,ge⟩:=k54_openM hM;have bT:aV.cell? ⟨go10,(aA:Int).toNat * 2,none⟩=some (.int .i64 ((rd_T54 aD aA).f0)):=hcc 0 _ rfl;have bU:aV.cell? ⟨go10,(aA:Int).toNat * 2 + 1,none⟩=some ve:=hcc 1 _ rfl;have bV:aV.frozen? ⟨go10,(aA:Int).toNat * 2,none⟩=false:=hfr 0;have bW:aV.frozen? ⟨go10,(aA:Int).toNat * 2 + 1,none⟩=false:=hfr 1;have HP:=Kd.S_seg (okg:=fun k_=>N≤k_) (ok:=fun _=>True) hH aY aZ (seg:=[.int .i64 aJ,aW]) (j:=0) (show 2≤2 from by decide) (x':=(⟨aJ,aM⟩:S54)) (k54_mkM _ _ _ (⟨aJ,aM⟩:S54) (Kd.S_mono HY.out (fun _ h_=>Or.inr h_))) (fun _ hk=>hk) (fun k_ hk_=>⟨trivial,fun e_=>by omega⟩);clear hcl hcc hfr hM hoki hH ge cl10 HG10 gl10 hgo aX;replace aY:=eq_true aY;replace aZ:=eq_true aZ) | ((with_reducible refine gate_store (t:=54) (p:=21) rfl ?_);refine store_event (t:=54) (p:=21) (v:=?vo) (w1:=((aV.setCell ⟨go10,(aA:Int).toNat * 2,none⟩ (.int .i64 aJ)).setCell ⟨go10,(aA:Int).toNat * 2 + 1,none⟩ (aW))) ?hg ?ho ?hn ?hr ?_;(case ho=>rfl);(case hg=>rfl);(case hn=>rfl);(case hr=>first | (obtain⟨A_,c_,e_⟩:=Kd.S_slice HY.out;subst e_;go_simp;done) | (obtain⟨A_,c_,e_⟩:=Kd.S_slice HY.out;subst e_;go_simp;rfl));intro bJ hw;have hp_:Kd.S k54 54 bJ w.heap.size (fun _=>True) (.slice (some ⟨go10,0,none⟩) aD.length bB) (aD.set (aA:Int).toNat (⟨aJ,aM⟩:S54)):=(by rw [hw];exact HP.1);clear HP;replace aC:=am hp_;replace HB:=am ((by rw [hw];exact below_set (below_set (HB.out) GB10.out) GB10.out:Below w.heap.size w bJ));clear HY hw hp_))
 go_roundg k1
 case measure=>have:=bG.out;omega
 case rel=>exact⟨_,(wrap64 (aA + 1)),sr,H',⟨by have:=bG.out;omega⟩,⟨S_later aC.out⟩,⟨bL HB⟩⟩
end Go.Proofs.Ytjdapaocdkcgdaa.PFnExactMetaPack
