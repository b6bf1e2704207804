/- The machine's side of FnExactMetaPack: each Go function, and what its call comes to. No condition. -/
import Derived.Test.YtjdapaocdkcgdaaPFnExactMetaPackx0
import Derived.Test.YtjdapaocdkcgdaaPFnExactMetaPackx3
namespace Go.Proofs.Ytjdapaocdkcgdaa.PFnExactMetaPack
open Go.RowKit Go.Proofs.YtjdapaocdkcgdaaW.PrintWords Go.Proofs.YtjdapaocdkcgdaaW.PrintLast Go.Proofs.YtjdapaocdkcgdaaW.PrintMore Go.Proofs.YtjdapaocdkcgdaaW.PrintMore2
attribute [local go_sem] max2_int min2_int max_two min_two max_three min_three max_four min_four
set_option linter.unusedVariables false
set_option linter.unusedSimpArgs false
set_option maxHeartbeats 8000000
set_option maxRecDepth 100000

/-! ### spec_l4Int: function 91 -/
def spec_l4Int.f (a0:Int):Option (Bool):=(spec_l1In.f a0 (-2147483648) 2147483647).bind fun aA=>(some aA)
theorem spec_l4Int.calls {a0 : Int} {r : Bool} {w : World} (h : spec_l4Int.f a0 = some r) :
    Calls Try.prog 91 #[.int .i64 a0] w fun e w'=>e=.returned (.bool r)∧Drawn0 w w':=by
 have H:=h;clear h;unfold spec_l4Int.f at H
 replace H:=bnd H;obtain⟨aA,A2,H⟩:=H
 cases H
 go_enter Try.func91,Try.ntmps91
 go_wp2_with (first | ((with_reducible refine gc 49 rfl ?_);refine gc1 (some 4) Try.func49 rfl (spec_l1In.calls A2.out) ?_;rintro w' ⟨nd,rfl⟩))
 go_ret
 exact⟨sr,drl⟩
/-! ### spec_l4Kind: function 102 -/
def spec_l4Kind.f (a0:Int):Option (Bool):=if a0=1 then (some true) else (if a0=2 then (some true) else (if a0=5 then (some true) else (if a0=6 then (some true) else (if a0=8 then (some true) else (if a0=9 then (some true) else (if a0=12 then (some true) else (some false)))))))
theorem spec_l4Kind.calls {a0 : Int} {r : Bool} {w : World} (h : spec_l4Kind.f a0 = some r) :
    Calls Try.prog 102 #[.int .i64 a0] w fun e w'=>e=.returned (.bool r)∧Drawn0 w w':=by
 have H:=h;clear h;unfold spec_l4Kind.f at H
 replace H:=ieq H;obtain⟨aA,aC,H⟩ | ⟨c2,aA,aC,H⟩:=H
 · cases H
   go_enter Try.func102,Try.ntmps102
   go_wp2
   go_ret
   exact⟨sr,drl⟩
 replace H:=ieq H;obtain⟨aD,aE,H⟩ | ⟨c3,aD,aE,H⟩:=H
 · cases H
   go_enter Try.func102,Try.ntmps102
   go_wp2
   go_ret
   exact⟨sr,drl⟩
 replace H:=ieq H;obtain⟨aG,aH,H⟩ | ⟨c4,aG,aH,H⟩:=H
 · cases H
   go_enter Try.func102,Try.ntmps102
   go_wp2
   go_ret
   exact⟨sr,drl⟩
 replace H:=ieq H;obtain⟨aI,aJ,H⟩ | ⟨c5,aI,aJ,H⟩:=H
 · cases H
   go_enter Try.func102,Try.ntmps102
   go_wp2
   go_ret
   exact⟨sr,drl⟩
 replace H:=ieq H;obtain⟨aK,aM,H⟩ | ⟨c6,aK,aM,H⟩:=H
 · cases H
   go_enter Try.func102,Try.ntmps102
   go_wp2
   go_ret
   exact⟨sr,drl⟩
 replace H:=ieq H;obtain⟨aN,aQ,H⟩ | ⟨c7,aN,aQ,H⟩:=H
 · cases H
   go_enter Try.func102,Try.ntmps102
   go_wp2
   go_ret
   exact⟨sr,drl⟩
 replace H:=ieq H;obtain⟨aT,aU,H⟩ | ⟨c8,aT,aU,H⟩:=H
 · cases H
   go_enter Try.func102,Try.ntmps102
   go_wp2
   go_ret
   exact⟨sr,drl⟩
 cases H
 go_enter Try.func102,Try.ntmps102
 go_wp2
 go_ret
 exact⟨sr,drl⟩
/-! ### spec_l4Item: function 92 -/
def spec_l4Item.f (a0:Int):Option (Bool):=(spec_l4Kind.f a0).bind fun aA=>(if aA=true then (if a0=1 then (some false) else (some (a0 != 2))) else (some false))
theorem spec_l4Item.calls {a0 : Int} {r : Bool} {w : World} (h : spec_l4Item.f a0 = some r) :
    Calls Try.prog 92 #[.int .i64 a0] w fun e w'=>e=.returned (.bool r)∧Drawn0 w w':=by
 have H:=h;clear h;unfold spec_l4Item.f at H
 replace H:=bnd H;obtain⟨aD,A2,H⟩:=H
 replace H:=ibt H;obtain⟨rfl,H⟩ | ⟨rfl,H⟩:=H
 rotate_left
 · cases H
   go_enter Try.func92,Try.ntmps92
   go_wp2_with (first | ((with_reducible refine gc 102 rfl ?_);refine gc1 (some 4) Try.func102 rfl (spec_l4Kind.calls A2.out) ?_;rintro w' ⟨nd,rfl⟩))
   go_ret
   exact⟨sr,drl⟩
 replace H:=ieq H;obtain⟨aA,aC,H⟩ | ⟨c4,aA,aC,H⟩:=H
 · cases H
   go_enter Try.func92,Try.ntmps92
   go_wp2_with (first | ((with_reducible refine gc 102 rfl ?_);refine gc1 (some 4) Try.func102 rfl (spec_l4Kind.calls A2.out) ?_;rintro w' ⟨nd,rfl⟩))
   go_ret
   exact⟨sr,drl⟩
 cases H
 go_enter Try.func92,Try.ntmps92
 go_wp2_with (first | ((with_reducible refine gc 102 rfl ?_);refine gc1 (some 4) Try.func102 rfl (spec_l4Kind.calls A2.out) ?_;rintro w' ⟨nd,rfl⟩))
 go_ret
 exact⟨sr,drl⟩
/-! ### spec_l4Plain: function 72 -/
def spec_l4Plain.j0:Nat→Int→Bool→Int→Int→Int→ByteArray→Int→Option (Bool)
  | 0,_,_,_,_,_,_,_=>none
  | k + 1,x4,x5,aE,aG,aC,aD,aA=>if x5=true then (if aC=0 then (if aD.toList=([]:List UInt8) then (some (aA == 0)) else (some false)) else (some false)) else (if x4=5 then ((spec_l4Int.f aC).bind fun aH=>(if aH=true then (if aD.toList=([]:List UInt8) then (some (aA == 0)) else (some false)) else (some false))) else (if x4=6 then (if aD.toList=([]:List UInt8) then (some (aA == 0)) else (some false)) else (if x4=8 then (if aC=0 then (if (aD.size:Int)≤300 then (some (aA == 0)) else (some false)) else (some false)) else (if x4=9 then (if aD.toList=([]:List UInt8) then (if aA ≥ 0 then (if aA=0 then (if aC=0 then (some true) else (if aA > 0 then ((spec_l4Item.f aC).bind fun aI=>(some aI)) else (some false))) else (if aA > 0 then ((spec_l4Item.f aC).bind fun aJ=>(some aJ)) else (some false))) else (some false)) else (some false)) else (if x4=12 then (if aC=0 then (if aD.toList=([]:List UInt8) then (some (decide (aA ≥ 0))) else (some false)) else (some false)) else (some false))))))
def spec_l4Plain.f (k:Nat)(aA:Int)(aC:Int)(aD:Int)(aE:ByteArray)(aG:Int):Option (Bool):=if aA=1 then (spec_l4Plain.j0 k aA (aA == 1) aA aC aD aE aG) else (spec_l4Plain.j0 k aA (aA == 2) aA aC aD aE aG)
theorem spec_l4Plain.calls {k : Nat} {aD aE aG : Int} {aA : ByteArray} {aH : Int} {r : Bool} {w : World} (h : spec_l4Plain.f k aD aE aG aA aH = some r) :
    Calls Try.prog 72 #[.agg #[.int .i64 aD,.int .i64 aE,.int .i64 aG,.string aA,.int .i64 aH]] w fun e w'=>e=.returned (.bool r)∧Below w.heap.size w w':=by
 have hu49:=Try.underlying49
 have HB:=am (Below.refl w.heap.size w)
 have H:=h;clear h;unfold spec_l4Plain.f at H
 have cI:=am H
 clear H
 go_enter Try.func72,Try.ntmps72
 go_upto_if 5 with (first | ((with_reducible refine gd 1 rfl ?_);(try refine gg ?_;dsimp only);refine bxw 1 rfl #[.int .i64 aD,.int .i64 aE,.int .i64 aG,.string aA,.int .i64 aH] 49 HB ?_;clear HB;intro bB w3 aC cQ cR HB;obtain⟨aQ,aT,aU,aV,aW,aX,aY,aZ,a6,a7⟩:=cl5 aC))
 (try simp only [Act.put,List.setIfInBounds_toArray,List.set_cons_zero,List.set_cons_succ])
 go_cut [5] (fun v5 wc=>∃ (kq:Nat) (a8:Bool),v5=.bool a8∧Aside0 (spec_l4Plain.j0 kq aD a8 aD aE aG aA aH=some r)∧Aside0 (kq≤k)∧Aside0 (wc.heap[bB]?=some (.cells #[.int .i64 aD,.int .i64 aE,.int .i64 aG,.string aA,.int .i64 aH] 49 (0,0)))∧Aside0 (Below w.heap.size w wc))
 case first =>
  have H:=cI.out
  clear cI
  replace H:=ieq H;obtain⟨aI,a9,H⟩ | ⟨c5,aI,a9,H⟩:=H
  · (first | rw [aI] | rw [a9] | (simp only [i64_w,i32_w];rw [aI]) | skip)
    have H':=am H;clear H
    go_wp2
    go_meet
    case rel=>exact⟨_,((aD == 1)),sr,H',⟨by first | omega | exact Nat.le_refl _⟩,⟨kL aC⟩,⟨bL HB⟩⟩
  (first | rw [aI] | rw [a9] | (simp only [i64_w,i32_w];rw [aI]) | skip)
  have H':=am H;clear H
  go_wp2
  go_meet
  case rel=>exact⟨_,((aD == 2)),sr,H',⟨by first | omega | exact Nat.le_refl _⟩,⟨kL aC⟩,⟨bL HB⟩⟩
 clear cI
 try clear aQ aT aU aV aW aX aY aZ a6 a7
 obtain⟨kq,a8,rfl,HA,cX,aC,HB⟩:=hcut
 cases kq with
 | zero=>exact absurd HA.out (by simp [spec_l4Plain.j0])
 | succ kj1=>?_
 have H:=HA.out
 clear HA
 simp only [spec_l4Plain.j0] at H
 replace H:=ibt H;obtain⟨rfl,H⟩ | ⟨rfl,H⟩:=H
 · replace H:=ieq H;obtain⟨cJ,cK,H⟩ | ⟨c7,cJ,cK,H⟩:=H
   rotate_left
   · cases H
     obtain⟨_,_,_,_,_,_,_,_,_,_⟩:=cl5 aC
     go_wp2
     go_ret
     exact fin_ (bL HB)
   by_cases c8:aA.toList=([]:List UInt8)
   rotate_left
   · rw [if_neg c8] at H
     have cM:(aA.toList == ([]:List UInt8))=false:=beq_eq_false_iff_ne.mpr c8
     try have cN:aA.toList.isEmpty=false:=by simpa using c8
     have cO:(aA.toList != ([]:List UInt8))=true:=bne_iff_ne.mpr c8
     cases H
     obtain⟨_,_,_,_,_,_,_,_,_,_⟩:=cl5 aC
     go_wp2
     go_ret
     exact fin_ (bL HB)
   rw [if_pos c8] at H
   have cM:(aA.toList == ([]:List UInt8))=true:=beq_iff_eq.mpr c8
   try have cN:aA.toList.isEmpty=true:=by simpa using c8
   have cO:(aA.toList != ([]:List UInt8))=false:=bne_eq_false_iff_eq.mpr c8
   clear c8
   cases H
   obtain⟨_,_,_,_,_,_,_,_,_,_⟩:=cl5 aC
   go_wp2
   go_ret
   exact fin_ (bL HB)
 replace H:=ieq H;obtain⟨bC,bD,H⟩ | ⟨cY,bC,bD,H⟩:=H
 · replace H:=bnd H;obtain⟨cS,cP,H⟩:=H
   replace H:=ibt H;obtain⟨rfl,H⟩ | ⟨rfl,H⟩:=H
   rotate_left
   · cases H
     obtain⟨_,_,_,_,_,_,_,_,_,_⟩:=cl5 aC
     go_wp2_with (first | ((with_reducible refine gc 91 rfl ?_);refine gc1 (some 25) Try.func91 rfl (spec_l4Int.calls cP.out) ?_;rintro w' ⟨nd,rfl⟩))
     go_ret
     exact fin_ (bL HB)
   by_cases aJ:aA.toList=([]:List UInt8)
   rotate_left
   · rw [if_neg aJ] at H
     have bE:(aA.toList == ([]:List UInt8))=false:=beq_eq_false_iff_ne.mpr aJ
     try have bF:aA.toList.isEmpty=false:=by simpa using aJ
     have bG:(aA.toList != ([]:List UInt8))=true:=bne_iff_ne.mpr aJ
     cases H
     obtain⟨_,_,_,_,_,_,_,_,_,_⟩:=cl5 aC
     go_wp2_with (first | ((with_reducible refine gc 91 rfl ?_);refine gc1 (some 25) Try.func91 rfl (spec_l4Int.calls cP.out) ?_;rintro w' ⟨nd,rfl⟩))
     go_ret
     exact fin_ (bL HB)
   rw [if_pos aJ] at H
   have bE:(aA.toList == ([]:List UInt8))=true:=beq_iff_eq.mpr aJ
   try have bF:aA.toList.isEmpty=true:=by simpa using aJ
   have bG:(aA.toList != ([]:List UInt8))=false:=bne_eq_false_iff_eq.mpr aJ
   clear aJ
   cases H
   obtain⟨_,_,_,_,_,_,_,_,_,_⟩:=cl5 aC
   go_wp2_with (first | ((with_reducible refine gc 91 rfl ?_);refine gc1 (some 25) Try.func91 rfl (spec_l4Int.calls cP.out) ?_;rintro w' ⟨nd,rfl⟩))
   go_ret
   exact fin_ (bL HB)
 replace H:=ieq H;obtain⟨bH,bI,H⟩ | ⟨cZ,bH,bI,H⟩:=H
 · by_cases aK:aA.toList=([]:List UInt8)
   rotate_left
   · rw [if_neg aK] at H
     have bJ:(aA.toList == ([]:List UInt8))=false:=beq_eq_false_iff_ne.mpr aK
     try have bK:aA.toList.isEmpty=false:=by simpa using aK
     have bM:(aA.toList != ([]:List UInt8))=true:=bne_iff_ne.mpr aK
     cases H
     obtain⟨_,_,_,_,_,_,_,_,_,_⟩:=cl5 aC
     go_wp2
     go_ret
     exact fin_ (bL HB)
   rw [if_pos aK] at H
   have bJ:(aA.toList == ([]:List UInt8))=true:=beq_iff_eq.mpr aK
   try have bK:aA.toList.isEmpty=true:=by simpa using aK
   have bM:(aA.toList != ([]:List UInt8))=false:=bne_eq_false_iff_eq.mpr aK
   clear aK
   cases H
   obtain⟨_,_,_,_,_,_,_,_,_,_⟩:=cl5 aC
   go_wp2
   go_ret
   exact fin_ (bL HB)
 replace H:=ieq H;obtain⟨bN,bO,H⟩ | ⟨dA,bN,bO,H⟩:=H
 · replace H:=ieq H;obtain⟨bP,bQ,H⟩ | ⟨dB,bP,bQ,H⟩:=H
   rotate_left
   · cases H
     obtain⟨_,_,_,_,_,_,_,_,_,_⟩:=cl5 aC
     go_wp2
     go_ret
     exact fin_ (bL HB)
   by_cases bA:(aA.size:Int)≤300
   · rw [if_pos bA] at H
     have bR:=decide_eq_true bA
     have bS:decide (aA.size≤300)=true:=decide_eq_true (by omega)
     clear bA
     cases H
     obtain⟨_,_,_,_,_,_,_,_,_,_⟩:=cl5 aC
     go_wp2
     go_ret
     exact fin_ (bL HB)
   rw [if_neg bA] at H
   have bR:=decide_eq_false bA
   have bS:decide (aA.size≤300)=false:=decide_eq_false (by omega)
   clear bA
   cases H
   obtain⟨_,_,_,_,_,_,_,_,_,_⟩:=cl5 aC
   go_wp2
   go_ret
   exact fin_ (bL HB)
 replace H:=ieq H;obtain⟨bT,bU,H⟩ | ⟨dC,bT,bU,H⟩:=H
 rotate_left
 · replace H:=ieq H;obtain⟨bV,bW,H⟩ | ⟨dD,bV,bW,H⟩:=H
   rotate_left
   · cases H
     go_wp2
     go_ret
     exact fin_ (bL HB)
   replace H:=ieq H;obtain⟨bX,bY,H⟩ | ⟨dE,bX,bY,H⟩:=H
   rotate_left
   · cases H
     obtain⟨_,_,_,_,_,_,_,_,_,_⟩:=cl5 aC
     go_wp2
     go_ret
     exact fin_ (bL HB)
   by_cases aM:aA.toList=([]:List UInt8)
   rotate_left
   · rw [if_neg aM] at H
     have bZ:(aA.toList == ([]:List UInt8))=false:=beq_eq_false_iff_ne.mpr aM
     try have b6:aA.toList.isEmpty=false:=by simpa using aM
     have b7:(aA.toList != ([]:List UInt8))=true:=bne_iff_ne.mpr aM
     cases H
     obtain⟨_,_,_,_,_,_,_,_,_,_⟩:=cl5 aC
     go_wp2
     go_ret
     exact fin_ (bL HB)
   rw [if_pos aM] at H
   have bZ:(aA.toList == ([]:List UInt8))=true:=beq_iff_eq.mpr aM
   try have b6:aA.toList.isEmpty=true:=by simpa using aM
   have b7:(aA.toList != ([]:List UInt8))=false:=bne_eq_false_iff_eq.mpr aM
   clear aM
   cases H
   obtain⟨_,_,_,_,_,_,_,_,_,_⟩:=cl5 aC
   go_wp2
   go_ret
   exact fin_ (bL HB)
 by_cases aN:aA.toList=([]:List UInt8)
 rotate_left
 · rw [if_neg aN] at H
   have b8:(aA.toList == ([]:List UInt8))=false:=beq_eq_false_iff_ne.mpr aN
   try have b9:aA.toList.isEmpty=false:=by simpa using aN
   have cA:(aA.toList != ([]:List UInt8))=true:=bne_iff_ne.mpr aN
   cases H
   obtain⟨_,_,_,_,_,_,_,_,_,_⟩:=cl5 aC
   go_wp2
   go_ret
   exact fin_ (bL HB)
 rw [if_pos aN] at H
 have b8:(aA.toList == ([]:List UInt8))=true:=beq_iff_eq.mpr aN
 try have b9:aA.toList.isEmpty=true:=by simpa using aN
 have cA:(aA.toList != ([]:List UInt8))=false:=bne_eq_false_iff_eq.mpr aN
 clear aN
 replace H:=ige H;obtain⟨cB,H⟩ | ⟨cB,H⟩:=H
 rotate_left
 · cases H
   obtain⟨_,_,_,_,_,_,_,_,_,_⟩:=cl5 aC
   go_wp2
   go_ret
   exact fin_ (bL HB)
 replace H:=ieq H;obtain⟨cC,cD,H⟩ | ⟨dF,cC,cD,H⟩:=H
 rotate_left
 · replace H:=igt H;obtain⟨cE,H⟩ | ⟨cE,H⟩:=H
   rotate_left
   · cases H
     obtain⟨_,_,_,_,_,_,_,_,_,_⟩:=cl5 aC
     go_wp2
     go_ret
     exact fin_ (bL HB)
   replace H:=bnd H;obtain⟨cT,cU,H⟩:=H
   cases H
   obtain⟨_,_,_,_,_,_,_,_,_,_⟩:=cl5 aC
   go_wp2_with (first | (go_at_call 92;(with_reducible refine (spec_l4Item.calls cU.out).mono ?_);rintro e w' ⟨rfl,⟨nd,rfl⟩⟩))
   go_ret
   exact fin_ (bL HB)
 replace H:=ieq H;obtain⟨cF,cG,H⟩ | ⟨dG,cF,cG,H⟩:=H
 · cases H
   obtain⟨_,_,_,_,_,_,_,_,_,_⟩:=cl5 aC
   go_wp2
   go_ret
   exact fin_ (bL HB)
 replace H:=igt H;obtain⟨cH,H⟩ | ⟨cH,H⟩:=H
 rotate_left
 · cases H
   obtain⟨_,_,_,_,_,_,_,_,_,_⟩:=cl5 aC
   go_wp2
   go_ret
   exact fin_ (bL HB)
 replace H:=bnd H;obtain⟨cV,cW,H⟩:=H
 cases H
 obtain⟨_,_,_,_,_,_,_,_,_,_⟩:=cl5 aC
 go_wp2_with (first | (go_at_call 92;(with_reducible refine (spec_l4Item.calls cW.out).mono ?_);rintro e w' ⟨rfl,⟨nd,rfl⟩⟩))
 go_ret
 exact fin_ (bL HB)
end Go.Proofs.Ytjdapaocdkcgdaa.PFnExactMetaPack
