/- The machine's side of FnExactMetaPack: each Go function, and what its call comes to. No condition. -/
import Derived.Test.YtjdapaocdkcgdaaPFnExactMetaPackx0
import Derived.Test.YtjdapaocdkcgdaaPFnExactMetaPackx3
import Derived.Test.YtjdapaocdkcgdaaPFnExactMetaPackx4
namespace Go.Proofs.Ytjdapaocdkcgdaa.PFnExactMetaPack
open Go.RowKit Go.Proofs.YtjdapaocdkcgdaaW.PrintWords Go.Proofs.YtjdapaocdkcgdaaW.PrintLast Go.Proofs.YtjdapaocdkcgdaaW.PrintMore Go.Proofs.YtjdapaocdkcgdaaW.PrintMore2
attribute [local go_sem] max2_int min2_int max_two min_two max_three min_three max_four min_four
set_option linter.unusedVariables false
set_option linter.unusedSimpArgs false
set_option maxHeartbeats 8000000
set_option maxRecDepth 100000

/-! ### spec_l18Chunk: function 50 -/
mutual
def spec_l18Chunk.j0:Nat→Bool→Int→Int→Int→Int→Int→List Int→Option (Bool)
  | 0,_,_,_,_,_,_,_=>none
  | k + 1,aI,aA,aC,aD,aE,aG,aH=>if aI=true then (some false) else (spec_l18Chunk.l0 k 0 aA aC aD aE aG aH)
def spec_l18Chunk.l0:Nat→Int→Int→Int→Int→Int→Int→List Int→Option (Bool)
  | 0,_,_,_,_,_,_,_=>none
  | k + 1,x5,aC,aD,aE,aG,aH,aA=>if x5 < (aA.length:Int) then (if 0≤x5 then ((spec_l1In.f (rd aA x5) 0 9).bind fun aI=>(if aI=true then (if x5 > 0 then (if 0≤(wrap64 (x5 - 1)) then (if (wrap64 (x5 - 1)) < (aA.length:Int) then (if (rd aA (wrap64 (x5 - 1))) ≥ (rd aA x5) then (some false) else (spec_l18Chunk.l0 k (wrap64 (x5 + 1)) aC aD aE aG aH aA)) else (none)) else (none)) else (spec_l18Chunk.l0 k (wrap64 (x5 + 1)) aC aD aE aG aH aA)) else (some false))) else (none)) else (some true)
end
def spec_l18Chunk.f (k:Nat)(aA:Int)(aC:Int)(aD:Int)(aE:Int)(aG:Int)(aH:List Int)(a1:Int):Option (Bool):=if aA=a1 then ((spec_l1In.f aC 0 60000).bind fun aI=>(if aI=true then ((spec_l1In.f aD (-1) 60000).bind fun aJ=>(if aJ=true then ((spec_l1In.f aE 1 2000).bind fun aK=>(if aK=true then ((spec_l1In.f aG 0 60000).bind fun aM=>(if aM=true then ((spec_l1In.f (aH.length:Int) 1 5).bind fun aN=>(spec_l18Chunk.j0 k (!aN) aA aC aD aE aG aH)) else (spec_l18Chunk.j0 k true aA aC aD aE aG aH))) else (spec_l18Chunk.j0 k true aA aC aD aE aG aH))) else (spec_l18Chunk.j0 k true aA aC aD aE aG aH))) else (spec_l18Chunk.j0 k true aA aC aD aE aG aH))) else (spec_l18Chunk.j0 k true aA aC aD aE aG aH)
theorem spec_l18Chunk.calls {k : Nat} {aX aY aZ a6 a7 : Int} {bB : Option Addr} {bC : Nat} {aH : List Int} {a1 : Int} {r : Bool} {w : World} (hr0_5 : Kd.C (Kd.int .i64) w bB aH.length aH) (bH : aH.length ≤ bC) (h : spec_l18Chunk.f k aX aY aZ a6 a7 aH a1 = some r) :
    Calls Try.prog 50 #[.agg #[.int .i64 aX,.int .i64 aY,.int .i64 aZ,.int .i64 a6,.int .i64 a7,.slice bB aH.length bC],.int .i64 a1] w fun e w'=>e=.returned (.bool r)∧Below w.heap.size w w':=by
 have hu58:=Try.underlying58
 have aI:=am hr0_5
 have bV:=am bH
 clear hr0_5 bH
 have HB:=am (Below.refl w.heap.size w)
 have H:=h;clear h;unfold spec_l18Chunk.f at H
 have bT:=am H
 clear H
 go_enter Try.func50,Try.ntmps50
 go_upto_region 1 with (first | ((with_reducible refine gd 2 rfl ?_);(try refine gg ?_;dsimp only);refine bxw 2 rfl #[.int .i64 aX,.int .i64 aY,.int .i64 aZ,.int .i64 a6,.int .i64 a7,.slice bB aH.length bC] 58 HB ?_;clear HB;intro bD w4 aA bK bM HB))
 repeat (go_quiet (fail);go_upto_region 1 with (first | ((with_reducible refine gd 2 rfl ?_);(try refine gg ?_;dsimp only);refine bxw 2 rfl #[.int .i64 aX,.int .i64 aY,.int .i64 aZ,.int .i64 a6,.int .i64 a7,.slice bB aH.length bC] 58 HB ?_;clear HB;intro bD w4 aA bK bM HB)))
 (try simp only [Act.put,List.setIfInBounds_toArray,List.set_cons_zero,List.set_cons_succ])
 go_cut [40] (fun v40 wc=>∃ (kq:Nat) (bE:Bool),v40=.bool bE∧Aside0 (spec_l18Chunk.j0 kq bE aX aY aZ a6 a7 aH=some r)∧Aside0 (kq≤k)∧Aside0 (wc.heap[bD]?=some (.cells #[.int .i64 aX,.int .i64 aY,.int .i64 aZ,.int .i64 a6,.int .i64 a7,(.slice bB aH.length bC)] 58 (0,0)))∧Aside0 (Below w.heap.size w wc))
 case first =>
  have H:=bT.out
  clear bT
  replace H:=ieq H;obtain⟨bF,bI,H⟩ | ⟨c5,bF,bI,H⟩:=H
  rotate_left
  · (first | rw [bF] | rw [bI] | (simp only [i64_w,i32_w];rw [bF]) | skip)
    have H':=am H;clear H
    obtain⟨_,_,_,_,_,_,_,_,_,_,_,_⟩:=cl6 aA
    go_wp2
    repeat (go_quiet (fail);try go_wp2)
    go_meet
    case rel=>exact⟨_,(true),sr,H',⟨by first | omega | exact Nat.le_refl _⟩,⟨kL aA⟩,⟨bL HB⟩⟩
  (first | rw [bF] | rw [bI] | (simp only [i64_w,i32_w];rw [bF]) | skip)
  replace H:=bnd H;obtain⟨b6,A6,H⟩:=H
  replace H:=ibt H;obtain⟨rfl,H⟩ | ⟨rfl,H⟩:=H
  rotate_left
  · have H':=am H;clear H
    obtain⟨_,_,_,_,_,_,_,_,_,_,_,_⟩:=cl6 aA
    iterate 6 (try go_wp2_with (first | (go_at_call 49;(with_reducible refine (spec_l1In.calls A6.out).mono ?_);rintro e w' ⟨rfl,⟨nd,rfl⟩⟩;(try exact dn2)));try go_quiet (first | (go_at_call 49;(with_reducible refine (spec_l1In.calls A6.out).mono ?_);rintro e w' ⟨rfl,⟨nd,rfl⟩⟩;(try exact dn2))))
    go_meet
    case rel=>exact⟨_,(true),sr,H',⟨by first | omega | exact Nat.le_refl _⟩,⟨kL aA⟩,⟨bL HB⟩⟩
  replace H:=bnd H;obtain⟨b7,A8,H⟩:=H
  replace H:=ibt H;obtain⟨rfl,H⟩ | ⟨rfl,H⟩:=H
  rotate_left
  · have H':=am H;clear H
    obtain⟨_,_,_,_,_,_,_,_,_,_,_,_⟩:=cl6 aA
    iterate 6 (try go_wp2_with (first | (go_at_call 49;(with_reducible refine (spec_l1In.calls A6.out).mono ?_);rintro e w' ⟨rfl,⟨nd,rfl⟩⟩;(try exact dn2)) | (go_at_call 49;(with_reducible refine (spec_l1In.calls A8.out).mono ?_);rintro e w' ⟨rfl,⟨nd,rfl⟩⟩;(try exact dn2)));try go_quiet (first | (go_at_call 49;(with_reducible refine (spec_l1In.calls A6.out).mono ?_);rintro e w' ⟨rfl,⟨nd,rfl⟩⟩;(try exact dn2)) | (go_at_call 49;(with_reducible refine (spec_l1In.calls A8.out).mono ?_);rintro e w' ⟨rfl,⟨nd,rfl⟩⟩;(try exact dn2))))
    go_meet
    case rel=>exact⟨_,(true),sr,H',⟨by first | omega | exact Nat.le_refl _⟩,⟨kL aA⟩,⟨bL HB⟩⟩
  replace H:=bnd H;obtain⟨b8,bJ,H⟩:=H
  replace H:=ibt H;obtain⟨rfl,H⟩ | ⟨rfl,H⟩:=H
  rotate_left
  · have H':=am H;clear H
    obtain⟨_,_,_,_,_,_,_,_,_,_,_,_⟩:=cl6 aA
    iterate 6 (try go_wp2_with (first | (go_at_call 49;(with_reducible refine (spec_l1In.calls A6.out).mono ?_);rintro e w' ⟨rfl,⟨nd,rfl⟩⟩;(try exact dn2)) | (go_at_call 49;(with_reducible refine (spec_l1In.calls A8.out).mono ?_);rintro e w' ⟨rfl,⟨nd,rfl⟩⟩;(try exact dn2)) | (go_at_call 49;(with_reducible refine (spec_l1In.calls bJ.out).mono ?_);rintro e w' ⟨rfl,⟨nd,rfl⟩⟩;(try exact dn2)));try go_quiet (first | (go_at_call 49;(with_reducible refine (spec_l1In.calls A6.out).mono ?_);rintro e w' ⟨rfl,⟨nd,rfl⟩⟩;(try exact dn2)) | (go_at_call 49;(with_reducible refine (spec_l1In.calls A8.out).mono ?_);rintro e w' ⟨rfl,⟨nd,rfl⟩⟩;(try exact dn2)) | (go_at_call 49;(with_reducible refine (spec_l1In.calls bJ.out).mono ?_);rintro e w' ⟨rfl,⟨nd,rfl⟩⟩;(try exact dn2))))
    go_meet
    case rel=>exact⟨_,(true),sr,H',⟨by first | omega | exact Nat.le_refl _⟩,⟨kL aA⟩,⟨bL HB⟩⟩
  replace H:=bnd H;obtain⟨b9,bQ,H⟩:=H
  replace H:=ibt H;obtain⟨rfl,H⟩ | ⟨rfl,H⟩:=H
  rotate_left
  · have H':=am H;clear H
    obtain⟨_,_,_,_,_,_,_,_,_,_,_,_⟩:=cl6 aA
    iterate 6 (try go_wp2_with (first | (go_at_call 49;(with_reducible refine (spec_l1In.calls A6.out).mono ?_);rintro e w' ⟨rfl,⟨nd,rfl⟩⟩;(try exact dn2)) | (go_at_call 49;(with_reducible refine (spec_l1In.calls A8.out).mono ?_);rintro e w' ⟨rfl,⟨nd,rfl⟩⟩;(try exact dn2)) | (go_at_call 49;(with_reducible refine (spec_l1In.calls bJ.out).mono ?_);rintro e w' ⟨rfl,⟨nd,rfl⟩⟩;(try exact dn2)) | (go_at_call 49;(with_reducible refine (spec_l1In.calls bQ.out).mono ?_);rintro e w' ⟨rfl,⟨nd,rfl⟩⟩;(try exact dn2)));try go_quiet (first | (go_at_call 49;(with_reducible refine (spec_l1In.calls A6.out).mono ?_);rintro e w' ⟨rfl,⟨nd,rfl⟩⟩;(try exact dn2)) | (go_at_call 49;(with_reducible refine (spec_l1In.calls A8.out).mono ?_);rintro e w' ⟨rfl,⟨nd,rfl⟩⟩;(try exact dn2)) | (go_at_call 49;(with_reducible refine (spec_l1In.calls bJ.out).mono ?_);rintro e w' ⟨rfl,⟨nd,rfl⟩⟩;(try exact dn2)) | (go_at_call 49;(with_reducible refine (spec_l1In.calls bQ.out).mono ?_);rintro e w' ⟨rfl,⟨nd,rfl⟩⟩;(try exact dn2))))
    go_meet
    case rel=>exact⟨_,(true),sr,H',⟨by first | omega | exact Nat.le_refl _⟩,⟨kL aA⟩,⟨bL HB⟩⟩
  replace H:=bnd H;obtain⟨bU,bW,H⟩:=H
  have H':=am H;clear H
  obtain⟨_,_,_,_,_,_,_,_,_,_,_,_⟩:=cl6 aA
  iterate 6 (try go_wp2_with (first | (go_at_call 49;(with_reducible refine (spec_l1In.calls A6.out).mono ?_);rintro e w' ⟨rfl,⟨nd,rfl⟩⟩;(try exact dn2)) | (go_at_call 49;(with_reducible refine (spec_l1In.calls A8.out).mono ?_);rintro e w' ⟨rfl,⟨nd,rfl⟩⟩;(try exact dn2)) | (go_at_call 49;(with_reducible refine (spec_l1In.calls bJ.out).mono ?_);rintro e w' ⟨rfl,⟨nd,rfl⟩⟩;(try exact dn2)) | (go_at_call 49;(with_reducible refine (spec_l1In.calls bQ.out).mono ?_);rintro e w' ⟨rfl,⟨nd,rfl⟩⟩;(try exact dn2)) | (go_at_call 49;(with_reducible refine (spec_l1In.calls bW.out).mono ?_);rintro e w' ⟨rfl,⟨nd,rfl⟩⟩;(try exact dn2)));try go_quiet (first | (go_at_call 49;(with_reducible refine (spec_l1In.calls A6.out).mono ?_);rintro e w' ⟨rfl,⟨nd,rfl⟩⟩;(try exact dn2)) | (go_at_call 49;(with_reducible refine (spec_l1In.calls A8.out).mono ?_);rintro e w' ⟨rfl,⟨nd,rfl⟩⟩;(try exact dn2)) | (go_at_call 49;(with_reducible refine (spec_l1In.calls bJ.out).mono ?_);rintro e w' ⟨rfl,⟨nd,rfl⟩⟩;(try exact dn2)) | (go_at_call 49;(with_reducible refine (spec_l1In.calls bQ.out).mono ?_);rintro e w' ⟨rfl,⟨nd,rfl⟩⟩;(try exact dn2)) | (go_at_call 49;(with_reducible refine (spec_l1In.calls bW.out).mono ?_);rintro e w' ⟨rfl,⟨nd,rfl⟩⟩;(try exact dn2))))
  go_meet
  case rel=>exact⟨_,(!bU),sr,H',⟨by first | omega | exact Nat.le_refl _⟩,⟨kL aA⟩,⟨bL HB⟩⟩
 clear bT
 obtain⟨kq,bE,rfl,HA,bR,aA,HB⟩:=hcut
 cases kq with
 | zero=>exact absurd HA.out (by simp [spec_l18Chunk.j0])
 | succ kj2=>?_
 have H:=HA.out
 clear HA
 simp only [spec_l18Chunk.j0] at H
 replace H:=ibt H;obtain⟨rfl,H⟩ | ⟨rfl,H⟩:=H
 · cases H
   go_wp2
   repeat (go_quiet (fail);try go_wp2)
   go_ret
   exact fin_ (bL HB)
 have H':=am H;clear H
 go_wp2
 repeat (go_quiet (fail);try go_wp2)
 go_loopg [5] kj2 (fun kq v5 w'=>∃ (aC:Int),v5=.int .i64 aC∧Aside0 (spec_l18Chunk.l0 kq aC aX aY aZ a6 a7 aH=some r)∧Aside0 (kq≤kj2)∧Aside0 (w'.heap[bD]?=some (.cells #[.int .i64 aX,.int .i64 aY,.int .i64 aZ,.int .i64 a6,.int .i64 a7,(.slice bB aH.length bC)] 58 (0,0)))∧Aside0 (Below w.heap.size w w'))
 case atStart=>exact⟨(0),sr,H',⟨Nat.le_refl _⟩,⟨kL aA⟩,⟨bL HB⟩⟩
 clear H'
 try clear cB
 obtain⟨aC,rfl,HA,bS,aA,HB⟩:=hrel
 cases gk with
 | zero=>exact absurd HA.out (by simp [spec_l18Chunk.l0])
 | succ k2=>?_
 have H:=HA.out
 clear HA
 simp only [spec_l18Chunk.l0] at H
 replace H:=idc H;obtain⟨bN,H⟩ | ⟨bN,H⟩:=H
 rotate_left
 · cases H
   obtain⟨_,_,_,_,_,_,_,_,_,_,_,_⟩:=cl6 aA
   go_wp2
   repeat (go_quiet (fail);try go_wp2)
   go_ret
   exact fin_ (bL HB)
 replace H:=ifd H;obtain⟨bX,H⟩:=H
 replace H:=bnd H;obtain⟨cA,bG,H⟩:=H
 replace H:=ibt H;obtain⟨rfl,H⟩ | ⟨rfl,H⟩:=H
 rotate_left
 · cases H
   obtain⟨_,_,_,_,_,_,_,_,_,_,_,_⟩:=cl6 aA
   have aK:0≤(aC:Int):=dcd
   have aM:aC < (aH.length:Int):=dcd
   obtain⟨aJ,a8,aD⟩:=Kd.at_int aI.out aC aK aM
   cases a8
   replace aD:=crd HB aD
   replace aK:=eq_true aK
   replace aM:=eq_true aM
   iterate 6 (try go_wp2_with (first | (go_at_call 49;(with_reducible refine (spec_l1In.calls bG.out).mono ?_);rintro e w' ⟨rfl,⟨nd,rfl⟩⟩;(try exact dn2)));try go_quiet (first | (go_at_call 49;(with_reducible refine (spec_l1In.calls bG.out).mono ?_);rintro e w' ⟨rfl,⟨nd,rfl⟩⟩;(try exact dn2))))
   go_ret
   exact fin_ (bL HB)
 replace H:=igt H;obtain⟨bO,H⟩ | ⟨bO,H⟩:=H
 rotate_left
 · have H':=am H;clear H
   obtain⟨_,_,_,_,_,_,_,_,_,_,_,_⟩:=cl6 aA
   have aK:0≤(aC:Int):=dcd
   have aM:aC < (aH.length:Int):=dcd
   obtain⟨aJ,a8,aD⟩:=Kd.at_int aI.out aC aK aM
   cases a8
   replace aD:=crd HB aD
   replace aK:=eq_true aK
   replace aM:=eq_true aM
   iterate 6 (try go_wp2_with (first | (go_at_call 49;(with_reducible refine (spec_l1In.calls bG.out).mono ?_);rintro e w' ⟨rfl,⟨nd,rfl⟩⟩;(try exact dn2)));try go_quiet (first | (go_at_call 49;(with_reducible refine (spec_l1In.calls bG.out).mono ?_);rintro e w' ⟨rfl,⟨nd,rfl⟩⟩;(try exact dn2))))
   go_roundg k2
   case measure=>have:=bR.out;have:=bS.out;omega
   case rel=>exact⟨(wrap64 (aC + 1)),sr,H',⟨by have:=bR.out;have:=bS.out;omega⟩,⟨kL aA⟩,⟨bL HB⟩⟩
 obtain⟨ji27,hji27⟩:∃ j_:Int,(wrap64 (aC - 1))=j_:=⟨_,rfl⟩
 replace H:(if 0≤(ji27) then (if (ji27) < (aH.length:Int) then (if (rd aH (ji27)) ≥ (rd aH aC) then (some false) else (spec_l18Chunk.l0 k2 (wrap64 (aC + 1)) aX aY aZ a6 a7 aH)) else (none)) else (none))=some r:=by first | (rw [hji27] at H;exact H) | (simp only [hji27] at H ⊢;exact H)
 (try rw [hji27] at bG)
 have hji27w:(IntKind.i64.wrap (aC - 1))=ji27:=(i64_w _).trans hji27
 replace H:=if_dd H;obtain⟨bY,bZ,H⟩:=H
 replace H:=ige H;obtain⟨bP,H⟩ | ⟨bP,H⟩:=H
 · cases H
   obtain⟨_,_,_,_,_,_,_,_,_,_,_,_⟩:=cl6 aA
   have aK:0≤(aC:Int):=dcd
   have aM:aC < (aH.length:Int):=dcd
   obtain⟨aJ,a8,aD⟩:=Kd.at_int aI.out aC aK aM
   cases a8
   replace aD:=crd HB aD
   replace aK:=eq_true aK
   replace aM:=eq_true aM
   iterate 6 (try go_wp2_with (first | (go_at_call 49;(with_reducible refine (spec_l1In.calls bG.out).mono ?_);rintro e w' ⟨rfl,⟨nd,rfl⟩⟩;(try exact dn2);have aN:0≤((ji27):Int):=dcd;have aQ:(ji27) < (aH.length:Int):=dcd;obtain⟨aV,a9,aE⟩:=Kd.at_int aI.out (ji27) aN aQ;obtain rfl:aJ=aV:=(by injection a9);replace aE:=crd HB aE;replace aN:=eq_true aN;replace aQ:=eq_true aQ;have aT:0≤(aC:Int):=dcd;have aU:aC < (aH.length:Int):=dcd;obtain⟨aW,bA,aG⟩:=Kd.at_int aI.out aC aT aU;obtain rfl:aJ=aW:=(by injection bA);replace aG:=crd HB aG;replace aT:=eq_true aT;replace aU:=eq_true aU));try go_quiet (first | (go_at_call 49;(with_reducible refine (spec_l1In.calls bG.out).mono ?_);rintro e w' ⟨rfl,⟨nd,rfl⟩⟩;(try exact dn2);have aN:0≤((ji27):Int):=dcd;have aQ:(ji27) < (aH.length:Int):=dcd;obtain⟨aV,a9,aE⟩:=Kd.at_int aI.out (ji27) aN aQ;obtain rfl:aJ=aV:=(by injection a9);replace aE:=crd HB aE;replace aN:=eq_true aN;replace aQ:=eq_true aQ;have aT:0≤(aC:Int):=dcd;have aU:aC < (aH.length:Int):=dcd;obtain⟨aW,bA,aG⟩:=Kd.at_int aI.out aC aT aU;obtain rfl:aJ=aW:=(by injection bA);replace aG:=crd HB aG;replace aT:=eq_true aT;replace aU:=eq_true aU)))
   go_ret
   exact⟨by first | rfl | (simp [errW_none,errW_some] <;> rfl) | (simp only [← hji27];first | rfl | (simp [errW_none,errW_some] <;> rfl)) | (simp [*,errW_none,errW_some] <;> rfl),bL HB⟩
 have H':=am H;clear H
 obtain⟨_,_,_,_,_,_,_,_,_,_,_,_⟩:=cl6 aA
 have aK:0≤(aC:Int):=dcd
 have aM:aC < (aH.length:Int):=dcd
 obtain⟨aJ,a8,aD⟩:=Kd.at_int aI.out aC aK aM
 cases a8
 replace aD:=crd HB aD
 replace aK:=eq_true aK
 replace aM:=eq_true aM
 iterate 6 (try go_wp2_with (first | (go_at_call 49;(with_reducible refine (spec_l1In.calls bG.out).mono ?_);rintro e w' ⟨rfl,⟨nd,rfl⟩⟩;(try exact dn2);have aN:0≤((ji27):Int):=dcd;have aQ:(ji27) < (aH.length:Int):=dcd;obtain⟨aV,a9,aE⟩:=Kd.at_int aI.out (ji27) aN aQ;obtain rfl:aJ=aV:=(by injection a9);replace aE:=crd HB aE;replace aN:=eq_true aN;replace aQ:=eq_true aQ;have aT:0≤(aC:Int):=dcd;have aU:aC < (aH.length:Int):=dcd;obtain⟨aW,bA,aG⟩:=Kd.at_int aI.out aC aT aU;obtain rfl:aJ=aW:=(by injection bA);replace aG:=crd HB aG;replace aT:=eq_true aT;replace aU:=eq_true aU));try go_quiet (first | (go_at_call 49;(with_reducible refine (spec_l1In.calls bG.out).mono ?_);rintro e w' ⟨rfl,⟨nd,rfl⟩⟩;(try exact dn2);have aN:0≤((ji27):Int):=dcd;have aQ:(ji27) < (aH.length:Int):=dcd;obtain⟨aV,a9,aE⟩:=Kd.at_int aI.out (ji27) aN aQ;obtain rfl:aJ=aV:=(by injection a9);replace aE:=crd HB aE;replace aN:=eq_true aN;replace aQ:=eq_true aQ;have aT:0≤(aC:Int):=dcd;have aU:aC < (aH.length:Int):=dcd;obtain⟨aW,bA,aG⟩:=Kd.at_int aI.out aC aT aU;obtain rfl:aJ=aW:=(by injection bA);replace aG:=crd HB aG;replace aT:=eq_true aT;replace aU:=eq_true aU)))
 go_roundg k2
 case measure=>have:=bR.out;have:=bS.out;omega
 case rel=>exact⟨(wrap64 (aC + 1)),sr,H',⟨by have:=bR.out;have:=bS.out;omega⟩,⟨kL aA⟩,⟨bL HB⟩⟩
/-! ### spec_MetaOk: function 21 -/
mutual
def spec_MetaOk.j0:Nat→List Int→Bool→List (S84)→Int→List (S54)→Option (Bool)
  | 0,_,_,_,_,_=>none
  | k + 1,x3,aE,aA,aC,aD=>if aE=true then (some false) else (spec_MetaOk.l0 k x3 0 0 aA aC aD)
def spec_MetaOk.l0:Nat→List Int→Int→Int→List (S84)→Int→List (S54)→Option (Bool)
  | 0,_,_,_,_,_,_=>none
  | k + 1,x3,x4,x5,aD,aC,aA=>if x5 < (aA.length:Int) then (if 0≤x5 then ((spec_l1In.f ((rd_T54 aA x5).f0) 1 200).bind fun aE=>(if aE=true then (spec_MetaOk.j2 k x3 x4 x5 ((((rd_T54 aA x5).f1).length:Int) != (x3.length:Int)) aD aC aA ((rd_T54 aA x5).f0) ((rd_T54 aA x5).f1)) else (spec_MetaOk.j2 k x3 x4 x5 true aD aC aA ((rd_T54 aA x5).f0) ((rd_T54 aA x5).f1)))) else (none)) else (some (x4 == aC))
def spec_MetaOk.j2:Nat→List Int→Int→Int→Bool→List (S84)→Int→List (S54)→Int→List (S58)→Option (Bool)
  | 0,_,_,_,_,_,_,_,_,_=>none
  | k + 1,x3,x4,x5,aH,aC,aD,aE,aA,aG=>if aH=true then (some false) else (spec_MetaOk.l1 k x3 (wrap64 (x4 + aA)) x5 0 aC aD aE aA aG)
def spec_MetaOk.l1:Nat→List Int→Int→Int→Int→List (S84)→Int→List (S54)→Int→List (S58)→Option (Bool)
  | 0,_,_,_,_,_,_,_,_,_=>none
  | k + 1,x3,x4,x5,x7,aC,aD,aE,aG,aA=>if x7 < (aA.length:Int) then (if 0≤x7 then ((spec_l18Chunk.f k ((rd_T58 aA x7).f0) ((rd_T58 aA x7).f1) ((rd_T58 aA x7).f2) ((rd_T58 aA x7).f3) ((rd_T58 aA x7).f4) ((rd_T58 aA x7).f5) x7).bind fun aH=>(if aH=true then (spec_MetaOk.l1 k x3 x4 x5 (wrap64 (x7 + 1)) aC aD aE aG aA) else (some false))) else (none)) else (spec_MetaOk.l0 k x3 x4 (wrap64 (x5 + 1)) aC aD aE)
end
def spec_MetaOk.f (k:Nat)(aA:List (S84))(aC:Int)(aD:List (S54)):Option (Bool):=(spec_SchemaLeaves.f k aA).bind fun aE=>((spec_SchemaOk.f k aA).bind fun aG=>(if aG=true then (if (aD.length:Int) > 40 then (spec_MetaOk.j0 k aE true aA aC aD) else ((spec_l1In.f aC 0 200).bind fun aH=>(spec_MetaOk.j0 k aE (!aH) aA aC aD))) else (spec_MetaOk.j0 k aE true aA aC aD)))
theorem spec_MetaOk.calls {k : Nat} {a6 : Option Addr} {a7 : Nat} {aI : List (S84)} {a8 : Int} {cF : Option Addr} {bM : Nat} {aC : List (S54)} {r : Bool} {w : World} (hr0_0 : Kd.C k84 w a6 aI.length aI) (cS : aI.length ≤ a7) (hr0_2 : Kd.C k54 w cF aC.length aC) (cT : aC.length ≤ bM) (h : spec_MetaOk.f k aI a8 aC = some r) :
    Calls Try.prog 21 #[.agg #[.slice a6 aI.length a7,.int .i64 a8,.slice cF aC.length bM]] w fun e w'=>e=.returned (.bool r)∧Below w.heap.size w w':=by
 have hu33:=Try.underlying33
 have hu54:=Try.underlying54
 have hu58:=Try.underlying58
 have bS:=am hr0_0
 have bT:=am cS
 clear hr0_0 cS
 have dC:=am hr0_2
 have dL:=am cT
 clear hr0_2 cT
 have HB:=am (Below.refl w.heap.size w)
 have H:=h;clear h;unfold spec_MetaOk.f at H
 replace H:=bnd H;obtain⟨bA,A2,H⟩:=H
 have dH:=am H
 clear H
 go_enter Try.func21,Try.ntmps21
 go_upto_region 2 with (first | ((with_reducible refine gd 1 rfl ?_);(try refine gg ?_;dsimp only);refine bxw 1 rfl #[.slice a6 aI.length a7,.int .i64 a8,.slice cF aC.length bM] 33 HB ?_;clear HB;intro bU w4 aA dM dN HB;obtain⟨bB,bC,bD,bE,bF,bG⟩:=cl3 aA) | ((with_reducible refine gc 47 rfl ?_);refine gl_ (some 10) Try.func47 #[.slice a6 aI.length a7] rfl ?_;(with_reducible refine (spec_SchemaLeaves.calls ?side1 ?side2 A2.out).mono ?_);(case side1=>exact cL bS HB);(case side2=>exact bT.out);rintro e w6 ⟨cM,rfl,dO,hb⟩;refine⟨_,rfl,?_⟩;have aK:=rlb dO HB;replace aA:=bkb aA hb;replace HB:=bst HB hb;clear hb dO))
 (try simp only [Act.put,List.setIfInBounds_toArray,List.set_cons_zero,List.set_cons_succ])
 go_cut [26] (fun v26 wc=>∃ (kq:Nat) (cG:Bool),v26=.bool cG∧Aside0 (spec_MetaOk.j0 kq bA cG aI a8 aC=some r)∧Aside0 (kq≤k)∧Aside0 (Kd.R (Kd.int .i64) 3 wc w.heap.size (fun _=>True) cM bA)∧Aside0 (wc.heap[bU]?=some (.cells #[(.slice a6 aI.length a7),.int .i64 a8,(.slice cF aC.length bM)] 33 (0,0)))∧Aside0 (Below w.heap.size w wc))
 case first =>
  have H:=dH.out
  clear dH
  replace H:=bnd H;obtain⟨eB,A7,H⟩:=H
  replace H:=ibt H;obtain⟨rfl,H⟩ | ⟨rfl,H⟩:=H
  rotate_left
  · have H':=am H;clear H
    obtain⟨_,_,_,_,_,_⟩:=cl3 aA
    go_wp2_with (first | ((with_reducible refine gc 48 rfl ?_);refine gl_ (some 13) Try.func48 #[.slice a6 aI.length a7] rfl ?_;(with_reducible refine (spec_SchemaOk.calls ?side1 ?side2 A7.out).mono ?_);(case side1=>exact cL bS HB);(case side2=>exact bT.out);rintro e eI ⟨rfl,hb⟩;refine⟨_,rfl,?_⟩;replace aK:=rbe aK hb;replace aA:=bkb aA hb;replace HB:=bst HB hb;clear hb))
    go_meet
    case rel=>exact⟨_,(true),sr,H',⟨by first | omega | exact Nat.le_refl _⟩,⟨rL aK⟩,⟨kL aA⟩,⟨bL HB⟩⟩
  by_cases c9:(aC.length:Int) > 40
  · rw [if_pos c9] at H
    have cH:decide (40 < (aC.length:Int))=true:=decide_eq_true c9
    have cW:decide (40 < aC.length)=true:=decide_eq_true (by omega)
    clear c9
    (first | rw [cH] | rw [cW] | (simp only [i64_w,i32_w];rw [cH]) | skip)
    have H':=am H;clear H
    obtain⟨_,_,_,_,_,_⟩:=cl3 aA
    go_wp2_with (first | ((with_reducible refine gc 48 rfl ?_);refine gl_ (some 13) Try.func48 #[.slice a6 aI.length a7] rfl ?_;(with_reducible refine (spec_SchemaOk.calls ?side1 ?side2 A7.out).mono ?_);(case side1=>exact cL bS HB);(case side2=>exact bT.out);rintro e eJ ⟨rfl,hb⟩;refine⟨_,rfl,?_⟩;replace aK:=rbe aK hb;replace aA:=bkb aA hb;replace HB:=bst HB hb;clear hb;obtain⟨_,_,_,_,_,_⟩:=cl3 aA))
    go_meet
    case rel=>exact⟨_,(true),sr,H',⟨by first | omega | exact Nat.le_refl _⟩,⟨rL aK⟩,⟨kL aA⟩,⟨bL HB⟩⟩
  rw [if_neg c9] at H
  have cH:decide (40 < (aC.length:Int))=false:=decide_eq_false c9
  have cW:decide (40 < aC.length)=false:=decide_eq_false (by omega)
  clear c9
  (first | rw [cH] | rw [cW] | (simp only [i64_w,i32_w];rw [cH]) | skip)
  replace H:=bnd H;obtain⟨dI,eC,H⟩:=H
  have H':=am H;clear H
  obtain⟨_,_,_,_,_,_⟩:=cl3 aA
  go_wp2_with (first | ((with_reducible refine gc 48 rfl ?_);refine gl_ (some 13) Try.func48 #[.slice a6 aI.length a7] rfl ?_;(with_reducible refine (spec_SchemaOk.calls ?side1 ?side2 A7.out).mono ?_);(case side1=>exact cL bS HB);(case side2=>exact bT.out);rintro e eK ⟨rfl,hb⟩;refine⟨_,rfl,?_⟩;replace aK:=rbe aK hb;replace aA:=bkb aA hb;replace HB:=bst HB hb;clear hb;obtain⟨_,_,_,_,_,_⟩:=cl3 aA) | (go_at_call 49;(with_reducible refine (spec_l1In.calls eC.out).mono ?_);rintro e w' ⟨rfl,⟨nd,rfl⟩⟩))
  go_meet
  case rel=>exact⟨_,(!dI),sr,H',⟨by first | omega | exact Nat.le_refl _⟩,⟨rL aK⟩,⟨kL aA⟩,⟨bL HB⟩⟩
 clear dH
 try clear bB bC bD bE bF bG
 obtain⟨kq,cG,rfl,HA,cZ,aJ,aA,HB⟩:=hcut
 cases kq with
 | zero=>exact absurd HA.out (by simp [spec_MetaOk.j0])
 | succ kj2=>?_
 have H:=HA.out
 clear HA
 simp only [spec_MetaOk.j0] at H
 replace H:=ibt H;obtain⟨rfl,H⟩ | ⟨rfl,H⟩:=H
 · cases H
   go_wp2
   go_ret
   exact fin_ (bL HB)
 have H':=am H;clear H
 go_wp2
 go_loopg [4,5] kj2 (fun kq v4 v5 w'=>∃ (cE:Int) (aD:Int),v4=.int .i64 cE∧v5=.int .i64 aD∧Aside0 (spec_MetaOk.l0 kq bA cE aD aI a8 aC=some r)∧Aside0 (kq≤kj2)∧Aside0 (Kd.R (Kd.int .i64) 3 w' w.heap.size (fun _=>True) cM bA)∧Aside0 (w'.heap[bU]?=some (.cells #[(.slice a6 aI.length a7),.int .i64 a8,(.slice cF aC.length bM)] 33 (0,0)))∧Aside0 (Below w.heap.size w w'))
 case atStart=>exact⟨(0),(0),sr,sr,H',⟨Nat.le_refl _⟩,⟨rL aJ⟩,⟨kL aA⟩,⟨bL HB⟩⟩
 clear H'
 try clear dP bB bC bD bE bF bG
 obtain⟨cE,aD,rfl,rfl,HA,dA,aJ,aA,HB⟩:=hrel
 cases gk with
 | zero=>exact absurd HA.out (by simp [spec_MetaOk.l0])
 | succ k2=>?_
 have H:=HA.out
 clear HA
 simp only [spec_MetaOk.l0] at H
 replace H:=idc H;obtain⟨cI,H⟩ | ⟨cI,H⟩:=H
 rotate_left
 · cases H
   obtain⟨_,_,_,_,_,_⟩:=cl3 aA
   go_wp2
   go_ret
   exact fin_ (bL HB)
 replace H:=ifd H;obtain⟨cU,H⟩:=H
 have cX:=am H
 clear H
 obtain⟨bV,bW,bX,bY,bZ,b6⟩:=cl3 aA
 have cJ:0≤(aD:Int):=dcd
 have cK:aD < (aC.length:Int):=dcd
 obtain⟨cV,bH,bI,dJ,aY,aZ,b7,b8⟩:=at_T54 dC.out aD cJ cK
 cases dJ
 replace aY:=crd HB aY
 replace aZ:=crd HB aZ
 have b9:=am b8
 have dF:=am b7
 clear b8 b7
 replace cJ:=eq_true cJ
 replace cK:=eq_true cK
 go_upto_region 9 with (first | ((with_reducible refine gd 6 rfl ?_);(try refine gg ?_;dsimp only);refine bxv 6 rfl #[.int .i64 0,.slice none 0 0] 54 HB ?_;clear HB;intro a9 eL aE dQ dR HB hg hb;obtain⟨dB,aG⟩:=nbp (nbl aA hg);replace aJ:=rbe aJ hb;replace aA:=bkb aA hb;clear hg hb;obtain⟨dS,dT⟩:=nbo aG;obtain⟨cA,cB,cC,cD⟩:=cl2 aE))
 (try simp only [Act.put,List.setIfInBounds_toArray,List.set_cons_zero,List.set_cons_succ])
 go_cut [50] (fun v50 wc=>∃ (kq:Nat) (bN:Bool),v50=.bool bN∧Aside0 (spec_MetaOk.j2 kq bA cE aD bN aI a8 aC ((rd_T54 aC aD).f0) ((rd_T54 aC aD).f1)=some r)∧Aside0 (kq≤k2)∧Aside0 (Kd.R (Kd.int .i64) 3 wc w.heap.size (fun _=>True) cM bA)∧Aside0 (wc.heap[bU]?=some (.cells #[(.slice a6 aI.length a7),.int .i64 a8,(.slice (some cV) aC.length bM)] 33 (0,0)))∧Aside0 (wc.heap[a9]?=some (.cells #[.int .i64 ((rd_T54 aC aD).f0),(.slice bH ((rd_T54 aC aD).f1).length bI)] 54 (0,0)))∧Aside0 (Below w.heap.size w wc))
 case first =>
  have H:=cX.out
  clear cX
  replace H:=bnd H;obtain⟨eD,dU,H⟩:=H
  replace H:=ibt H;obtain⟨rfl,H⟩ | ⟨rfl,H⟩:=H
  rotate_left
  · have H':=am H;clear H
    obtain⟨dV,dW⟩:=nbo aG
    obtain⟨_,_,_,_⟩:=cl2 aE
    go_wp2_with (first | ((with_reducible refine gc 49 rfl ?_);refine gc1 (some 41) Try.func49 rfl (spec_l1In.calls dU.out) ?_;rintro w' ⟨nd,rfl⟩))
    go_meet
    case rel=>exact⟨_,(true),sr,H',⟨by have:=cZ.out;have:=dA.out;first | omega | exact Nat.le_refl _⟩,⟨R_later (Kd.R_mono (Kd.R_far (p:=⟨a9,1,none⟩) (Kd.R_far (p:=⟨a9,0,none⟩) (Kd.R_types aJ.out aE.out (by decide)) (fun _ hk=>hk.2) (.int .i64 ((rd_T54 aC aD).f0))) (fun _ hk=>hk.2) (.slice bH ((rd_T54 aC aD).f1).length bI)) (fun _ hk=>trivial))⟩,⟨kL aA⟩,⟨kL aE⟩,⟨bL HB⟩⟩
  have H':=am H;clear H
  obtain⟨dX,dY⟩:=nbo aG
  obtain⟨_,_,_,_⟩:=cl2 aE
  go_wp2_with (first | ((with_reducible refine gc 49 rfl ?_);refine gc1 (some 41) Try.func49 rfl (spec_l1In.calls dU.out) ?_;rintro w' ⟨nd,rfl⟩;obtain⟨eE,eF,dK⟩:=Kd.R_slice aJ.out;subst dK))
  go_meet
  case rel=>exact⟨_,(((((rd_T54 aC aD).f1).length:Int) != (bA.length:Int))),sr,H',⟨by have:=cZ.out;have:=dA.out;first | omega | exact Nat.le_refl _⟩,⟨R_later (Kd.R_mono (Kd.R_far (p:=⟨a9,1,none⟩) (Kd.R_far (p:=⟨a9,0,none⟩) (Kd.R_types aJ.out aE.out (by decide)) (fun _ hk=>hk.2) (.int .i64 ((rd_T54 aC aD).f0))) (fun _ hk=>hk.2) (.slice bH ((rd_T54 aC aD).f1).length bI)) (fun _ hk=>trivial))⟩,⟨kL aA⟩,⟨kL aE⟩,⟨bL HB⟩⟩
 clear cX
 try clear dP eG cI cU bV bW bX cA cB bB bC bD bY bZ b6 cC cD bE bF bG aY aZ cJ cK
 obtain⟨kq,bN,rfl,HA,cN,aJ,aA,aE,HB⟩:=hcut
 cases kq with
 | zero=>exact absurd HA.out (by simp [spec_MetaOk.j2])
 | succ kj21=>?_
 have H:=HA.out
 clear HA
 simp only [spec_MetaOk.j2] at H
 replace H:=ibt H;obtain⟨rfl,H⟩ | ⟨rfl,H⟩:=H
 · cases H
   go_wp2
   go_ret
   exact fin_ (bL HB)
 have H':=am H;clear H
 obtain⟨dZ,d2⟩:=nbo aG
 obtain⟨cO,cP,cQ,cR⟩:=cl2 aE
 go_wp2
 go_loopg [7] kj21 (fun kq v7 w'=>∃ (aH:Int),v7=.int .i64 aH∧Aside0 (spec_MetaOk.l1 kq bA (wrap64 (cE + ((rd_T54 aC aD).f0))) aD aH aI a8 aC ((rd_T54 aC aD).f0) ((rd_T54 aC aD).f1)=some r)∧Aside0 (kq≤kj21)∧Aside0 (Kd.R (Kd.int .i64) 3 w' w.heap.size (fun _=>True) cM bA)∧Aside0 (w'.heap[bU]?=some (.cells #[(.slice a6 aI.length a7),.int .i64 a8,(.slice (some cV) aC.length bM)] 33 (0,0)))∧Aside0 (w'.heap[a9]?=some (.cells #[.int .i64 ((rd_T54 aC aD).f0),(.slice bH ((rd_T54 aC aD).f1).length bI)] 54 (0,0)))∧Aside0 (Below w.heap.size w w'))
 case atStart=>exact⟨(0),sr,H',⟨Nat.le_refl _⟩,⟨rL aJ⟩,⟨kL aA⟩,⟨kL aE⟩,⟨bL HB⟩⟩
 clear H'
 try clear dP eG cI cU eM bV bW bX cA cB cO cP bB bC bD bY bZ b6 cC cD cQ cR bE bF bG aY aZ cJ cK
 obtain⟨aH,rfl,HA,dG,aJ,aA,aE,HB⟩:=hrel
 cases gk with
 | zero=>exact absurd HA.out (by simp [spec_MetaOk.l1])
 | succ k4=>?_
 have H:=HA.out
 clear HA
 simp only [spec_MetaOk.l1] at H
 replace H:=idc H;obtain⟨dD,H⟩ | ⟨dD,H⟩:=H
 rotate_left
 · have H':=am H;clear H
   obtain⟨d3,d4⟩:=nbo aG
   obtain⟨_,_,_,_⟩:=cl2 aE
   go_wp2
   go_roundg k4
   case measure=>have:=cZ.out;have:=dA.out;have:=cN.out;have:=dG.out;omega
   case rel=>exact⟨((wrap64 (cE + ((rd_T54 aC aD).f0)))),(wrap64 (aD + 1)),sr,sr,H',⟨by have:=cZ.out;have:=dA.out;have:=cN.out;have:=dG.out;omega⟩,⟨rL aJ⟩,⟨kL aA⟩,⟨bL HB⟩⟩
 replace H:=ifd H;obtain⟨d5,H⟩:=H
 replace H:=bnd H;obtain⟨eH,d6,H⟩:=H
 replace H:=ibt H;obtain⟨rfl,H⟩ | ⟨rfl,H⟩:=H
 rotate_left
 · cases H
   obtain⟨d7,d8⟩:=nbo aG
   obtain⟨_,_,_,_⟩:=cl2 aE
   have bO:0≤(aH:Int):=dcd
   have bP:aH < (((rd_T54 aC aD).f1).length:Int):=dcd
   obtain⟨dE,bQ,bR,cY,aM,aN,aQ,aT,aU,aV,aW,aX⟩:=at_T58 b9.out aH bO bP
   cases cY
   replace aM:=crd HB aM
   replace aN:=crd HB aN
   replace aQ:=crd HB aQ
   replace aT:=crd HB aT
   replace aU:=crd HB aU
   replace aV:=crd HB aV
   have bJ:=am aX
   have bK:=am aW
   clear aX aW
   replace bO:=eq_true bO
   replace bP:=eq_true bP
   go_wp2_with (first | ((with_reducible refine gc 50 rfl ?_);refine gl_ (some 68) Try.func50 #[.agg #[.int .i64 ((rd_T58 ((rd_T54 aC aD).f1) aH).f0),.int .i64 ((rd_T58 ((rd_T54 aC aD).f1) aH).f1),.int .i64 ((rd_T58 ((rd_T54 aC aD).f1) aH).f2),.int .i64 ((rd_T58 ((rd_T54 aC aD).f1) aH).f3),.int .i64 ((rd_T58 ((rd_T54 aC aD).f1) aH).f4),.slice bQ ((rd_T58 ((rd_T54 aC aD).f1) aH).f5).length bR],.int .i64 aH] rfl ?_;(with_reducible refine (spec_l18Chunk.calls ?side1 ?side2 d6.out).mono ?_);(case side1=>exact cL bJ HB);(case side2=>exact bK.out);rintro e eN ⟨rfl,hb⟩;refine⟨_,rfl,?_⟩;replace aJ:=rbe aJ hb;replace aA:=bkb aA hb;replace aE:=bkb aE hb;replace HB:=bst HB hb;clear hb))
   go_ret
   exact fin_ (bL HB)
 have H':=am H;clear H
 obtain⟨d9,eA⟩:=nbo aG
 obtain⟨_,_,_,_⟩:=cl2 aE
 have bO:0≤(aH:Int):=dcd
 have bP:aH < (((rd_T54 aC aD).f1).length:Int):=dcd
 obtain⟨dE,bQ,bR,cY,aM,aN,aQ,aT,aU,aV,aW,aX⟩:=at_T58 b9.out aH bO bP
 cases cY
 replace aM:=crd HB aM
 replace aN:=crd HB aN
 replace aQ:=crd HB aQ
 replace aT:=crd HB aT
 replace aU:=crd HB aU
 replace aV:=crd HB aV
 have bJ:=am aX
 have bK:=am aW
 clear aX aW
 replace bO:=eq_true bO
 replace bP:=eq_true bP
 go_wp2_with (first | ((with_reducible refine gc 50 rfl ?_);refine gl_ (some 68) Try.func50 #[.agg #[.int .i64 ((rd_T58 ((rd_T54 aC aD).f1) aH).f0),.int .i64 ((rd_T58 ((rd_T54 aC aD).f1) aH).f1),.int .i64 ((rd_T58 ((rd_T54 aC aD).f1) aH).f2),.int .i64 ((rd_T58 ((rd_T54 aC aD).f1) aH).f3),.int .i64 ((rd_T58 ((rd_T54 aC aD).f1) aH).f4),.slice bQ ((rd_T58 ((rd_T54 aC aD).f1) aH).f5).length bR],.int .i64 aH] rfl ?_;(with_reducible refine (spec_l18Chunk.calls ?side1 ?side2 d6.out).mono ?_);(case side1=>exact cL bJ HB);(case side2=>exact bK.out);rintro e eO ⟨rfl,hb⟩;refine⟨_,rfl,?_⟩;replace aJ:=rbe aJ hb;replace aA:=bkb aA hb;replace aE:=bkb aE hb;replace HB:=bst HB hb;clear hb))
 go_roundg k4
 case measure=>have:=cZ.out;have:=dA.out;have:=cN.out;have:=dG.out;omega
 case rel=>exact⟨(wrap64 (aH + 1)),sr,H',⟨by have:=cZ.out;have:=dA.out;have:=cN.out;have:=dG.out;omega⟩,⟨rL aJ⟩,⟨kL aA⟩,⟨kL aE⟩,⟨bL HB⟩⟩
/-! ### spec_l16Int: function 22 -/
def spec_l16Int.f (a0:Int)(a1:Int):Option (Int × Int × Int × ByteArray × Int):=some (5,a0,a1,(⟨#[]⟩:ByteArray),0)
theorem spec_l16Int.calls {a0 a1 r1 r2 r3 : Int} {r4 : ByteArray} {r5 : Int} {w : World} (h : spec_l16Int.f a0 a1 = some (r1, r2, r3, r4, r5)) :
    Calls Try.prog 22 #[.int .i64 a0,.int .i64 a1] w fun e w'=>e=.returned (.agg #[.int .i64 r1,.int .i64 r2,.int .i64 r3,.string r4,.int .i64 r5])∧Below w.heap.size w w':=by
 have hu49:=Try.underlying49
 have HB:=am (Below.refl w.heap.size w)
 have H:=h;clear h;unfold spec_l16Int.f at H
 replace H:=sj5 H;obtain⟨rfl,rfl,rfl,rfl,rfl⟩:=H
 go_enter Try.func22,Try.ntmps22
 go_wp2_with (first | ((with_reducible refine gd 4 rfl ?_);refine bxw 4 rfl #[.int .i64 0,.int .i64 0,.int .i64 0,.string ⟨#[]⟩,.int .i64 0] 49 HB ?_;clear HB;intro aC w3 aA aD aE HB;obtain⟨_,_,_,_,_,_,_,_,_,_⟩:=cl5 aA))
 refine bodyPost_ret (results_cell_row rfl _ _ aC 49 #[.int .i64 5,.int .i64 a0,.int .i64 a1,.string ⟨#[]⟩,.int .i64 0] (0,0) _ rfl (kL aA) Try.underlying49 rfl (by kernel_rfl)) rfl ?_
 exact fin_ (bL HB)
/-! ### spec_l5Nodes: function 23 -/
mutual
def spec_l5Nodes.l0:Nat→List (S84)→List (S49)→Int→Option ((List (S49)))
  | 0,_,_,_=>none
  | k + 1,x0,x5,x6=>if x6 < (x0.length:Int) then (if 0≤x6 then (if x5.length < 2932031007402 then ((some (x5 ++ [(⟨12,0,0,(⟨#[]⟩:ByteArray),0⟩:S49)]:List (S49))).bind fun aA=>(if ((rd_T84 x0 x6).f1)=7 then (spec_l5Nodes.j1 k x0 aA x6 (x5.length:Int) ((rd_T84 x0 x6).f0) ((rd_T84 x0 x6).f1) ((rd_T84 x0 x6).f2) ((rd_T84 x0 x6).f3)) else (if aA.length < 2932031007402 then (spec_l5Nodes.j1 k x0 (aA ++ [(⟨5,1,(rd_T84 x0 x6).f1,(⟨#[]⟩:ByteArray),0⟩:S49)]) x6 (x5.length:Int) ((rd_T84 x0 x6).f0) ((rd_T84 x0 x6).f1) ((rd_T84 x0 x6).f2) ((rd_T84 x0 x6).f3)) else (none)))) else (none)) else (none)) else (some x5)
def spec_l5Nodes.j1:Nat→List (S84)→List (S49)→Int→Int→ByteArray→Int→Int→Int→Option ((List (S49)))
  | 0,_,_,_,_,_,_,_,_=>none
  | k + 1,x0,x5,x6,x8,aG,aH,aJ,aI=>if x6 > 0 then (if x5.length < 2932031007402 then ((some (x5 ++ [(⟨5,3,aJ,(⟨#[]⟩:ByteArray),0⟩:S49)]:List (S49))).bind fun aK=>(if aK.length < 2932031007402 then ((some (aK ++ [(⟨8,4,0,aG,0⟩:S49)]:List (S49))).bind fun aA=>(if aH=7 then (if aA.length < 2932031007402 then ((some (aA ++ [(⟨5,5,aI,(⟨#[]⟩:ByteArray),0⟩:S49)]:List (S49))).bind fun aD=>(if 0≤x8 then (if x8 < (aD.length:Int) then (spec_l5Nodes.l0 k x0 (aD.set (x8:Int).toNat (⟨(rd_T49 aD x8).f0,(rd_T49 aD x8).f1,(rd_T49 aD x8).f2,(rd_T49 aD x8).f3,wrap64 ((wrap64 ((aD.length:Int) - x8)) - 1)⟩:S49)) (wrap64 (x6 + 1))) else (none)) else (none))) else (none)) else (if 0≤x8 then (if x8 < (aA.length:Int) then (spec_l5Nodes.l0 k x0 (aA.set (x8:Int).toNat (⟨(rd_T49 aA x8).f0,(rd_T49 aA x8).f1,(rd_T49 aA x8).f2,(rd_T49 aA x8).f3,wrap64 ((wrap64 ((aA.length:Int) - x8)) - 1)⟩:S49)) (wrap64 (x6 + 1))) else (none)) else (none)))) else (none))) else (none)) else (if x5.length < 2932031007402 then ((some (x5 ++ [(⟨8,4,0,aG,0⟩:S49)]:List (S49))).bind fun aC=>(if aH=7 then (if aC.length < 2932031007402 then ((some (aC ++ [(⟨5,5,aI,(⟨#[]⟩:ByteArray),0⟩:S49)]:List (S49))).bind fun aE=>(if 0≤x8 then (if x8 < (aE.length:Int) then (spec_l5Nodes.l0 k x0 (aE.set (x8:Int).toNat (⟨(rd_T49 aE x8).f0,(rd_T49 aE x8).f1,(rd_T49 aE x8).f2,(rd_T49 aE x8).f3,wrap64 ((wrap64 ((aE.length:Int) - x8)) - 1)⟩:S49)) (wrap64 (x6 + 1))) else (none)) else (none))) else (none)) else (if 0≤x8 then (if x8 < (aC.length:Int) then (spec_l5Nodes.l0 k x0 (aC.set (x8:Int).toNat (⟨(rd_T49 aC x8).f0,(rd_T49 aC x8).f1,(rd_T49 aC x8).f2,(rd_T49 aC x8).f3,wrap64 ((wrap64 ((aC.length:Int) - x8)) - 1)⟩:S49)) (wrap64 (x6 + 1))) else (none)) else (none)))) else (none))
end
def spec_l5Nodes.f (k:Nat)(l0:List (S84))(a1:Int):Option ((List (S49))):=spec_l5Nodes.l0 k l0 (([(⟨9,a1,12,(⟨#[]⟩:ByteArray),(l0.length:Int)⟩:S49)]:List (S49))) 0
theorem spec_l5Nodes.calls {k : Nat} {A0 : Option Addr} {c0 : Nat} {l0 : List (S84)} {a1 : Int} {r : List (S49)} {w : World} (hr0 : Kd.C k84 w A0 l0.length l0) (gY : l0.length ≤ c0) (h : spec_l5Nodes.f k l0 a1 = some r) :
    Calls Try.prog 23 #[.slice A0 l0.length c0,.int .i64 a1] w fun e w'=>∃ gZ:Value,e=.returned (gZ)∧Kd.R k49 49 w' w.heap.size (fun _=>True) gZ r∧Below w.heap.size w w':=by
 have hu49:=Try.underlying49
 have hu84:=Try.underlying84
 have iP:=am hr0
 have i3:=am gY
 clear hr0 gY
 have HB:=am (Below.refl w.heap.size w)
 have H:=h;clear h;unfold spec_l5Nodes.f at H
 generalize cD:((([(⟨9,a1,12,(⟨#[]⟩:ByteArray),(l0.length:Int)⟩:S49)]:List (S49))):List (S49))=eL at H;have cE:=am cD.symm;clear cD
 have H':=am H;clear H
 go_enter Try.func23,Try.ntmps23
 go_wp2_with (first | ((with_reducible refine gd 13 rfl ?_);refine Kd.R_lit k49 _ 49 ?hg (N:=13) ?hd (xs:=([(⟨9,a1,12,(⟨#[]⟩:ByteArray),(l0.length:Int)⟩:S49)]:List (S49))) (inner:=[.int .i64 9,.int .i64 a1,.int .i64 12,.string ⟨#[]⟩,.int .i64 (l0.length:Int)]) (ok:=fun _=>True) (okp:=fun _=>True) ?hr ?hp (fun _ hk=>hk) trivial (Below.refl _ _) (Nat.le_refl _) (by simp) ?_;(case hd=>rfl);(case hg=>rfl);(case hr=>first | (go_simp;done) | (go_simp;rfl));(case hp=>exact (Reps.c5 (show Kd.M k49 _ _ _ (⟨9,a1,12,(⟨#[]⟩:ByteArray),(l0.length:Int)⟩:S49) [.int .i64 9,.int .i64 a1,.int .i64 12,.string ⟨#[]⟩,.int .i64 (l0.length:Int)] from (k49_mkM _ _ _ (⟨9,a1,12,(⟨#[]⟩:ByteArray),(l0.length:Int)⟩:S49) )) (Reps.none _ _)));intro iQ w3 dG hb hg_ hnew_;clear hg_ hnew_;(first | rw [← cE.out] at dG | (simp only [Int.reduceToNat] at dG;rw [← cE.out] at dG));have dH:=rlb dG HB;replace HB:=bst HB hb;clear hb dG))
 go_loopg [5,6] k (fun kq v5 v6 w'=>∃ (aA:List (S49)) (aD:Int),v6=.int .i64 aD∧Aside0 (spec_l5Nodes.l0 kq l0 aA aD=some r)∧Aside0 (kq≤k)∧Aside0 (Kd.R k49 49 w' w.heap.size (fun _=>True) v5 aA)∧Aside0 (Below w.heap.size w w'))
 case atStart=>exact⟨(eL),(0),sr,H',⟨Nat.le_refl _⟩,⟨rL dH⟩,⟨bL HB⟩⟩
 clear H'
 obtain⟨aA,aD,rfl,HA,bM,aJ,HB⟩:=hrel
 cases gk with
 | zero=>exact absurd HA.out (by simp [spec_l5Nodes.l0])
 | succ k1=>?_
 have H:=HA.out
 clear HA
 simp only [spec_l5Nodes.l0] at H
 replace H:=idc H;obtain⟨dI,H⟩ | ⟨dI,H⟩:=H
 rotate_left
 · cases H
   go_wp2
   go_ret
   exact⟨_,fin_ ⟨rL aJ,bL HB⟩⟩
 replace H:=if_ds H;obtain⟨eM,c7,H⟩:=H
 have eN:=am c7
 clear c7
 replace H:=bsm H;obtain⟨cW,dJ,H⟩:=H
 have eO:=am H
 clear H
 obtain⟨eP,eQ,g2,eR,bN,bO,bP,bQ⟩:=at_T84b HB iP aD;cases eR
 go_upto_if 32 with (first | ((with_reducible refine gd 7 rfl ?_);refine bxv 7 rfl #[.string ⟨#[]⟩,.int .i64 0,.int .i64 0,.int .i64 0] 84 HB ?_;clear HB;intro aU w9 aC g3 g4 HB hg hb;replace aJ:=rbe aJ hb;clear hg hb;obtain⟨bR,bS,bT,bU,bV,bW,bX,bY⟩:=cl4 aC;obtain⟨eS,eT,eU⟩:=Kd.R_slice aJ.out;subst eU) | ((with_reducible refine gate_builtin (b:=.append) (xs:=#[.tmp 26,.tmp 28]) rfl ?_);at_builtin;refine Kd.R_append k49 (w0:=w) w.heap.size rfl (.tmp 26) (.tmp 28) 27 49 (.agg #[(.int .i64 0),(.int .i64 0),(.int .i64 0),(.string ⟨#[]⟩),(.int .i64 0)]) 48 rfl Try.underlying27 info49 rfl (by decide) (by omega) (.slice eS aA.length eT) aA (⟨12,0,0,(⟨#[]⟩:ByteArray),0⟩:S49) [.int .i64 12,.int .i64 0,.int .i64 0,.string ⟨#[]⟩,.int .i64 0] (fun _=>True) (fun _=>False) rfl (by first | (go_simp;done) | (go_simp;rfl)) ?aP (fun _ hk=>hk.elim) ?aF ?aO ?aB ?aS ?aL ?_;(case aP=>exact k49_mkM _ _ _ (⟨12,0,0,(⟨#[]⟩:ByteArray),0⟩:S49));(case aB=>exact (bL HB));(case aF=>exact (fun _ _=>trivial));(case aO=>exact (R_later (Kd.R_mono (Kd.R_far (p:=⟨aU,3,none⟩) (Kd.R_far (p:=⟨aU,2,none⟩) (Kd.R_far (p:=⟨aU,1,none⟩) (Kd.R_far (p:=⟨aU,0,none⟩) (Kd.R_types aJ.out aC.out (by decide)) (fun _ hk=>hk.2) (.string ((rd_T84 l0 aD).f0))) (fun _ hk=>hk.2) (.int .i64 ((rd_T84 l0 aD).f1))) (fun _ hk=>hk.2) (.int .i64 ((rd_T84 l0 aD).f2))) (fun _ hk=>hk.2) (.int .i64 ((rd_T84 l0 aD).f3))) (fun _ hk=>trivial))));(case aS=>exact (below_size (bL HB)));(case aL=>have:=eN.out;omega);intro eV i4 ho hb hg hat;rw [← dJ.out] at ho;have bB:=am ho;replace aC:=am (blk_grown (g:=aU) (o:=.cells #[.string ((rd_T84 l0 aD).f0),.int .i64 ((rd_T84 l0 aD).f1),.int .i64 ((rd_T84 l0 aD).f2),.int .i64 ((rd_T84 l0 aD).f3)] 84 (0,0)) (blk_later aC.out) hg (Kd.R_ne aJ.out aC.out (by decide)));replace HB:=am hb;clear aJ;clear ho hb hg hat;obtain⟨bZ,b6,b7,b8,b9,cA,cB,cC⟩:=cl4 aC))
 (try simp only [Act.put,List.setIfInBounds_toArray,List.set_cons_zero,List.set_cons_succ])
 go_cut [5] (fun v5 wc=>∃ (kq:Nat) (bA:List (S49)),Aside0 (spec_l5Nodes.j1 kq l0 bA aD (aA.length:Int) ((rd_T84 l0 aD).f0) ((rd_T84 l0 aD).f1) ((rd_T84 l0 aD).f2) ((rd_T84 l0 aD).f3)=some r)∧Aside0 (kq≤k1)∧Aside0 (Kd.R k49 49 wc w.heap.size (fun _=>True) v5 bA)∧Aside0 (wc.heap[aU]?=some (.cells #[.string ((rd_T84 l0 aD).f0),.int .i64 ((rd_T84 l0 aD).f1),.int .i64 ((rd_T84 l0 aD).f2),.int .i64 ((rd_T84 l0 aD).f3)] 84 (0,0)))∧Aside0 (Below w.heap.size w wc))
 case first =>
  have H:=eO.out
  clear eO
  replace H:=ieq H;obtain⟨a9,bG,H⟩ | ⟨i5,a9,bG,H⟩:=H
  · (first | rw [a9] | rw [bG] | (simp only [i64_w,i32_w];rw [a9]) | skip)
    have H':=am H;clear H
    go_wp2
    go_meet
    case rel=>exact⟨_,(cW),H',⟨by have:=bM.out;first | omega | exact Nat.le_refl _⟩,⟨rL bB⟩,⟨kL aC⟩,⟨bL HB⟩⟩
  (first | rw [a9] | rw [bG] | (simp only [i64_w,i32_w];rw [a9]) | skip)
  replace H:=ifs H;obtain⟨g6,H⟩:=H
  have dK:=am g6
  clear g6
  generalize cF:((cW ++ [(⟨5,1,(rd_T84 l0 aD).f1,(⟨#[]⟩:ByteArray),0⟩:S49)]):List (S49))=eW at H;have dL:=am cF.symm;clear cF
  have H':=am H;clear H
  obtain⟨_,_,_,_,_,_,_,_⟩:=cl4 aC
  go_wp2_with (first | ((with_reducible refine gate_builtin (b:=.append) (xs:=#[.tmp 33,.tmp 37]) rfl ?_);at_builtin;refine Kd.R_append k49 (w0:=w) w.heap.size rfl (.tmp 33) (.tmp 37) 27 49 (.agg #[(.int .i64 0),(.int .i64 0),(.int .i64 0),(.string ⟨#[]⟩),(.int .i64 0)]) 48 rfl Try.underlying27 info49 rfl (by decide) (by omega) eV cW (⟨5,1,(rd_T84 l0 aD).f1,(⟨#[]⟩:ByteArray),0⟩:S49) [.int .i64 5,.int .i64 1,.int .i64 ((rd_T84 l0 aD).f1),.string ⟨#[]⟩,.int .i64 0] (fun _=>True) (fun _=>False) rfl rfl ?aP (fun _ hk=>hk.elim) ?aF ?aO ?aB ?aS ?aL ?_;(case aP=>exact k49_mkM _ _ _ (⟨5,1,(rd_T84 l0 aD).f1,(⟨#[]⟩:ByteArray),0⟩:S49));(case aB=>exact (bL HB));(case aF=>exact (fun _ _=>trivial));(case aO=>exact (rL bB));(case aS=>exact (below_size (bL HB)));(case aL=>have:=dK.out;omega);intro iR i6 ho hb hg hat;rw [← dL.out] at ho;have dM:=am ho;replace aC:=bgr aC hg bB;replace HB:=am hb;clear bB;clear ho hb hg hat))
  go_meet
  case rel=>exact⟨_,(eW),H',⟨by have:=bM.out;first | omega | exact Nat.le_refl _⟩,⟨rL dM⟩,⟨kL aC⟩,⟨bL HB⟩⟩
 clear eO
 try clear c5 dI eM c7 bR bS bT bU bZ b6 b7 b8 bV bW bX bY b9 cA cB cC bN bO bP bQ eP eQ
 obtain⟨kq,bA,HA,cG,aJ,aC,HB⟩:=hcut
 cases kq with
 | zero=>exact absurd HA.out (by simp [spec_l5Nodes.j1])
 | succ kj7=>?_
 have H:=HA.out
 clear HA
 simp only [spec_l5Nodes.j1] at H
 replace H:=igt H;obtain⟨dN,H⟩ | ⟨dN,H⟩:=H
 rotate_left
 · replace H:=ifs H;obtain⟨g7,H⟩:=H
   have cH:=am g7
   clear g7
   replace H:=bsm H;obtain⟨aE,cI,H⟩:=H
   replace H:=ieq H;obtain⟨dO,dP,H⟩ | ⟨i7,dO,dP,H⟩:=H
   rotate_left
   · replace H:=ifs H;obtain⟨g8,H⟩:=H
     have g9:=decide_eq_true g8
     have hD:decide (0≤aA.length)=true:=decide_eq_true (by omega)
     clear g8
     replace H:=ifs H;obtain⟨eX,H⟩:=H
     have hJ:=decide_eq_true eX
     have hU:decide (aA.length < aE.length)=true:=decide_eq_true (Int.ofNat_lt.mp eX)
     clear eX
     generalize cJ:((aE.set ((aA.length:Int):Int).toNat (⟨(rd_T49 aE (aA.length:Int)).f0,(rd_T49 aE (aA.length:Int)).f1,(rd_T49 aE (aA.length:Int)).f2,(rd_T49 aE (aA.length:Int)).f3,wrap64 ((wrap64 ((aE.length:Int) - (aA.length:Int))) - 1)⟩:S49)):List (S49))=dQ at H;have dR:=am cJ.symm;clear cJ
     have H':=am H;clear H
     obtain⟨_,_,_,_,_,_,_,_⟩:=cl4 aC
     go_wp2_with (first | ((with_reducible refine gate_builtin (b:=.append) (xs:=#[.tmp 47,.tmp 51]) rfl ?_);at_builtin;refine Kd.R_append k49 (w0:=w) w.heap.size rfl (.tmp 47) (.tmp 51) 27 49 (.agg #[(.int .i64 0),(.int .i64 0),(.int .i64 0),(.string ⟨#[]⟩),(.int .i64 0)]) 48 rfl Try.underlying27 info49 rfl (by decide) (by omega) u5 bA (⟨8,4,0,((rd_T84 l0 aD).f0),0⟩:S49) [.int .i64 8,.int .i64 4,.int .i64 0,.string ((rd_T84 l0 aD).f0),.int .i64 0] (fun _=>True) (fun _=>False) rfl rfl ?aP (fun _ hk=>hk.elim) ?aF ?aO ?aB ?aS ?aL ?_;(case aP=>exact k49_mkM _ _ _ (⟨8,4,0,((rd_T84 l0 aD).f0),0⟩:S49));(case aB=>exact (bL HB));(case aF=>exact (fun _ _=>trivial));(case aO=>exact (rL aJ));(case aS=>exact (below_size (bL HB)));(case aL=>have:=cH.out;omega);intro dS bC ho hb hg hat;rw [← cI.out] at ho;have aK:=am ho;replace aC:=bgr aC hg aJ;replace HB:=am hb;clear aJ;clear ho hb hg hat;obtain⟨_,_,_,_,_,_,_,_⟩:=cl4 aC;obtain⟨iS,dT,eY⟩:=Kd.R_slice aK.out;subst eY;have eZ:0≤((aA.length:Int):Int):=dcd;have e5:((aA.length:Int):Int) < ((aE.length:Int):Int):=dcd;obtain⟨go61,iT,dU,dV,gl61,cl61,HG61⟩:=Kd.R_form aK.out (by omega);(first | cases dU | (injection dU with ea_ en_ ec_;(first | subst ea_ | (injection ea_ with ea_;subst ea_));subst ec_;clear en_));have GB61:=am dV;have GG61:=am HG61;clear dV gl61 HG61;obtain⟨ce61,hcl61,hM61,aV,aW⟩:=Kd.R_elem aK.out z49 ((aA.length:Int):Int) eZ e5;obtain rfl:=k49_openM hM61;have e6:bC.cell? ⟨go61,((aA.length:Int):Int).toNat * 5,none⟩=some (.int .i64 ((rd_T49 aE (aA.length:Int)).f0)):=aV 0 _ rfl;have e7:bC.cell? ⟨go61,((aA.length:Int):Int).toNat * 5 + 1,none⟩=some (.int .i64 ((rd_T49 aE (aA.length:Int)).f1)):=aV 1 _ rfl;have e8:bC.cell? ⟨go61,((aA.length:Int):Int).toNat * 5 + 2,none⟩=some (.int .i64 ((rd_T49 aE (aA.length:Int)).f2)):=aV 2 _ rfl;have e9:bC.cell? ⟨go61,((aA.length:Int):Int).toNat * 5 + 3,none⟩=some (.string ((rd_T49 aE (aA.length:Int)).f3)):=aV 3 _ rfl;have fA:bC.cell? ⟨go61,((aA.length:Int):Int).toNat * 5 + 4,none⟩=some (.int .i64 ((rd_T49 aE (aA.length:Int)).f4)):=aV 4 _ rfl;have fB:bC.frozen? ⟨go61,((aA.length:Int):Int).toNat * 5,none⟩=false:=aW 0;have fC:bC.frozen? ⟨go61,((aA.length:Int):Int).toNat * 5 + 1,none⟩=false:=aW 1;have fD:bC.frozen? ⟨go61,((aA.length:Int):Int).toNat * 5 + 2,none⟩=false:=aW 2;have fE:bC.frozen? ⟨go61,((aA.length:Int):Int).toNat * 5 + 3,none⟩=false:=aW 3;have fF:bC.frozen? ⟨go61,((aA.length:Int):Int).toNat * 5 + 4,none⟩=false:=aW 4;clear hcl61 aV aW hM61;replace eZ:=eq_true eZ;replace e5:=eq_true e5;have HX66:=am (show Kd.R k49 49 bC w.heap.size (fun _=>True) (.slice (some ⟨go61,0,none⟩) aE.length dT) aE from (rL aK));obtain⟨ce66,hcl66,hM66,bH,cK⟩:=Kd.R_elem HX66.out z49 ((aA.length:Int):Int) (dcd) (by have h_:((aA.length:Int):Int) < ((aE.length:Int):Int):=dcd;first | exact h_ | (have e_:=(Kd.R_reads' aK.out).1;omega) | simpa using h_);obtain rfl:=k49_openM hM66;have HP66:=Kd.R_seg HX66.out ((aA.length:Int):Int) (dcd) (by have h_:((aA.length:Int):Int) < ((aE.length:Int):Int):=dcd;first | exact h_ | (have e_:=(Kd.R_reads' aK.out).1;omega) | simpa using h_) (seg:=[.int .i64 (wrap64 ((wrap64 ((aE.length:Int) - (aA.length:Int))) - 1))]) (j:=4) hcl66 bH (show 5≤5 from by decide) (x':=(⟨(rd_T49 aE (aA.length:Int)).f0,(rd_T49 aE (aA.length:Int)).f1,(rd_T49 aE (aA.length:Int)).f2,(rd_T49 aE (aA.length:Int)).f3,wrap64 ((wrap64 ((aE.length:Int) - (aA.length:Int))) - 1)⟩:S49)) (k49_mkM _ _ _ (⟨(rd_T49 aE (aA.length:Int)).f0,(rd_T49 aE (aA.length:Int)).f1,(rd_T49 aE (aA.length:Int)).f2,(rd_T49 aE (aA.length:Int)).f3,wrap64 ((wrap64 ((aE.length:Int) - (aA.length:Int))) - 1)⟩:S49) ) (fun _ hk=>hk);have cX:=bH 4 _ rfl;(try simp only [show (k49).sz=5 from rfl,Nat.mul_one,Nat.add_zero,Int.toNat_natCast] at cX);have cY:=cK 4;(try simp only [show (k49).sz=5 from rfl,Nat.mul_one,Nat.add_zero,Int.toNat_natCast] at cY);clear hcl66 bH cK hM66) | ((with_reducible refine gate_store (t:=3) (p:=70) rfl ?_);refine st_ 3 70 (bC.setCell ⟨go61,((aA.length:Int):Int).toNat * 5 + 4,none⟩ (.int .i64 (wrap64 ((wrap64 ((aE.length:Int) - (aA.length:Int))) - 1)))) ?_;intro fG hw;have hg:bC.grownBy fG (some go61):=(by rw [hw];exact HP66.2);have hp_:Kd.R k49 49 fG w.heap.size (fun _=>True) (.slice (some ⟨go61,0,none⟩) aE.length dT) dQ:=(by rw [hw,dR.out];exact HP66.1);clear HP66;replace aC:=bgr aC hg aK;replace aK:=am hp_;replace HB:=am ((by rw [hw];exact below_set (HB.out) GB61.out:Below w.heap.size w fG));clear hg hw hp_))
     go_roundg kj7
     case measure=>have:=bM.out;have:=cG.out;omega
     case rel=>exact⟨(dQ),(wrap64 (aD + 1)),sr,H',⟨by have:=bM.out;have:=cG.out;omega⟩,⟨rL aK⟩,⟨bL HB⟩⟩
   replace H:=ifs H;obtain⟨hV,H⟩:=H
   have dW:=am hV
   clear hV
   replace H:=bsm H;obtain⟨aH,dX,H⟩:=H
   replace H:=ifs H;obtain⟨hX,H⟩:=H
   have hY:=decide_eq_true hX
   have hZ:decide (0≤aA.length)=true:=decide_eq_true (by omega)
   clear hX
   replace H:=ifs H;obtain⟨fH,H⟩:=H
   have iA:=decide_eq_true fH
   have iB:decide (aA.length < aH.length)=true:=decide_eq_true (Int.ofNat_lt.mp fH)
   clear fH
   generalize cM:((aH.set ((aA.length:Int):Int).toNat (⟨(rd_T49 aH (aA.length:Int)).f0,(rd_T49 aH (aA.length:Int)).f1,(rd_T49 aH (aA.length:Int)).f2,(rd_T49 aH (aA.length:Int)).f3,wrap64 ((wrap64 ((aH.length:Int) - (aA.length:Int))) - 1)⟩:S49)):List (S49))=dY at H;have dZ:=am cM.symm;clear cM
   have H':=am H;clear H
   obtain⟨_,_,_,_,_,_,_,_⟩:=cl4 aC
   go_wp2_with (first | ((with_reducible refine gate_builtin (b:=.append) (xs:=#[.tmp 47,.tmp 51]) rfl ?_);at_builtin;refine Kd.R_append k49 (w0:=w) w.heap.size rfl (.tmp 47) (.tmp 51) 27 49 (.agg #[(.int .i64 0),(.int .i64 0),(.int .i64 0),(.string ⟨#[]⟩),(.int .i64 0)]) 48 rfl Try.underlying27 info49 rfl (by decide) (by omega) u5 bA (⟨8,4,0,((rd_T84 l0 aD).f0),0⟩:S49) [.int .i64 8,.int .i64 4,.int .i64 0,.string ((rd_T84 l0 aD).f0),.int .i64 0] (fun _=>True) (fun _=>False) rfl rfl ?aP (fun _ hk=>hk.elim) ?aF ?aO ?aB ?aS ?aL ?_;(case aP=>exact k49_mkM _ _ _ (⟨8,4,0,((rd_T84 l0 aD).f0),0⟩:S49));(case aB=>exact (bL HB));(case aF=>exact (fun _ _=>trivial));(case aO=>exact (rL aJ));(case aS=>exact (below_size (bL HB)));(case aL=>have:=cH.out;omega);intro dS i8 ho hb hg hat;rw [← cI.out] at ho;have aK:=am ho;replace aC:=bgr aC hg aJ;replace HB:=am hb;clear aJ;clear ho hb hg hat;obtain⟨_,_,_,_,_,_,_,_⟩:=cl4 aC) | ((with_reducible refine gate_builtin (b:=.append) (xs:=#[.tmp 56,.tmp 60]) rfl ?_);at_builtin;refine Kd.R_append k49 (w0:=w) w.heap.size rfl (.tmp 56) (.tmp 60) 27 49 (.agg #[(.int .i64 0),(.int .i64 0),(.int .i64 0),(.string ⟨#[]⟩),(.int .i64 0)]) 48 rfl Try.underlying27 info49 rfl (by decide) (by omega) dS aE (⟨5,5,((rd_T84 l0 aD).f3),(⟨#[]⟩:ByteArray),0⟩:S49) [.int .i64 5,.int .i64 5,.int .i64 ((rd_T84 l0 aD).f3),.string ⟨#[]⟩,.int .i64 0] (fun _=>True) (fun _=>False) rfl rfl ?aP (fun _ hk=>hk.elim) ?aF ?aO ?aB ?aS ?aL ?_;(case aP=>exact k49_mkM _ _ _ (⟨5,5,((rd_T84 l0 aD).f3),(⟨#[]⟩:ByteArray),0⟩:S49));(case aB=>exact (bL HB));(case aF=>exact (fun _ _=>trivial));(case aO=>exact (rL aK));(case aS=>exact (below_size (bL HB)));(case aL=>have:=dW.out;omega);intro iU bD ho hb hg hat;rw [← dX.out] at ho;have aN:=am ho;replace aC:=bgr aC hg aK;replace HB:=am hb;clear aK;clear ho hb hg hat;obtain⟨iV,d2,fI⟩:=Kd.R_slice aN.out;subst fI;have fJ:0≤((aA.length:Int):Int):=dcd;have fK:((aA.length:Int):Int) < ((aH.length:Int):Int):=dcd;obtain⟨go51,iW,d3,d4,gl51,cl51,HG51⟩:=Kd.R_form aN.out (by omega);(first | cases d3 | (injection d3 with ea_ en_ ec_;(first | subst ea_ | (injection ea_ with ea_;subst ea_));subst ec_;clear en_));have GB51:=am d4;have GG51:=am HG51;clear d4 gl51 HG51;obtain⟨ce51,hcl51,hM51,aX,aY⟩:=Kd.R_elem aN.out z49 ((aA.length:Int):Int) fJ fK;obtain rfl:=k49_openM hM51;have fL:bD.cell? ⟨go51,((aA.length:Int):Int).toNat * 5,none⟩=some (.int .i64 ((rd_T49 aH (aA.length:Int)).f0)):=aX 0 _ rfl;have fM:bD.cell? ⟨go51,((aA.length:Int):Int).toNat * 5 + 1,none⟩=some (.int .i64 ((rd_T49 aH (aA.length:Int)).f1)):=aX 1 _ rfl;have fN:bD.cell? ⟨go51,((aA.length:Int):Int).toNat * 5 + 2,none⟩=some (.int .i64 ((rd_T49 aH (aA.length:Int)).f2)):=aX 2 _ rfl;have fO:bD.cell? ⟨go51,((aA.length:Int):Int).toNat * 5 + 3,none⟩=some (.string ((rd_T49 aH (aA.length:Int)).f3)):=aX 3 _ rfl;have fP:bD.cell? ⟨go51,((aA.length:Int):Int).toNat * 5 + 4,none⟩=some (.int .i64 ((rd_T49 aH (aA.length:Int)).f4)):=aX 4 _ rfl;have fQ:bD.frozen? ⟨go51,((aA.length:Int):Int).toNat * 5,none⟩=false:=aY 0;have fR:bD.frozen? ⟨go51,((aA.length:Int):Int).toNat * 5 + 1,none⟩=false:=aY 1;have fS:bD.frozen? ⟨go51,((aA.length:Int):Int).toNat * 5 + 2,none⟩=false:=aY 2;have fT:bD.frozen? ⟨go51,((aA.length:Int):Int).toNat * 5 + 3,none⟩=false:=aY 3;have fU:bD.frozen? ⟨go51,((aA.length:Int):Int).toNat * 5 + 4,none⟩=false:=aY 4;clear hcl51 aX aY hM51;replace fJ:=eq_true fJ;replace fK:=eq_true fK;have HX57:=am (show Kd.R k49 49 bD w.heap.size (fun _=>True) (.slice (some ⟨go51,0,none⟩) aH.length d2) aH from (rL aN));obtain⟨ce57,hcl57,hM57,bI,cN⟩:=Kd.R_elem HX57.out z49 ((aA.length:Int):Int) (dcd) (by have h_:((aA.length:Int):Int) < ((aH.length:Int):Int):=dcd;first | exact h_ | (have e_:=(Kd.R_reads' aN.out).1;omega) | simpa using h_);obtain rfl:=k49_openM hM57;have HP57:=Kd.R_seg HX57.out ((aA.length:Int):Int) (dcd) (by have h_:((aA.length:Int):Int) < ((aH.length:Int):Int):=dcd;first | exact h_ | (have e_:=(Kd.R_reads' aN.out).1;omega) | simpa using h_) (seg:=[.int .i64 (wrap64 ((wrap64 ((aH.length:Int) - (aA.length:Int))) - 1))]) (j:=4) hcl57 bI (show 5≤5 from by decide) (x':=(⟨(rd_T49 aH (aA.length:Int)).f0,(rd_T49 aH (aA.length:Int)).f1,(rd_T49 aH (aA.length:Int)).f2,(rd_T49 aH (aA.length:Int)).f3,wrap64 ((wrap64 ((aH.length:Int) - (aA.length:Int))) - 1)⟩:S49)) (k49_mkM _ _ _ (⟨(rd_T49 aH (aA.length:Int)).f0,(rd_T49 aH (aA.length:Int)).f1,(rd_T49 aH (aA.length:Int)).f2,(rd_T49 aH (aA.length:Int)).f3,wrap64 ((wrap64 ((aH.length:Int) - (aA.length:Int))) - 1)⟩:S49) ) (fun _ hk=>hk);have cZ:=bI 4 _ rfl;(try simp only [show (k49).sz=5 from rfl,Nat.mul_one,Nat.add_zero,Int.toNat_natCast] at cZ);have dA:=cN 4;(try simp only [show (k49).sz=5 from rfl,Nat.mul_one,Nat.add_zero,Int.toNat_natCast] at dA);clear hcl57 bI cN hM57) | ((with_reducible refine gate_store (t:=3) (p:=70) rfl ?_);refine st_ 3 70 (bD.setCell ⟨go51,((aA.length:Int):Int).toNat * 5 + 4,none⟩ (.int .i64 (wrap64 ((wrap64 ((aH.length:Int) - (aA.length:Int))) - 1)))) ?_;intro fV hw;have hg:bD.grownBy fV (some go51):=(by rw [hw];exact HP57.2);have hp_:Kd.R k49 49 fV w.heap.size (fun _=>True) (.slice (some ⟨go51,0,none⟩) aH.length d2) dY:=(by rw [hw,dZ.out];exact HP57.1);clear HP57;replace aC:=bgr aC hg aN;replace aN:=am hp_;replace HB:=am ((by rw [hw];exact below_set (HB.out) GB51.out:Below w.heap.size w fV));clear hg hw hp_))
   go_roundg kj7
   case measure=>have:=bM.out;have:=cG.out;omega
   case rel=>exact⟨(dY),(wrap64 (aD + 1)),sr,H',⟨by have:=bM.out;have:=cG.out;omega⟩,⟨rL aN⟩,⟨bL HB⟩⟩
 replace H:=ifs H;obtain⟨iC,H⟩:=H
 have cO:=am iC
 clear iC
 replace H:=bsm H;obtain⟨d5,cP,H⟩:=H
 replace H:=ifs H;obtain⟨iD,H⟩:=H
 have cQ:=am iD
 clear iD
 replace H:=bsm H;obtain⟨aG,cR,H⟩:=H
 replace H:=ieq H;obtain⟨d6,d7,H⟩ | ⟨i9,d6,d7,H⟩:=H
 rotate_left
 · replace H:=ifs H;obtain⟨iE,H⟩:=H
   have iF:=decide_eq_true iE
   have iG:decide (0≤aA.length)=true:=decide_eq_true (by omega)
   clear iE
   replace H:=ifs H;obtain⟨fW,H⟩:=H
   have iH:=decide_eq_true fW
   have iI:decide (aA.length < aG.length)=true:=decide_eq_true (Int.ofNat_lt.mp fW)
   clear fW
   generalize cS:((aG.set ((aA.length:Int):Int).toNat (⟨(rd_T49 aG (aA.length:Int)).f0,(rd_T49 aG (aA.length:Int)).f1,(rd_T49 aG (aA.length:Int)).f2,(rd_T49 aG (aA.length:Int)).f3,wrap64 ((wrap64 ((aG.length:Int) - (aA.length:Int))) - 1)⟩:S49)):List (S49))=d8 at H;have d9:=am cS.symm;clear cS
   have H':=am H;clear H
   obtain⟨_,_,_,_,_,_,_,_⟩:=cl4 aC
   go_wp2_with (first | ((with_reducible refine gate_builtin (b:=.append) (xs:=#[.tmp 41,.tmp 45]) rfl ?_);at_builtin;refine Kd.R_append k49 (w0:=w) w.heap.size rfl (.tmp 41) (.tmp 45) 27 49 (.agg #[(.int .i64 0),(.int .i64 0),(.int .i64 0),(.string ⟨#[]⟩),(.int .i64 0)]) 48 rfl Try.underlying27 info49 rfl (by decide) (by omega) u5 bA (⟨5,3,((rd_T84 l0 aD).f2),(⟨#[]⟩:ByteArray),0⟩:S49) [.int .i64 5,.int .i64 3,.int .i64 ((rd_T84 l0 aD).f2),.string ⟨#[]⟩,.int .i64 0] (fun _=>True) (fun _=>False) rfl rfl ?aP (fun _ hk=>hk.elim) ?aF ?aO ?aB ?aS ?aL ?_;(case aP=>exact k49_mkM _ _ _ (⟨5,3,((rd_T84 l0 aD).f2),(⟨#[]⟩:ByteArray),0⟩:S49));(case aB=>exact (bL HB));(case aF=>exact (fun _ _=>trivial));(case aO=>exact (rL aJ));(case aS=>exact (below_size (bL HB)));(case aL=>have:=cO.out;omega);intro dB jA ho hb hg hat;rw [← cP.out] at ho;have aT:=am ho;replace aC:=bgr aC hg aJ;replace HB:=am hb;clear aJ;clear ho hb hg hat;obtain⟨_,_,_,_,_,_,_,_⟩:=cl4 aC) | ((with_reducible refine gate_builtin (b:=.append) (xs:=#[.tmp 47,.tmp 51]) rfl ?_);at_builtin;refine Kd.R_append k49 (w0:=w) w.heap.size rfl (.tmp 47) (.tmp 51) 27 49 (.agg #[(.int .i64 0),(.int .i64 0),(.int .i64 0),(.string ⟨#[]⟩),(.int .i64 0)]) 48 rfl Try.underlying27 info49 rfl (by decide) (by omega) dB d5 (⟨8,4,0,((rd_T84 l0 aD).f0),0⟩:S49) [.int .i64 8,.int .i64 4,.int .i64 0,.string ((rd_T84 l0 aD).f0),.int .i64 0] (fun _=>True) (fun _=>False) rfl rfl ?aP (fun _ hk=>hk.elim) ?aF ?aO ?aB ?aS ?aL ?_;(case aP=>exact k49_mkM _ _ _ (⟨8,4,0,((rd_T84 l0 aD).f0),0⟩:S49));(case aB=>exact (bL HB));(case aF=>exact (fun _ _=>trivial));(case aO=>exact (rL aT));(case aS=>exact (below_size (bL HB)));(case aL=>have:=cQ.out;omega);intro eA bE ho hb hg hat;rw [← cR.out] at ho;have aM:=am ho;replace aC:=bgr aC hg aT;replace HB:=am hb;clear aT;clear ho hb hg hat;obtain⟨_,_,_,_,_,_,_,_⟩:=cl4 aC;obtain⟨iX,eB,fX⟩:=Kd.R_slice aM.out;subst fX;have fY:0≤((aA.length:Int):Int):=dcd;have fZ:((aA.length:Int):Int) < ((aG.length:Int):Int):=dcd;obtain⟨go37,iY,eC,eD,gl37,cl37,HG37⟩:=Kd.R_form aM.out (by omega);(first | cases eC | (injection eC with ea_ en_ ec_;(first | subst ea_ | (injection ea_ with ea_;subst ea_));subst ec_;clear en_));have GB37:=am eD;have GG37:=am HG37;clear eD gl37 HG37;obtain⟨ce37,hcl37,hM37,aZ,a6⟩:=Kd.R_elem aM.out z49 ((aA.length:Int):Int) fY fZ;obtain rfl:=k49_openM hM37;have f7:bE.cell? ⟨go37,((aA.length:Int):Int).toNat * 5,none⟩=some (.int .i64 ((rd_T49 aG (aA.length:Int)).f0)):=aZ 0 _ rfl;have f9:bE.cell? ⟨go37,((aA.length:Int):Int).toNat * 5 + 1,none⟩=some (.int .i64 ((rd_T49 aG (aA.length:Int)).f1)):=aZ 1 _ rfl;have gA:bE.cell? ⟨go37,((aA.length:Int):Int).toNat * 5 + 2,none⟩=some (.int .i64 ((rd_T49 aG (aA.length:Int)).f2)):=aZ 2 _ rfl;have gB:bE.cell? ⟨go37,((aA.length:Int):Int).toNat * 5 + 3,none⟩=some (.string ((rd_T49 aG (aA.length:Int)).f3)):=aZ 3 _ rfl;have gC:bE.cell? ⟨go37,((aA.length:Int):Int).toNat * 5 + 4,none⟩=some (.int .i64 ((rd_T49 aG (aA.length:Int)).f4)):=aZ 4 _ rfl;have gD:bE.frozen? ⟨go37,((aA.length:Int):Int).toNat * 5,none⟩=false:=a6 0;have gE:bE.frozen? ⟨go37,((aA.length:Int):Int).toNat * 5 + 1,none⟩=false:=a6 1;have gF:bE.frozen? ⟨go37,((aA.length:Int):Int).toNat * 5 + 2,none⟩=false:=a6 2;have gG:bE.frozen? ⟨go37,((aA.length:Int):Int).toNat * 5 + 3,none⟩=false:=a6 3;have gH:bE.frozen? ⟨go37,((aA.length:Int):Int).toNat * 5 + 4,none⟩=false:=a6 4;clear hcl37 aZ a6 hM37;replace fY:=eq_true fY;replace fZ:=eq_true fZ;have HX44:=am (show Kd.R k49 49 bE w.heap.size (fun _=>True) (.slice (some ⟨go37,0,none⟩) aG.length eB) aG from (rL aM));obtain⟨ce44,hcl44,hM44,bJ,cT⟩:=Kd.R_elem HX44.out z49 ((aA.length:Int):Int) (dcd) (by have h_:((aA.length:Int):Int) < ((aG.length:Int):Int):=dcd;first | exact h_ | (have e_:=(Kd.R_reads' aM.out).1;omega) | simpa using h_);obtain rfl:=k49_openM hM44;have HP44:=Kd.R_seg HX44.out ((aA.length:Int):Int) (dcd) (by have h_:((aA.length:Int):Int) < ((aG.length:Int):Int):=dcd;first | exact h_ | (have e_:=(Kd.R_reads' aM.out).1;omega) | simpa using h_) (seg:=[.int .i64 (wrap64 ((wrap64 ((aG.length:Int) - (aA.length:Int))) - 1))]) (j:=4) hcl44 bJ (show 5≤5 from by decide) (x':=(⟨(rd_T49 aG (aA.length:Int)).f0,(rd_T49 aG (aA.length:Int)).f1,(rd_T49 aG (aA.length:Int)).f2,(rd_T49 aG (aA.length:Int)).f3,wrap64 ((wrap64 ((aG.length:Int) - (aA.length:Int))) - 1)⟩:S49)) (k49_mkM _ _ _ (⟨(rd_T49 aG (aA.length:Int)).f0,(rd_T49 aG (aA.length:Int)).f1,(rd_T49 aG (aA.length:Int)).f2,(rd_T49 aG (aA.length:Int)).f3,wrap64 ((wrap64 ((aG.length:Int) - (aA.length:Int))) - 1)⟩:S49) ) (fun _ hk=>hk);have dC:=bJ 4 _ rfl;(try simp only [show (k49).sz=5 from rfl,Nat.mul_one,Nat.add_zero,Int.toNat_natCast] at dC);have dD:=cT 4;(try simp only [show (k49).sz=5 from rfl,Nat.mul_one,Nat.add_zero,Int.toNat_natCast] at dD);clear hcl44 bJ cT hM44) | ((with_reducible refine gate_store (t:=3) (p:=70) rfl ?_);refine st_ 3 70 (bE.setCell ⟨go37,((aA.length:Int):Int).toNat * 5 + 4,none⟩ (.int .i64 (wrap64 ((wrap64 ((aG.length:Int) - (aA.length:Int))) - 1)))) ?_;intro gI hw;have hg:bE.grownBy gI (some go37):=(by rw [hw];exact HP44.2);have hp_:Kd.R k49 49 gI w.heap.size (fun _=>True) (.slice (some ⟨go37,0,none⟩) aG.length eB) d8:=(by rw [hw,d9.out];exact HP44.1);clear HP44;replace aC:=bgr aC hg aM;replace aM:=am hp_;replace HB:=am ((by rw [hw];exact below_set (HB.out) GB37.out:Below w.heap.size w gI));clear hg hw hp_))
   go_roundg kj7
   case measure=>have:=bM.out;have:=cG.out;omega
   case rel=>exact⟨(d8),(wrap64 (aD + 1)),sr,H',⟨by have:=bM.out;have:=cG.out;omega⟩,⟨rL aM⟩,⟨bL HB⟩⟩
 replace H:=ifs H;obtain⟨iJ,H⟩:=H
 have eE:=am iJ
 clear iJ
 replace H:=bsm H;obtain⟨aI,eF,H⟩:=H
 replace H:=ifs H;obtain⟨iK,H⟩:=H
 have iL:=decide_eq_true iK
 have iM:decide (0≤aA.length)=true:=decide_eq_true (by omega)
 clear iK
 replace H:=ifs H;obtain⟨gJ,H⟩:=H
 have iN:=decide_eq_true gJ
 have iO:decide (aA.length < aI.length)=true:=decide_eq_true (Int.ofNat_lt.mp gJ)
 clear gJ
 generalize cU:((aI.set ((aA.length:Int):Int).toNat (⟨(rd_T49 aI (aA.length:Int)).f0,(rd_T49 aI (aA.length:Int)).f1,(rd_T49 aI (aA.length:Int)).f2,(rd_T49 aI (aA.length:Int)).f3,wrap64 ((wrap64 ((aI.length:Int) - (aA.length:Int))) - 1)⟩:S49)):List (S49))=eG at H;have eH:=am cU.symm;clear cU
 have H':=am H;clear H
 obtain⟨_,_,_,_,_,_,_,_⟩:=cl4 aC
 go_wp2_with (first | ((with_reducible refine gate_builtin (b:=.append) (xs:=#[.tmp 41,.tmp 45]) rfl ?_);at_builtin;refine Kd.R_append k49 (w0:=w) w.heap.size rfl (.tmp 41) (.tmp 45) 27 49 (.agg #[(.int .i64 0),(.int .i64 0),(.int .i64 0),(.string ⟨#[]⟩),(.int .i64 0)]) 48 rfl Try.underlying27 info49 rfl (by decide) (by omega) u5 bA (⟨5,3,((rd_T84 l0 aD).f2),(⟨#[]⟩:ByteArray),0⟩:S49) [.int .i64 5,.int .i64 3,.int .i64 ((rd_T84 l0 aD).f2),.string ⟨#[]⟩,.int .i64 0] (fun _=>True) (fun _=>False) rfl rfl ?aP (fun _ hk=>hk.elim) ?aF ?aO ?aB ?aS ?aL ?_;(case aP=>exact k49_mkM _ _ _ (⟨5,3,((rd_T84 l0 aD).f2),(⟨#[]⟩:ByteArray),0⟩:S49));(case aB=>exact (bL HB));(case aF=>exact (fun _ _=>trivial));(case aO=>exact (rL aJ));(case aS=>exact (below_size (bL HB)));(case aL=>have:=cO.out;omega);intro dB jB ho hb hg hat;rw [← cP.out] at ho;have aT:=am ho;replace aC:=bgr aC hg aJ;replace HB:=am hb;clear aJ;clear ho hb hg hat;obtain⟨_,_,_,_,_,_,_,_⟩:=cl4 aC) | ((with_reducible refine gate_builtin (b:=.append) (xs:=#[.tmp 47,.tmp 51]) rfl ?_);at_builtin;refine Kd.R_append k49 (w0:=w) w.heap.size rfl (.tmp 47) (.tmp 51) 27 49 (.agg #[(.int .i64 0),(.int .i64 0),(.int .i64 0),(.string ⟨#[]⟩),(.int .i64 0)]) 48 rfl Try.underlying27 info49 rfl (by decide) (by omega) dB d5 (⟨8,4,0,((rd_T84 l0 aD).f0),0⟩:S49) [.int .i64 8,.int .i64 4,.int .i64 0,.string ((rd_T84 l0 aD).f0),.int .i64 0] (fun _=>True) (fun _=>False) rfl rfl ?aP (fun _ hk=>hk.elim) ?aF ?aO ?aB ?aS ?aL ?_;(case aP=>exact k49_mkM _ _ _ (⟨8,4,0,((rd_T84 l0 aD).f0),0⟩:S49));(case aB=>exact (bL HB));(case aF=>exact (fun _ _=>trivial));(case aO=>exact (rL aT));(case aS=>exact (below_size (bL HB)));(case aL=>have:=cQ.out;omega);intro eA jC ho hb hg hat;rw [← cR.out] at ho;have aM:=am ho;replace aC:=bgr aC hg aT;replace HB:=am hb;clear aT;clear ho hb hg hat;obtain⟨_,_,_,_,_,_,_,_⟩:=cl4 aC) | ((with_reducible refine gate_builtin (b:=.append) (xs:=#[.tmp 56,.tmp 60]) rfl ?_);at_builtin;refine Kd.R_append k49 (w0:=w) w.heap.size rfl (.tmp 56) (.tmp 60) 27 49 (.agg #[(.int .i64 0),(.int .i64 0),(.int .i64 0),(.string ⟨#[]⟩),(.int .i64 0)]) 48 rfl Try.underlying27 info49 rfl (by decide) (by omega) eA aG (⟨5,5,((rd_T84 l0 aD).f3),(⟨#[]⟩:ByteArray),0⟩:S49) [.int .i64 5,.int .i64 5,.int .i64 ((rd_T84 l0 aD).f3),.string ⟨#[]⟩,.int .i64 0] (fun _=>True) (fun _=>False) rfl rfl ?aP (fun _ hk=>hk.elim) ?aF ?aO ?aB ?aS ?aL ?_;(case aP=>exact k49_mkM _ _ _ (⟨5,5,((rd_T84 l0 aD).f3),(⟨#[]⟩:ByteArray),0⟩:S49));(case aB=>exact (bL HB));(case aF=>exact (fun _ _=>trivial));(case aO=>exact (rL aM));(case aS=>exact (below_size (bL HB)));(case aL=>have:=eE.out;omega);intro iZ bF ho hb hg hat;rw [← eF.out] at ho;have aQ:=am ho;replace aC:=bgr aC hg aM;replace HB:=am hb;clear aM;clear ho hb hg hat;obtain⟨i1,eI,gK⟩:=Kd.R_slice aQ.out;subst gK;have gL:0≤((aA.length:Int):Int):=dcd;have gM:((aA.length:Int):Int) < ((aI.length:Int):Int):=dcd;obtain⟨go25,i2,eJ,eK,gl25,cl25,HG25⟩:=Kd.R_form aQ.out (by omega);(first | cases eJ | (injection eJ with ea_ en_ ec_;(first | subst ea_ | (injection ea_ with ea_;subst ea_));subst ec_;clear en_));have GB25:=am eK;have GG25:=am HG25;clear eK gl25 HG25;obtain⟨ce25,hcl25,hM25,a7,a8⟩:=Kd.R_elem aQ.out z49 ((aA.length:Int):Int) gL gM;obtain rfl:=k49_openM hM25;have gN:bF.cell? ⟨go25,((aA.length:Int):Int).toNat * 5,none⟩=some (.int .i64 ((rd_T49 aI (aA.length:Int)).f0)):=a7 0 _ rfl;have gO:bF.cell? ⟨go25,((aA.length:Int):Int).toNat * 5 + 1,none⟩=some (.int .i64 ((rd_T49 aI (aA.length:Int)).f1)):=a7 1 _ rfl;have gP:bF.cell? ⟨go25,((aA.length:Int):Int).toNat * 5 + 2,none⟩=some (.int .i64 ((rd_T49 aI (aA.length:Int)).f2)):=a7 2 _ rfl;have gQ:bF.cell? ⟨go25,((aA.length:Int):Int).toNat * 5 + 3,none⟩=some (.string ((rd_T49 aI (aA.length:Int)).f3)):=a7 3 _ rfl;have gR:bF.cell? ⟨go25,((aA.length:Int):Int).toNat * 5 + 4,none⟩=some (.int .i64 ((rd_T49 aI (aA.length:Int)).f4)):=a7 4 _ rfl;have gS:bF.frozen? ⟨go25,((aA.length:Int):Int).toNat * 5,none⟩=false:=a8 0;have gT:bF.frozen? ⟨go25,((aA.length:Int):Int).toNat * 5 + 1,none⟩=false:=a8 1;have gU:bF.frozen? ⟨go25,((aA.length:Int):Int).toNat * 5 + 2,none⟩=false:=a8 2;have gV:bF.frozen? ⟨go25,((aA.length:Int):Int).toNat * 5 + 3,none⟩=false:=a8 3;have gW:bF.frozen? ⟨go25,((aA.length:Int):Int).toNat * 5 + 4,none⟩=false:=a8 4;clear hcl25 a7 a8 hM25;replace gL:=eq_true gL;replace gM:=eq_true gM;have HX33:=am (show Kd.R k49 49 bF w.heap.size (fun _=>True) (.slice (some ⟨go25,0,none⟩) aI.length eI) aI from (rL aQ));obtain⟨ce33,hcl33,hM33,bK,cV⟩:=Kd.R_elem HX33.out z49 ((aA.length:Int):Int) (dcd) (by have h_:((aA.length:Int):Int) < ((aI.length:Int):Int):=dcd;first | exact h_ | (have e_:=(Kd.R_reads' aQ.out).1;omega) | simpa using h_);obtain rfl:=k49_openM hM33;have HP33:=Kd.R_seg HX33.out ((aA.length:Int):Int) (dcd) (by have h_:((aA.length:Int):Int) < ((aI.length:Int):Int):=dcd;first | exact h_ | (have e_:=(Kd.R_reads' aQ.out).1;omega) | simpa using h_) (seg:=[.int .i64 (wrap64 ((wrap64 ((aI.length:Int) - (aA.length:Int))) - 1))]) (j:=4) hcl33 bK (show 5≤5 from by decide) (x':=(⟨(rd_T49 aI (aA.length:Int)).f0,(rd_T49 aI (aA.length:Int)).f1,(rd_T49 aI (aA.length:Int)).f2,(rd_T49 aI (aA.length:Int)).f3,wrap64 ((wrap64 ((aI.length:Int) - (aA.length:Int))) - 1)⟩:S49)) (k49_mkM _ _ _ (⟨(rd_T49 aI (aA.length:Int)).f0,(rd_T49 aI (aA.length:Int)).f1,(rd_T49 aI (aA.length:Int)).f2,(rd_T49 aI (aA.length:Int)).f3,wrap64 ((wrap64 ((aI.length:Int) - (aA.length:Int))) - 1)⟩:S49) ) (fun _ hk=>hk);have dE:=bK 4 _ rfl;(try simp only [show (k49).sz=5 from rfl,Nat.mul_one,Nat.add_zero,Int.toNat_natCast] at dE);have dF:=cV 4;(try simp only [show (k49).sz=5 from rfl,Nat.mul_one,Nat.add_zero,Int.toNat_natCast] at dF);clear hcl33 bK cV hM33) | ((with_reducible refine gate_store (t:=3) (p:=70) rfl ?_);refine st_ 3 70 (bF.setCell ⟨go25,((aA.length:Int):Int).toNat * 5 + 4,none⟩ (.int .i64 (wrap64 ((wrap64 ((aI.length:Int) - (aA.length:Int))) - 1)))) ?_;intro gX hw;have hg:bF.grownBy gX (some go25):=(by rw [hw];exact HP33.2);have hp_:Kd.R k49 49 gX w.heap.size (fun _=>True) (.slice (some ⟨go25,0,none⟩) aI.length eI) eG:=(by rw [hw,eH.out];exact HP33.1);clear HP33;replace aC:=bgr aC hg aQ;replace aQ:=am hp_;replace HB:=am ((by rw [hw];exact below_set (HB.out) GB25.out:Below w.heap.size w gX));clear hg hw hp_))
 go_roundg kj7
 case measure=>have:=bM.out;have:=cG.out;omega
 case rel=>exact⟨(eG),(wrap64 (aD + 1)),sr,H',⟨by have:=bM.out;have:=cG.out;omega⟩,⟨rL aQ⟩,⟨bL HB⟩⟩
end Go.Proofs.Ytjdapaocdkcgdaa.PFnExactMetaPack
