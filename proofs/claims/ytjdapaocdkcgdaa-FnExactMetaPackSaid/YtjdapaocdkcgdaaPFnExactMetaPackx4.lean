/- The machine's side of FnExactMetaPack: each Go function, and what its call comes to. No condition. -/
import Derived.Test.YtjdapaocdkcgdaaPFnExactMetaPackx0
import Derived.Test.YtjdapaocdkcgdaaPFnExactMetaPackx3
namespace Go.Proofs.Ytjdapaocdkcgdaa.PFnExactMetaPack
open Go.RowKit Go.Proofs.YtjdapaocdkcgdaaW.PrintWords Go.Proofs.YtjdapaocdkcgdaaW.PrintLast Go.Proofs.YtjdapaocdkcgdaaW.PrintMore Go.Proofs.YtjdapaocdkcgdaaW.PrintMore2
attribute [local go_sem] max2_int min2_int max_two min_two max_three min_three max_four min_four
set_option linter.unusedVariables false
set_option linter.unusedSimpArgs false
set_option maxHeartbeats 8000000
set_option maxRecDepth 100000

/-! ### spec_l5Check: function 70 -/
mutual
def spec_l5Check.j0:Nat→List (S84)→Int→Int→Bool→Option (Int)
  | 0,_,_,_,_=>none
  | k + 1,x0,x1,x2,aI=>if aI=true then (some (-1)) else (if 0≤x1 then (if x1 < (x0.length:Int) then (if x1=0 then (if ((rd_T84 x0 x1).f0).toList=([]:List UInt8) then (if ((rd_T84 x0 x1).f2)=0 then (if ((rd_T84 x0 x1).f1)=7 then (if x1 > 0 then ((spec_l5Name.f k ((rd_T84 x0 x1).f0)).bind fun aA=>(if aA=true then ((spec_l1In.f ((rd_T84 x0 x1).f2) 0 2).bind fun aC=>(spec_l5Check.j1 k x0 x1 x2 (!aC) ((rd_T84 x0 x1).f0) ((rd_T84 x0 x1).f1) ((rd_T84 x0 x1).f2) ((rd_T84 x0 x1).f3))) else (spec_l5Check.j1 k x0 x1 x2 true ((rd_T84 x0 x1).f0) ((rd_T84 x0 x1).f1) ((rd_T84 x0 x1).f2) ((rd_T84 x0 x1).f3)))) else ((spec_l1In.f ((rd_T84 x0 x1).f2) 0 2).bind fun aD=>(spec_l5Check.j1 k x0 x1 x2 (!aD) ((rd_T84 x0 x1).f0) ((rd_T84 x0 x1).f1) ((rd_T84 x0 x1).f2) ((rd_T84 x0 x1).f3)))) else (spec_l5Check.j1 k x0 x1 x2 true ((rd_T84 x0 x1).f0) ((rd_T84 x0 x1).f1) ((rd_T84 x0 x1).f2) ((rd_T84 x0 x1).f3))) else (spec_l5Check.j1 k x0 x1 x2 true ((rd_T84 x0 x1).f0) ((rd_T84 x0 x1).f1) ((rd_T84 x0 x1).f2) ((rd_T84 x0 x1).f3))) else (spec_l5Check.j1 k x0 x1 x2 true ((rd_T84 x0 x1).f0) ((rd_T84 x0 x1).f1) ((rd_T84 x0 x1).f2) ((rd_T84 x0 x1).f3))) else (if x1 > 0 then ((spec_l5Name.f k ((rd_T84 x0 x1).f0)).bind fun aE=>(if aE=true then ((spec_l1In.f ((rd_T84 x0 x1).f2) 0 2).bind fun aG=>(spec_l5Check.j1 k x0 x1 x2 (!aG) ((rd_T84 x0 x1).f0) ((rd_T84 x0 x1).f1) ((rd_T84 x0 x1).f2) ((rd_T84 x0 x1).f3))) else (spec_l5Check.j1 k x0 x1 x2 true ((rd_T84 x0 x1).f0) ((rd_T84 x0 x1).f1) ((rd_T84 x0 x1).f2) ((rd_T84 x0 x1).f3)))) else ((spec_l1In.f ((rd_T84 x0 x1).f2) 0 2).bind fun aH=>(spec_l5Check.j1 k x0 x1 x2 (!aH) ((rd_T84 x0 x1).f0) ((rd_T84 x0 x1).f1) ((rd_T84 x0 x1).f2) ((rd_T84 x0 x1).f3))))) else (none)) else (none))
def spec_l5Check.j1:Nat→List (S84)→Int→Int→Bool→ByteArray→Int→Int→Int→Option (Int)
  | 0,_,_,_,_,_,_,_,_=>none
  | k + 1,x0,x1,x2,aH,aD,aA,aE,aC=>if aH=true then (some (-1)) else (if aA=7 then (if aC < 1 then (some (-1)) else (spec_l5Check.l0 k x0 x2 (wrap64 (x1 + 1)) (([]:List ByteArray)) 0 aD aA aE aC)) else ((spec_l5Type.f aA).bind fun aG=>(if aG=true then (if aC=0 then (some (wrap64 (x1 + 1))) else (some (-1))) else (some (-1)))))
def spec_l5Check.l0:Nat→List (S84)→Int→Int→List ByteArray→Int→ByteArray→Int→Int→Int→Option (Int)
  | 0,_,_,_,_,_,_,_,_,_=>none
  | k + 1,x0,x2,x8,x9,aG,aC,aD,aE,aA=>if aG < aA then (if x8 ≥ (x0.length:Int) then (some (-1)) else (spec_l5Check.l1 k x0 x2 x8 x9 aG 0 aC aD aE aA)) else (some x8)
def spec_l5Check.l1:Nat→List (S84)→Int→Int→List ByteArray→Int→Int→ByteArray→Int→Int→Int→Option (Int)
  | 0,_,_,_,_,_,_,_,_,_,_=>none
  | k + 1,x0,x2,x8,x9,aI,aH,aA,aC,aD,aE=>if aH < (x9.length:Int) then (if 0≤aH then (if 0≤x8 then (if x8 < (x0.length:Int) then (if (rdOf ByteArray.empty x9 aH).toList=((rd_T84 x0 x8).f0).toList then (some (-1)) else (spec_l5Check.l1 k x0 x2 x8 x9 aI (wrap64 (aH + 1)) aA aC aD aE)) else (none)) else (none)) else (none)) else (if 0≤x8 then (if x8 < (x0.length:Int) then (if x9.length < 8796093022208 then ((spec_l5Check.f k x0 x8 (wrap64 (x2 + 1))).bind fun aG=>(if aG < 0 then (some (-1)) else (spec_l5Check.l0 k x0 x2 aG (x9 ++ [(rd_T84 x0 x8).f0]) (wrap64 (aI + 1)) aA aC aD aE))) else (none)) else (none)) else (none))
def spec_l5Check.f:Nat→List (S84)→Int→Int→Option (Int)
  | 0,_,_,_=>none
  | k + 1,l0,a1,a2=>if a1 ≥ (l0.length:Int) then (spec_l5Check.j0 k l0 a1 a2 true) else (spec_l5Check.j0 k l0 a1 a2 (decide (a2 > 6)))
end
theorem spec_l5Check.calls (k:Nat):∀ (A0:Option Addr) (c0:Nat) (l0:List (S84)) (a1:Int) (a2:Int) (r:Int) (w:World) (hr0:Kd.C k84 w A0 l0.length l0) (d5:l0.length≤c0) (h:spec_l5Check.f k l0 a1 a2=some r),
    Calls Try.prog 70 #[.slice A0 l0.length c0,.int .i64 a1,.int .i64 a2] w fun e w'=>e=.returned (.int .i64 r)∧Below w.heap.size w w':=by
 induction k using Nat.strongRecOn with
 | _ k ih =>
 intro A0 c0 l0 a1 a2 r w hr0 d5 h
 cases k with
 | zero=>exact absurd h (by simp [spec_l5Check.f])
 | succ k =>
 simp only [spec_l5Check.f] at h
 have hu84:=Try.underlying84
 have cV:=am hr0
 have eO:=am d5
 clear hr0 d5
 have HB:=am (Below.refl w.heap.size w)
 have H:=h;clear h;unfold spec_l5Check.f at H
 have d6:=am H
 clear H
 go_enter Try.func70,Try.ntmps70
 go_upto_region 1 with (fail)
 repeat (go_quiet (fail);go_upto_region 1 with (fail))
 go_cut [19] (fun v19 wc=>∃ (kq:Nat) (bX:Bool),v19=.bool bX∧Aside0 (spec_l5Check.j0 kq l0 a1 a2 bX=some r)∧Aside0 (kq≤k)∧Aside0 (Below w.heap.size w wc))
 case first =>
  have H:=d6.out
  clear d6
  replace H:=ige H;obtain⟨bY,H⟩ | ⟨bY,H⟩:=H
  · (first | rw [bY] | (simp only [i64_w,i32_w];rw [bY]) | skip)
    have H':=am H;clear H
    go_wp2
    repeat (go_quiet (fail);try go_wp2)
    go_meet
    case rel=>exact⟨_,(true),sr,H',⟨by first | omega | exact Nat.le_refl _⟩,⟨bL HB⟩⟩
  (first | rw [bY] | (simp only [i64_w,i32_w];rw [bY]) | skip)
  have H':=am H;clear H
  go_wp2
  repeat (go_quiet (fail);try go_wp2)
  go_meet
  case rel=>exact⟨_,(decide (a2 > 6)),sr,H',⟨by first | omega | exact Nat.le_refl _⟩,⟨bL HB⟩⟩
 clear d6
 obtain⟨kq,bX,rfl,HA,bF,HB⟩:=hcut
 cases kq with
 | zero=>exact absurd HA.out (by simp [spec_l5Check.j0])
 | succ kj3=>?_
 have H:=HA.out
 clear HA
 simp only [spec_l5Check.j0] at H
 replace H:=ibt H;obtain⟨rfl,H⟩ | ⟨rfl,H⟩:=H
 · cases H
   go_wp2
   repeat (go_quiet (fail);try go_wp2)
   go_ret
   exact fin_ (bL HB)
 replace H:=if_dd H;obtain⟨cW,cX,H⟩:=H
 have d7:=am H
 clear H
 obtain⟨cY,cZ,bN,d8,a9,bA,bB,bC⟩:=at_T84b HB cV a1;cases d8
 go_upto_region 4 with (first | ((with_reducible refine gd 7 rfl ?_);refine bxw 7 rfl #[.string ⟨#[]⟩,.int .i64 0,.int .i64 0,.int .i64 0] 84 HB ?_;clear HB;intro bO e6 aA dI dJ HB;obtain⟨aU,aV,aW,aX,aY,aZ,a6,a7⟩:=cl4 aA))
 repeat (go_quiet (fail);go_upto_region 4 with (first | ((with_reducible refine gd 7 rfl ?_);refine bxw 7 rfl #[.string ⟨#[]⟩,.int .i64 0,.int .i64 0,.int .i64 0] 84 HB ?_;clear HB;intro bO e6 aA dI dJ HB;obtain⟨aU,aV,aW,aX,aY,aZ,a6,a7⟩:=cl4 aA)))
 (try simp only [Act.put,List.setIfInBounds_toArray,List.set_cons_zero,List.set_cons_succ])
 go_cut [56] (fun v56 wc=>∃ (kq:Nat) (bZ:Bool),v56=.bool bZ∧Aside0 (spec_l5Check.j1 kq l0 a1 a2 bZ ((rd_T84 l0 a1).f0) ((rd_T84 l0 a1).f1) ((rd_T84 l0 a1).f2) ((rd_T84 l0 a1).f3)=some r)∧Aside0 (kq≤kj3)∧Aside0 (wc.heap[bO]?=some (.cells #[.string ((rd_T84 l0 a1).f0),.int .i64 ((rd_T84 l0 a1).f1),.int .i64 ((rd_T84 l0 a1).f2),.int .i64 ((rd_T84 l0 a1).f3)] 84 (0,0)))∧Aside0 (Below w.heap.size w wc))
 case first =>
  have H:=d7.out
  clear d7
  replace H:=ieq H;obtain⟨bD,b6,H⟩ | ⟨fH,bD,b6,H⟩:=H
  rotate_left
  · (first | rw [bD] | rw [b6] | (simp only [i64_w,i32_w];rw [bD]) | skip)
    replace H:=igt H;obtain⟨dK,H⟩ | ⟨dK,H⟩:=H
    rotate_left
    · replace H:=bnd H;obtain⟨d9,eP,H⟩:=H
      have H':=am H;clear H
      obtain⟨_,_,_,_,_,_,_,_⟩:=cl4 aA
      iterate 6 (try go_wp2_with (first | (go_at_call 49;(with_reducible refine (spec_l1In.calls eP.out).mono ?_);rintro e w' ⟨rfl,⟨nd,rfl⟩⟩;(try exact dn2)));try go_quiet (first | (go_at_call 49;(with_reducible refine (spec_l1In.calls eP.out).mono ?_);rintro e w' ⟨rfl,⟨nd,rfl⟩⟩;(try exact dn2))))
      go_meet
      case rel=>exact⟨_,(!d9),sr,H',⟨by have:=bF.out;first | omega | exact Nat.le_refl _⟩,⟨kL aA⟩,⟨bL HB⟩⟩
    replace H:=bnd H;obtain⟨e7,d3,H⟩:=H
    replace H:=ibt H;obtain⟨rfl,H⟩ | ⟨rfl,H⟩:=H
    rotate_left
    · have H':=am H;clear H
      obtain⟨_,_,_,_,_,_,_,_⟩:=cl4 aA
      iterate 6 (try go_wp2_with (first | (go_at_call 88;(with_reducible refine (spec_l5Name.calls d3.out).mono ?_);rintro e w' ⟨rfl,⟨nd,rfl⟩⟩;(try exact dn2)));try go_quiet (first | (go_at_call 88;(with_reducible refine (spec_l5Name.calls d3.out).mono ?_);rintro e w' ⟨rfl,⟨nd,rfl⟩⟩;(try exact dn2))))
      go_meet
      case rel=>exact⟨_,(true),sr,H',⟨by have:=bF.out;first | omega | exact Nat.le_refl _⟩,⟨kL aA⟩,⟨bL HB⟩⟩
    replace H:=bnd H;obtain⟨eA,eQ,H⟩:=H
    have H':=am H;clear H
    obtain⟨_,_,_,_,_,_,_,_⟩:=cl4 aA
    iterate 6 (try go_wp2_with (first | (go_at_call 88;(with_reducible refine (spec_l5Name.calls d3.out).mono ?_);rintro e w' ⟨rfl,⟨nd,rfl⟩⟩;(try exact dn2)) | (go_at_call 49;(with_reducible refine (spec_l1In.calls eQ.out).mono ?_);rintro e w' ⟨rfl,⟨nd,rfl⟩⟩;(try exact dn2)));try go_quiet (first | (go_at_call 88;(with_reducible refine (spec_l5Name.calls d3.out).mono ?_);rintro e w' ⟨rfl,⟨nd,rfl⟩⟩;(try exact dn2)) | (go_at_call 49;(with_reducible refine (spec_l1In.calls eQ.out).mono ?_);rintro e w' ⟨rfl,⟨nd,rfl⟩⟩;(try exact dn2))))
    go_meet
    case rel=>exact⟨_,(!eA),sr,H',⟨by have:=bF.out;first | omega | exact Nat.le_refl _⟩,⟨kL aA⟩,⟨bL HB⟩⟩
  (first | rw [bD] | rw [b6] | (simp only [i64_w,i32_w];rw [bD]) | skip)
  by_cases cD:((rd_T84 l0 a1).f0).toList=([]:List UInt8)
  rotate_left
  · rw [if_neg cD] at H
    have dL:(((rd_T84 l0 a1).f0).toList == ([]:List UInt8))=false:=beq_eq_false_iff_ne.mpr cD
    try have dM:((rd_T84 l0 a1).f0).toList.isEmpty=false:=by simpa using cD
    have dN:(((rd_T84 l0 a1).f0).toList != ([]:List UInt8))=true:=bne_iff_ne.mpr cD
    have H':=am H;clear H
    obtain⟨_,_,_,_,_,_,_,_⟩:=cl4 aA
    go_wp2
    repeat (go_quiet (fail);try go_wp2)
    go_meet
    case rel=>exact⟨_,(true),sr,H',⟨by have:=bF.out;first | omega | exact Nat.le_refl _⟩,⟨kL aA⟩,⟨bL HB⟩⟩
  rw [if_pos cD] at H
  have dL:(((rd_T84 l0 a1).f0).toList == ([]:List UInt8))=true:=beq_iff_eq.mpr cD
  try have dM:((rd_T84 l0 a1).f0).toList.isEmpty=true:=by simpa using cD
  have dN:(((rd_T84 l0 a1).f0).toList != ([]:List UInt8))=false:=bne_eq_false_iff_eq.mpr cD
  clear cD
  replace H:=ieq H;obtain⟨dO,dP,H⟩ | ⟨fI,dO,dP,H⟩:=H
  rotate_left
  · have H':=am H;clear H
    obtain⟨_,_,_,_,_,_,_,_⟩:=cl4 aA
    go_wp2
    repeat (go_quiet (fail);try go_wp2)
    go_meet
    case rel=>exact⟨_,(true),sr,H',⟨by have:=bF.out;first | omega | exact Nat.le_refl _⟩,⟨kL aA⟩,⟨bL HB⟩⟩
  replace H:=ieq H;obtain⟨dQ,dR,H⟩ | ⟨fJ,dQ,dR,H⟩:=H
  rotate_left
  · have H':=am H;clear H
    obtain⟨_,_,_,_,_,_,_,_⟩:=cl4 aA
    go_wp2
    repeat (go_quiet (fail);try go_wp2)
    go_meet
    case rel=>exact⟨_,(true),sr,H',⟨by have:=bF.out;first | omega | exact Nat.le_refl _⟩,⟨kL aA⟩,⟨bL HB⟩⟩
  replace H:=igt H;obtain⟨dS,H⟩ | ⟨dS,H⟩:=H
  rotate_left
  · replace H:=bnd H;obtain⟨eB,eR,H⟩:=H
    have H':=am H;clear H
    obtain⟨_,_,_,_,_,_,_,_⟩:=cl4 aA
    iterate 6 (try go_wp2_with (first | (go_at_call 49;(with_reducible refine (spec_l1In.calls eR.out).mono ?_);rintro e w' ⟨rfl,⟨nd,rfl⟩⟩;(try exact dn2)));try go_quiet (first | (go_at_call 49;(with_reducible refine (spec_l1In.calls eR.out).mono ?_);rintro e w' ⟨rfl,⟨nd,rfl⟩⟩;(try exact dn2))))
    go_meet
    case rel=>exact⟨_,(!eB),sr,H',⟨by have:=bF.out;first | omega | exact Nat.le_refl _⟩,⟨kL aA⟩,⟨bL HB⟩⟩
  replace H:=bnd H;obtain⟨e8,d4,H⟩:=H
  replace H:=ibt H;obtain⟨rfl,H⟩ | ⟨rfl,H⟩:=H
  rotate_left
  · have H':=am H;clear H
    obtain⟨_,_,_,_,_,_,_,_⟩:=cl4 aA
    iterate 6 (try go_wp2_with (first | (go_at_call 88;(with_reducible refine (spec_l5Name.calls d4.out).mono ?_);rintro e w' ⟨rfl,⟨nd,rfl⟩⟩;(try exact dn2)));try go_quiet (first | (go_at_call 88;(with_reducible refine (spec_l5Name.calls d4.out).mono ?_);rintro e w' ⟨rfl,⟨nd,rfl⟩⟩;(try exact dn2))))
    go_meet
    case rel=>exact⟨_,(true),sr,H',⟨by have:=bF.out;first | omega | exact Nat.le_refl _⟩,⟨kL aA⟩,⟨bL HB⟩⟩
  replace H:=bnd H;obtain⟨eC,eS,H⟩:=H
  have H':=am H;clear H
  obtain⟨_,_,_,_,_,_,_,_⟩:=cl4 aA
  iterate 6 (try go_wp2_with (first | (go_at_call 88;(with_reducible refine (spec_l5Name.calls d4.out).mono ?_);rintro e w' ⟨rfl,⟨nd,rfl⟩⟩;(try exact dn2)) | (go_at_call 49;(with_reducible refine (spec_l1In.calls eS.out).mono ?_);rintro e w' ⟨rfl,⟨nd,rfl⟩⟩;(try exact dn2)));try go_quiet (first | (go_at_call 88;(with_reducible refine (spec_l5Name.calls d4.out).mono ?_);rintro e w' ⟨rfl,⟨nd,rfl⟩⟩;(try exact dn2)) | (go_at_call 49;(with_reducible refine (spec_l1In.calls eS.out).mono ?_);rintro e w' ⟨rfl,⟨nd,rfl⟩⟩;(try exact dn2))))
  go_meet
  case rel=>exact⟨_,(!eC),sr,H',⟨by have:=bF.out;first | omega | exact Nat.le_refl _⟩,⟨kL aA⟩,⟨bL HB⟩⟩
 clear d7
 try clear c6 cW cX aU aV aW aX aY aZ a6 a7 a9 bA bB bC cY cZ
 obtain⟨kq,bZ,rfl,HA,dE,aA,HB⟩:=hcut
 cases kq with
 | zero=>exact absurd HA.out (by simp [spec_l5Check.j1])
 | succ kj8=>?_
 have H:=HA.out
 clear HA
 simp only [spec_l5Check.j1] at H
 replace H:=ibt H;obtain⟨rfl,H⟩ | ⟨rfl,H⟩:=H
 · cases H
   go_wp2
   repeat (go_quiet (fail);try go_wp2)
   go_ret
   exact fin_ (bL HB)
 replace H:=ieq H;obtain⟨b7,b8,H⟩ | ⟨eT,b7,b8,H⟩:=H
 rotate_left
 · replace H:=bnd H;obtain⟨e9,dF,H⟩:=H
   replace H:=ibt H;obtain⟨rfl,H⟩ | ⟨rfl,H⟩:=H
   rotate_left
   · cases H
     obtain⟨_,_,_,_,_,_,_,_⟩:=cl4 aA
     iterate 6 (try go_wp2_with (first | (go_at_call 89;(with_reducible refine (spec_l5Type.calls dF.out).mono ?_);rintro e w' ⟨rfl,⟨nd,rfl⟩⟩;(try exact dn2)));try go_quiet (first | (go_at_call 89;(with_reducible refine (spec_l5Type.calls dF.out).mono ?_);rintro e w' ⟨rfl,⟨nd,rfl⟩⟩;(try exact dn2))))
     go_ret
     exact fin_ (bL HB)
   replace H:=ieq H;obtain⟨dT,dU,H⟩ | ⟨fK,dT,dU,H⟩:=H
   · cases H
     obtain⟨_,_,_,_,_,_,_,_⟩:=cl4 aA
     iterate 6 (try go_wp2_with (first | (go_at_call 89;(with_reducible refine (spec_l5Type.calls dF.out).mono ?_);rintro e w' ⟨rfl,⟨nd,rfl⟩⟩;(try exact dn2)));try go_quiet (first | (go_at_call 89;(with_reducible refine (spec_l5Type.calls dF.out).mono ?_);rintro e w' ⟨rfl,⟨nd,rfl⟩⟩;(try exact dn2))))
     go_ret
     exact fin_ (bL HB)
   cases H
   obtain⟨_,_,_,_,_,_,_,_⟩:=cl4 aA
   iterate 6 (try go_wp2_with (first | (go_at_call 89;(with_reducible refine (spec_l5Type.calls dF.out).mono ?_);rintro e w' ⟨rfl,⟨nd,rfl⟩⟩;(try exact dn2)));try go_quiet (first | (go_at_call 89;(with_reducible refine (spec_l5Type.calls dF.out).mono ?_);rintro e w' ⟨rfl,⟨nd,rfl⟩⟩;(try exact dn2))))
   go_ret
   exact fin_ (bL HB)
 replace H:=idc H;obtain⟨b9,H⟩ | ⟨b9,H⟩:=H
 · cases H
   obtain⟨_,_,_,_,_,_,_,_⟩:=cl4 aA
   go_wp2
   repeat (go_quiet (fail);try go_wp2)
   go_ret
   exact fin_ (bL HB)
 generalize cO:((([]:List ByteArray)):List ByteArray)=eD at H;have cP:=am cO.symm;clear cO
 have H':=am H;clear H
 obtain⟨bP,bQ,bR,bS,bT,bU,bV,bW⟩:=cl4 aA
 iterate 6 (try go_wp2_with (first | ((with_reducible refine gd 76 rfl ?_);refine Kd.R_lit Kd.string _ 9 ?hg (N:=76) ?hd (xs:=([]:List ByteArray)) (inner:=[]) (ok:=fun _=>True) (okp:=fun _=>True) ?hr ?hp (fun _ hk=>hk) trivial (Below.refl _ _) (Nat.le_refl _) (by simp) ?_;(case hd=>rfl);(case hg=>rfl);(case hr=>first | (go_simp;done) | (go_simp;rfl));(case hp=>exact (Reps.none _ _));intro fA fL cA hb hg_ hnew_;clear hg_ hnew_;(first | rw [← cP.out] at cA | (simp only [Int.reduceToNat] at cA;rw [← cP.out] at cA));have dV:=rlb cA HB;replace aA:=bkb aA hb;replace HB:=bst HB hb;clear hb cA));try go_quiet (fail))
 go_loopg [8,9,10] kj8 (fun kq v8 v9 v10 w'=>∃ (aC:Int) (aT:List ByteArray) (bE:Int),v8=.int .i64 aC∧v10=.int .i64 bE∧Aside0 (spec_l5Check.l0 kq l0 a2 aC aT bE ((rd_T84 l0 a1).f0) ((rd_T84 l0 a1).f1) ((rd_T84 l0 a1).f2) ((rd_T84 l0 a1).f3)=some r)∧Aside0 (kq≤kj8)∧Aside0 (Kd.R Kd.string 9 w' w.heap.size (fun _=>True) v9 aT)∧Aside0 (w'.heap[bO]?=some (.cells #[.string ((rd_T84 l0 a1).f0),.int .i64 ((rd_T84 l0 a1).f1),.int .i64 ((rd_T84 l0 a1).f2),.int .i64 ((rd_T84 l0 a1).f3)] 84 (0,0)))∧Aside0 (Below w.heap.size w w'))
 case atStart=>exact⟨(wrap64 (a1 + 1)),(eD),(0),sr,sr,H',⟨Nat.le_refl _⟩,⟨rL dV⟩,⟨kL aA⟩,⟨bL HB⟩⟩
 clear H'
 try clear c6 cW cX fB eT b7 b8 fC b9 aU aV aW aX bP bQ bR bS aY aZ a6 a7 bT bU bV bW a9 bA bB bC cY cZ
 obtain⟨aC,aT,bE,rfl,rfl,HA,dG,aE,aA,HB⟩:=hrel
 cases gk with
 | zero=>exact absurd HA.out (by simp [spec_l5Check.l0])
 | succ k3=>?_
 have H:=HA.out
 clear HA
 simp only [spec_l5Check.l0] at H
 replace H:=idc H;obtain⟨cQ,H⟩ | ⟨cQ,H⟩:=H
 rotate_left
 · cases H
   obtain⟨_,_,_,_,_,_,_,_⟩:=cl4 aA
   go_wp2
   repeat (go_quiet (fail);try go_wp2)
   go_ret
   exact fin_ (bL HB)
 replace H:=ige H;obtain⟨cR,H⟩ | ⟨cR,H⟩:=H
 · cases H
   obtain⟨_,_,_,_,_,_,_,_⟩:=cl4 aA
   go_wp2
   repeat (go_quiet (fail);try go_wp2)
   go_ret
   exact fin_ (bL HB)
 have H':=am H;clear H
 obtain⟨cE,cF,cG,cH,cI,cJ,cK,cM⟩:=cl4 aA
 go_wp2
 repeat (go_quiet (fail);try go_wp2)
 go_loopg [11] k3 (fun kq v11 w'=>∃ (aD:Int),v11=.int .i64 aD∧Aside0 (spec_l5Check.l1 kq l0 a2 aC aT bE aD ((rd_T84 l0 a1).f0) ((rd_T84 l0 a1).f1) ((rd_T84 l0 a1).f2) ((rd_T84 l0 a1).f3)=some r)∧Aside0 (kq≤k3)∧Aside0 (Kd.R Kd.string 9 w' w.heap.size (fun _=>True) u9 aT)∧Aside0 (w'.heap[bO]?=some (.cells #[.string ((rd_T84 l0 a1).f0),.int .i64 ((rd_T84 l0 a1).f1),.int .i64 ((rd_T84 l0 a1).f2),.int .i64 ((rd_T84 l0 a1).f3)] 84 (0,0)))∧Aside0 (Below w.heap.size w w'))
 case atStart=>exact⟨(0),sr,H',⟨Nat.le_refl _⟩,⟨rL aE⟩,⟨kL aA⟩,⟨bL HB⟩⟩
 clear H'
 try clear c6 cW cX fB eT b7 b8 fC b9 fM cQ fN cR aU aV aW aX bP bQ bR bS cE cF cG cH aY aZ a6 a7 bT bU bV bW cI cJ cK cM a9 bA bB bC cY cZ
 obtain⟨aD,rfl,HA,dH,aE,aA,HB⟩:=hrel
 cases gk with
 | zero=>exact absurd HA.out (by simp [spec_l5Check.l1])
 | succ k4=>?_
 have H:=HA.out
 clear HA
 simp only [spec_l5Check.l1] at H
 replace H:=idc H;obtain⟨dW,H⟩ | ⟨dW,H⟩:=H
 · replace H:=if_ddd H;obtain⟨eU,eV,eW,H⟩:=H
   replace H:=ieq H;obtain⟨dX,dY,H⟩ | ⟨fO,dX,dY,H⟩:=H
   · cases H
     obtain⟨fD,fE,eE⟩:=Kd.R_slice aE.out
     subst eE
     have bG:0≤(aD:Int):=dcd
     have bH:aD < (aT.length:Int):=dcd
     obtain⟨dZ,dA,cN⟩:=Kd.at_string (Kd.R_reads' aE.out).2.2 aD bG bH
     cases dA
     replace bG:=eq_true bG
     replace bH:=eq_true bH
     have bI:0≤(aC:Int):=dcd
     have bJ:aC < (l0.length:Int):=dcd
     obtain⟨cB,dB,aG,aH,aI,aJ⟩:=at_T84 cV.out aC bI bJ
     obtain rfl:bN=cB:=(by injection dB)
     replace aG:=crd HB aG
     replace aH:=crd HB aH
     replace aI:=crd HB aI
     replace aJ:=crd HB aJ
     replace bI:=eq_true bI
     replace bJ:=eq_true bJ
     go_wp2
     repeat (go_quiet (fail);try go_wp2)
     go_ret
     exact fin_ (bL HB)
   have H':=am H;clear H
   obtain⟨fF,fG,eF⟩:=Kd.R_slice aE.out
   subst eF
   have bG:0≤(aD:Int):=dcd
   have bH:aD < (aT.length:Int):=dcd
   obtain⟨dZ,dA,cN⟩:=Kd.at_string (Kd.R_reads' aE.out).2.2 aD bG bH
   cases dA
   replace bG:=eq_true bG
   replace bH:=eq_true bH
   have bI:0≤(aC:Int):=dcd
   have bJ:aC < (l0.length:Int):=dcd
   obtain⟨cB,dB,aG,aH,aI,aJ⟩:=at_T84 cV.out aC bI bJ
   obtain rfl:bN=cB:=(by injection dB)
   replace aG:=crd HB aG
   replace aH:=crd HB aH
   replace aI:=crd HB aI
   replace aJ:=crd HB aJ
   replace bI:=eq_true bI
   replace bJ:=eq_true bJ
   go_wp2
   repeat (go_quiet (fail);try go_wp2)
   go_roundg k4
   case measure=>have:=bF.out;have:=dE.out;have:=dG.out;have:=dH.out;omega
   case rel=>exact⟨(wrap64 (aD + 1)),sr,H',⟨by have:=bF.out;have:=dE.out;have:=dG.out;have:=dH.out;omega⟩,⟨rL aE⟩,⟨kL aA⟩,⟨bL HB⟩⟩
 replace H:=if_dds H;obtain⟨eX,eY,eZ,H⟩:=H
 have cS:=am eZ
 clear eZ
 generalize cT:((aT ++ [(rd_T84 l0 aC).f0]):List ByteArray)=eG at H;have cU:=am cT.symm;clear cT
 replace H:=bnd H;obtain⟨dC,e5,H⟩:=H
 replace H:=idc H;obtain⟨d2,H⟩ | ⟨d2,H⟩:=H
 · cases H
   obtain⟨eH,eI,eJ⟩:=Kd.R_slice aE.out
   subst eJ
   have bK:0≤(aC:Int):=dcd
   have bM:aC < (l0.length:Int):=dcd
   obtain⟨cC,dD,aK,aM,aN,aQ⟩:=at_T84 cV.out aC bK bM
   obtain rfl:bN=cC:=(by injection dD)
   replace aK:=crd HB aK
   replace aM:=crd HB aM
   replace aN:=crd HB aN
   replace aQ:=crd HB aQ
   replace bK:=eq_true bK
   replace bM:=eq_true bM
   iterate 6 (try go_wp2_with (first | ((with_reducible refine gate_builtin (b:=.append) (xs:=#[.tmp 103,.tmp 109]) rfl ?_);at_builtin;refine Kd.R_append Kd.string (w0:=w) w.heap.size rfl (.tmp 103) (.tmp 109) 85 9 (.string ⟨#[]⟩) 16 rfl Try.underlying85 info9 rfl (by decide) (by omega) (.slice eH aT.length eI) aT ((rd_T84 l0 aC).f0) [.string ((rd_T84 l0 aC).f0)] (fun _=>True) (fun _=>False) rfl rfl ?aP (fun _ hk=>hk.elim) ?aF ?aO ?aB ?aS ?aL ?_;(case aP=>exact rfl);(case aB=>exact (bL HB));(case aF=>exact (fun _ _=>trivial));(case aO=>exact (rL aE));(case aS=>exact (below_size (bL HB)));(case aL=>have:=cS.out;omega);intro eK fP ho hb hg hat;rw [← cU.out] at ho;have a8:=am ho;replace aA:=bgr aA hg aE;replace HB:=am hb;clear aE;clear ho hb hg hat) | (go_at_call 70;(with_reducible refine (ih k4 (by have:=bF.out;have:=dE.out;have:=dG.out;have:=dH.out;omega) _ _ l0 aC (wrap64 (a2 + 1)) dC _ ?side1 ?side2 e5.out).mono ?_);(case side1=>exact cL cV HB);(case side2=>exact eO.out);rintro e fQ ⟨rfl,hb⟩;replace a8:=rbe a8 hb;replace aA:=bkb aA hb;replace HB:=bst HB hb;clear hb));try go_quiet (fail))
   go_ret
   exact fin_ (bL HB)
 have H':=am H;clear H
 obtain⟨eL,eM,eN⟩:=Kd.R_slice aE.out
 subst eN
 have bK:0≤(aC:Int):=dcd
 have bM:aC < (l0.length:Int):=dcd
 obtain⟨cC,dD,aK,aM,aN,aQ⟩:=at_T84 cV.out aC bK bM
 obtain rfl:bN=cC:=(by injection dD)
 replace aK:=crd HB aK
 replace aM:=crd HB aM
 replace aN:=crd HB aN
 replace aQ:=crd HB aQ
 replace bK:=eq_true bK
 replace bM:=eq_true bM
 iterate 6 (try go_wp2_with (first | ((with_reducible refine gate_builtin (b:=.append) (xs:=#[.tmp 103,.tmp 109]) rfl ?_);at_builtin;refine Kd.R_append Kd.string (w0:=w) w.heap.size rfl (.tmp 103) (.tmp 109) 85 9 (.string ⟨#[]⟩) 16 rfl Try.underlying85 info9 rfl (by decide) (by omega) (.slice eL aT.length eM) aT ((rd_T84 l0 aC).f0) [.string ((rd_T84 l0 aC).f0)] (fun _=>True) (fun _=>False) rfl rfl ?aP (fun _ hk=>hk.elim) ?aF ?aO ?aB ?aS ?aL ?_;(case aP=>exact rfl);(case aB=>exact (bL HB));(case aF=>exact (fun _ _=>trivial));(case aO=>exact (rL aE));(case aS=>exact (below_size (bL HB)));(case aL=>have:=cS.out;omega);intro eK fR ho hb hg hat;rw [← cU.out] at ho;have a8:=am ho;replace aA:=bgr aA hg aE;replace HB:=am hb;clear aE;clear ho hb hg hat) | (go_at_call 70;(with_reducible refine (ih k4 (by have:=bF.out;have:=dE.out;have:=dG.out;have:=dH.out;omega) _ _ l0 aC (wrap64 (a2 + 1)) dC _ ?side1 ?side2 e5.out).mono ?_);(case side1=>exact cL cV HB);(case side2=>exact eO.out);rintro e fS ⟨rfl,hb⟩;replace a8:=rbe a8 hb;replace aA:=bkb aA hb;replace HB:=bst HB hb;clear hb));try go_quiet (fail))
 go_roundg k4
 case measure=>have:=bF.out;have:=dE.out;have:=dG.out;have:=dH.out;omega
 case rel=>exact⟨(dC),(eG),(wrap64 (bE + 1)),sr,sr,H',⟨by have:=bF.out;have:=dE.out;have:=dG.out;have:=dH.out;omega⟩,⟨rL a8⟩,⟨kL aA⟩,⟨bL HB⟩⟩
/-! ### spec_SchemaOk: function 48 -/
def spec_SchemaOk.f (k:Nat)(l0:List (S84)):Option (Bool):=(spec_l1In.f (l0.length:Int) 2 20).bind fun aA=>(if aA=true then ((spec_l5Check.f k l0 0 1).bind fun aC=>(some (aC == (l0.length:Int)))) else (some false))
theorem spec_SchemaOk.calls {k : Nat} {A0 : Option Addr} {c0 : Nat} {l0 : List (S84)} {r : Bool} {w : World} (hr0 : Kd.C k84 w A0 l0.length l0) (aC : l0.length ≤ c0) (h : spec_SchemaOk.f k l0 = some r) :
    Calls Try.prog 48 #[.slice A0 l0.length c0] w fun e w'=>e=.returned (.bool r)∧Below w.heap.size w w':=by
 have aD:=am hr0
 have aE:=am aC
 clear hr0 aC
 have HB:=am (Below.refl w.heap.size w)
 have H:=h;clear h;unfold spec_SchemaOk.f at H
 replace H:=bnd H;obtain⟨aG,A2,H⟩:=H
 replace H:=ibt H;obtain⟨rfl,H⟩ | ⟨rfl,H⟩:=H
 rotate_left
 · cases H
   go_enter Try.func48,Try.ntmps48
   go_wp2_with (first | ((with_reducible refine gc 49 rfl ?_);refine gc1 (some 5) Try.func49 rfl (spec_l1In.calls A2.out) ?_;rintro w' ⟨nd,rfl⟩))
   go_ret
   exact fin_ (bL HB)
 replace H:=bnd H;obtain⟨aA,A4,H⟩:=H
 cases H
 go_enter Try.func48,Try.ntmps48
 go_wp2_with (first | ((with_reducible refine gc 49 rfl ?_);refine gc1 (some 5) Try.func49 rfl (spec_l1In.calls A2.out) ?_;rintro w' ⟨nd,rfl⟩) | (go_at_call 70;(with_reducible refine (spec_l5Check.calls k _ _ l0 0 1 aA _ ?side1 ?side2 A4.out).mono ?_);(case side1=>exact C_later aD.out);(case side2=>exact aE.out);rintro e w5 ⟨rfl,hb⟩;replace HB:=bst HB hb;clear hb))
 go_ret
 exact fin_ (bL HB)
/-! ### spec_l5Leaves: function 52 -/
def spec_l5Leaves.l0:Nat→List (S84)→List Int→Int→Option (List Int)
  | 0,_,_,_=>none
  | k + 1,x0,x3,x4=>if x4 < (x0.length:Int) then (if 0≤x4 then (if ((rd_T84 x0 x4).f1)=7 then (spec_l5Leaves.l0 k x0 x3 (wrap64 (x4 + 1))) else (if x3.length < 17592186044416 then (spec_l5Leaves.l0 k x0 (x3 ++ [x4]) (wrap64 (x4 + 1))) else (none))) else (none)) else (some x3)
def spec_l5Leaves.f (k:Nat)(l0:List (S84)):Option (List Int):=spec_l5Leaves.l0 k l0 (([]:List Int)) 0
theorem spec_l5Leaves.calls {k : Nat} {A0 : Option Addr} {c0 : Nat} {l0 : List (S84)} {r : List Int} {w : World} (hr0 : Kd.C k84 w A0 l0.length l0) (bC : l0.length ≤ c0) (h : spec_l5Leaves.f k l0 = some r) :
    Calls Try.prog 52 #[.slice A0 l0.length c0] w fun e w'=>∃ bD:Value,e=.returned (bD)∧Kd.R (Kd.int .i64) 3 w' w.heap.size (fun _=>True) bD r∧Below w.heap.size w w':=by
 have bE:=am hr0
 have bI:=am bC
 clear hr0 bC
 have HB:=am (Below.refl w.heap.size w)
 have H:=h;clear h;unfold spec_l5Leaves.f at H
 generalize aJ:((([]:List Int)):List Int)=aY at H;have aK:=am aJ.symm;clear aJ
 have H':=am H;clear H
 go_enter Try.func52,Try.ntmps52
 go_wp2_with (first | ((with_reducible refine gd 5 rfl ?_);refine Kd.R_lit (Kd.int .i64) _ 3 ?hg (N:=5) ?hd (xs:=([]:List Int)) (inner:=[]) (ok:=fun _=>True) (okp:=fun _=>True) ?hr ?hp (fun _ hk=>hk) trivial (Below.refl _ _) (Nat.le_refl _) (by simp) ?_;(case hd=>rfl);(case hg=>rfl);(case hr=>first | (go_simp;done) | (go_simp;rfl));(case hp=>exact (Reps.none _ _));intro bF w2 aQ hb hg_ hnew_;clear hg_ hnew_;(first | rw [← aK.out] at aQ | (simp only [Int.reduceToNat] at aQ;rw [← aK.out] at aQ));have aT:=rlb aQ HB;replace HB:=bst HB hb;clear hb aQ))
 go_loopg [3,4] k (fun kq v3 v4 w'=>∃ (aC:List Int) (aA:Int),v4=.int .i64 aA∧Aside0 (spec_l5Leaves.l0 kq l0 aC aA=some r)∧Aside0 (kq≤k)∧Aside0 (Kd.R (Kd.int .i64) 3 w' w.heap.size (fun _=>True) v3 aC)∧Aside0 (Below w.heap.size w w'))
 case atStart=>exact⟨(aY),(0),sr,H',⟨Nat.le_refl _⟩,⟨rL aT⟩,⟨bL HB⟩⟩
 clear H'
 obtain⟨aC,aA,rfl,HA,aX,aD,HB⟩:=hrel
 cases gk with
 | zero=>exact absurd HA.out (by simp [spec_l5Leaves.l0])
 | succ k1=>?_
 have H:=HA.out
 clear HA
 simp only [spec_l5Leaves.l0] at H
 replace H:=idc H;obtain⟨aZ,H⟩ | ⟨aZ,H⟩:=H
 rotate_left
 · cases H
   go_wp2
   go_ret
   exact⟨_,fin_ ⟨rL aD,bL HB⟩⟩
 replace H:=ifd H;obtain⟨bG,H⟩:=H
 replace H:=ieq H;obtain⟨a6,a7,H⟩ | ⟨c6,a6,a7,H⟩:=H
 · have H':=am H;clear H
   obtain⟨a8,a9,aU,aN,aE,aG,aH,aI⟩:=at_T84b HB bE aA;cases aN
   go_wp2
   go_roundg k1
   case measure=>have:=aX.out;omega
   case rel=>exact⟨(aC),(wrap64 (aA + 1)),sr,H',⟨by have:=aX.out;omega⟩,⟨rL aD⟩,⟨bL HB⟩⟩
 replace H:=ifs H;obtain⟨c7,H⟩:=H
 have bA:=am c7
 clear c7
 generalize aM:((aC ++ [aA]):List Int)=bB at H;have aV:=am aM.symm;clear aM
 have H':=am H;clear H
 obtain⟨a8,a9,aU,aN,aE,aG,aH,aI⟩:=at_T84b HB bE aA;cases aN
 go_wp2_with (first | ((with_reducible refine gate_builtin (b:=.append) (xs:=#[.tmp 18,.tmp 20]) rfl ?_);at_builtin;refine Kd.R_append (Kd.int .i64) (w0:=w) w.heap.size rfl (.tmp 18) (.tmp 20) 56 3 (.int .i64 0) 8 rfl Try.underlying56 info3 rfl (by decide) (by omega) u3 aC aA [.int .i64 aA] (fun _=>True) (fun _=>False) rfl rfl ?aP (fun _ hk=>hk.elim) ?aF ?aO ?aB ?aS ?aL ?_;(case aP=>exact rfl);(case aB=>exact (bL HB));(case aF=>exact (fun _ _=>trivial));(case aO=>exact (rL aD));(case aS=>exact (below_size (bL HB)));(case aL=>have:=bA.out;omega);intro bH w8 ho hb hg hat;rw [← aV.out] at ho;have aW:=am ho;replace HB:=am hb;clear aD;clear ho hb hg hat))
 go_roundg k1
 case measure=>have:=aX.out;omega
 case rel=>exact⟨(bB),(wrap64 (aA + 1)),sr,H',⟨by have:=aX.out;omega⟩,⟨rL aW⟩,⟨bL HB⟩⟩
/-! ### spec_SchemaLeaves: function 47 -/
def spec_SchemaLeaves.f (k:Nat)(l0:List (S84)):Option (List Int):=(spec_SchemaOk.f k l0).bind fun aA=>(if aA=true then ((spec_l5Leaves.f k l0).bind fun aC=>(some aC)) else (some (([]:List Int))))
theorem spec_SchemaLeaves.calls {k : Nat} {A0 : Option Addr} {c0 : Nat} {l0 : List (S84)} {r : List Int} {w : World} (hr0 : Kd.C k84 w A0 l0.length l0) (aJ : l0.length ≤ c0) (h : spec_SchemaLeaves.f k l0 = some r) :
    Calls Try.prog 47 #[.slice A0 l0.length c0] w fun e w'=>∃ aK:Value,e=.returned (aK)∧Kd.R (Kd.int .i64) 3 w' w.heap.size (fun _=>True) aK r∧Below w.heap.size w w':=by
 have aH:=am hr0
 have aI:=am aJ
 clear hr0 aJ
 have HB:=am (Below.refl w.heap.size w)
 have H:=h;clear h;unfold spec_SchemaLeaves.f at H
 replace H:=bnd H;obtain⟨aN,A2,H⟩:=H
 replace H:=ibt H;obtain⟨rfl,H⟩ | ⟨rfl,H⟩:=H
 · replace H:=bnd H;obtain⟨aQ,A4,H⟩:=H
   cases H
   go_enter Try.func47,Try.ntmps47
   go_wp2_with (first | ((with_reducible refine gc 48 rfl ?_);refine gc1 (some 4) Try.func48 rfl (spec_SchemaOk.calls (C_later aH.out) aI.out A2.out) ?_;rintro w5 hb;replace HB:=bst HB hb;clear hb) | ((with_reducible refine gc 52 rfl ?_);refine gl_ (some 8) Try.func52 #[.slice A0 l0.length c0] rfl ?_;(with_reducible refine (spec_l5Leaves.calls ?side1 ?side2 A4.out).mono ?_);(case side1=>exact cL aH HB);(case side2=>exact aI.out);rintro e w6 ⟨aT,rfl,aM,hb⟩;refine⟨_,rfl,?_⟩;have aD:=rlb aM HB;replace HB:=bst HB hb;clear hb aM))
   go_ret
   exact⟨_,fin_ ⟨rL aD,bL HB⟩⟩
 generalize aA:((([]:List Int)):List Int)=aU at H;have aC:=am aA.symm;clear aA
 cases H
 go_enter Try.func47,Try.ntmps47
 go_wp2_with (first | ((with_reducible refine gc 48 rfl ?_);refine gc1 (some 4) Try.func48 rfl (spec_SchemaOk.calls (C_later aH.out) aI.out A2.out) ?_;rintro w7 hb;replace HB:=bst HB hb;clear hb) | ((with_reducible refine gd 6 rfl ?_);refine Kd.R_lit (Kd.int .i64) _ 3 ?hg (N:=6) ?hd (xs:=([]:List Int)) (inner:=[]) (ok:=fun _=>True) (okp:=fun _=>True) ?hr ?hp (fun _ hk=>hk) trivial (Below.refl _ _) (Nat.le_refl _) (by simp) ?_;(case hd=>rfl);(case hg=>rfl);(case hr=>first | (go_simp;done) | (go_simp;rfl));(case hp=>exact (Reps.none _ _));intro aV w8 aE hb hg_ hnew_;clear hg_ hnew_;(first | rw [← aC.out] at aE | (simp only [Int.reduceToNat] at aE;rw [← aC.out] at aE));have aG:=rlb aE HB;replace HB:=bst HB hb;clear hb aE))
 go_ret
 exact⟨_,fin_ ⟨rL aG,bL HB⟩⟩
end Go.Proofs.Ytjdapaocdkcgdaa.PFnExactMetaPack
