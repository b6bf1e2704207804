/- The machine's side of FnExactMetaPack: each Go function, and what its call comes to. No condition. -/
import Derived.Test.YtjdapaocdkcgdaaPFnExactMetaPackx0
import Derived.Test.YtjdapaocdkcgdaaPFnExactMetaPackx3
import Derived.Test.YtjdapaocdkcgdaaPFnExactMetaPackx4
namespace Go.Proofs.Ytjdapaocdkcgdaa.PFnExactMetaPack
open Go.RowKit Go.Proofs.YtjdapaocdkcgdaaW.PrintWords Go.Proofs.YtjdapaocdkcgdaaW.PrintLast Go.Proofs.YtjdapaocdkcgdaaW.PrintMore Go.Proofs.YtjdapaocdkcgdaaW.PrintMore2
attribute [local go_sem] max2_int min2_int max_two min_two max_three min_three max_four min_four
set_option linter.unusedVariables false
set_option linter.unusedSimpArgs false
set_option maxHeartbeats 8000000
set_option maxRecDepth 100000

/-! ### spec_l18Long: function 24 -/
def spec_l18Long.f (a0:Int)(a1:Int):Option (Int × Int × Int × ByteArray × Int):=some (6,a0,a1,(⟨#[]⟩:ByteArray),0)
theorem spec_l18Long.calls {a0 a1 r1 r2 r3 : Int} {r4 : ByteArray} {r5 : Int} {w : World} (h : spec_l18Long.f a0 a1 = some (r1, r2, r3, r4, r5)) :
    Calls Try.prog 24 #[.int .i64 a0,.int .i64 a1] w fun e w'=>e=.returned (.agg #[.int .i64 r1,.int .i64 r2,.int .i64 r3,.string r4,.int .i64 r5])∧Below w.heap.size w w':=by
 have hu49:=Try.underlying49
 have HB:=am (Below.refl w.heap.size w)
 have H:=h;clear h;unfold spec_l18Long.f at H
 replace H:=sj5 H;obtain⟨rfl,rfl,rfl,rfl,rfl⟩:=H
 go_enter Try.func24,Try.ntmps24
 go_wp2_with (first | ((with_reducible refine gd 4 rfl ?_);refine bxw 4 rfl #[.int .i64 0,.int .i64 0,.int .i64 0,.string ⟨#[]⟩,.int .i64 0] 49 HB ?_;clear HB;intro aC w3 aA aD aE HB;obtain⟨_,_,_,_,_,_,_,_,_,_⟩:=cl5 aA))
 refine bodyPost_ret (results_cell_row rfl _ _ aC 49 #[.int .i64 6,.int .i64 a0,.int .i64 a1,.string ⟨#[]⟩,.int .i64 0] (0,0) _ rfl (kL aA) Try.underlying49 rfl (by kernel_rfl)) rfl ?_
 exact fin_ (bL HB)
/-! ### spec_l5After: function 90 -/
mutual
def spec_l5After.l0:Nat→List (S84)→Int→Int→Int→Option (Int)
  | 0,_,_,_,_=>none
  | k + 1,x0,x1,x5,x6=>if 0≤x1 then (if x1 < (x0.length:Int) then (if x6 < ((rd_T84 x0 x1).f3) then ((spec_l5After.f k x0 x5).bind fun aA=>(spec_l5After.l0 k x0 x1 aA (wrap64 (x6 + 1)))) else (some x5)) else (none)) else (none)
def spec_l5After.f:Nat→List (S84)→Int→Option (Int)
  | 0,_,_=>none
  | k + 1,l0,a1=>spec_l5After.l0 k l0 a1 (wrap64 (a1 + 1)) 0
end
theorem spec_l5After.calls (k:Nat):∀ (A0:Option Addr) (c0:Nat) (l0:List (S84)) (a1:Int) (r:Int) (w:World) (hr0:Kd.C k84 w A0 l0.length l0) (aQ:l0.length≤c0) (h:spec_l5After.f k l0 a1=some r),
    Calls Try.prog 90 #[.slice A0 l0.length c0,.int .i64 a1] w fun e w'=>e=.returned (.int .i64 r)∧Drawn0 w w':=by
 induction k using Nat.strongRecOn with
 | _ k ih =>
 intro A0 c0 l0 a1 r w hr0 aQ h
 cases k with
 | zero=>exact absurd h (by simp [spec_l5After.f])
 | succ k =>
 simp only [spec_l5After.f] at h
 have aT:=am hr0
 have aW:=am aQ
 clear hr0 aQ
 have H:=h;clear h;unfold spec_l5After.f at H
 have H':=am H;clear H
 go_enter Try.func90,Try.ntmps90
 go_wp2
 go_loopg [5,6] k (fun kq v5 v6 w'=>∃ (aD:Int) (aE:Int),v5=.int .i64 aD∧v6=.int .i64 aE∧Aside0 (spec_l5After.l0 kq l0 a1 aD aE=some r)∧Aside0 (kq≤k)∧Drawn0 w w')
 case atStart=>exact⟨(wrap64 (a1 + 1)),(0),sr,sr,H',⟨Nat.le_refl _⟩,by repeat (first | exact Drawn0.refl _ | apply Drawn0.step)⟩
 clear H'
 obtain⟨aD,aE,rfl,rfl,HA,aU,⟨m1,rfl⟩⟩:=hrel
 cases gk with
 | zero=>exact absurd HA.out (by simp [spec_l5After.l0])
 | succ k1=>?_
 have H:=HA.out
 clear HA
 simp only [spec_l5After.l0] at H
 replace H:=if_dd H;obtain⟨aX,aY,H⟩:=H
 replace H:=idc H;obtain⟨aV,H⟩ | ⟨aV,H⟩:=H
 rotate_left
 · cases H
   have aA:0≤(a1:Int):=dcd
   have aC:a1 < (l0.length:Int):=dcd
   obtain⟨aM,aK,aG,aH,aI,aJ⟩:=at_T84 aT.out a1 aA aC
   cases aK
   replace aA:=eq_true aA
   replace aC:=eq_true aC
   go_wp2
   go_ret
   exact⟨sr,drl⟩
 replace H:=bnd H;obtain⟨aN,A6,H⟩:=H
 have H':=am H;clear H
 have aA:0≤(a1:Int):=dcd
 have aC:a1 < (l0.length:Int):=dcd
 obtain⟨aM,aK,aG,aH,aI,aJ⟩:=at_T84 aT.out a1 aA aC
 cases aK
 replace aA:=eq_true aA
 replace aC:=eq_true aC
 go_wp2_with (first | ((with_reducible refine gc 90 rfl ?_);refine gc1 (some 20) Try.func90 rfl (ih k1 (by have:=aU.out;omega) _ _ l0 aD aN _ (C_later aT.out) aW.out A6.out) ?_;rintro w' ⟨nd,rfl⟩))
 go_roundg k1
 case measure=>have:=aU.out;omega
 case rel=>exact⟨(aN),(wrap64 (aE + 1)),sr,sr,H',⟨by have:=aU.out;omega⟩,by repeat (first | exact Drawn0.refl _ | apply Drawn0.step)⟩
/-! ### spec_l5Way: function 71 -/
def spec_l5Way.l0:Nat→List (S84)→Int→List Int→Int→Option (List Int)
  | 0,_,_,_,_=>none
  | k + 1,x0,x1,x5,x6=>if x6≤x1 then ((spec_l5After.f k x0 x6).bind fun aA=>(if aA > x1 then (if x5.length < 17592186044416 then (spec_l5Way.l0 k x0 x1 (x5 ++ [x6]) (wrap64 (x6 + 1))) else (none)) else (spec_l5Way.l0 k x0 x1 x5 (wrap64 (x6 + 1))))) else (some x5)
def spec_l5Way.f (k:Nat)(l0:List (S84))(a1:Int):Option (List Int):=spec_l5Way.l0 k l0 a1 (([]:List Int)) 0
theorem spec_l5Way.calls {k : Nat} {A0 : Option Addr} {c0 : Nat} {l0 : List (S84)} {a1 : Int} {r : List Int} {w : World} (hr0 : Kd.C k84 w A0 l0.length l0) (aY : l0.length ≤ c0) (h : spec_l5Way.f k l0 a1 = some r) :
    Calls Try.prog 71 #[.slice A0 l0.length c0,.int .i64 a1] w fun e w'=>∃ aZ:Value,e=.returned (aZ)∧Kd.R (Kd.int .i64) 3 w' w.heap.size (fun _=>True) aZ r∧Below w.heap.size w w':=by
 have a6:=am hr0
 have a7:=am aY
 clear hr0 aY
 have HB:=am (Below.refl w.heap.size w)
 have H:=h;clear h;unfold spec_l5Way.f at H
 generalize aE:((([]:List Int)):List Int)=aT at H;have aG:=am aE.symm;clear aE
 have H':=am H;clear H
 go_enter Try.func71,Try.ntmps71
 go_wp2_with (first | ((with_reducible refine gd 7 rfl ?_);refine Kd.R_lit (Kd.int .i64) _ 3 ?hg (N:=7) ?hd (xs:=([]:List Int)) (inner:=[]) (ok:=fun _=>True) (okp:=fun _=>True) ?hr ?hp (fun _ hk=>hk) trivial (Below.refl _ _) (Nat.le_refl _) (by simp) ?_;(case hd=>rfl);(case hg=>rfl);(case hr=>first | (go_simp;done) | (go_simp;rfl));(case hp=>exact (Reps.none _ _));intro a8 w3 aI hb hg_ hnew_;clear hg_ hnew_;(first | rw [← aG.out] at aI | (simp only [Int.reduceToNat] at aI;rw [← aG.out] at aI));have aJ:=rlb aI HB;replace HB:=bst HB hb;clear hb aI))
 go_loopg [5,6] k (fun kq v5 v6 w'=>∃ (aC:List Int) (aA:Int),v6=.int .i64 aA∧Aside0 (spec_l5Way.l0 kq l0 a1 aC aA=some r)∧Aside0 (kq≤k)∧Aside0 (Kd.R (Kd.int .i64) 3 w' w.heap.size (fun _=>True) v5 aC)∧Aside0 (Below w.heap.size w w'))
 case atStart=>exact⟨(aT),(0),sr,H',⟨Nat.le_refl _⟩,⟨rL aJ⟩,⟨bL HB⟩⟩
 clear H'
 obtain⟨aC,aA,rfl,HA,aQ,aD,HB⟩:=hrel
 cases gk with
 | zero=>exact absurd HA.out (by simp [spec_l5Way.l0])
 | succ k1=>?_
 have H:=HA.out
 clear HA
 simp only [spec_l5Way.l0] at H
 replace H:=idc H;obtain⟨aU,H⟩ | ⟨aU,H⟩:=H
 rotate_left
 · cases H
   go_wp2
   go_ret
   exact⟨_,fin_ ⟨rL aD,bL HB⟩⟩
 replace H:=bnd H;obtain⟨aK,A6,H⟩:=H
 replace H:=igt H;obtain⟨aV,H⟩ | ⟨aV,H⟩:=H
 rotate_left
 · have H':=am H;clear H
   go_wp2_with (first | ((with_reducible refine gc 90 rfl ?_);refine gl_ (some 15) Try.func90 #[.slice A0 l0.length c0,.int .i64 aA] rfl ?_;(with_reducible refine (spec_l5After.calls k1 _ _ l0 aA aK _ ?side1 ?side2 A6.out).mono ?_);(case side1=>exact cL a6 HB);(case side2=>exact a7.out);rintro e w' ⟨rfl,⟨nd,rfl⟩⟩;refine⟨_,rfl,?_⟩))
   go_roundg k1
   case measure=>have:=aQ.out;omega
   case rel=>exact⟨(aC),(wrap64 (aA + 1)),sr,H',⟨by have:=aQ.out;omega⟩,⟨rL aD⟩,⟨bL HB⟩⟩
 replace H:=ifs H;obtain⟨c8,H⟩:=H
 have aW:=am c8
 clear c8
 generalize aH:((aC ++ [aA]):List Int)=aX at H;have aM:=am aH.symm;clear aH
 have H':=am H;clear H
 go_wp2_with (first | ((with_reducible refine gc 90 rfl ?_);refine gl_ (some 15) Try.func90 #[.slice A0 l0.length c0,.int .i64 aA] rfl ?_;(with_reducible refine (spec_l5After.calls k1 _ _ l0 aA aK _ ?side1 ?side2 A6.out).mono ?_);(case side1=>exact cL a6 HB);(case side2=>exact a7.out);rintro e w' ⟨rfl,⟨nd,rfl⟩⟩;refine⟨_,rfl,?_⟩) | ((with_reducible refine gate_builtin (b:=.append) (xs:=#[.tmp 18,.tmp 20]) rfl ?_);at_builtin;refine Kd.R_append (Kd.int .i64) (w0:=w) w.heap.size rfl (.tmp 18) (.tmp 20) 56 3 (.int .i64 0) 8 rfl Try.underlying56 info3 rfl (by decide) (by omega) u5 aC aA [.int .i64 aA] (fun _=>True) (fun _=>False) rfl rfl ?aP (fun _ hk=>hk.elim) ?aF ?aO ?aB ?aS ?aL ?_;(case aP=>exact rfl);(case aB=>exact (bL HB));(case aF=>exact (fun _ _=>trivial));(case aO=>exact (rL aD));(case aS=>exact (below_size (bL HB)));(case aL=>have:=aW.out;omega);intro a9 w9 ho hb hg hat;rw [← aM.out] at ho;have aN:=am ho;replace HB:=am hb;clear aD;clear ho hb hg hat))
 go_roundg k1
 case measure=>have:=aQ.out;omega
 case rel=>exact⟨(aX),(wrap64 (aA + 1)),sr,H',⟨by have:=aQ.out;omega⟩,⟨rL aN⟩,⟨bL HB⟩⟩
/-! ### spec_LeafPath: function 51 -/
def spec_LeafPath.l0:Nat→List (S84)→List ByteArray→List Int→Int→Option (List ByteArray)
  | 0,_,_,_,_=>none
  | k + 1,x0,x5,x7,x8=>if x8 < (x7.length:Int) then (if 0≤x8 then (if 0≤(rd x7 x8) then (if (rd x7 x8) < (x0.length:Int) then (if x5.length < 8796093022208 then (spec_LeafPath.l0 k x0 (x5 ++ [(rd_T84 x0 (rd x7 x8)).f0]) x7 (wrap64 (x8 + 1))) else (none)) else (none)) else (none)) else (none)) else (some x5)
def spec_LeafPath.f (k:Nat)(l0:List (S84))(a1:Int):Option (List ByteArray):=(some (([]:List ByteArray):List ByteArray)).bind fun aC=>((spec_SchemaLeaves.f k l0).bind fun aA=>((spec_l1In.f a1 0 (wrap64 ((aA.length:Int) - 1))).bind fun aD=>(if aD=true then (if 0≤a1 then (if a1 < (aA.length:Int) then ((spec_l5Way.f k l0 (rd aA a1)).bind fun aE=>(spec_LeafPath.l0 k l0 aC aE 1)) else (none)) else (none)) else (some aC))))
theorem spec_LeafPath.calls {k : Nat} {A0 : Option Addr} {c0 : Nat} {l0 : List (S84)} {a1 : Int} {r : List ByteArray} {w : World} (hr0 : Kd.C k84 w A0 l0.length l0) (bW : l0.length ≤ c0) (h : spec_LeafPath.f k l0 a1 = some r) :
    Calls Try.prog 51 #[.slice A0 l0.length c0,.int .i64 a1] w fun e w'=>∃ bX:Value,e=.returned (bX)∧Kd.R Kd.string 9 w' w.heap.size (fun _=>True) bX r∧Below w.heap.size w w':=by
 have bA:=am hr0
 have bG:=am bW
 clear hr0 bW
 have HB:=am (Below.refl w.heap.size w)
 have H:=h;clear h;unfold spec_LeafPath.f at H
 replace H:=bsm H;obtain⟨bH,aG,H⟩:=H
 replace H:=bnd H;obtain⟨aY,A3,H⟩:=H
 replace H:=bnd H;obtain⟨cC,A4,H⟩:=H
 replace H:=ibt H;obtain⟨rfl,H⟩ | ⟨rfl,H⟩:=H
 rotate_left
 · cases H
   go_enter Try.func51,Try.ntmps51
   go_wp2_with (first | ((with_reducible refine gd 9 rfl ?_);refine Kd.R_lit Kd.string _ 9 ?hg (N:=9) ?hd (xs:=([]:List ByteArray)) (inner:=[]) (ok:=fun _=>True) (okp:=fun _=>True) ?hr ?hp (fun _ hk=>hk) trivial (Below.refl _ _) (Nat.le_refl _) (by simp) ?_;(case hd=>rfl);(case hg=>rfl);(case hr=>first | (go_simp;done) | (go_simp;rfl));(case hp=>exact (Reps.none _ _));intro bI cP aI hb hg_ hnew_;clear hg_ hnew_;(first | rw [← aG.out] at aI | (simp only [Int.reduceToNat] at aI;rw [← aG.out] at aI));have aA:=rlb aI HB;replace HB:=bst HB hb;clear hb aI) | ((with_reducible refine gc 47 rfl ?_);refine gl_ (some 11) Try.func47 #[.slice A0 l0.length c0] rfl ?_;(with_reducible refine (spec_SchemaLeaves.calls ?side1 ?side2 A3.out).mono ?_);(case side1=>exact cL bA HB);(case side2=>exact bG.out);rintro e cQ ⟨bJ,rfl,aM,hb⟩;refine⟨_,rfl,?_⟩;have aC:=rlb aM HB;replace aA:=rbe aA hb;replace HB:=bst HB hb;clear hb aM;obtain⟨cD,cE,bK⟩:=Kd.R_slice aC.out;subst bK) | ((with_reducible refine gc 49 rfl ?_);refine gc1 (some 16) Try.func49 rfl (spec_l1In.calls A4.out) ?_;rintro w' ⟨nd,rfl⟩))
   go_ret
   exact⟨_,fin_ ⟨rL aA,bL HB⟩⟩
 replace H:=if_dd H;obtain⟨bM,bN,H⟩:=H
 replace H:=bnd H;obtain⟨aE,A8,H⟩:=H
 have H':=am H;clear H
 go_enter Try.func51,Try.ntmps51
 go_wp2_with (first | ((with_reducible refine gd 9 rfl ?_);refine Kd.R_lit Kd.string _ 9 ?hg (N:=9) ?hd (xs:=([]:List ByteArray)) (inner:=[]) (ok:=fun _=>True) (okp:=fun _=>True) ?hr ?hp (fun _ hk=>hk) trivial (Below.refl _ _) (Nat.le_refl _) (by simp) ?_;(case hd=>rfl);(case hg=>rfl);(case hr=>first | (go_simp;done) | (go_simp;rfl));(case hp=>exact (Reps.none _ _));intro bI w9 aJ hb hg_ hnew_;clear hg_ hnew_;(first | rw [← aG.out] at aJ | (simp only [Int.reduceToNat] at aJ;rw [← aG.out] at aJ));have aA:=rlb aJ HB;replace HB:=bst HB hb;clear hb aJ) | ((with_reducible refine gc 47 rfl ?_);refine gl_ (some 11) Try.func47 #[.slice A0 l0.length c0] rfl ?_;(with_reducible refine (spec_SchemaLeaves.calls ?side1 ?side2 A3.out).mono ?_);(case side1=>exact cL bA HB);(case side2=>exact bG.out);rintro e cR ⟨bJ,rfl,aM,hb⟩;refine⟨_,rfl,?_⟩;have aC:=rlb aM HB;replace aA:=rbe aA hb;replace HB:=bst HB hb;clear hb aM;obtain⟨cF,cG,bO⟩:=Kd.R_slice aC.out;subst bO) | ((with_reducible refine gc 49 rfl ?_);refine gc1 (some 16) Try.func49 rfl (spec_l1In.calls A4.out) ?_;rintro w' ⟨nd,rfl⟩;have aN:0≤(a1:Int):=dcd;have aQ:a1 < (aY.length:Int):=dcd;obtain⟨bY,bP,aT⟩:=Kd.at_int (Kd.R_reads' aC.out).2.2 a1 aN aQ;cases bP;replace aN:=eq_true aN;replace aQ:=eq_true aQ) | ((with_reducible refine gc 71 rfl ?_);refine gl_ (some 24) Try.func71 #[.slice A0 l0.length c0,.int .i64 (rd aY a1)] rfl ?_;(with_reducible refine (spec_l5Way.calls ?side1 ?side2 A8.out).mono ?_);(case side1=>repeat (first | exact (Kd.C_below bA.out (bL HB)) | (with_reducible refine Kd.C_alloc ?_ _) | (with_reducible refine Kd.C_drewN ?_ _) | (with_reducible refine Kd.C_drew ?_)));(case side2=>exact bG.out);rintro e cS ⟨bQ,rfl,aM,hb⟩;refine⟨_,rfl,?_⟩;have aZ:=am (Kd.R_lower (Kd.R_new' aM (Kd.R_lt (rL aC))) (below_size (bL HB)));replace aA:=rbe aA hb;replace aC:=am (Kd.R_elder' (rL aC) (Kd.R_base aM) hb);replace HB:=bst HB hb;clear hb aM))
 go_loopg [5,8] k (fun kq v5 v8 w'=>∃ (aK:List ByteArray) (aD:Int),v8=.int .i64 aD∧Aside0 (spec_LeafPath.l0 kq l0 aK aE aD=some r)∧Aside0 (kq≤k)∧Aside0 (Kd.R Kd.string 9 w' w.heap.size (fun _=>True) v5 aK)∧Aside0 (Kd.R (Kd.int .i64) 3 w' w.heap.size (fun _=>True) bQ aE)∧Aside0 (Below w.heap.size w w'))
 case atStart=>exact⟨(bH),(1),sr,H',⟨Nat.le_refl _⟩,⟨rL aA⟩,⟨R_later (Kd.R_mono aZ.out (fun _ hk=>trivial))⟩,⟨bL HB⟩⟩
 clear H'
 try clear c5 bM bN aT aN aQ
 obtain⟨aK,aD,rfl,HA,bZ,aU,aH,HB⟩:=hrel
 cases gk with
 | zero=>exact absurd HA.out (by simp [spec_LeafPath.l0])
 | succ k1=>?_
 have H:=HA.out
 clear HA
 simp only [spec_LeafPath.l0] at H
 replace H:=idc H;obtain⟨a6,H⟩ | ⟨a6,H⟩:=H
 rotate_left
 · cases H
   obtain⟨cH,cI,bR⟩:=Kd.R_slice aH.out
   subst bR
   go_wp2
   go_ret
   exact⟨_,fin_ ⟨rL aU,bL HB⟩⟩
 replace H:=if_ddds H;obtain⟨b6,b7,b8,b9,H⟩:=H
 have a7:=am b9
 clear b9
 generalize aV:((aK ++ [(rd_T84 l0 (rd aE aD)).f0]):List ByteArray)=bS at H;have a8:=am aV.symm;clear aV
 have H':=am H;clear H
 obtain⟨cJ,cK,bT⟩:=Kd.R_slice aH.out
 subst bT
 have aW:0≤(aD:Int):=dcd
 have aX:aD < (aE.length:Int):=dcd
 obtain⟨cA,bU,bB⟩:=Kd.at_int (Kd.R_reads' aH.out).2.2 aD aW aX
 cases bU
 replace aW:=eq_true aW
 replace aX:=eq_true aX
 obtain⟨cM,cN,cB,bV,bC,bD,bE,bF⟩:=at_T84b HB bA (rd aE aD);cases bV
 go_wp2_with (first | ((with_reducible refine gate_builtin (b:=.append) (xs:=#[.tmp 31,.tmp 40]) rfl ?_);at_builtin;refine Kd.R_append Kd.string (w0:=w) w.heap.size rfl (.tmp 31) (.tmp 40) 85 9 (.string ⟨#[]⟩) 16 rfl Try.underlying85 info9 rfl (by decide) (by omega) u5 aK ((rd_T84 l0 (rd aE aD)).f0) [.string ((rd_T84 l0 (rd aE aD)).f0)] (fun _=>True) (fun _=>False) rfl rfl ?aP (fun _ hk=>hk.elim) ?aF ?aO ?aB ?aS ?aL ?_;(case aP=>exact rfl);(case aB=>exact (bL HB));(case aF=>exact (fun _ _=>trivial));(case aO=>exact (rL aU));(case aS=>exact (below_size (bL HB)));(case aL=>have:=a7.out;omega);intro cO cT ho hb hg hat;rw [← a8.out] at ho;have a9:=am ho;replace aH:=am (Kd.R_over' (rL aH) (Kd.R_typed (rL aU)) (by decide) hg);replace HB:=am hb;clear aU;clear ho hb hg hat))
 go_roundg k1
 case measure=>have:=bZ.out;omega
 case rel=>exact⟨(bS),(wrap64 (aD + 1)),sr,H',⟨by have:=bZ.out;omega⟩,⟨rL a9⟩,⟨rL aH⟩,⟨bL HB⟩⟩
end Go.Proofs.Ytjdapaocdkcgdaa.PFnExactMetaPack
