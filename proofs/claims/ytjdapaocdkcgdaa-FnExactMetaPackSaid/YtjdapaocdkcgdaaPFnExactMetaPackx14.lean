/- The machine's side of FnExactMetaPack: each Go function, and what its call comes to. No condition. -/
import Derived.Test.YtjdapaocdkcgdaaPFnExactMetaPackx0
import Derived.Test.YtjdapaocdkcgdaaPFnExactMetaPackx11
import Derived.Test.YtjdapaocdkcgdaaPFnExactMetaPackx12
import Derived.Test.YtjdapaocdkcgdaaPFnExactMetaPackx13
namespace Go.Proofs.Ytjdapaocdkcgdaa.PFnExactMetaPack
open Go.RowKit Go.Proofs.YtjdapaocdkcgdaaW.PrintWords Go.Proofs.YtjdapaocdkcgdaaW.PrintLast Go.Proofs.YtjdapaocdkcgdaaW.PrintMore Go.Proofs.YtjdapaocdkcgdaaW.PrintMore2
attribute [local go_sem] max2_int min2_int max_two min_two max_three min_three max_four min_four
set_option linter.unusedVariables false
set_option linter.unusedSimpArgs false
set_option maxHeartbeats 8000000
set_option maxRecDepth 100000

/-! ### impl_wayTo: function 76 -/
def impl_wayTo.l0:Nat→List (S84)→Int→List Int→List Int→Int→Option (List Int)
  | 0,_,_,_,_,_=>none
  | k + 1,x0,x1,x5,x6,x7=>if 0≤x1 then (if x1 < (x5.length:Int) then (if x7≤(rd x5 x1) then ((impl_colAfter.f k x0 x7 1).bind fun aA=>(if aA > (rd x5 x1) then (if x6.length < 17592186044416 then (impl_wayTo.l0 k x0 x1 x5 (x6 ++ [x7]) (wrap64 (x7 + 1))) else (none)) else (impl_wayTo.l0 k x0 x1 x5 x6 aA))) else (some x6)) else (none)) else (none)
def impl_wayTo.f (k:Nat)(l0:List (S84))(a1:Int):Option (List Int):=(impl_SchemaLeaves.f k l0).bind fun aA=>((impl_within.f a1 0 (wrap64 ((aA.length:Int) - 1))).bind fun aC=>(if aC=true then (impl_wayTo.l0 k l0 a1 aA (([]:List Int)) 1) else (some ([]:List Int))))
theorem impl_wayTo.calls {k : Nat} {A0 : Option Addr} {c0 : Nat} {l0 : List (S84)} {a1 : Int} {r : List Int} {w : World} (hr0 : Kd.C k84 w A0 l0.length l0) (bO : l0.length ≤ c0) (h : impl_wayTo.f k l0 a1 = some r) :
    Calls Try.prog 76 #[.slice A0 l0.length c0,.int .i64 a1] w fun e w'=>∃ bP:Value,e=.returned (bP)∧Kd.R (Kd.int .i64) 3 w' w.heap.size (fun _=>True) bP r∧Below w.heap.size w w':=by
 have bF:=am hr0
 have bG:=am bO
 clear hr0 bO
 have HB:=am (Below.refl w.heap.size w)
 have H:=h;clear h;unfold impl_wayTo.f at H
 replace H:=bnd H;obtain⟨aH,A3,H⟩:=H
 replace H:=bnd H;obtain⟨bV,A4,H⟩:=H
 replace H:=ibt H;obtain⟨rfl,H⟩ | ⟨rfl,H⟩:=H
 rotate_left
 · cases H
   go_enter Try.func76,Try.ntmps76
   go_wp2_with (first | ((with_reducible refine gc 77 rfl ?_);refine gc2 (some 10) Try.func77 rfl (impl_SchemaLeaves.calls (C_later bF.out) bG.out A3.out) ?_;rintro bI b7 ⟨a8,hb⟩;have aC:=rlb a8 HB;replace HB:=bst HB hb;clear hb a8;obtain⟨bW,bX,bJ⟩:=Kd.R_slice aC.out;subst bJ) | ((with_reducible refine gc 57 rfl ?_);refine gc1 (some 15) Try.func57 rfl (impl_within.calls A4.out) ?_;rintro w' ⟨nd,rfl⟩))
   go_ret
   exact⟨_,fin_ ⟨by first | exact Kd.R_nil _ _ _ _ _ | exact Kd.N_nil _ _ _ _ _ | exact Kd.V_nil _ _ _ _ _ | exact Kd.Q_nil _ _ _ _ _ | exact Kd.S_nil _ _ _ _ _,bL HB⟩⟩
 generalize aW:((([]:List Int)):List Int)=bK at H;have aX:=am aW.symm;clear aW
 have H':=am H;clear H
 go_enter Try.func76,Try.ntmps76
 go_wp2_with (first | ((with_reducible refine gc 77 rfl ?_);refine gc2 (some 10) Try.func77 rfl (impl_SchemaLeaves.calls (C_later bF.out) bG.out A3.out) ?_;rintro bI w6 ⟨a8,hb⟩;have aC:=rlb a8 HB;replace HB:=bst HB hb;clear hb a8;obtain⟨bQ,bM,bY⟩:=Kd.R_slice aC.out;subst bY) | ((with_reducible refine gc 57 rfl ?_);refine gc1 (some 15) Try.func57 rfl (impl_within.calls A4.out) ?_;rintro w' ⟨nd,rfl⟩) | ((with_reducible refine gd 17 rfl ?_);refine Kd.R_lit (Kd.int .i64) _ 3 ?hg (N:=17) ?hd (xs:=([]:List Int)) (inner:=[]) (ok:=fun _=>True) (okp:=fun _=>True) ?hr ?hp (fun _ hk=>hk) trivial (Below.refl _ _) (Nat.le_refl _) (by simp) ?_;(case hd=>rfl);(case hg=>rfl);(case hr=>first | (go_simp;done) | (go_simp;rfl));(case hp=>exact (Reps.none _ _));intro bZ w8 a7 hb hg_ hnew_;clear hg_ hnew_;(first | rw [← aX.out] at a7 | (simp only [Int.reduceToNat] at a7;rw [← aX.out] at a7));have a9:=am (Kd.R_lower (Kd.R_new' a7 (Kd.R_lt (rL aC))) (below_size (bL HB)));replace aC:=am (Kd.R_elder' (rL aC) (Kd.R_base a7) hb);replace HB:=bst HB hb;clear hb a7))
 go_loopg [6,7] k (fun kq v6 v7 w'=>∃ (aQ:List Int) (aD:Int),v7=.int .i64 aD∧Aside0 (impl_wayTo.l0 kq l0 a1 aH aQ aD=some r)∧Aside0 (kq≤k)∧Aside0 (Kd.R (Kd.int .i64) 3 w' w.heap.size (fun k_=>some k_≠(v6:Value).ownBlock) (.slice bQ aH.length bM) aH)∧Aside0 (Kd.R (Kd.int .i64) 3 w' w.heap.size (fun k_=>some k_≠((.slice bQ aH.length bM):Value).ownBlock) v6 aQ)∧Aside0 (Below w.heap.size w w'))
 case atStart=>exact⟨(bK),(1),sr,H',⟨Nat.le_refl _⟩,⟨R_later (Kd.R_mono aC.out (fun _ hk=>hk.2))⟩,⟨R_later (Kd.R_mono a9.out (fun _ hk=>hk.2))⟩,⟨bL HB⟩⟩
 clear H'
 try clear c5
 obtain⟨aQ,aD,rfl,HA,bH,aA,aI,HB⟩:=hrel
 cases gk with
 | zero=>exact absurd HA.out (by simp [impl_wayTo.l0])
 | succ k1=>?_
 have H:=HA.out
 clear HA
 simp only [impl_wayTo.l0] at H
 replace H:=if_dd H;obtain⟨bR,bS,H⟩:=H
 replace H:=idc H;obtain⟨bA,H⟩ | ⟨bA,H⟩:=H
 rotate_left
 · cases H
   have aE:0≤(a1:Int):=dcd
   have aG:a1 < (aH.length:Int):=dcd
   obtain⟨aJ,aT,aN⟩:=Kd.at_int (Kd.R_reads' aA.out).2.2 a1 aE aG
   cases aT
   replace aE:=eq_true aE
   replace aG:=eq_true aG
   go_wp2
   go_ret
   exact⟨_,fin_ ⟨R_later (Kd.R_mono aI.out (fun _ hk=>trivial)),bL HB⟩⟩
 replace H:=bnd H;obtain⟨aZ,bT,H⟩:=H
 replace H:=igt H;obtain⟨bB,H⟩ | ⟨bB,H⟩:=H
 rotate_left
 · have H':=am H;clear H
   have aE:0≤(a1:Int):=dcd
   have aG:a1 < (aH.length:Int):=dcd
   obtain⟨aJ,aT,aN⟩:=Kd.at_int (Kd.R_reads' aA.out).2.2 a1 aE aG
   cases aT
   replace aE:=eq_true aE
   replace aG:=eq_true aG
   go_wp2_with (first | ((with_reducible refine gc 74 rfl ?_);refine gl_ (some 26) Try.func74 #[.slice A0 l0.length c0,.int .i64 aD,.int .i64 1] rfl ?_;(with_reducible refine (impl_colAfter.calls k1 _ _ l0 aD 1 aZ _ ?side1 ?side2 bT.out).mono ?_);(case side1=>exact cL bF HB);(case side2=>exact bG.out);rintro e b8 ⟨rfl,hb⟩;refine⟨_,rfl,?_⟩;replace aA:=rbe aA hb;replace aI:=rbe aI hb;replace HB:=bst HB hb;clear hb;have aK:0≤(a1:Int):=dcd;have aM:a1 < (aH.length:Int):=dcd;obtain⟨aU,a6,aV⟩:=Kd.at_int (Kd.R_reads' aA.out).2.2 a1 aK aM;obtain rfl:aJ=aU:=(by injection a6);replace aK:=eq_true aK;replace aM:=eq_true aM))
   go_roundg k1
   case measure=>have:=bH.out;omega
   case rel=>exact⟨(aQ),(aZ),sr,H',⟨by have:=bH.out;omega⟩,⟨rL aA⟩,⟨rL aI⟩,⟨bL HB⟩⟩
 replace H:=ifs H;obtain⟨bU,H⟩:=H
 have bC:=am bU
 clear bU
 generalize aY:((aQ ++ [aD]):List Int)=bN at H;have bD:=am aY.symm;clear aY
 have H':=am H;clear H
 have aE:0≤(a1:Int):=dcd
 have aG:a1 < (aH.length:Int):=dcd
 obtain⟨aJ,aT,aN⟩:=Kd.at_int (Kd.R_reads' aA.out).2.2 a1 aE aG
 cases aT
 replace aE:=eq_true aE
 replace aG:=eq_true aG
 go_wp2_with (first | ((with_reducible refine gc 74 rfl ?_);refine gl_ (some 26) Try.func74 #[.slice A0 l0.length c0,.int .i64 aD,.int .i64 1] rfl ?_;(with_reducible refine (impl_colAfter.calls k1 _ _ l0 aD 1 aZ _ ?side1 ?side2 bT.out).mono ?_);(case side1=>exact cL bF HB);(case side2=>exact bG.out);rintro e b9 ⟨rfl,hb⟩;refine⟨_,rfl,?_⟩;replace aA:=rbe aA hb;replace aI:=rbe aI hb;replace HB:=bst HB hb;clear hb;have aK:0≤(a1:Int):=dcd;have aM:a1 < (aH.length:Int):=dcd;obtain⟨aU,a6,aV⟩:=Kd.at_int (Kd.R_reads' aA.out).2.2 a1 aK aM;obtain rfl:aJ=aU:=(by injection a6);replace aK:=eq_true aK;replace aM:=eq_true aM) | ((with_reducible refine gate_builtin (b:=.append) (xs:=#[.tmp 33,.tmp 35]) rfl ?_);at_builtin;refine Kd.R_append (Kd.int .i64) (w0:=w) w.heap.size rfl (.tmp 33) (.tmp 35) 56 3 (.int .i64 0) 8 rfl Try.underlying56 info3 rfl (by decide) (by omega) u6 aQ aD [.int .i64 aD] (fun k_=>some k_≠(.slice (some aJ) aH.length bM:Value).ownBlock) (fun _=>False) rfl rfl ?aP (fun _ hk=>hk.elim) ?aF ?aO ?aB ?aS ?aL ?_;(case aP=>exact rfl);(case aB=>exact (bL HB));(case aF=>exact (fun k_ hk=>Kd.fresh' (Kd.R_lt (rL aA)) k_ hk));(case aO=>exact (rL aI));(case aS=>exact (below_size (bL HB)));(case aL=>have:=bC.out;omega);intro b6 cA ho hb hg hat;rw [← bD.out] at ho;have bE:=am ho;replace aA:=am (Kd.R_after (ok:=(fun _=>True)) (R_later (Kd.R_mono aA.out (fun _ hk=>⟨trivial,hk⟩))) hg hat);replace HB:=am hb;clear aI;clear ho hb hg hat))
 go_roundg k1
 case measure=>have:=bH.out;omega
 case rel=>exact⟨(bN),(wrap64 (aD + 1)),sr,H',⟨by have:=bH.out;omega⟩,⟨R_later (Kd.R_mono aA.out (fun _ hk=>hk.2))⟩,⟨rL bE⟩,⟨bL HB⟩⟩
/-! ### impl_LeafPath: function 60 -/
def impl_LeafPath.l0:Nat→List (S84)→List ByteArray→List Int→Int→Int→Option (List ByteArray)
  | 0,_,_,_,_,_=>none
  | k + 1,x0,x5,aC,aD,aA=>if aA < aD then (if 0≤aA then (if aA < (aC.length:Int) then (if 0≤(rd aC aA) then (if (rd aC aA) < (x0.length:Int) then (if x5.length < 8796093022208 then (impl_LeafPath.l0 k x0 (x5 ++ [(rd_T84 x0 (rd aC aA)).f0]) aC aD (wrap64 (aA + 1))) else (none)) else (none)) else (none)) else (none)) else (none)) else (some x5)
def impl_LeafPath.f (k:Nat)(l0:List (S84))(a1:Int):Option (List ByteArray):=(impl_wayTo.f k l0 a1).bind fun aA=>(impl_LeafPath.l0 k l0 (([]:List ByteArray)) aA (aA.length:Int) 0)
theorem impl_LeafPath.calls {k : Nat} {A0 : Option Addr} {c0 : Nat} {l0 : List (S84)} {a1 : Int} {r : List ByteArray} {w : World} (hr0 : Kd.C k84 w A0 l0.length l0) (bD : l0.length ≤ c0) (h : impl_LeafPath.f k l0 a1 = some r) :
    Calls Try.prog 60 #[.slice A0 l0.length c0,.int .i64 a1] w fun e w'=>∃ bE:Value,e=.returned (bE)∧Kd.R Kd.string 9 w' w.heap.size (fun _=>True) bE r∧Below w.heap.size w w':=by
 have bF:=am hr0
 have bP:=am bD
 clear hr0 bD
 have HB:=am (Below.refl w.heap.size w)
 have H:=h;clear h;unfold impl_LeafPath.f at H
 generalize aI:((([]:List ByteArray)):List ByteArray)=a8 at H;have aJ:=am aI.symm;clear aI
 replace H:=bnd H;obtain⟨aC,A3,H⟩:=H
 have H':=am H;clear H
 go_enter Try.func60,Try.ntmps60
 go_wp2_with (first | ((with_reducible refine gd 8 rfl ?_);refine Kd.R_lit Kd.string _ 9 ?hg (N:=8) ?hd (xs:=([]:List ByteArray)) (inner:=[]) (ok:=fun _=>True) (okp:=fun _=>True) ?hr ?hp (fun _ hk=>hk) trivial (Below.refl _ _) (Nat.le_refl _) (by simp) ?_;(case hd=>rfl);(case hg=>rfl);(case hr=>first | (go_simp;done) | (go_simp;rfl));(case hp=>exact (Reps.none _ _));intro bQ w4 aT hb hg_ hnew_;clear hg_ hnew_;(first | rw [← aJ.out] at aT | (simp only [Int.reduceToNat] at aT;rw [← aJ.out] at aT));have aE:=rlb aT HB;replace HB:=bst HB hb;clear hb aT) | ((with_reducible refine gc 76 rfl ?_);refine gl_ (some 11) Try.func76 #[.slice A0 l0.length c0,.int .i64 a1] rfl ?_;(with_reducible refine (impl_wayTo.calls ?side1 ?side2 A3.out).mono ?_);(case side1=>exact cL bF HB);(case side2=>exact bP.out);rintro e w6 ⟨bR,rfl,bG,hb⟩;refine⟨_,rfl,?_⟩;have aK:=rlb bG HB;replace aE:=rbe aE hb;replace HB:=bst HB hb;clear hb bG;obtain⟨bS,bT,bU⟩:=Kd.R_slice aK.out;subst bU))
 go_loopg [5,13] k (fun kq v5 v13 w'=>∃ (aG:List ByteArray) (aA:Int),v13=.int .i64 aA∧Aside0 (impl_LeafPath.l0 kq l0 aG aC (aC.length:Int) aA=some r)∧Aside0 (kq≤k)∧Aside0 (Kd.R Kd.string 9 w' w.heap.size (fun _=>True) v5 aG)∧Aside0 (Kd.R (Kd.int .i64) 3 w' w.heap.size (fun _=>True) (.slice bS aC.length bT) aC)∧Aside0 (Below w.heap.size w w'))
 case atStart=>exact⟨(a8),(0),sr,H',⟨Nat.le_refl _⟩,⟨rL aE⟩,⟨rL aK⟩,⟨bL HB⟩⟩
 clear H'
 obtain⟨aG,aA,rfl,HA,bH,aH,aD,HB⟩:=hrel
 cases gk with
 | zero=>exact absurd HA.out (by simp [impl_LeafPath.l0])
 | succ k1=>?_
 have H:=HA.out
 clear HA
 simp only [impl_LeafPath.l0] at H
 replace H:=idc H;obtain⟨a9,H⟩ | ⟨a9,H⟩:=H
 rotate_left
 · cases H
   go_wp2
   go_ret
   exact⟨_,fin_ ⟨rL aH,bL HB⟩⟩
 replace H:=if_dddds H;obtain⟨bV,bI,bJ,bK,bM,H⟩:=H
 have aU:=am bM
 clear bM
 generalize aM:((aG ++ [(rd_T84 l0 (rd aC aA)).f0]):List ByteArray)=bA at H;have aV:=am aM.symm;clear aM
 have H':=am H;clear H
 have aN:0≤(aA:Int):=dcd
 have aQ:aA < (aC.length:Int):=dcd
 obtain⟨bN,bB,aX⟩:=Kd.at_int (Kd.R_reads' aD.out).2.2 aA aN aQ
 cases bB
 replace aN:=eq_true aN
 replace aQ:=eq_true aQ
 obtain⟨bW,bX,bO,bC,aY,aZ,a6,a7⟩:=at_T84b HB bF (rd aC aA);cases bC
 go_wp2_with (first | ((with_reducible refine gate_builtin (b:=.append) (xs:=#[.tmp 17,.tmp 23]) rfl ?_);at_builtin;refine Kd.R_append Kd.string (w0:=w) w.heap.size rfl (.tmp 17) (.tmp 23) 85 9 (.string ⟨#[]⟩) 16 rfl Try.underlying85 info9 rfl (by decide) (by omega) u5 aG ((rd_T84 l0 (rd aC aA)).f0) [.string ((rd_T84 l0 (rd aC aA)).f0)] (fun _=>True) (fun _=>False) rfl rfl ?aP (fun _ hk=>hk.elim) ?aF ?aO ?aB ?aS ?aL ?_;(case aP=>exact rfl);(case aB=>exact (bL HB));(case aF=>exact (fun _ _=>trivial));(case aO=>exact (rL aH));(case aS=>exact (below_size (bL HB)));(case aL=>have:=aU.out;omega);intro bY bZ ho hb hg hat;rw [← aV.out] at ho;have aW:=am ho;replace aD:=am (Kd.R_over' (rL aD) (Kd.R_typed (rL aH)) (by decide) hg);replace HB:=am hb;clear aH;clear ho hb hg hat))
 go_roundg k1
 case measure=>have:=bH.out;omega
 case rel=>exact⟨(bA),(wrap64 (aA + 1)),sr,H',⟨by have:=bH.out;omega⟩,⟨rL aW⟩,⟨rL aD⟩,⟨bL HB⟩⟩
/-! ### impl_textNode: function 61 -/
def impl_textNode.f (a0:Int)(a1:ByteArray):Option (Int × Int × Int × ByteArray × Int):=some (8,a0,0,a1,0)
theorem impl_textNode.calls {a0 : Int} {a1 : ByteArray} {r1 r2 r3 : Int} {r4 : ByteArray} {r5 : Int} {w : World} (h : impl_textNode.f a0 a1 = some (r1, r2, r3, r4, r5)) :
    Calls Try.prog 61 #[.int .i64 a0,.string a1] w fun e w'=>e=.returned (.agg #[.int .i64 r1,.int .i64 r2,.int .i64 r3,.string r4,.int .i64 r5])∧Below w.heap.size w w':=by
 have hu49:=Try.underlying49
 have HB:=am (Below.refl w.heap.size w)
 have H:=h;clear h;unfold impl_textNode.f at H
 replace H:=sj5 H;obtain⟨rfl,rfl,rfl,rfl,rfl⟩:=H
 go_enter Try.func61,Try.ntmps61
 go_wp2_with (first | ((with_reducible refine gd 4 rfl ?_);refine bxw 4 rfl #[.int .i64 0,.int .i64 0,.int .i64 0,.string ⟨#[]⟩,.int .i64 0] 49 HB ?_;clear HB;intro aC w3 aA aD aE HB;obtain⟨_,_,_,_,_,_,_,_,_,_⟩:=cl5 aA))
 refine bodyPost_ret (results_cell_row rfl _ _ aC 49 #[.int .i64 8,.int .i64 a0,.int .i64 0,.string a1,.int .i64 0] (0,0) _ rfl (kL aA) Try.underlying49 rfl (by kernel_rfl)) rfl ?_
 exact fin_ (bL HB)
/-! ### impl_LeafMax: function 78 -/
def impl_LeafMax.l0:Nat→List (S84)→Int→Int→List Int→Int→Int→Option (Int × Int)
  | 0,_,_,_,_,_,_=>none
  | k + 1,x0,x7,x8,aC,aD,aA=>if aA < aD then (if 0≤aA then (if aA < (aC.length:Int) then (if 0≤(rd aC aA) then (if (rd aC aA) < (x0.length:Int) then (if ((rd_T84 x0 (rd aC aA)).f2)=0 then (if ((rd_T84 x0 (rd aC aA)).f2)=2 then (impl_LeafMax.l0 k x0 x7 (wrap64 (x8 + 1)) aC aD (wrap64 (aA + 1))) else (impl_LeafMax.l0 k x0 x7 x8 aC aD (wrap64 (aA + 1)))) else (if ((rd_T84 x0 (rd aC aA)).f2)=2 then (impl_LeafMax.l0 k x0 (wrap64 (x7 + 1)) (wrap64 (x8 + 1)) aC aD (wrap64 (aA + 1))) else (impl_LeafMax.l0 k x0 (wrap64 (x7 + 1)) x8 aC aD (wrap64 (aA + 1))))) else (none)) else (none)) else (none)) else (none)) else (some (x7,x8))
def impl_LeafMax.f (k:Nat)(l0:List (S84))(a1:Int):Option (Int × Int):=(impl_wayTo.f k l0 a1).bind fun aA=>(if (aA.length:Int)=0 then (some ((-1),(-1))) else (impl_LeafMax.l0 k l0 0 0 aA (aA.length:Int) 0))
theorem impl_LeafMax.calls {k : Nat} {A0 : Option Addr} {c0 : Nat} {l0 : List (S84)} {a1 r1 r2 : Int} {w : World} (hr0 : Kd.C k84 w A0 l0.length l0) (b7 : l0.length ≤ c0) (h : impl_LeafMax.f k l0 a1 = some (r1, r2)) :
    Calls Try.prog 78 #[.slice A0 l0.length c0,.int .i64 a1] w fun e w'=>e=.returned (.tuple #[.int .i64 r1,.int .i64 r2])∧Below w.heap.size w w':=by
 have bI:=am hr0
 have b8:=am b7
 clear hr0 b7
 have HB:=am (Below.refl w.heap.size w)
 have H:=h;clear h;unfold impl_LeafMax.f at H
 replace H:=bnd H;obtain⟨aC,A3,H⟩:=H
 replace H:=ieq H;obtain⟨bP,bQ,H⟩ | ⟨c4,bP,bQ,H⟩:=H
 · replace H:=sj2 H;obtain⟨rfl,rfl⟩:=H
   go_enter Try.func78,Try.ntmps78
   go_wp2_with (first | ((with_reducible refine gc 76 rfl ?_);refine gc2 (some 13) Try.func76 rfl (impl_wayTo.calls (C_later bI.out) b8.out A3.out) ?_;rintro bY w5 ⟨bR,hb⟩;have bE:=rlb bR HB;replace HB:=bst HB hb;clear hb bR;obtain⟨cH,cI,cD⟩:=Kd.R_slice bE.out;subst cD))
   go_ret2
   exact fin_ (bL HB)
 have bZ:¬ (aC=[]):=fun h_=>c4 (by rw [h_];rfl)
 have H':=am H;clear H
 go_enter Try.func78,Try.ntmps78
 go_wp2_with (first | ((with_reducible refine gc 76 rfl ?_);refine gc2 (some 13) Try.func76 rfl (impl_wayTo.calls (C_later bI.out) b8.out A3.out) ?_;rintro bY w7 ⟨bR,hb⟩;have bE:=rlb bR HB;replace HB:=bst HB hb;clear hb bR;obtain⟨cE,cF,cG⟩:=Kd.R_slice bE.out;subst cG))
 go_loopg [7,8,19] k (fun kq v7 v8 v19 w'=>∃ (a6:Int) (a7:Int) (aA:Int),v7=.int .i64 a6∧v8=.int .i64 a7∧v19=.int .i64 aA∧Aside0 (impl_LeafMax.l0 kq l0 a6 a7 aC (aC.length:Int) aA=some (r1,r2))∧Aside0 (kq≤k)∧Aside0 (Kd.R (Kd.int .i64) 3 w' w.heap.size (fun _=>True) (.slice cE aC.length cF) aC)∧Aside0 (Below w.heap.size w w'))
 case atStart=>exact⟨(0),(0),(0),sr,sr,sr,H',⟨Nat.le_refl _⟩,⟨rL bE⟩,⟨bL HB⟩⟩
 clear H'
 try clear c4 bP bQ bZ
 obtain⟨a6,a7,aA,rfl,rfl,rfl,HA,bJ,aT,HB⟩:=hrel
 cases gk with
 | zero=>exact absurd HA.out (by simp [impl_LeafMax.l0])
 | succ k1=>?_
 have H:=HA.out
 clear HA
 simp only [impl_LeafMax.l0] at H
 replace H:=idc H;obtain⟨b6,H⟩ | ⟨b6,H⟩:=H
 rotate_left
 · replace H:=sj2 H;obtain⟨rfl,rfl⟩:=H
   go_wp2
   go_ret2
   exact fin_ (bL HB)
 replace H:=if_dddd H;obtain⟨b9,cA,cB,cC,H⟩:=H
 replace H:=ieq H;obtain⟨bS,bT,H⟩ | ⟨cJ,bS,bT,H⟩:=H
 · replace H:=ieq H;obtain⟨bU,bV,H⟩ | ⟨cK,bU,bV,H⟩:=H
   rotate_left
   · have H':=am H;clear H
     have aD:0≤(aA:Int):=dcd
     have aE:aA < (aC.length:Int):=dcd
     obtain⟨bF,a8,aV⟩:=Kd.at_int (Kd.R_reads' aT.out).2.2 aA aD aE
     cases a8
     replace aD:=eq_true aD
     replace aE:=eq_true aE
     obtain⟨bK,bM,aU,a9,aW,aX,aY,aZ⟩:=at_T84b HB bI (rd aC aA);cases a9
     have bA:0≤((rd aC aA):Int):=dcd
     have bB:(rd aC aA) < (l0.length:Int):=dcd
     obtain⟨bG,bN,aG,aH,aI,aJ⟩:=at_T84 bI.out (rd aC aA) bA bB
     obtain rfl:aU=bG:=(by injection bN)
     replace aG:=crd HB aG
     replace aH:=crd HB aH
     replace aI:=crd HB aI
     replace aJ:=crd HB aJ
     replace bA:=eq_true bA
     replace bB:=eq_true bB
     go_wp2
     go_roundg k1
     case measure=>have:=bJ.out;omega
     case rel=>exact⟨(a6),(a7),(wrap64 (aA + 1)),sr,sr,sr,H',⟨by have:=bJ.out;omega⟩,⟨rL aT⟩,⟨bL HB⟩⟩
   have H':=am H;clear H
   have aD:0≤(aA:Int):=dcd
   have aE:aA < (aC.length:Int):=dcd
   obtain⟨bF,a8,aV⟩:=Kd.at_int (Kd.R_reads' aT.out).2.2 aA aD aE
   cases a8
   replace aD:=eq_true aD
   replace aE:=eq_true aE
   obtain⟨bK,bM,aU,a9,aW,aX,aY,aZ⟩:=at_T84b HB bI (rd aC aA);cases a9
   have bA:0≤((rd aC aA):Int):=dcd
   have bB:(rd aC aA) < (l0.length:Int):=dcd
   obtain⟨bG,bN,aG,aH,aI,aJ⟩:=at_T84 bI.out (rd aC aA) bA bB
   obtain rfl:aU=bG:=(by injection bN)
   replace aG:=crd HB aG
   replace aH:=crd HB aH
   replace aI:=crd HB aI
   replace aJ:=crd HB aJ
   replace bA:=eq_true bA
   replace bB:=eq_true bB
   go_wp2
   go_roundg k1
   case measure=>have:=bJ.out;omega
   case rel=>exact⟨(a6),(wrap64 (a7 + 1)),(wrap64 (aA + 1)),sr,sr,sr,H',⟨by have:=bJ.out;omega⟩,⟨rL aT⟩,⟨bL HB⟩⟩
 replace H:=ieq H;obtain⟨bW,bX,H⟩ | ⟨cM,bW,bX,H⟩:=H
 rotate_left
 · have H':=am H;clear H
   have aD:0≤(aA:Int):=dcd
   have aE:aA < (aC.length:Int):=dcd
   obtain⟨bF,a8,aV⟩:=Kd.at_int (Kd.R_reads' aT.out).2.2 aA aD aE
   cases a8
   replace aD:=eq_true aD
   replace aE:=eq_true aE
   obtain⟨bK,bM,aU,a9,aW,aX,aY,aZ⟩:=at_T84b HB bI (rd aC aA);cases a9
   have bC:0≤((rd aC aA):Int):=dcd
   have bD:(rd aC aA) < (l0.length:Int):=dcd
   obtain⟨bH,bO,aK,aM,aN,aQ⟩:=at_T84 bI.out (rd aC aA) bC bD
   obtain rfl:aU=bH:=(by injection bO)
   replace aK:=crd HB aK
   replace aM:=crd HB aM
   replace aN:=crd HB aN
   replace aQ:=crd HB aQ
   replace bC:=eq_true bC
   replace bD:=eq_true bD
   go_wp2
   go_roundg k1
   case measure=>have:=bJ.out;omega
   case rel=>exact⟨(wrap64 (a6 + 1)),(a7),(wrap64 (aA + 1)),sr,sr,sr,H',⟨by have:=bJ.out;omega⟩,⟨rL aT⟩,⟨bL HB⟩⟩
 have H':=am H;clear H
 have aD:0≤(aA:Int):=dcd
 have aE:aA < (aC.length:Int):=dcd
 obtain⟨bF,a8,aV⟩:=Kd.at_int (Kd.R_reads' aT.out).2.2 aA aD aE
 cases a8
 replace aD:=eq_true aD
 replace aE:=eq_true aE
 obtain⟨bK,bM,aU,a9,aW,aX,aY,aZ⟩:=at_T84b HB bI (rd aC aA);cases a9
 have bC:0≤((rd aC aA):Int):=dcd
 have bD:(rd aC aA) < (l0.length:Int):=dcd
 obtain⟨bH,bO,aK,aM,aN,aQ⟩:=at_T84 bI.out (rd aC aA) bC bD
 obtain rfl:aU=bH:=(by injection bO)
 replace aK:=crd HB aK
 replace aM:=crd HB aM
 replace aN:=crd HB aN
 replace aQ:=crd HB aQ
 replace bC:=eq_true bC
 replace bD:=eq_true bD
 go_wp2
 go_roundg k1
 case measure=>have:=bJ.out;omega
 case rel=>exact⟨(wrap64 (a6 + 1)),(wrap64 (a7 + 1)),(wrap64 (aA + 1)),sr,sr,sr,H',⟨by have:=bJ.out;omega⟩,⟨rL aT⟩,⟨bL HB⟩⟩
/-! ### impl_LeafOf: function 62 -/
def impl_LeafOf.f (k:Nat)(l0:List (S84))(a1:Int):Option (Int × Int × Int × Bool):=(impl_SchemaLeaves.f k l0).bind fun aA=>((impl_within.f a1 0 (wrap64 ((aA.length:Int) - 1))).bind fun aD=>(if aD=true then ((impl_LeafMax.f k l0 a1).bind fun aC=>(if 0≤a1 then (if a1 < (aA.length:Int) then (if 0≤(rd aA a1) then (if (rd aA a1) < (l0.length:Int) then (some ((rd_T84 l0 (rd aA a1)).f1,aC.2,aC.1,true)) else (none)) else (none)) else (none)) else (none))) else (some (0,0,0,false))))
theorem impl_LeafOf.calls {k : Nat} {A0 : Option Addr} {c0 : Nat} {l0 : List (S84)} {a1 r1 r2 r3 : Int} {r4 : Bool} {w : World} (hr0 : Kd.C k84 w A0 l0.length l0) (bM : l0.length ≤ c0) (h : impl_LeafOf.f k l0 a1 = some (r1, r2, r3, r4)) :
    Calls Try.prog 62 #[.slice A0 l0.length c0,.int .i64 a1] w fun e w'=>e=.returned (.tuple #[.agg #[.int .i64 r1,.int .i64 r2,.int .i64 r3],.bool r4])∧Below w.heap.size w w':=by
 have hu92:=Try.underlying92
 have a7:=am hr0
 have a9:=am bM
 clear hr0 bM
 have HB:=am (Below.refl w.heap.size w)
 have H:=h;clear h;unfold impl_LeafOf.f at H
 replace H:=bnd H;obtain⟨aD,A3,H⟩:=H
 replace H:=bnd H;obtain⟨bQ,A4,H⟩:=H
 replace H:=ibt H;obtain⟨rfl,H⟩ | ⟨rfl,H⟩:=H
 rotate_left
 · replace H:=sj4 H;obtain⟨rfl,rfl,rfl,rfl⟩:=H
   go_enter Try.func62,Try.ntmps62
   go_wp2_with (first | ((with_reducible refine gd 4 rfl ?_);refine bxw 4 rfl #[.int .i64 0,.int .i64 0,.int .i64 0] 92 HB ?_;clear HB;intro aE bU aA aV aW HB) | ((with_reducible refine gc 77 rfl ?_);refine gl_ (some 10) Try.func77 #[.slice A0 l0.length c0] rfl ?_;(with_reducible refine (impl_SchemaLeaves.calls ?side1 ?side2 A3.out).mono ?_);(case side1=>exact cL a7 HB);(case side2=>exact a9.out);rintro e aT ⟨bA,rfl,aX,hb⟩;refine⟨_,rfl,?_⟩;have aC:=rlb aX HB;replace aA:=bkb aA hb;replace HB:=bst HB hb;clear hb aX;obtain⟨bB,bC,bD⟩:=Kd.R_slice aC.out;subst bD) | ((with_reducible refine gc 57 rfl ?_);refine gc1 (some 15) Try.func57 rfl (impl_within.calls A4.out) ?_;rintro w' ⟨nd,rfl⟩;(try (rw [drewN_self aT];generalize hq_:World.drewN aT _=aT;have aY:Aside0 (Kd.R (Kd.int .i64) 3 aT w.heap.size (fun _=>True) (.slice bB aD.length bC) aD):=⟨by rw [← hq_];exact (rL aC)⟩;have aZ:Aside0 (aT.heap[aE]?=some (.cells #[.int .i64 0,.int .i64 0,.int .i64 0] 92 (0,0))):=⟨by rw [← hq_];exact (blk_later aA.out)⟩;have a6:Aside0 (Below w.heap.size w aT):=⟨by rw [← hq_];exact (bL HB)⟩;clear aC aA HB hq_;have aC:=aY;have aA:=aZ;have HB:=a6;clear aY aZ a6));obtain⟨_,_,_,_,_,_⟩:=cl3 aA))
   refine bodyPost_ret (results_ct rfl _ _ aE 92 #[.int .i64 0,.int .i64 0,.int .i64 0] (0,0) _ rfl (kL aA) Try.underlying92 rfl (by kernel_rfl)) rfl ?_
   exact fin_ (bL HB)
 replace H:=bnd2 H;obtain⟨bE,bF,A6,H⟩:=H;dsimp only at H
 replace H:=if_dddd H;obtain⟨bR,bS,bT,bN,H⟩:=H
 replace H:=sj4 H;obtain⟨rfl,rfl,rfl,rfl⟩:=H
 go_enter Try.func62,Try.ntmps62
 go_wp2_with (first | ((with_reducible refine gd 4 rfl ?_);refine bxw 4 rfl #[.int .i64 0,.int .i64 0,.int .i64 0] 92 HB ?_;clear HB;intro aE bV aA aV aW HB) | ((with_reducible refine gc 77 rfl ?_);refine gl_ (some 10) Try.func77 #[.slice A0 l0.length c0] rfl ?_;(with_reducible refine (impl_SchemaLeaves.calls ?side1 ?side2 A3.out).mono ?_);(case side1=>exact cL a7 HB);(case side2=>exact a9.out);rintro e aU ⟨bA,rfl,aX,hb⟩;refine⟨_,rfl,?_⟩;have aC:=rlb aX HB;replace aA:=bkb aA hb;replace HB:=bst HB hb;clear hb aX;obtain⟨bG,bH,bI⟩:=Kd.R_slice aC.out;subst bI) | ((with_reducible refine gc 57 rfl ?_);refine gc1 (some 15) Try.func57 rfl (impl_within.calls A4.out) ?_;rintro w' ⟨nd,rfl⟩;(try (rw [drewN_self aU];generalize hq_:World.drewN aU _=aU;have aY:Aside0 (Kd.R (Kd.int .i64) 3 aU w.heap.size (fun _=>True) (.slice bG aD.length bH) aD):=⟨by rw [← hq_];exact (rL aC)⟩;have aZ:Aside0 (aU.heap[aE]?=some (.cells #[.int .i64 0,.int .i64 0,.int .i64 0] 92 (0,0))):=⟨by rw [← hq_];exact (blk_later aA.out)⟩;have a6:Aside0 (Below w.heap.size w aU):=⟨by rw [← hq_];exact (bL HB)⟩;clear aC aA HB hq_;have aC:=aY;have aA:=aZ;have HB:=a6;clear aY aZ a6))) | ((with_reducible refine gc 78 rfl ?_);refine gl_ (some 21) Try.func78 #[.slice A0 l0.length c0,.int .i64 a1] rfl ?_;(with_reducible refine (impl_LeafMax.calls ?side1 ?side2 A6.out).mono ?_);(case side1=>exact cL a7 HB);(case side2=>exact a9.out);rintro e bW ⟨rfl,hb⟩;refine⟨_,rfl,?_⟩;replace aC:=rbe aC hb;replace aA:=bkb aA hb;replace HB:=bst HB hb;clear hb;have aK:0≤(a1:Int):=dcd;have aM:a1 < (aD.length:Int):=dcd;obtain⟨bO,bJ,a8⟩:=Kd.at_int (Kd.R_reads' aC.out).2.2 a1 aK aM;cases bJ;replace aK:=eq_true aK;replace aM:=eq_true aM;have aN:0≤((rd aD a1):Int):=dcd;have aQ:(rd aD a1) < (l0.length:Int):=dcd;obtain⟨bP,bK,aG,aH,aI,aJ⟩:=at_T84 a7.out (rd aD a1) aN aQ;cases bK;replace aG:=crd HB aG;replace aH:=crd HB aH;replace aI:=crd HB aI;replace aJ:=crd HB aJ;replace aN:=eq_true aN;replace aQ:=eq_true aQ;obtain⟨_,_,_,_,_,_⟩:=cl3 aA))
 refine bodyPost_ret (results_ct rfl _ _ aE 92 #[.int .i64 ((rd_T84 l0 (rd aD a1)).f1),.int .i64 bF,.int .i64 bE] (0,0) _ rfl (kL aA) Try.underlying92 rfl (by kernel_rfl)) rfl ?_
 exact fin_ (bL HB)
/-! ### impl_chunkNodes: function 30 -/
mutual
def impl_chunkNodes.l0:Nat→List (S84)→List (List (S49))→List Int→Int→Int→Int→Int→Int→Int→Int→List Int→Option ((List (S49)))
 | 0,_,_,_,_,_,_,_,_,_,_,_=>none
 | k + 1,x0,x5,aM,aN,aJ,aA,aD,aE,aG,aH,aI=>if aJ < aN then (if 0≤aJ then (if aJ < (aM.length:Int) then ((impl_intNode.f 0 (rd aM aJ)).bind fun aC=>(if x5.length < 5864062014805 then (impl_chunkNodes.l0 k x0 (x5 ++ [(([(⟨aC.1,aC.2.1,aC.2.2.1,aC.2.2.2.1,aC.2.2.2.2⟩:S49)]:List (S49)))]) aM aN (wrap64 (aJ + 1)) aA aD aE aG aH aI) else (none))) else (none)) else (none)) else ((impl_LeafPath.f k x0 aA).bind fun aK=>(impl_chunkNodes.l1 k x0 x5 (([]:List (List (S49)))) aK (aK.length:Int) 0 aA aD aE aG aH aI))
def impl_chunkNodes.l1:Nat→List (S84)→List (List (S49))→List (List (S49))→List ByteArray→Int→Int→Int→Int→Int→Int→Int→List Int→Option ((List (S49)))
 | 0,_,_,_,_,_,_,_,_,_,_,_,_=>none
 | k + 1,x0,x5,x8,a6,bD,aY,aU,aA,aC,aV,aD,aW=>if aY < bD then (if 0≤aY then (if aY < (a6.length:Int) then ((impl_textNode.f 0 (rdOf ByteArray.empty a6 aY)).bind fun aE=>(if x8.length < 5864062014805 then (impl_chunkNodes.l1 k x0 x5 (x8 ++ [(([(⟨aE.1,aE.2.1,aE.2.2.1,aE.2.2.2.1,aE.2.2.2.2⟩:S49)]:List (S49)))]) a6 bD (wrap64 (aY + 1)) aU aA aC aV aD aW) else (none))) else (none)) else (none)) else ((impl_LeafOf.f k x0 aU).bind fun aZ=>((impl_intNode.f 1 aZ.1).bind fun aG=>((impl_listNode.f k 2 5 x5).bind fun a7=>((impl_listNode.f k 3 8 x8).bind fun a8=>((impl_intNode.f 4 0).bind fun aH=>((impl_longNode.f 5 aV).bind fun aI=>((impl_longNode.f 6 aD).bind fun aJ=>((impl_longNode.f 7 aD).bind fun aK=>((impl_longNode.f 9 aA).bind fun aM=>((some (([(([(⟨aG.1,aG.2.1,aG.2.2.1,aG.2.2.2.1,aG.2.2.2.2⟩:S49)]:List (S49))),a7,a8,(([(⟨aH.1,aH.2.1,aH.2.2.1,aH.2.2.2.1,aH.2.2.2.2⟩:S49)]:List (S49))),(([(⟨aI.1,aI.2.1,aI.2.2.1,aI.2.2.2.1,aI.2.2.2.2⟩:S49)]:List (S49))),(([(⟨aJ.1,aJ.2.1,aJ.2.2.1,aJ.2.2.2.1,aJ.2.2.2.2⟩:S49)]:List (S49))),(([(⟨aK.1,aK.2.1,aK.2.2.1,aK.2.2.2.1,aK.2.2.2.2⟩:S49)]:List (S49))),(([(⟨aM.1,aM.2.1,aM.2.2.1,aM.2.2.2.1,aM.2.2.2.2⟩:S49)]:List (S49)))]:List (List (S49))):List (List (S49)))).bind fun aX=>(if aC=(-1) then ((impl_longNode.f 2 aA).bind fun aN=>((impl_structNode.f k 3 aX).bind fun a9=>((impl_structNode.f k 0 (([(([(⟨aN.1,aN.2.1,aN.2.2.1,aN.2.2.2.1,aN.2.2.2.2⟩:S49)]:List (S49))),a9]:List (List (S49))))).bind fun bA=>(some bA)))) else ((impl_longNode.f 11 aC).bind fun aQ=>(if aX.length < 5864062014805 then ((impl_longNode.f 2 aA).bind fun aT=>((impl_structNode.f k 3 (aX ++ [(([(⟨aQ.1,aQ.2.1,aQ.2.2.1,aQ.2.2.2.1,aQ.2.2.2.2⟩:S49)]:List (S49)))])).bind fun bB=>((impl_structNode.f k 0 (([(([(⟨aT.1,aT.2.1,aT.2.2.1,aT.2.2.2.1,aT.2.2.2.2⟩:S49)]:List (S49))),bB]:List (List (S49))))).bind fun bC=>(some bC)))) else (none))))))))))))))
end
def impl_chunkNodes.f (k:Nat)(l0:List (S84))(aC:Int)(aD:Int)(aE:Int)(aG:Int)(aH:Int)(aA:List Int):Option ((List (S49))):=impl_chunkNodes.l0 k l0 (([]:List (List (S49)))) aA (aA.length:Int) 0 aC aD aE aG aH aA
def impl_chunkNodes.T14:Bool × List (List Nat × List Nat):=(true,[([],[]),([0],[0]),([1],[1]),([2],[2]),([],[]),([4,2],[4]),([],[]),([6,5],[6]),([7],[]),([8],[8]),([],[]),([10],[10]),([11,8],[11]),([12],[12]),([],[]),([14],[14]),([15,12],[15]),([16],[16]),([],[]),([18],[18]),([19,16],[19]),([20],[20]),([],[]),([22],[22]),([23,20],[23]),([24],[24]),([3,5,7,9,13,17,21,25],[3,5,7,9,13,17,21,25]),([26,24,0,1,2,3,4,5,6,7,8,9,10,11,12,13,14,15,16,17,18,19,20,21,22,23,24,25,26],[26])])
def impl_chunkNodes.B14:List Nat:=[0,1,3,7,0,23,0,119,247,503,0,1024,3575,7671,0,16384,56823,122359,0,262144,908791,1957367,0,4194304,14540279,31317495,67108863,134217727]
theorem impl_chunkNodes.tab14:rtab .any (opsOf Try.f30 14)=impl_chunkNodes.T14:=by kernel_rfl
theorem impl_chunkNodes.bits14:waitsOk impl_chunkNodes.T14.2 impl_chunkNodes.B14=true:=by kernel_rfl

end Go.Proofs.Ytjdapaocdkcgdaa.PFnExactMetaPack
