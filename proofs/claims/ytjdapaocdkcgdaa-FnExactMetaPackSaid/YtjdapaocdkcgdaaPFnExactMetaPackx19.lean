/- The machine's side of FnExactMetaPack: each Go function, and what its call comes to. No condition. -/
import Derived.Test.YtjdapaocdkcgdaaPFnExactMetaPackx0
namespace Go.Proofs.Ytjdapaocdkcgdaa.PFnExactMetaPack
open Go.RowKit Go.Proofs.YtjdapaocdkcgdaaW.PrintWords Go.Proofs.YtjdapaocdkcgdaaW.PrintLast Go.Proofs.YtjdapaocdkcgdaaW.PrintMore Go.Proofs.YtjdapaocdkcgdaaW.PrintMore2
attribute [local go_sem] max2_int min2_int max_two min_two max_three min_three max_four min_four
set_option linter.unusedVariables false
set_option linter.unusedSimpArgs false
set_option maxHeartbeats 8000000
set_option maxRecDepth 100000

/-! ### impl_UvarPut: function 85 -/
def impl_UvarPut.l0:Nat→Int→List Int→Option (List Int)
  | 0,_,_=>none
  | k + 1,x3,x4=>if x3 > 127 then (if x4.length < 140737488355328 then (impl_UvarPut.l0 k (x3 / 128) (x4 ++ [(Go.bits .or .u64 (Go.bits .and .u64 x3 127) 128) % 256])) else (none)) else (if x4.length < 140737488355328 then (some (x4 ++ [(x3) % 256])) else (none))
def impl_UvarPut.f (k:Nat)(a0:Int):Option (List Int):=impl_UvarPut.l0 k (IntKind.u64.wrap (a0)) (([]:List Int))
theorem impl_UvarPut.calls {k : Nat} {a0 : Int} {r : List Int} {w : World} (h : impl_UvarPut.f k a0 = some r) :
    Calls Try.prog 85 #[.int .i64 a0] w fun e w'=>∃ aZ:Value,e=.returned (aZ)∧Kd.R (Kd.int .u8) 5 w' w.heap.size (fun _=>True) aZ r∧Below w.heap.size w w':=by
 have HB:=am (Below.refl w.heap.size w)
 have H:=h;clear h;unfold impl_UvarPut.f at H
 generalize aG:((([]:List Int)):List Int)=aU at H;have aH:=am aG.symm;clear aG
 have H':=am H;clear H
 go_enter Try.func85,Try.ntmps85
 go_wp2_with (first | ((with_reducible refine gd 7 rfl ?_);refine Kd.R_lit (Kd.int .u8) _ 5 ?hg (N:=7) ?hd (xs:=([]:List Int)) (inner:=[]) (ok:=fun _=>True) (okp:=fun _=>True) ?hr ?hp (fun _ hk=>hk) trivial (Below.refl _ _) (Nat.le_refl _) (by simp) ?_;(case hd=>rfl);(case hg=>rfl);(case hr=>first | (go_simp;done) | (go_simp;rfl));(case hp=>exact (Reps.none _ _));intro a9 w2 aM hb hg_ hnew_;clear hg_ hnew_;(first | rw [← aH.out] at aM | (simp only [Int.reduceToNat] at aM;rw [← aH.out] at aM));have aN:=rlb aM HB;replace HB:=bst HB hb;clear hb aM))
 go_loopg [3,4] k (fun kq v3 v4 w'=>∃ (aA:Int) (aC:List Int),v3=.int .u64 aA∧Aside0 (impl_UvarPut.l0 kq aA aC=some r)∧Aside0 (kq≤k)∧Aside0 (Kd.R (Kd.int .u8) 5 w' w.heap.size (fun _=>True) v4 aC)∧Aside0 (Below w.heap.size w w'))
 case atStart=>exact⟨(IntKind.u64.wrap (a0)),(aU),sr,H',⟨Nat.le_refl _⟩,⟨rL aN⟩,⟨bL HB⟩⟩
 clear H'
 obtain⟨aA,aC,rfl,HA,a6,aE,HB⟩:=hrel
 cases gk with
 | zero=>exact absurd HA.out (by simp [impl_UvarPut.l0])
 | succ k1=>?_
 have H:=HA.out
 clear HA
 simp only [impl_UvarPut.l0] at H
 replace H:=igt H;obtain⟨aV,H⟩ | ⟨aV,H⟩:=H
 rotate_left
 · replace H:=ifs H;obtain⟨c7,H⟩:=H
   have aW:=am c7
   clear c7
   generalize aD:((aC ++ [(aA) % 256]):List Int)=a7 at H;have aJ:=am aD.symm;clear aD
   cases H
   go_wp2_with (first | ((with_reducible refine gate_builtin (b:=.append) (xs:=#[.tmp 19,.tmp 22]) rfl ?_);at_builtin;refine Kd.R_append (Kd.int .u8) (w0:=w) w.heap.size rfl (.tmp 19) (.tmp 22) 40 5 (.int .u8 0) 1 rfl Try.underlying40 info5 rfl (by decide) (by omega) u4 aC ((aA) % 256) [.int .u8 ((aA) % 256)] (fun _=>True) (fun _=>False) rfl rfl ?aP (fun _ hk=>hk.elim) ?aF ?aO ?aB ?aS ?aL ?_;(case aP=>exact rfl);(case aB=>exact (bL HB));(case aF=>exact (fun _ _=>trivial));(case aO=>exact (rL aE));(case aS=>exact (below_size (bL HB)));(case aL=>have:=aW.out;omega);intro a8 w8 ho hb hg hat;rw [← aJ.out] at ho;have aK:=am ho;replace HB:=am hb;clear aE;clear ho hb hg hat))
   go_ret
   exact⟨_,fin_ ⟨rL aK,bL HB⟩⟩
 replace H:=ifs H;obtain⟨c5,H⟩:=H
 have aX:=am c5
 clear c5
 generalize aI:((aC ++ [(Go.bits .or .u64 (Go.bits .and .u64 aA 127) 128) % 256]):List Int)=aY at H;have aQ:=am aI.symm;clear aI
 have H':=am H;clear H
 go_wp2_with (first | ((with_reducible refine gate_builtin (b:=.append) (xs:=#[.tmp 10,.tmp 15]) rfl ?_);at_builtin;refine Kd.R_append (Kd.int .u8) (w0:=w) w.heap.size rfl (.tmp 10) (.tmp 15) 40 5 (.int .u8 0) 1 rfl Try.underlying40 info5 rfl (by decide) (by omega) u4 aC ((Go.bits .or .u64 (Go.bits .and .u64 aA 127) 128) % 256) [.int .u8 ((Go.bits .or .u64 (Go.bits .and .u64 aA 127) 128) % 256)] (fun _=>True) (fun _=>False) rfl rfl ?aP (fun _ hk=>hk.elim) ?aF ?aO ?aB ?aS ?aL ?_;(case aP=>exact rfl);(case aB=>exact (bL HB));(case aF=>exact (fun _ _=>trivial));(case aO=>exact (rL aE));(case aS=>exact (below_size (bL HB)));(case aL=>have:=aX.out;omega);intro bA w6 ho hb hg hat;rw [← aQ.out] at ho;have aT:=am ho;replace HB:=am hb;clear aE;clear ho hb hg hat))
 go_roundg k1
 case measure=>have:=a6.out;omega
 case rel=>exact⟨(aA / 128),(aY),sr,H',⟨by have:=a6.out;omega⟩,⟨rL aT⟩,⟨bL HB⟩⟩
/-! ### impl_Zig: function 100 -/
def impl_Zig.f (a0:Int):Option (Int):=some (Go.bits .xor .i64 (wrap64 (a0 * 2)) (a0 / 9223372036854775808))
theorem impl_Zig.calls {a0 r : Int} {w : World} (h : impl_Zig.f a0 = some r) :
    Calls Try.prog 100 #[.int .i64 a0] w fun e w'=>e=.returned (.int .i64 r)∧Drawn0 w w':=by
 have H:=h;clear h;unfold impl_Zig.f at H
 cases H
 go_enter Try.func100,Try.ntmps100
 go_wp2
 go_ret
 exact⟨sr,drl⟩
/-! ### impl_ZigPut: function 84 -/
def impl_ZigPut.f (k:Nat)(a0:Int):Option (List Int):=(impl_Zig.f a0).bind fun aA=>((impl_UvarPut.f k aA).bind fun aC=>(some aC))
theorem impl_ZigPut.calls {k : Nat} {a0 : Int} {r : List Int} {w : World} (h : impl_ZigPut.f k a0 = some r) :
    Calls Try.prog 84 #[.int .i64 a0] w fun e w'=>∃ aC:Value,e=.returned (aC)∧Kd.R (Kd.int .u8) 5 w' w.heap.size (fun _=>True) aC r∧Below w.heap.size w w':=by
 have HB:=am (Below.refl w.heap.size w)
 have H:=h;clear h;unfold impl_ZigPut.f at H
 replace H:=bnd H;obtain⟨aD,A2,H⟩:=H
 replace H:=bnd H;obtain⟨aE,A3,H⟩:=H
 cases H
 go_enter Try.func84,Try.ntmps84
 go_wp2_with (first | ((with_reducible refine gc 100 rfl ?_);refine gc1 (some 4) Try.func100 rfl (impl_Zig.calls A2.out) ?_;rintro w' ⟨nd,rfl⟩) | ((with_reducible refine gc 85 rfl ?_);refine gc2 (some 5) Try.func85 rfl (impl_UvarPut.calls A3.out) ?_;rintro aG w4 ⟨aH,hb⟩;have aA:=rlb aH HB;replace HB:=bst HB hb;clear hb aH))
 go_ret
 exact⟨_,fin_ ⟨rL aA,bL HB⟩⟩
/-! ### impl_headOf: function 86 -/
def impl_headOf.f (k:Nat)(aE:Int)(aD:Int)(aG:Int)(aH:ByteArray)(aI:Int)(a1:Int):Option (List Int):=if (wrap64 (aD - a1))≤15 then (some (([(wrap64 ((wrap64 (16 * (wrap64 (aD - a1)))) + aE)) % 256]:List Int))) else ((some (([(aE) % 256]:List Int):List Int)).bind fun aA=>((impl_ZigPut.f k aD).bind fun aC=>(if aA.length + aC.length < 140737488355328 then (some (aA ++ aC)) else (none))))
def impl_headOf.T4:Bool × List (List Nat × List Nat):=(true,[([],[]),([0],[0]),([1],[1]),([2],[2]),([],[]),([4],[4]),([5],[5]),([3,6,6],[3,6]),([7,7,0,1,2,3,4,5,6,7],[7])])
def impl_headOf.B4:List Nat:=[0,1,3,7,0,16,48,127,255]
theorem impl_headOf.tab4:rtab .any (opsOf Try.f86 4)=impl_headOf.T4:=by kernel_rfl
theorem impl_headOf.bits4:waitsOk impl_headOf.T4.2 impl_headOf.B4=true:=by kernel_rfl
theorem impl_headOf.calls {k : Nat} {aE aH aK : Int} {aM : ByteArray} {aN a1 : Int} {r : List Int} {w : World} (h : impl_headOf.f k aE aH aK aM aN a1 = some r) :
    Calls Try.prog 86 #[.agg #[.int .i64 aE,.int .i64 aH,.int .i64 aK,.string aM,.int .i64 aN],.int .i64 a1] w fun e w'=>∃ bK:Value,e=.returned (bK)∧Kd.R (Kd.int .u8) 5 w' w.heap.size (fun _=>True) bK r∧Below w.heap.size w w':=by
 have hu49:=Try.underlying49
 have HB:=am (Below.refl w.heap.size w)
 have H:=h;clear h;unfold impl_headOf.f at H
 replace H:=idc H;obtain⟨bG,H⟩ | ⟨bG,H⟩:=H
 · obtain⟨bD,aQ⟩:∃ y_:List Int,y_=(([(wrap64 ((wrap64 (16 * (wrap64 (aH - a1)))) + aE)) % 256]:List Int)):=⟨_,rfl⟩
   replace H:(some bD)=some r:=by first | (rw [aQ];with_reducible exact H) | (rw [aQ];exact H) | exact H
   have aX:=am aQ
   clear aQ
   cases H
   go_enter Try.func86,Try.ntmps86
   go_wp2_with (first | ((with_reducible refine gd 2 rfl ?_);refine bxw 2 rfl #[.int .i64 aE,.int .i64 aH,.int .i64 aK,.string aM,.int .i64 aN] 49 HB ?_;clear HB;intro aC w4 aA a7 a8 HB;obtain⟨_,_,_,_,_,_,_,_,_,_⟩:=cl5 aA) | ((with_reducible refine gd 18 rfl ?_);refine Kd.R_lit (Kd.int .u8) _ 5 ?hg (N:=18) ?hd (xs:=([(wrap64 ((wrap64 (16 * (wrap64 (aH - a1)))) + aE)) % 256]:List Int)) (inner:=[.int .u8 ((wrap64 ((wrap64 (16 * (wrap64 (aH - a1)))) + aE)) % 256)]) (ok:=fun _=>True) (okp:=fun _=>True) ?hr ?hp (fun _ hk=>hk) trivial (Below.refl _ _) (Nat.le_refl _) (by simp) ?_;(case hd=>rfl);(case hg=>rfl);(case hr=>first | (go_simp;done) | (go_simp;rfl));(case hp=>exact (Reps.one (show Kd.M (Kd.int .u8) _ _ _ ((wrap64 ((wrap64 (16 * (wrap64 (aH - a1)))) + aE)) % 256) [.int .u8 ((wrap64 ((wrap64 (16 * (wrap64 (aH - a1)))) + aE)) % 256)] from rfl) (Reps.none _ _)));intro bM w6 bE hb hg_ hnew_;clear hg_ hnew_;(first | rw [← aX.out] at bE | (simp only [Int.reduceToNat] at bE;rw [← aX.out] at bE));have a9:=rlb bE HB;replace aA:=bkb aA hb;replace HB:=bst HB hb;clear hb bE))
   go_ret
   exact⟨_,fin_ ⟨rL a9,bL HB⟩⟩
 replace H:=bsm H;obtain⟨aV,aT,H⟩:=H
 replace H:=bnd H;obtain⟨aU,A8,H⟩:=H
 replace H:=ifs H;obtain⟨c9,H⟩:=H
 have bH:=am c9
 clear c9
 generalize aY:((aV ++ aU):List Int)=bN at H;have bA:=am aY.symm;clear aY
 cases H
 go_enter Try.func86,Try.ntmps86
 try go_wp2_with (first | ((with_reducible refine gd 2 rfl ?_);refine bxw 2 rfl #[.int .i64 aE,.int .i64 aH,.int .i64 aK,.string aM,.int .i64 aN] 49 HB ?_;clear HB;intro aC bX aA a7 a8 HB;obtain⟨_,_,_,_,_,_,_,_,_,_⟩:=cl5 aA))
 replace aA:=bdr aA
 replace HB:=bld HB
 refine start_ (n:=9) (S:=fun w'=>w'.cell? ⟨aC,0,none⟩=some (.int .i64 aE)∧w'.cell? ⟨aC,1,none⟩=some (.int .i64 aH)∧w'.cell? ⟨aC,2,none⟩=some (.int .i64 aK)∧w'.cell? ⟨aC,3,none⟩=some (.string aM)∧w'.cell? ⟨aC,4,none⟩=some (.int .i64 aN)) (ds:=[]) #[false,false,false,false,false,false,false,false,false] (by kernel_rfl) rfl rfl ⟨bcl aA 0,bcl aA 1,bcl aA 2,bcl aA 3,bcl aA 4⟩ (fun hHeld=>?_);refine with_tabW impl_headOf.tab4 impl_headOf.bits4 (fun HT_ HW_=>?_)
 generalize bX.drew=b6 at aA HB hHeld ⊢
 refine pu_ 0 19 ?_;refine pu_ 4 23 ?_;refine tk_ 1 20 hHeld ?_;refine pu_ 2 21 ?_;refine tk_ 5 24 hHeld ?_
 refine join_ (σ:=Value × Value) 2 #[true,true,true,true,true,true,true,false,false] (fun s_=>[(22,s_.1),(25,s_.2)]) (fun s_ w'=>(w'.cell? ⟨aC,0,none⟩=some (.int .i64 aE)∧w'.cell? ⟨aC,1,none⟩=some (.int .i64 aH)∧w'.cell? ⟨aC,2,none⟩=some (.int .i64 aK)∧w'.cell? ⟨aC,3,none⟩=some (.string aM)∧w'.cell? ⟨aC,4,none⟩=some (.int .i64 aN))∧(Kd.R (Kd.int .u8) 5 w' w.heap.size (fun k_=>some k_≠(s_.2:Value).ownBlock) s_.1 aV)∧(Kd.R (Kd.int .u8) 5 w' w.heap.size (fun k_=>some k_≠(s_.1:Value).ownBlock) s_.2 aU)∧(w'.heap[aC]?=some (.cells #[.int .i64 aE,.int .i64 aH,.int .i64 aK,.string aM,.int .i64 aN] 49 (0,0)))∧(Below w.heap.size w w')) ?_ ?_
 rotate_left
 · intro hCont
   refine two_ (i:=3) (j:=6) (Ni:=some 22) (Nj:=some 25) #[true,true,true,true,true,true,false,false,false] #[true,true,true,false,true,true,true,false,false] rfl rfl rfl rfl (two_of HT_.out (by kernel_rfl)) (by decide) (by decide) (fun K hK=>?_) (fun K hK=>?_)
   · skip
     refine Kd.R_lit_step (Kd.int .u8) _ 5 ?hg (N:=22) ?hd (xs:=([(aE) % 256]:List Int)) (inner:=[.int .u8 ((aE) % 256)]) (ok:=fun _=>True) (okp:=fun _=>True) ?hr ?hp (fun _ hk=>hk) trivial (Below.refl _ _) (Nat.le_refl _) (by simp) ?_;(case hd=>rfl);(case hg=>rfl);(case hr=>first | (go_simp;done) | (go_simp;rfl));(case hp=>exact (Reps.one (show Kd.M (Kd.int .u8) _ _ _ ((aE) % 256) [.int .u8 ((aE) % 256)] from rfl) (Reps.none _ _)))
     intro aI bY aZ hb hg_ hnew_
     clear hg_ hnew_
     (first | rw [← aT.out] at aZ | (simp only [Int.reduceToNat] at aZ;rw [← aT.out] at aZ))
     have aG:=rlb aZ HB
     replace aA:=bkb aA hb
     replace HB:=bst HB hb
     clear hb aZ
     refine hK.out _ _ ⟨bcl aA 0,bcl aA 1,bcl aA 2,bcl aA 3,bcl aA 4⟩ (fun hHeld=>?_)
     clear hK K
     refine no_ (some 22) ?_
     refine on_ 6 25 (fun K hK=>?_)
     refine gs_ Try.func84 #[.int .i64 aH] rfl ?_
     with_reducible refine (impl_ZigPut.calls A8.out).mono ?_
     rintro e b7 ⟨aJ,rfl,bC,hb⟩
     refine⟨_,rfl,?_⟩
     have aD:=am (Kd.R_lower (Kd.R_new' bC (Kd.R_lt (rL aG))) (below_size (bL HB)))
     replace aG:=am (Kd.R_elder' (rL aG) (Kd.R_base bC) hb)
     replace aA:=bkb aA hb
     replace HB:=bst HB hb
     (try clear hb)
     (try clear bZ)
     (try clear hk)
     (try clear hi)
     (try clear bC)
     refine hK.out _ _ ⟨bcl aA 0,bcl aA 1,bcl aA 2,bcl aA 3,bcl aA 4⟩ (fun hHeld=>?_)
     clear hK K
     refine no_ (some 25) ?_
     exact norm_ (by simp only [putAll,Act.put,List.setIfInBounds_toArray,List.set_cons_zero,List.set_cons_succ]) (hCont (aI,aJ) _ ⟨hHeld,(R_later (Kd.R_mono aG.out (fun _ hk=>hk.2))),(R_later (Kd.R_mono aD.out (fun _ hk=>hk.2))),(kL aA),(bL HB)⟩)
   skip
   refine gs_ Try.func84 #[.int .i64 aH] rfl ?_
   with_reducible refine (impl_ZigPut.calls A8.out).mono ?_
   rintro e bY ⟨aJ,rfl,bC,hb⟩
   refine⟨_,rfl,?_⟩
   have aD:=rlb bC HB
   replace aA:=bkb aA hb
   replace HB:=bst HB hb
   (try clear hb)
   (try clear bZ)
   (try clear hk)
   (try clear hi)
   (try clear bC)
   refine hK.out _ _ ⟨bcl aA 0,bcl aA 1,bcl aA 2,bcl aA 3,bcl aA 4⟩ (fun hHeld=>?_)
   clear hK K
   refine no_ (some 25) ?_
   refine on_ 3 22 (fun K hK=>?_)
   refine Kd.R_lit_step (Kd.int .u8) _ 5 ?hg (N:=22) ?hd (xs:=([(aE) % 256]:List Int)) (inner:=[.int .u8 ((aE) % 256)]) (ok:=fun _=>True) (okp:=fun _=>True) ?hr ?hp (fun _ hk=>hk) trivial (Below.refl _ _) (Nat.le_refl _) (by simp) ?_;(case hd=>rfl);(case hg=>rfl);(case hr=>first | (go_simp;done) | (go_simp;rfl));(case hp=>exact (Reps.one (show Kd.M (Kd.int .u8) _ _ _ ((aE) % 256) [.int .u8 ((aE) % 256)] from rfl) (Reps.none _ _)))
   intro aI b8 aW hb hg_ hnew_
   clear hg_ hnew_
   (first | rw [← aT.out] at aW | (simp only [Int.reduceToNat] at aW;rw [← aT.out] at aW))
   have aG:=am (Kd.R_lower (Kd.R_new' aW (Kd.R_lt (rL aD))) (below_size (bL HB)))
   replace aD:=am (Kd.R_elder' (rL aD) (Kd.R_base aW) hb)
   replace aA:=bkb aA hb
   replace HB:=bst HB hb
   clear hb aW
   refine hK.out _ _ ⟨bcl aA 0,bcl aA 1,bcl aA 2,bcl aA 3,bcl aA 4⟩ (fun hHeld=>?_)
   clear hK K
   refine no_ (some 22) ?_
   exact norm_ (by simp only [putAll,Act.put,List.setIfInBounds_toArray,List.set_cons_zero,List.set_cons_succ]) (hCont (aI,aJ) _ ⟨hHeld,(R_later (Kd.R_mono aG.out (fun _ hk=>hk.2))),(R_later (Kd.R_mono aD.out (fun _ hk=>hk.2))),(kL aA),(bL HB)⟩)
 rintro ⟨aI,aJ⟩ a6 ⟨hS_,bO,bP,bQ,bR⟩
 have bS:Aside0 (Kd.R (Kd.int .u8) 5 a6 w.heap.size (fun k_=>some k_≠(aJ:Value).ownBlock) aI aV):=⟨bO⟩
 have bT:Aside0 (Kd.R (Kd.int .u8) 5 a6 w.heap.size (fun k_=>some k_≠(aI:Value).ownBlock) aJ aU):=⟨bP⟩
 have bU:Aside0 (a6.heap[aC]?=some (.cells #[.int .i64 aE,.int .i64 aH,.int .i64 aK,.string aM,.int .i64 aN] 49 (0,0))):=⟨bQ⟩
 have bV:Aside0 (Below w.heap.size w a6):=⟨bR⟩
 clear aA HB bO bP bQ bR
 have aG:=bS
 have aD:=bT
 have aA:=bU
 have HB:=bV
 clear bS bT bU bV
 have hHeld:a6.cell? ⟨aC,0,none⟩=some (.int .i64 aE)∧a6.cell? ⟨aC,1,none⟩=some (.int .i64 aH)∧a6.cell? ⟨aC,2,none⟩=some (.int .i64 aK)∧a6.cell? ⟨aC,3,none⟩=some (.string aM)∧a6.cell? ⟨aC,4,none⟩=some (.int .i64 aN):=hS_
 obtain⟨bI,bJ,bF⟩:=Kd.R_slice aD.out
 (first | subst bF | (injection bF with f1_ f2_ f3_;have f4_:=f1_.symm;have f5_:=f3_.symm;clear f1_ f2_ f3_;subst f4_;subst f5_))
 refine norm_ (a':=?_) ?_ ?_
 rotate_left
 · simp only [putAll,Act.put,List.setIfInBounds_toArray,List.set_cons_zero,List.set_cons_succ]
   rfl
 refine on_ 7 26 (fun K hK=>?_)
 refine Kd.R_append_rows_step (Kd.int .u8) (w0:=w) w.heap.size (by rfl) (.tmp 22) (.tmp 25) 40 5 (.int .u8 0) 1 rfl Try.underlying40 info5 rfl (by decide) (by omega) aI aV aU _ _ _ (fun k_=>some k_≠(.slice bI aU.length bJ:Value).ownBlock) (fun _=>False) rfl rfl ?aO ?aR (fun _ _ h=>h) (fun _ h=>h.elim) ?aF ?aB ?aS ?aL ?_
 (case aR=>exact C_later (Kd.R_reads' aD.out).2.2)
 (case aB=>exact (bL HB))
 (case aF=>exact (fun k_ hk=>Kd.fresh' (Kd.R_lt (rL aD)) k_ hk))
 (case aO=>exact (rL aG))
 (case aS=>exact (below_size (bL HB)))
 (case aL=>have:=bH.out;omega)
 intro bW b9 ho hb hg hat
 rw [← bA.out] at ho
 have bB:=am ho
 replace aA:=bgr aA hg aG
 replace aD:=am (Kd.R_after (ok:=(fun _=>True)) (R_later (Kd.R_mono aD.out (fun _ hk=>⟨trivial,hk⟩))) hg hat)
 replace HB:=am hb
 clear aG ho hb hg hat
 refine hK.out _ _ ⟨bcl aA 0,bcl aA 1,bcl aA 2,bcl aA 3,bcl aA 4⟩ (fun hHeld=>?_)
 clear hK K
 refine no_ (some 26) ?_;refine pu_ 8 4 ?_
 refine done_ (done_of HT_.out (by kernel_rfl)) ?_
 try go_wp2
 go_ret
 exact⟨_,fin_ ⟨R_later (Kd.R_mono bB.out (fun _ hk=>trivial)),bL HB⟩⟩
end Go.Proofs.Ytjdapaocdkcgdaa.PFnExactMetaPack
