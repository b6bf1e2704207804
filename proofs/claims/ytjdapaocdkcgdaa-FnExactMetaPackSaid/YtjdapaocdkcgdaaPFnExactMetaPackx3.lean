/- The machine's side of FnExactMetaPack: each Go function, and what its call comes to. No condition. -/
import Derived.Test.YtjdapaocdkcgdaaPFnExactMetaPackx0
import Derived.Test.YtjdapaocdkcgdaaPFnExactMetaPackx2
namespace Go.Proofs.Ytjdapaocdkcgdaa.PFnExactMetaPack
open Go.RowKit Go.Proofs.YtjdapaocdkcgdaaW.PrintWords Go.Proofs.YtjdapaocdkcgdaaW.PrintLast Go.Proofs.YtjdapaocdkcgdaaW.PrintMore Go.Proofs.YtjdapaocdkcgdaaW.PrintMore2
attribute [local go_sem] max2_int min2_int max_two min_two max_three min_three max_four min_four
set_option linter.unusedVariables false
set_option linter.unusedSimpArgs false
set_option maxHeartbeats 8000000
set_option maxRecDepth 100000

/-! ### laws_markIntS: function 81 -/
def laws_markIntS.l0:Nat→List Int→Int→Int→Option (Int × List Int)
  | 0,_,_,_=>none
  | k + 1,x0,x1,x5=>if x5 < (x0.length:Int) then (if 0≤x5 then (laws_markIntS.l0 k (x0.set (x5:Int).toNat x1) (wrap64 (x1 + 1)) (wrap64 (x5 + 1))) else (none)) else (some (x1,x0))
def laws_markIntS.f (k:Nat)(l0:List Int)(a1:Int):Option (Int × List Int):=laws_markIntS.l0 k l0 a1 0
theorem laws_markIntS.calls {k : Nat} (P0_ : Nat → Prop) {u9000_ : Value} {l0 : List Int} {a1 r1 : Int} {r2 : List Int} {w0 w : World} (hB : Below w0.heap.size w0 w) (aU : Kd.R (Kd.int .i64) 3 w w0.heap.size P0_ u9000_ l0) (h : laws_markIntS.f k l0 a1 = some (r1, r2)) :
    Calls Try.prog 81 #[u9000_,.int .i64 a1] w fun e w'=>e=.returned (.int .i64 r1)∧Kd.R (Kd.int .i64) 3 w' w0.heap.size (fun k_=>(P0_ k_∨w.heap.size≤k_)) u9000_ r2∧Below w0.heap.size w0 w'∧Kept w w' (fun k_=>P0_ k_):=by
 have aV:=am (show Kd.R (Kd.int .i64) 3 w w0.heap.size (fun k_=>(P0_ k_∨w.heap.size≤k_)) u9000_ l0 from Kd.R_mono aU (fun k_ hk=>(.inl hk)))
 have HK:=am (Kept.refl w (fun k_=>P0_ k_))
 have HW0:=am hB.size
 have HB:=am hB
 clear hB
 have H:=h;clear h;unfold laws_markIntS.f at H
 have H':=am H;clear H
 go_enter Try.func81,Try.ntmps81
 go_wp2
 go_loopg [1,5] k (fun kq v1 v5 w'=>∃ (aE:List Int) (aD:Int) (aA:Int),v1=.int .i64 aD∧v5=.int .i64 aA∧Aside0 (laws_markIntS.l0 kq aE aD aA=some (r1,r2))∧Aside0 (kq≤k)∧Aside0 (Kd.R (Kd.int .i64) 3 w' w0.heap.size (fun k_=>(P0_ k_∨w.heap.size≤k_)) u9000_ aE)∧Aside0 (Kept w w' (fun k_=>P0_ k_))∧Aside0 (Below w0.heap.size w0 w'))
 case atStart=>exact⟨(l0),(a1),(0),sr,sr,H',⟨Nat.le_refl _⟩,⟨rL aV⟩,⟨kept_later HK.out⟩,⟨bL HB⟩⟩
 clear H'
 obtain⟨aE,aD,aA,rfl,rfl,HA,aK,aC,HK,HB⟩:=hrel
 cases gk with
 | zero=>exact absurd HA.out (by simp [laws_markIntS.l0])
 | succ k1=>?_
 have H:=HA.out
 clear HA
 simp only [laws_markIntS.l0] at H
 replace H:=idc H;obtain⟨aJ,H⟩ | ⟨aJ,H⟩:=H
 rotate_left
 · replace H:=sj2 H;obtain⟨rfl,rfl⟩:=H
   obtain⟨a6,a7,aW⟩:=Kd.R_slice aC.out
   subst aW
   go_wp2
   go_ret
   exact fin_ ⟨rL aC,bL HB,kept_later HK.out⟩
 replace H:=ifd H;obtain⟨aX,H⟩:=H
 generalize aG:((aE.set (aA:Int).toNat aD):List Int)=aH at H;have aI:=am aG.symm;clear aG
 have H':=am H;clear H
 obtain⟨a8,aY,aZ⟩:=Kd.R_slice aC.out
 subst aZ
 have p5:0≤(aA:Int):=dcd
 have q5:(aA:Int) < ((aE.length:Int):Int):=dcd
 obtain⟨go5,a9,aM,aN,gl5,cl5,HG5⟩:=Kd.R_form aC.out (by omega)
 (first | cases aM | (injection aM with ea_ en_ ec_;(first | subst ea_ | (injection ea_ with ea_;subst ea_));subst ec_;clear en_))
 have GB5:=am aN
 have GG5:=am HG5
 clear aN gl5 HG5
 have HMgo5:=am (show (P0_ go5∨w.heap.size≤go5) from (aC.out.1 _ rfl))
 obtain⟨aQ,aT⟩:=Kd.R_celln 0 aC.out (aA:Int) p5 q5
 replace p5:=eq_true p5
 replace q5:=eq_true q5
 have HP7:=Kd.R_putg aC.out (aA:Int) aD
 go_wp2_with (first | ((with_reducible refine gate_store (t:=3) (p:=15) rfl ?_);refine st_ 3 15 (wr.setCell ⟨go5,(aA:Int).toNat,none⟩ (.int .i64 aD)) ?_;intro w8 hw;have hg:wr.grownBy w8 (some go5):=(by rw [hw];exact HP7.2);have hp_:Kd.R (Kd.int .i64) 3 w8 w0.heap.size (fun k_=>(P0_ k_∨w.heap.size≤k_)) (.slice (some ⟨go5,0,none⟩) aE.length aY) aH:=(by rw [hw,aI.out];exact HP7.1);clear HP7;replace HB:=am ((by rw [hw];exact below_set (HB.out) GB5.out:Below w0.heap.size w0 w8));replace HK:=am (Kept.of_grown (S:=(fun k_=>P0_ k_)) hg (kept_later HK.out) (fun k_ e_=>(aC.out.1 k_ e_)));replace aC:=am hp_;clear hg hw hp_))
 go_roundg k1
 case measure=>have:=aK.out;omega
 case rel=>exact⟨(aH),(wrap64 (aD + 1)),(wrap64 (aA + 1)),sr,sr,H',⟨by have:=aK.out;omega⟩,⟨rL aC⟩,⟨kept_later HK.out⟩,⟨bL HB⟩⟩
/-! ### laws_markChunkS: function 66 -/
/-- A chunk with one of its numbers turned. -/
def putC (x:S58)(j:Nat)(y:Int):S58:=match j with
  | 0=>⟨y,x.f1,x.f2,x.f3,x.f4,x.f5⟩
  | 1=>⟨x.f0,y,x.f2,x.f3,x.f4,x.f5⟩
  | 2=>⟨x.f0,x.f1,y,x.f3,x.f4,x.f5⟩
  | 3=>⟨x.f0,x.f1,x.f2,y,x.f4,x.f5⟩
  | _=>⟨x.f0,x.f1,x.f2,x.f3,y,x.f5⟩
theorem getD_set_at {α:Type}(xs:List α)(i:Int)(x z:α)(h0:0≤i)(h1:i < xs.length):(xs.set i.toNat x).getD i.toNat z=x:=by
 rw [List.getD_eq_getElem?_getD,List.getElem?_set_self (by omega)];rfl
theorem ck_put {W : World} {base g n cap : Nat} {ok : Nat → Prop} {xs : List S58} (i : Int) (x : S58) (HO : Aside0 (Kd.S k58 58 W base ok (.slice (some ⟨g, 0, none⟩) n cap) (xs.set i.toNat x))) (h0 : 0 ≤ i) (h1 : i < xs.length) (j : Nat) (hj : j < 5) (y : Int) :
    Kd.S k58 58 (W.setCell ⟨g,i.toNat * 6 + j,none⟩ (.int .i64 y)) base ok (.slice (some ⟨g,0,none⟩) n cap) (xs.set i.toNat (putC x j y))∧W.grownBy (W.setCell ⟨g,i.toNat * 6 + j,none⟩ (.int .i64 y)) (some g):=by
 have hn:=(Kd.S_reads' HO.out).1
 rw [List.length_set] at hn
 obtain⟨oki,c,hcl,hM,hcc,hfr,hoki,hH⟩:=Kd.S_elem (Kd.S_mono HO.out (ok':=fun k=>ok k∧¬ False) (fun k hk=>⟨hk,id⟩)) z58 i h0 (by omega)
 rw [getD_set_at xs i x _ h0 h1] at hM
 obtain⟨ve,rfl,ge⟩:=k58_openM hM
 have key : ∀ x' : S58, k58.M W base oki x' ([.int .i64 x.f0, .int .i64 x.f1, .int .i64 x.f2, .int .i64 x.f3, .int .i64 x.f4, ve].take j ++ [.int .i64 y] ++ [.int .i64 x.f0, .int .i64 x.f1, .int .i64 x.f2, .int .i64 x.f3, .int .i64 x.f4, ve].drop (j + 1)) →
     Kd.S k58 58 (W.setCell ⟨g,i.toNat * 6 + j,none⟩ (.int .i64 y)) base ok (.slice (some ⟨g,0,none⟩) n cap) (xs.set i.toNat x')∧W.grownBy (W.setCell ⟨g,i.toNat * 6 + j,none⟩ (.int .i64 y)) (some g):=fun x' hx=>by
   have h:=Kd.S_seg (okg:=fun _=>False) hH h0 (by omega) (seg:=[.int .i64 y]) (j:=j) (show j + 1≤6 by omega) (x':=x') hx (fun _ hk=>.inl hk) (fun _ hk=>hk.elim)
   rw [List.set_set] at h
   exact h
 match j,hj with
 | 0,_=>exact key _ (k58_mkM _ _ _ (⟨y,x.f1,x.f2,x.f3,x.f4,x.f5⟩:S58) ge)
 | 1,_=>exact key _ (k58_mkM _ _ _ (⟨x.f0,y,x.f2,x.f3,x.f4,x.f5⟩:S58) ge)
 | 2,_=>exact key _ (k58_mkM _ _ _ (⟨x.f0,x.f1,y,x.f3,x.f4,x.f5⟩:S58) ge)
 | 3,_=>exact key _ (k58_mkM _ _ _ (⟨x.f0,x.f1,x.f2,y,x.f4,x.f5⟩:S58) ge)
 | 4,_=>exact key _ (k58_mkM _ _ _ (⟨x.f0,x.f1,x.f2,x.f3,y,x.f5⟩:S58) ge)
theorem ck_at {W : World} {base g n cap : Nat} {ok : Nat → Prop} {xs : List S58} (i : Int) (x : S58) (HO : Aside0 (Kd.S k58 58 W base ok (.slice (some ⟨g, 0, none⟩) n cap) (xs.set i.toNat x))) (h0 : 0 ≤ i) (h1 : i < xs.length) (j : Nat) (hj : j < 5) :
    (∃ y,W.cell? ⟨g,i.toNat * 6 + j,none⟩=some (.int .i64 y))∧W.frozen? ⟨g,i.toNat * 6 + j,none⟩=false:=by
 have hn:=(Kd.S_reads' HO.out).1
 rw [List.length_set] at hn
 obtain⟨oki,c,hcl,hM,hcc,hfr,hoki,hH⟩:=Kd.S_elem HO.out z58 i h0 (by omega)
 rw [getD_set_at xs i x _ h0 h1] at hM
 obtain⟨ve,rfl,ge⟩:=k58_openM hM
 refine⟨?_,hfr j⟩
 match j,hj with
 | 0,_=>exact⟨_,hcc 0 _ rfl⟩
 | 1,_=>exact⟨_,hcc 1 _ rfl⟩
 | 2,_=>exact⟨_,hcc 2 _ rfl⟩
 | 3,_=>exact⟨_,hcc 3 _ rfl⟩
 | 4,_=>exact⟨_,hcc 4 _ rfl⟩
def laws_markChunkS.l0:Nat→List (S58)→Int→Int→Option (Int × (List (S58)))
  | 0,_,_,_=>none
  | k + 1,x0,x1,x5=>if x5 < (x0.length:Int) then (if 0≤x5 then ((laws_markIntS.f k ((rd_T58 x0 x5).f5) (wrap64 ((wrap64 ((wrap64 ((wrap64 ((wrap64 (x1 + 1)) + 1)) + 1)) + 1)) + 1))).bind fun bt=>laws_markChunkS.l0 k (x0.set (x5:Int).toNat (⟨x1,wrap64 (x1 + 1),wrap64 ((wrap64 (x1 + 1)) + 1),wrap64 ((wrap64 ((wrap64 (x1 + 1)) + 1)) + 1),wrap64 ((wrap64 ((wrap64 ((wrap64 (x1 + 1)) + 1)) + 1)) + 1),bt.2⟩:S58)) bt.1 (wrap64 (x5 + 1))) else none) else (some (x1,x0))
def laws_markChunkS.f (k:Nat)(l0:List (S58))(a1:Int):Option (Int × (List (S58))):=laws_markChunkS.l0 k l0 a1 0
theorem laws_markChunkS.calls {k : Nat} (P0_ : Nat → Prop) {u9000_ : Value} {l0 : List (S58)} {a1 r1 : Int} {r2 : List (S58)} {w0 w : World} (hB : Below w0.heap.size w0 w) (aJ : Kd.S k58 58 w w0.heap.size P0_ u9000_ l0) (h : laws_markChunkS.f k l0 a1 = some (r1, r2)) :
    Calls Try.prog 66 #[u9000_,.int .i64 a1] w fun e w'=>e=.returned (.int .i64 r1)∧Kd.S k58 58 w' w0.heap.size (fun k_=>(P0_ k_∨w.heap.size≤k_)) u9000_ r2∧Below w0.heap.size w0 w'∧Kept w w' (fun k_=>P0_ k_):=by
 have aU:=am (show Kd.S k58 58 w w0.heap.size (fun k_=>(P0_ k_∨w.heap.size≤k_)) u9000_ l0 from Kd.S_mono aJ (fun k_ hk=>(.inl hk)))
 have HOB:=am (fun k_ (hk:u9000_.ownBlock=some k_)=>aJ.choose_spec.1 k_ hk)
 have HGE:=am (Kd.S_base aJ)
 have HK:=am (Kept.refl w (fun k_=>P0_ k_))
 have HB:=am hB
 clear hB aJ
 have H':=am (show laws_markChunkS.l0 k l0 a1 0=some (r1,r2) from h)
 clear h
 go_enter Try.func66,Try.ntmps66
 go_wp2
 go_loopg [1,5] k (fun kq v1 v5 w'=>∃ (aD:List (S58)) (aC:Int) (aA:Int),v1=.int .i64 aC∧v5=.int .i64 aA∧Aside0 (laws_markChunkS.l0 kq aD aC aA=some (r1,r2))∧Aside0 (kq≤k)∧Aside0 (Kd.S k58 58 w' w0.heap.size (fun k_=>(P0_ k_∨w.heap.size≤k_)) u9000_ aD)∧Aside0 (Kept w w' (fun k_=>P0_ k_))∧Aside0 (Below w0.heap.size w0 w'))
 case atStart=>exact⟨l0,a1,0,sr,sr,H',⟨Nat.le_refl _⟩,⟨S_later aU.out⟩,⟨kept_later HK.out⟩,⟨bL HB⟩⟩
 clear H' aU
 obtain⟨aD,aC,aA,rfl,rfl,HA,aV,aE,HK,HB⟩:=hrel
 cases gk with
 | zero=>exact absurd HA.out (by simp [laws_markChunkS.l0])
 | succ k1=>?_
 have H:=HA.out
 clear HA
 simp only [laws_markChunkS.l0] at H
 replace H:=idc H
 obtain⟨aK,H⟩ | ⟨aK,H⟩:=H
 rotate_left
 · obtain⟨rfl,rfl⟩:=(by simpa using H:_∧_)
   obtain⟨a7,a8,aM⟩:=Kd.S_slice aE.out
   subst aM
   go_wp2
   go_ret
   exact fin_ ⟨S_later aE.out,bL HB,kept_later HK.out⟩
 replace H:=ifd H;obtain⟨a9,H⟩:=H
 obtain⟨⟨b1,b2⟩,h5,H⟩:=Option.bind_eq_some_iff.mp H
 have A5:=am h5
 have H':=am H
 clear H h5
 have p5:0≤(aA:Int):=dcd
 have q5:(aA:Int) < (aD.length:Int):=dcd
 obtain⟨go5,bA,bB,aW,gl5,cl5,HG5⟩:=Kd.R_form (Kd.S_R aE.out) (by omega)
 subst bB
 have GB:=am aW
 have GP:=am (HOB.out go5 rfl)
 obtain⟨x,hx⟩:∃ x,x=rd_T58 aD aA:=⟨_,rfl⟩
 have HO:=am (show Kd.S k58 58 _ w0.heap.size (fun k_=>(P0_ k_∨w.heap.size≤k_)) (.slice (some ⟨go5,0,none⟩) aD.length bA) (aD.set aA.toNat x) from by
   rw [hx]
   unfold rd_T58
   rw [List.getD_eq_getElem?_getD,List.getElem?_eq_getElem (by omega)]
   show Kd.S _ _ _ _ _ _ (aD.set aA.toNat aD[aA.toNat])
   rw [List.set_getElem_self]
   exact aE.out)
 rw [← hx] at A5
 have P5:=am p5
 have Q5:=am q5
 obtain⟨⟨z0,hz0⟩,aX⟩:=ck_at aA x HO p5 q5 0 (by decide)
 rw [Nat.add_zero] at hz0 aX
 clear aW gl5 HG5 cl5 aE hx
 have bI:=eq_true p5
 have bJ:=eq_true q5
 clear p5 q5
 go_wp2_with (first
   | (refine st_ 3 16 _ ?_;intro w7 aN;have h_:=ck_put aA x HO P5.out Q5.out 0 (by decide) aC;rw [Nat.add_zero] at h_;rw [← aN] at h_;replace HO:=am h_.1;replace HK:=am (Kept.of_grown h_.2 (kept_later HK.out) (fun k_ hk_=>by cases hk_;exact .inl GP.out));replace HB:=am (by rw [aN];exact below_set (bL HB) GB.out:Below w0.heap.size w0 w7);obtain⟨⟨z1,hz1⟩,bC⟩:=ck_at aA _ HO P5.out Q5.out 1 (by decide);clear hz0 aX h_ aN)
   | (refine st_ 3 23 _ ?_;intro w8 aQ;have h_:=ck_put aA _ HO P5.out Q5.out 1 (by decide) (wrap64 (aC + 1));rw [← aQ] at h_;replace HO:=am h_.1;replace HK:=am (Kept.of_grown h_.2 (kept_later HK.out) (fun k_ hk_=>by cases hk_;exact .inl GP.out));replace HB:=am (by rw [aQ];exact below_set (bL HB) GB.out:Below w0.heap.size w0 w8);obtain⟨⟨z2,hz2⟩,bD⟩:=ck_at aA _ HO P5.out Q5.out 2 (by decide);clear hz1 bC h_ aQ)
   | (refine st_ 3 30 _ ?_;intro w9 aT;have h_:=ck_put aA _ HO P5.out Q5.out 2 (by decide) (wrap64 ((wrap64 (aC + 1)) + 1));rw [← aT] at h_;replace HO:=am h_.1;replace HK:=am (Kept.of_grown h_.2 (kept_later HK.out) (fun k_ hk_=>by cases hk_;exact .inl GP.out));replace HB:=am (by rw [aT];exact below_set (bL HB) GB.out:Below w0.heap.size w0 w9);obtain⟨⟨z3,hz3⟩,bE⟩:=ck_at aA _ HO P5.out Q5.out 3 (by decide);clear hz2 bD h_ aT)
   | (refine st_ 3 37 _ ?_;intro bF aG;have h_:=ck_put aA _ HO P5.out Q5.out 3 (by decide) (wrap64 ((wrap64 ((wrap64 (aC + 1)) + 1)) + 1));rw [← aG] at h_;replace HO:=am h_.1;replace HK:=am (Kept.of_grown h_.2 (kept_later HK.out) (fun k_ hk_=>by cases hk_;exact .inl GP.out));replace HB:=am (by rw [aG];exact below_set (bL HB) GB.out:Below w0.heap.size w0 bF);obtain⟨⟨z4,hz4⟩,bG⟩:=ck_at aA _ HO P5.out Q5.out 4 (by decide);clear hz3 bE h_ aG)
   | (refine st_ 3 44 _ ?_;intro aY aH;have h_:=ck_put aA _ HO P5.out Q5.out 4 (by decide) (wrap64 ((wrap64 ((wrap64 ((wrap64 (aC + 1)) + 1)) + 1)) + 1));rw [← aH] at h_;replace HO:=am h_.1;replace HK:=am (Kept.of_grown h_.2 (kept_later HK.out) (fun k_ hk_=>by cases hk_;exact .inl GP.out));replace HB:=am (by rw [aH];exact below_set (bL HB) GB.out:Below w0.heap.size w0 aY);obtain⟨oki,ce,hcl,hM,hcc,hfr,hoki,hH⟩:=Kd.S_elem HO.out z58 aA P5.out Q5.out;rw [getD_set_at aD aA _ _ P5.out Q5.out] at hM;obtain⟨ve,rfl,ge⟩:=k58_openM hM;have bK:aY.cell? ⟨go5,aA.toNat * 6 + 5,none⟩=some ve:=hcc 5 _ rfl;have GEE:=am (show Kd.R _ _ _ _ _ _ x.f5 from ge);have HHH:=am hH;have HOK:=am hoki;clear hz4 bG h_ aH hcl hcc hfr hM ge hH hoki)
   | (go_at_call 81;(refine (laws_markIntS.calls oki (bL HB) (rL GEE) A5.out).mono ?_);rintro e bH ⟨rfl,hS7,aZ,hk7⟩;have HN7:=Kd.H_step (w1:=bH) (Kd.H_widen HHH.out) (fun k_ hk hn hlt=>hk7.2 k_ hlt (fun h_=>hn (.inl h_)));have aI:=Kd.H_back HN7 (x':=(⟨aC,wrap64 (aC + 1),wrap64 ((wrap64 (aC + 1)) + 1),wrap64 ((wrap64 ((wrap64 (aC + 1)) + 1)) + 1),wrap64 ((wrap64 ((wrap64 ((wrap64 (aC + 1)) + 1)) + 1)) + 1),b2⟩:S58)) (k58_mkM _ _ _ (⟨aC,wrap64 (aC + 1),wrap64 ((wrap64 (aC + 1)) + 1),wrap64 ((wrap64 ((wrap64 (aC + 1)) + 1)) + 1),wrap64 ((wrap64 ((wrap64 ((wrap64 (aC + 1)) + 1)) + 1)) + 1),b2⟩:S58) hS7) (fun k_ hk=>hk.elim (fun h_=>.inl h_) (fun h_=>.inr ⟨.inr (Nat.le_trans HK.out.1 h_),h_⟩));rw [List.set_set] at aI;have a6:=Kept.then_ HK.out hk7 (fun k_ hk=>(HOK.out k_ hk).1);have aE:=am aI;replace HK:=am a6;replace HB:=am aZ;clear aI a6 HN7 hS7 hk7 HHH GEE HOK aZ HO))
 go_roundg k1
 case measure=>have:=aV.out;omega
 case rel=>exact⟨_,b1,(wrap64 (aA + 1)),sr,sr,H',⟨by have:=aV.out;omega⟩,⟨S_later aE.out⟩,⟨kept_later HK.out⟩,⟨bL HB⟩⟩
/-! ### laws_markGroupMetaS: function 41 -/
def laws_markGroupMetaS.l0:Nat→List (S54)→Int→Int→Option (Int × (List (S54)))
  | 0,_,_,_=>none
  | k + 1,x0,x1,x5=>if x5 < (x0.length:Int) then (if 0≤x5 then ((laws_markChunkS.f k ((rd_T54 x0 x5).f1) (wrap64 (x1 + 1))).bind fun bt=>laws_markGroupMetaS.l0 k (x0.set (x5:Int).toNat (⟨x1,bt.2⟩:S54)) bt.1 (wrap64 (x5 + 1))) else none) else (some (x1,x0))
def laws_markGroupMetaS.f (k:Nat)(l0:List (S54))(a1:Int):Option (Int × (List (S54))):=laws_markGroupMetaS.l0 k l0 a1 0
theorem gk_put {W : World} {base g n cap : Nat} {ok : Nat → Prop} {xs : List S54} (i : Int) (x : S54) (HO : Aside0 (Kd.S k54 54 W base ok (.slice (some ⟨g, 0, none⟩) n cap) (xs.set i.toNat x))) (h0 : 0 ≤ i) (h1 : i < xs.length) (y : Int) :
    Kd.S k54 54 (W.setCell ⟨g,i.toNat * 2,none⟩ (.int .i64 y)) base ok (.slice (some ⟨g,0,none⟩) n cap) (xs.set i.toNat ⟨y,x.f1⟩)∧W.grownBy (W.setCell ⟨g,i.toNat * 2,none⟩ (.int .i64 y)) (some g)∧(∃ y,W.cell? ⟨g,i.toNat * 2,none⟩=some (.int .i64 y))∧W.frozen? ⟨g,i.toNat * 2,none⟩=false:=by
 have hn:=(Kd.S_reads' HO.out).1
 rw [List.length_set] at hn
 obtain⟨oki,c,hcl,hM,hcc,hfr,hoki,hH⟩:=Kd.S_elem (Kd.S_mono HO.out (ok':=fun k=>ok k∧¬ False) (fun k hk=>⟨hk,id⟩)) z54 i h0 (by omega)
 rw [getD_set_at xs i x _ h0 h1] at hM
 obtain⟨ve,rfl,ge⟩:=k54_openM hM
 have h:=Kd.S_seg (okg:=fun _=>False) hH h0 (by omega) (seg:=[.int .i64 y]) (j:=0) (show 0 + 1≤2 by omega) (x':=(⟨y,x.f1⟩:S54)) (k54_mkM _ _ _ (⟨y,x.f1⟩:S54) ge) (fun _ hk=>.inl hk) (fun _ hk=>hk.elim)
 rw [List.set_set] at h
 exact⟨h.1,h.2,⟨_,hcc 0 _ rfl⟩,hfr 0⟩
theorem laws_markGroupMetaS.calls (k : Nat) (P0_ : Nat → Prop) (u9000_ : Value) (l0 : List (S54)) (a1 : Int) (r1 : Int) (r2 : List (S54)) (w0 w : World) (hB : Below w0.heap.size w0 w) (aI : Kd.S k54 54 w w0.heap.size P0_ u9000_ l0) (h : laws_markGroupMetaS.f k l0 a1 = some (r1, r2)) :
    Calls Try.prog 41 #[u9000_,.int .i64 a1] w fun e w'=>e=.returned (.int .i64 r1)∧Kd.S k54 54 w' w0.heap.size (fun k_=>(P0_ k_∨w.heap.size≤k_)) u9000_ r2∧Below w0.heap.size w0 w'∧Kept w w' (fun k_=>P0_ k_):=by
 have aM:=am (show Kd.S k54 54 w w0.heap.size (fun k_=>(P0_ k_∨w.heap.size≤k_)) u9000_ l0 from Kd.S_mono aI (fun k_ hk=>(.inl hk)))
 have HOB:=am (fun k_ (hk:u9000_.ownBlock=some k_)=>aI.choose_spec.1 k_ hk)
 have HK:=am (Kept.refl w (fun k_=>P0_ k_))
 have HB:=am hB
 clear hB aI
 have H':=am (show laws_markGroupMetaS.l0 k l0 a1 0=some (r1,r2) from h)
 clear h
 go_enter Try.func41,Try.ntmps41
 go_wp2
 go_loopg [1,5] k (fun kq v1 v5 w'=>∃ (aC:List (S54)) (aE:Int) (aA:Int),v1=.int .i64 aE∧v5=.int .i64 aA∧Aside0 (laws_markGroupMetaS.l0 kq aC aE aA=some (r1,r2))∧Aside0 (kq≤k)∧Aside0 (Kd.S k54 54 w' w0.heap.size (fun k_=>(P0_ k_∨w.heap.size≤k_)) u9000_ aC)∧Aside0 (Kept w w' (fun k_=>P0_ k_))∧Aside0 (Below w0.heap.size w0 w'))
 case atStart=>exact⟨l0,a1,0,sr,sr,H',⟨Nat.le_refl _⟩,⟨S_later aM.out⟩,⟨kept_later HK.out⟩,⟨bL HB⟩⟩
 clear H' aM
 obtain⟨aC,aE,aA,rfl,rfl,HA,aN,aD,HK,HB⟩:=hrel
 cases gk with
 | zero=>exact absurd HA.out (by simp [laws_markGroupMetaS.l0])
 | succ k1=>?_
 have H:=HA.out
 clear HA
 simp only [laws_markGroupMetaS.l0] at H
 replace H:=idc H
 obtain⟨aJ,H⟩ | ⟨aJ,H⟩:=H
 rotate_left
 · obtain⟨rfl,rfl⟩:=(by simpa using H:_∧_)
   obtain⟨aW,aX,aK⟩:=Kd.S_slice aD.out
   subst aK
   go_wp2
   go_ret
   exact fin_ ⟨S_later aD.out,bL HB,kept_later HK.out⟩
 replace H:=ifd H;obtain⟨aY,H⟩:=H
 obtain⟨⟨b1,b2⟩,h5,H⟩:=Option.bind_eq_some_iff.mp H
 have A5:=am h5
 have H':=am H
 clear H h5
 have p5:0≤(aA:Int):=dcd
 have q5:(aA:Int) < (aC.length:Int):=dcd
 obtain⟨go5,aZ,a6,aQ,gl5,cl5,HG5⟩:=Kd.R_form (Kd.S_R aD.out) (by omega)
 subst a6
 have GB:=am aQ
 have GP:=am (HOB.out go5 rfl)
 obtain⟨x,hx⟩:∃ x,x=rd_T54 aC aA:=⟨_,rfl⟩
 have HO:=am (show Kd.S k54 54 _ w0.heap.size (fun k_=>(P0_ k_∨w.heap.size≤k_)) (.slice (some ⟨go5,0,none⟩) aC.length aZ) (aC.set aA.toNat x) from by
   rw [hx]
   unfold rd_T54
   rw [List.getD_eq_getElem?_getD,List.getElem?_eq_getElem (by omega)]
   show Kd.S _ _ _ _ _ _ (aC.set aA.toNat aC[aA.toNat])
   rw [List.set_getElem_self]
   exact aD.out)
 rw [← hx] at A5
 have P5:=am p5
 have Q5:=am q5
 obtain⟨-,-,⟨z0,hz0⟩,a7⟩:=gk_put aA x HO p5 q5 0
 clear aQ gl5 HG5 cl5 aD hx
 have a9:=eq_true p5
 have bA:=eq_true q5
 clear p5 q5
 go_wp2_with (first
   | (refine st_ 3 16 _ ?_;intro aT aG;obtain⟨h_,hg_,-,-⟩:=gk_put aA x HO P5.out Q5.out aE;rw [← aG] at h_ hg_;replace HO:=am h_;replace HK:=am (Kept.of_grown hg_ (kept_later HK.out) (fun k_ hk_=>by cases hk_;exact .inl GP.out));replace HB:=am (by rw [aG];exact below_set (bL HB) GB.out:Below w0.heap.size w0 aT);obtain⟨oki,ce,hcl,hM,hcc,hfr,hoki,hH⟩:=Kd.S_elem HO.out z54 aA P5.out Q5.out;rw [getD_set_at aC aA _ _ P5.out Q5.out] at hM;obtain⟨ve,rfl,ge⟩:=k54_openM hM;have bB:aT.cell? ⟨go5,aA.toNat * 2 + 1,none⟩=some ve:=hcc 1 _ rfl;have GEE:=am ge;have HHH:=am hH;have HOK:=am hoki;clear hz0 a7 h_ hg_ aG hcl hcc hfr hM ge hH hoki)
   | (go_at_call 66;(refine (laws_markChunkS.calls oki (bL HB) (S_later GEE.out) A5.out).mono ?_);rintro e a8 ⟨rfl,hS7,aU,hk7⟩;have HN7:=Kd.H_step (w1:=a8) (Kd.H_widen HHH.out) (fun k_ hk hn hlt=>hk7.2 k_ hlt (fun h_=>hn (.inl h_)));have aH:=Kd.H_back HN7 (x':=(⟨aE,b2⟩:S54)) (k54_mkM _ _ _ (⟨aE,b2⟩:S54) hS7) (fun k_ hk=>hk.elim (fun h_=>.inl h_) (fun h_=>.inr ⟨.inr (Nat.le_trans HK.out.1 h_),h_⟩));rw [List.set_set] at aH;have aV:=Kept.then_ HK.out hk7 (fun k_ hk=>(HOK.out k_ hk).1);have aD:=am aH;replace HK:=am aV;replace HB:=am aU;clear aH aV HN7 hS7 hk7 HHH GEE HOK aU HO))
 go_roundg k1
 case measure=>have:=aN.out;omega
 case rel=>exact⟨_,b1,(wrap64 (aA + 1)),sr,sr,H',⟨by have:=aN.out;omega⟩,⟨S_later aD.out⟩,⟨kept_later HK.out⟩,⟨bL HB⟩⟩
/-! ### laws_markMeta: function 11 -/
theorem types_apart {l:List Nat}{W:World}{e' k_:Nat}(hk:∃ q,q ∈ l∧∃ cells,W.heap[k_]?=some (.cells cells q (0,0)))(hc:∃ cells,W.heap[k_]?=some (.cells cells e' (0,0)))(ht:∀ q,q ∈ l→q≠e'):False:=by
  obtain⟨q,hq,cells,h1⟩:=hk
  obtain⟨cells',h2⟩:=hc
  rw [h1] at h2
  injection h2 with h2
  injection h2 with _ h2
  exact ht q hq h2
theorem R_marked {α:Type}{d:Kd α}{e base e':Nat}{ok:Nat→Prop}{v u:Value}{xs:List α}{l:List Nat}{W W2:World}(h:d.R e W base ok v xs)(hk:Kept W W2 (fun k=>some k=u.ownBlock∨∃ q,q ∈ l∧∃ cells,W.heap[k]?=some (.cells cells q (0,0))))(hty:∀ k,u.ownBlock=some k→∃ cells,W.heap[k]?=some (.cells cells e' (0,0)))(ht:∀ q,q ∈ e :: d.E→∀ q',q' ∈ e' :: l→q'≠q):d.R e W2 base ok v xs :=
  Kd.R_mono (Kd.R_kept (Kd.R_bound h) hk (fun k hb hs=>by
    obtain⟨_,_,_,q,hq,hc⟩:=hb
    rcases hs with hs | hs
    · exact types_apart ⟨e',List.mem_cons_self,hty k hs.symm⟩ hc (l:=e' :: l) (fun q' hq'=>ht q hq q' hq')
    · exact types_apart hs hc (fun q' hq'=>ht q hq q' (List.mem_cons_of_mem _ hq')))) (fun _ hb=>hb.1)
theorem blk_marked {e' g t:Nat}{u:Value}{cs:Array Value}{l:List Nat}{W W2:World}(h:W.heap[g]?=some (.cells cs t (0,0)))(hk:Kept W W2 (fun k=>some k=u.ownBlock∨∃ q,q ∈ l∧∃ cells,W.heap[k]?=some (.cells cells q (0,0))))(hty:∀ k,u.ownBlock=some k→∃ cells,W.heap[k]?=some (.cells cells e' (0,0)))(ht:∀ q',q' ∈ e' :: l→q'≠t):W2.heap[g]?=some (.cells cs t (0,0)) :=
  blk_kept h hk (fun hs=>by
    rcases hs with hs | hs
    · exact types_apart ⟨e',List.mem_cons_self,hty g hs.symm⟩ ⟨_,h⟩ (l:=e' :: l) ht
    · exact types_apart hs ⟨_,h⟩ (fun q' hq'=>ht q' (List.mem_cons_of_mem _ hq')))
def laws_markMeta.f (k:Nat)(aD:List (S84))(aG:Int)(aE:List (S54))(a1:Int):Option (Int × (List (S84))):=(laws_markColS.f k aD a1).bind fun aA=>((laws_markGroupMetaS.f k aE aA.1).bind fun aC=>(some (aC.1,aA.2)))
theorem laws_markMeta.calls {k : Nat} (P0_ : Nat → Prop) {P2_ : Nat → Prop} {u0_ u2_ : Value} {aD : List (S84)} {aH : Int} {aC : List (S54)} {a1 r1 : Int} {r2 : List (S84)} {w0 w : World} (hB : Below w0.heap.size w0 w) (aK : Kd.R k84 84 w w0.heap.size P0_ u0_ aD) (aN : Kd.S k54 54 w w0.heap.size P2_ u2_ aC) (hd : ∀ k_, P2_ k_ → ¬ P0_ k_) (h : laws_markMeta.f k aD aH aC a1 = some (r1, r2)) :
    Calls Try.prog 11 #[.agg #[u0_,.int .i64 aH,u2_],.int .i64 a1] w fun e w'=>e=.returned (.int .i64 r1)∧Kd.R k84 84 w' w0.heap.size (fun k_=>(P0_ k_∨w.heap.size≤k_)) u0_ r2∧Below w0.heap.size w0 w'∧Kept w w' (fun k_=>P0_ k_∨P2_ k_):=by
 have hu33:=Try.underlying33
 have aE:=am (show Kd.R k84 84 w w0.heap.size (fun k_=>(P0_ k_∨w.heap.size≤k_)) u0_ aD from Kd.R_mono aK (fun k_ hk=>(.inl hk)))
 have HP:=am (fun (k_:Nat) (e_:u0_.ownBlock=some k_)=>aK.1 k_ e_)
 have aI:=am (show Kd.S k54 54 w w0.heap.size (fun k_=>P2_ k_∧k_ < w.heap.size) u2_ aC from Kd.S_mono (Kd.S_bound aN) (fun k_ hk=>⟨hk.1,hk.2.2.1⟩))
 have HD:=am hd
 have HK:=am (Kept.refl w (fun k_=>P0_ k_∨P2_ k_))
 have HW0:=am hB.size
 have HB:=am hB
 clear hB aK aN hd
 have H:=h;clear h;unfold laws_markMeta.f at H
 replace H:=bnd2 H;obtain⟨aM,aY,A3,H⟩:=H;dsimp only at H
 replace H:=bnd2 H;obtain⟨aZ,a6,A4,H⟩:=H;dsimp only at H
 replace H:=sj2 H;obtain⟨rfl,rfl⟩:=H
 obtain⟨aQ,aT,a7⟩:=Kd.R_slice aE.out
 subst a7
 obtain⟨aU,aV,a8⟩:=Kd.S_slice aI.out
 subst a8
 go_enter Try.func11,Try.ntmps11
 go_wp2_with (first | ((with_reducible refine gd 2 rfl ?_);refine bx_ 2 #[.slice aQ aD.length aT,.int .i64 aH,.slice aU aC.length aV] 33 ?_;intro aG hg w6 hbox hb;have aA:=am hbox;have aW:=am ((by rw [hg];exact (kept_later HK.out).1:w.heap.size≤aG));have aX:=am ((by rw [hg];exact (below_size (bL HB)):w0.heap.size≤aG));replace aE:=rbe aE hb;replace aI:=am (Kd.S_below (S_later aI.out) hb);replace HK:=am (Kept.below (S:=(fun k_=>P0_ k_∨P2_ k_)) (kept_later HK.out) hb);replace HB:=bst HB hb;clear hb hbox hg;obtain⟨_,_,_,_,_,_⟩:=cl3 aA) | ((with_reducible refine gc 40 rfl ?_);refine gc1 (some 8) Try.func40 rfl (laws_markColS.calls (fun k_=>some k_=(.slice aQ aD.length aT:Value).ownBlock) (bL HB) (Kd.R_tight rfl aE.out) A3.out) ?_;rintro w8 ⟨aJ,hb,hkp⟩;replace aA:=am (blk_kept (blk_later aA.out) hkp (fun e_=>(Kd.R_ne aE.out aA.out (by decide)) e_));replace aI:=am (Kd.S_kept aI.out hkp (fun k_ hk_ e_=>HD.out k_ hk_.1 (HP.out k_ e_.symm)));replace HK:=am (Kept.then_ (S:=(fun k_=>P0_ k_∨P2_ k_)) (kept_later HK.out) hkp (fun k_ e_=>.inl (.inl (HP.out k_ e_.symm))));replace aE:=am (Kd.R_reok rfl aJ (fun k_ e_=>aE.out.1 k_ e_));replace HB:=am hb;clear hb hkp aJ;obtain⟨_,_,_,_,_,_⟩:=cl3 aA) | ((with_reducible refine gc 41 rfl ?_);refine gc1 (some 12) Try.func41 rfl (laws_markGroupMetaS.calls k (fun k_=>P2_ k_∧k_ < w.heap.size) (.slice aU aC.length aV) aC aM _ _ w0 _ (bL HB) (S_later aI.out) A4.out) ?_;rintro a9 ⟨aJ,hb,hkp⟩;replace aE:=am (Kd.R_kept aE.out hkp (fun k_ hk_ hs_=>hk_.elim (fun h_=>HD.out k_ hs_.1 h_) (fun h_=>by have:=hs_.2;omega)));replace HK:=am (Kept.then_ (S:=(fun k_=>P0_ k_∨P2_ k_)) (kept_later HK.out) hkp (fun k_ hs_=>.inl (.inr hs_.1)));replace HB:=am hb;clear hb hkp aJ))
 go_ret
 exact fin_ ⟨rL aE,bL HB,kept_later HK.out⟩
/-! ### spec_l1In: function 49 -/
def spec_l1In.f (a0:Int)(a1:Int)(a2:Int):Option (Bool):=if a0 ≥ a1 then (some (decide (a0≤a2))) else (some false)
theorem spec_l1In.calls {a0 a1 a2 : Int} {r : Bool} {w : World} (h : spec_l1In.f a0 a1 a2 = some r) :
    Calls Try.prog 49 #[.int .i64 a0,.int .i64 a1,.int .i64 a2] w fun e w'=>e=.returned (.bool r)∧Drawn0 w w':=by
 have H:=h;clear h;unfold spec_l1In.f at H
 replace H:=ige H;obtain⟨aA,H⟩ | ⟨aA,H⟩:=H
 · cases H
   go_enter Try.func49,Try.ntmps49
   go_wp2
   go_ret
   exact⟨sr,drl⟩
 cases H
 go_enter Try.func49,Try.ntmps49
 go_wp2
 go_ret
 exact⟨sr,drl⟩
/-! ### spec_l5Name: function 88 -/
def spec_l5Name.l0:Nat→ByteArray→Int→Option (Bool)
  | 0,_,_=>none
  | k + 1,x0,x3=>if x3 < (x0.size:Int) then (if 0≤x3 then (if (bt x0 x3) < 97 then (some false) else (if (bt x0 x3) > 122 then (some false) else (spec_l5Name.l0 k x0 (wrap64 (x3 + 1))))) else (none)) else (some true)
def spec_l5Name.f (k:Nat)(a0:ByteArray):Option (Bool):=(spec_l1In.f (a0.size:Int) 1 20).bind fun aA=>(if aA=true then (spec_l5Name.l0 k a0 0) else (some false))
theorem spec_l5Name.calls {k : Nat} {a0 : ByteArray} {r : Bool} {w : World} (h : spec_l5Name.f k a0 = some r) :
    Calls Try.prog 88 #[.string a0] w fun e w'=>e=.returned (.bool r)∧Drawn0 w w':=by
 have H:=h;clear h;unfold spec_l5Name.f at H
 replace H:=bnd H;obtain⟨aI,A2,H⟩:=H
 replace H:=ibt H;obtain⟨rfl,H⟩ | ⟨rfl,H⟩:=H
 rotate_left
 · cases H
   go_enter Try.func88,Try.ntmps88
   go_wp2_with (first | ((with_reducible refine gc 49 rfl ?_);refine gc1 (some 6) Try.func49 rfl (spec_l1In.calls A2.out) ?_;rintro w' ⟨nd,rfl⟩))
   go_ret
   exact⟨sr,drl⟩
 have H':=am H;clear H
 go_enter Try.func88,Try.ntmps88
 go_wp2_with (first | ((with_reducible refine gc 49 rfl ?_);refine gc1 (some 6) Try.func49 rfl (spec_l1In.calls A2.out) ?_;rintro w' ⟨nd,rfl⟩))
 go_loopg [3] k (fun kq v3 w'=>∃ (aA:Int),v3=.int .i64 aA∧Aside0 (spec_l5Name.l0 kq a0 aA=some r)∧Aside0 (kq≤k)∧Drawn0 w w')
 case atStart=>exact⟨(0),sr,H',⟨Nat.le_refl _⟩,by repeat (first | exact Drawn0.refl _ | apply Drawn0.step)⟩
 clear H'
 try clear c3
 obtain⟨aA,rfl,HA,aG,⟨m1,rfl⟩⟩:=hrel
 cases gk with
 | zero=>exact absurd HA.out (by simp [spec_l5Name.l0])
 | succ k1=>?_
 have H:=HA.out
 clear HA
 simp only [spec_l5Name.l0] at H
 replace H:=idc H;obtain⟨aC,H⟩ | ⟨aC,H⟩:=H
 rotate_left
 · cases H
   go_wp2
   go_ret
   exact⟨sr,drl⟩
 replace H:=ifd H;obtain⟨aJ,H⟩:=H
 replace H:=idc H;obtain⟨aD,H⟩ | ⟨aD,H⟩:=H
 · cases H
   have p6:0≤(aA:Int):=dcd
   have q6:aA < (a0.size:Int):=dcd
   have aH:=bt_at a0 aA
   replace p6:=eq_true p6
   replace q6:=eq_true q6
   go_wp2
   go_ret
   exact⟨sr,drl⟩
 replace H:=igt H;obtain⟨aE,H⟩ | ⟨aE,H⟩:=H
 · cases H
   have p6:0≤(aA:Int):=dcd
   have q6:aA < (a0.size:Int):=dcd
   have aH:=bt_at a0 aA
   replace p6:=eq_true p6
   replace q6:=eq_true q6
   have p8:0≤(aA:Int):=dcd
   have q8:aA < (a0.size:Int):=dcd
   have aK:=bt_at a0 aA
   replace p8:=eq_true p8
   replace q8:=eq_true q8
   go_wp2
   go_ret
   exact⟨sr,drl⟩
 have H':=am H;clear H
 have p6:0≤(aA:Int):=dcd
 have q6:aA < (a0.size:Int):=dcd
 have aH:=bt_at a0 aA
 replace p6:=eq_true p6
 replace q6:=eq_true q6
 have p8:0≤(aA:Int):=dcd
 have q8:aA < (a0.size:Int):=dcd
 have aK:=bt_at a0 aA
 replace p8:=eq_true p8
 replace q8:=eq_true q8
 go_wp2
 go_roundg k1
 case measure=>have:=aG.out;omega
 case rel=>exact⟨(wrap64 (aA + 1)),sr,H',⟨by have:=aG.out;omega⟩,by repeat (first | exact Drawn0.refl _ | apply Drawn0.step)⟩
/-! ### spec_l5Type: function 89 -/
def spec_l5Type.f (a0:Int):Option (Bool):=if a0=0 then (some true) else (if a0=1 then (some true) else (if a0=2 then (some true) else (if a0=5 then (some true) else (if a0=6 then (some true) else (some false)))))
theorem spec_l5Type.calls {a0 : Int} {r : Bool} {w : World} (h : spec_l5Type.f a0 = some r) :
    Calls Try.prog 89 #[.int .i64 a0] w fun e w'=>e=.returned (.bool r)∧Drawn0 w w':=by
 have H:=h;clear h;unfold spec_l5Type.f at H
 replace H:=ieq H;obtain⟨aA,aC,H⟩ | ⟨c2,aA,aC,H⟩:=H
 · cases H
   go_enter Try.func89,Try.ntmps89
   go_wp2
   go_ret
   exact⟨sr,drl⟩
 replace H:=ieq H;obtain⟨aD,aE,H⟩ | ⟨c3,aD,aE,H⟩:=H
 · cases H
   go_enter Try.func89,Try.ntmps89
   go_wp2
   go_ret
   exact⟨sr,drl⟩
 replace H:=ieq H;obtain⟨aG,aH,H⟩ | ⟨c4,aG,aH,H⟩:=H
 · cases H
   go_enter Try.func89,Try.ntmps89
   go_wp2
   go_ret
   exact⟨sr,drl⟩
 replace H:=ieq H;obtain⟨aI,aJ,H⟩ | ⟨c5,aI,aJ,H⟩:=H
 · cases H
   go_enter Try.func89,Try.ntmps89
   go_wp2
   go_ret
   exact⟨sr,drl⟩
 replace H:=ieq H;obtain⟨aK,aM,H⟩ | ⟨c6,aK,aM,H⟩:=H
 · cases H
   go_enter Try.func89,Try.ntmps89
   go_wp2
   go_ret
   exact⟨sr,drl⟩
 cases H
 go_enter Try.func89,Try.ntmps89
 go_wp2
 go_ret
 exact⟨sr,drl⟩
end Go.Proofs.Ytjdapaocdkcgdaa.PFnExactMetaPack
