/- The pure statement of FnExactMetaPack: the printed functions answer as the law says, for all arguments. No condition. -/
import Derived.Test.YtjdapaocdkcgdaaVFnExactMetaPack
import Derived.Test.YtjdapaocdkcgdaaPFnExactMetaPackx
import Derived.Test.YtjdapaocdkcgdaaArgFnExactMetaPack
namespace Go.Proofs.Ytjdapaocdkcgdaa.Pure
open Go.RowKit Go.Proofs.Ytjdapaocdkcgdaa.PFnExactMetaPack Go.Proofs.Ytjdapaocdkcgdaa.Core Go.Proofs.YtjdapaocdkcgdaaW.PrintWords Go.Proofs.YtjdapaocdkcgdaaW.PrintLast Go.Proofs.YtjdapaocdkcgdaaW.PrintMore Go.Proofs.YtjdapaocdkcgdaaW.PrintMore2 Go.Proofs.Ytjdapaocdkcgdaa.AFnExactMetaPack
set_option linter.unusedVariables false
set_option linter.unusedSimpArgs false
def cvCol (x:S75):S84:=⟨x.f0,x.f1,x.f2,x.f3⟩
theorem toColS_ev (l:List S75)(hl:l.length≤1048576):Ev (fun k=>laws_toColS.f k l) (l.map cvCol):=by
 unfold laws_toColS.f
 refine Ev.pos (by omega) (Ev.pos (by omega) ?_)
 refine copy_loop (fun k out i=>laws_toColS.l0 k l out i) l cvCol (fun out i r h ho hr=>?_) (fun out ho=>?_) (List.replicate ((l.length:Int)).toNat z84) (by simp)
 ·
  refine Ev.step (fun k=>by rw [laws_toColS.l0]) ?_
  refine Ev.pos (by omega) (Ev.pos (by omega) (Ev.here rfl (Ev.pos (by omega) ?_)))
  rw [wrap64_id (by omega) (by omega)]
  have e:rd_T75 l (i:Int)=l[i]:=getD_eq (by simpa using h)
  simp only [e]
  simpa [cvCol] using hr
 ·
  exact Ev.step (fun k=>by rw [laws_toColS.l0]) (by exact Ev.neg (by omega) (Ev.now _))
theorem szCol_some (x:S75)(hw:w75 x)(c:Int)(h0:0≤c)(h1:c≤1048576):∃ r,laws_szCol.f x.f0 x.f1 x.f2 x.f3 c=some r∧r≤c:=by
 have b0:(x.f0.size:Int)≤9223372036854775807:=by have:=hw.1;unfold maxLen at this;omega
 unfold laws_szCol.f
 rw [wrap64_id (x:=c - (x.f0.size:Int)) (by omega) (by omega)]
 by_cases n0:c - (x.f0.size:Int) < 0
 ·
  exact⟨-1,by simp [n0],by omega⟩
 simp only [if_neg n0,Option.bind_some]
 exact⟨_,rfl,by omega⟩
theorem szColS_ev (l:List S75)(hw:l.length≤maxLen)(ht:∀ x ∈ l,w75 x)(c:Int)(h0:0≤c)(h1:c≤1048576):∃ r,Ev (fun k=>laws_szColS.f k l c) r∧r≤c∧(0≤r→r + l.length≤c):=by
 have hm:l.length≤9223372036854775807:=by unfold maxLen at hw;omega
 unfold laws_szColS.f
 rw [wrap64_id (by omega) (by omega)]
 by_cases hn:c - (l.length:Int) < 0
 ·
  exact⟨-1,Ev.pos hn (Ev.now _),by omega,by omega⟩
 ·
  obtain⟨r,hr,hrc⟩:=budget_loop (fun k c i=>laws_szColS.l0 k l c i) l.length (fun c i hc0 hc1 hi=>by
   have e:rd_T75 l (i:Int)=l[i]:=getD_eq (by simpa using hi)
   obtain⟨c',hc',hle⟩:=szCol_some l[i] (ht l[i] (List.getElem_mem hi)) c hc0 hc1
   refine⟨c',hle,fun hneg=>?_,fun hpos r hr=>?_⟩
   ·
    exact Ev.step (fun k=>by rw [laws_szColS.l0]) (by exact Ev.pos (by omega) (Ev.pos (by omega) (Ev.here (by rw [e];exact hc') (Ev.pos hneg (Ev.now _)))))
   ·
    refine Ev.step (fun k=>by rw [laws_szColS.l0]) ?_
    refine Ev.pos (by omega) (Ev.pos (by omega) (Ev.here (by rw [e];exact hc') (Ev.neg (by omega) ?_)))
    rw [wrap64_id (by omega) (by omega)]
    simpa using hr)
   (fun c=>Ev.step (fun k=>by rw [laws_szColS.l0]) (by exact Ev.neg (by omega) (Ev.now _))) (c - l.length) (by omega) (by omega)
  exact⟨r,Ev.neg hn hr,by omega,by omega⟩
theorem eqCol_ev (a:S84):laws_eqCol.f a.f0 a.f1 a.f2 a.f3 a.f0 a.f1 a.f2 a.f3=some true:=by
 unfold laws_eqCol.f
 simp
theorem eqColS_ev (l:List S84)(hl:l.length≤9223372036854775806):Ev (fun k=>laws_eqColS.f k l l) true:=by
 unfold laws_eqColS.f
 refine Ev.pos rfl ?_
 refine same_loop (fun k i=>laws_eqColS.l0 k l l i) l.length (fun i r h hr=>?_) ?_
 ·
  refine Ev.step (fun k=>by rw [laws_eqColS.l0]) ?_
  refine Ev.pos (by omega) (Ev.pos (by omega) (Ev.pos (by omega) (Ev.here (eqCol_ev _) (Ev.pos rfl ?_))))
  rw [wrap64_id (by omega) (by omega)]
  simpa using hr
 ·
  exact Ev.step (fun k=>by rw [laws_eqColS.l0]) (by exact Ev.neg (by omega) (Ev.now _))
theorem eqByteS_ev (l:List Int)(hl:l.length≤9223372036854775806):Ev (fun k=>laws_eqByteS.f k l l) true:=by
 unfold laws_eqByteS.f
 refine Ev.pos rfl ?_
 refine same_loop (fun k i=>laws_eqByteS.l0 k l l i) l.length (fun i r h hr=>?_) ?_
 ·
  refine Ev.step (fun k=>by rw [laws_eqByteS.l0]) ?_
  refine Ev.pos (by omega) (Ev.pos (by omega) (Ev.pos (by omega) (Ev.pos rfl ?_)))
  rw [wrap64_id (by omega) (by omega)]
  simpa using hr
 ·
  exact Ev.step (fun k=>by rw [laws_eqByteS.l0]) (by exact Ev.neg (by omega) (Ev.now _))
theorem markByteS_ev (l:List Int)(c:Int)(hc:0≤c)(hl:c + l.length≤9223372036854775806):∃ m ys,m=c + l.length∧Ev (fun k=>laws_markByteS.f k l c) (m,ys)∧Ev (fun k=>laws_heldByteS.f k ys c) m:=by
 obtain⟨m,ys,_,hm,h1,h2⟩:=marks_held 1 9223372036854775807 (by omega) (fun c (_:Int)=>c % 256) (fun k xs c i=>laws_markByteS.l0 k xs c i) (fun k xs c i=>laws_heldByteS.l0 k xs c i)
  (fun xs c i r h hb h0 hB hr=>by
   refine Ev.step (fun k=>by rw [laws_markByteS.l0]) ?_
   refine Ev.pos (by omega) (Ev.pos (by omega) ?_)
   rw [wrap64_id (x:=c + 1) (by omega) (by omega),wrap64_id (x:=(i:Int) + 1) (by omega) (by omega)]
   simpa using hr)
  (fun xs c=>Ev.step (fun k=>by rw [laws_markByteS.l0]) (by exact Ev.neg (by omega) (Ev.now _)))
  (fun xs c i r z h hb h0 hB hz hr=>by
   refine Ev.step (fun k=>by rw [laws_heldByteS.l0]) ?_
   refine Ev.pos (by omega) (Ev.pos (by omega) (Ev.pos (by rw [rd_eq (by simpa using h)];simpa using hz) ?_))
   rw [wrap64_id (x:=c + 1) (by omega) (by omega),wrap64_id (x:=(i:Int) + 1) (by omega) (by omega)]
   simpa using hr)
  (fun xs c=>Ev.step (fun k=>by rw [laws_heldByteS.l0]) (by exact Ev.neg (by omega) (Ev.now _)))
  l c hc (by omega)
 exact⟨m,ys,by omega,h1,h2⟩
theorem markText_l0_ev:∀ (n:Nat) (c:Int) (out:ByteArray),0≤c→c < 10 ^ n→c≤9223372036854775807→out.size + n + 1≤1000→∃ t,Ev (fun k=>laws_markText.l0 k c out) t:=by
 intro n
 induction n with
 | zero =>
  intro c out h0 h1 hb hs
  obtain rfl:c=0:=by simp at h1;omega
  exact⟨_,Ev.step (fun k=>by rw [laws_markText.l0]) (by exact Ev.neg (by omega) (Ev.pos (by omega) (Ev.now _)))⟩
 | succ n ih =>
  intro c out h0 h1 hb hs
  by_cases hc:c > 0
  ·
   have h2:c / 10 < 10 ^ n:=by
    rw [Int.pow_succ] at h1
    exact Int.ediv_lt_of_lt_mul (by omega) h1
   obtain⟨t,ht⟩:=ih (c / 10) (strOfNums [(wrap64 (48 + (Int.tmod c 10))) % 256] ++ out) (by omega) h2 (by omega) (by
    rw [ByteArray.size_append,strOfNums_size];simp;omega)
   refine⟨t,Ev.step (fun k=>by rw [laws_markText.l0]) ?_⟩
   refine Ev.pos hc (Ev.here rfl (Ev.pos (by rw [strOfNums_size];simp;omega) ?_))
   rw [Int.tdiv_eq_ediv_of_nonneg h0,wrap64_id (x:=c / 10) (by omega) (by omega)]
   exact ht
  ·
   obtain rfl:c=0:=by omega
   exact⟨_,Ev.step (fun k=>by rw [laws_markText.l0]) (by exact Ev.neg (by omega) (Ev.pos (by omega) (Ev.now _)))⟩
theorem markText_ev (c:Int)(h:c≤9223372036854775807):∃ t,Ev (fun k=>laws_markText.f k c) t:=by
 unfold laws_markText.f
 by_cases hc:c≤0
 ·
  exact⟨_,Ev.pos hc (Ev.now _)⟩
 ·
  obtain⟨t,ht⟩:=markText_l0_ev 19 c (⟨#[]⟩:ByteArray) (by omega) (by omega) h (by decide)
  exact⟨t,Ev.neg hc ht⟩
noncomputable def mtxt (c:Int):ByteArray:=if h:c≤9223372036854775807 then (markText_ev c h).choose else ByteArray.empty
theorem mtxt_ev {c:Int}(h:c≤9223372036854775807):Ev (fun k=>laws_markText.f k c) (mtxt c):=by
 unfold mtxt
 rw [dif_pos h]
 exact (markText_ev c h).choose_spec
theorem markColS_evm (l:List S84)(c:Int)(hc:0≤c)(hl:c + 4 * l.length≤9223372036854775806):∃ m ys,m=c + 4 * l.length∧Ev (fun k=>laws_markColS.f k l c) (m,ys)∧True:=by
 obtain⟨m,ys,hm,h1⟩:=marks_set 4 9223372036854775807 (by omega) (fun c (_:S84)=>(⟨mtxt (c),c + 1,c + 1 + 1,c + 1 + 1 + 1⟩:S84)) (fun k xs c i=>laws_markColS.l0 k xs c i)
  (fun xs c i r h hb h0 hB hr=>by
   refine Ev.step (fun k=>by rw [laws_markColS.l0]) ?_
   refine Ev.pos (by omega) ?_
   rw [wrap64_id (x:=c + 1) (by omega) (by omega),wrap64_id (x:=c + 1 + 1) (by omega) (by omega),wrap64_id (x:=c + 1 + 1 + 1) (by omega) (by omega),wrap64_id (x:=c + 1 + 1 + 1 + 1) (by omega) (by omega),wrap64_id (x:=(i:Int) + 1) (by omega) (by omega)]
   refine Ev.bind (mtxt_ev (by omega)) ?_
   refine Ev.pos (by omega) ?_
   refine Ev.here rfl ?_
   refine Ev.here rfl ?_
   refine Ev.here rfl ?_
   have e:c + 1 + 1 + 1 + 1=c + 4:=by omega
   simpa [rd_T84,h,e] using hr)
  (fun xs c=>Ev.step (fun k=>by rw [laws_markColS.l0]) (by exact Ev.neg (by omega) (Ev.now _)))
  l c hc (by omega)
 exact⟨m,ys,by omega,h1,trivial⟩
theorem markIntS_evm (l:List Int)(c:Int)(hc:0≤c)(hl:c + l.length≤9223372036854775806):∃ m ys,m=c + l.length∧Ev (fun k=>laws_markIntS.f k l c) (m,ys)∧True:=by
 have key:∀ (d i:Nat) (xs:List Int) (c:Int),0≤c→i + d=xs.length→c + d≤9223372036854775806→xs.length≤9223372036854775806→∃ ys,Ev (fun k=>laws_markIntS.l0 k xs c (i:Int)) (c + d,ys):=by
  intro d
  induction d with
  | zero=>intro i xs c h0 hi hc hx;exact⟨xs,Ev.cast (Ev.step (fun k=>by rw [laws_markIntS.l0]) (by exact Ev.neg (by omega) (Ev.now _))) (by simp)⟩
  | succ d ih =>
   intro i xs c h0 hi hc hx
   obtain⟨ys,hy⟩:=ih (i + 1) (xs.set i c) (c + 1) (by omega) (by simp;omega) (by omega) (by simpa using hx)
   refine⟨ys,Ev.step (fun k=>by rw [laws_markIntS.l0]) (Ev.pos (by omega) (Ev.pos (by omega) ?_))⟩
   rw [wrap64_id (x:=c + 1) (by omega) (by omega),wrap64_id (x:=(i:Int) + 1) (by omega) (by omega)]
   have e:c + 1 + (d:Int)=c + ((d + 1:Nat):Int):=by omega
   rw [e] at hy
   simpa using hy
 obtain⟨ys,hy⟩:=key l.length 0 l c hc (by omega) hl (by omega)
 exact⟨_,ys,rfl,hy,trivial⟩
theorem toIntS_ev (l:List Int)(hl:l.length≤35184372088832):Ev (fun k=>laws_toIntS.f k l) l:=by
 unfold laws_toIntS.f
 refine Ev.pos (by omega) (Ev.pos (by omega) ?_)
 have:=copy_loop (fun k out i=>laws_toIntS.l0 k l out i) l id (fun out i r h ho hr=>?_) (fun out ho=>?_) (List.replicate ((l.length:Int)).toNat 0) (by simp)
 ·
  simpa using this
 ·
  refine Ev.step (fun k=>by rw [laws_toIntS.l0]) ?_
  refine Ev.pos (by omega) (Ev.pos (by omega) (Ev.pos (by omega) ?_))
  rw [wrap64_id (by omega) (by omega),rd_eq (by simpa using h)]
  simpa using hr
 ·
  exact Ev.step (fun k=>by rw [laws_toIntS.l0]) (by exact Ev.neg (by omega) (Ev.now _))
theorem eqIntS_ev (l:List Int)(hl:l.length≤9223372036854775806):Ev (fun k=>laws_eqIntS.f k l l) true:=by
 unfold laws_eqIntS.f
 refine Ev.pos rfl ?_
 refine same_loop (fun k i=>laws_eqIntS.l0 k l l i) l.length (fun i r h hr=>?_) ?_
 ·
  refine Ev.step (fun k=>by rw [laws_eqIntS.l0]) ?_
  refine Ev.pos (by omega) (Ev.pos (by omega) (Ev.pos (by omega) (Ev.pos rfl ?_)))
  rw [wrap64_id (by omega) (by omega)]
  simpa using hr
 ·
  exact Ev.step (fun k=>by rw [laws_eqIntS.l0]) (by exact Ev.neg (by omega) (Ev.now _))
def tOk (t:Int):Bool:=decide (t=0∨t=1∨t=2∨t=5∨t=6)
theorem l5Type_some (t:Int):spec_l5Type.f t=some (tOk t):=by
 unfold spec_l5Type.f
 (repeat' split) <;> simp_all [tOk]
theorem l1In_same (x lo hi:Int):(if x ≥ lo then some (decide (x≤hi)) else some false)=some (decide (lo≤x∧x≤hi)):=by
 by_cases h:x ≥ lo
 ·
  rw [if_pos h];congr 1;simp;omega
 ·
  rw [if_neg h];congr 1;symm;simp;omega
theorem within_some (x lo hi:Int):impl_within.f x lo hi=some (decide (lo≤x∧x≤hi)):=by unfold impl_within.f;exact l1In_same x lo hi
theorem typeOk_some (t:Int):impl_TypeOk.f t=some (tOk t):=by
 unfold impl_TypeOk.f
 rw [within_some]
 simp only [Option.bind_some]
 by_cases h:0≤t∧t≤2
 ·
  rw [if_pos (by simpa using h)]
  have:t=0∨t=1∨t=2:=by omega
  rcases this with rfl | rfl | rfl <;> rfl
 ·
  rw [if_neg (by simpa using h)]
  by_cases h5:t=5
  ·
   subst h5;rfl
  ·
   rw [if_neg h5]
   by_cases h6:t=6
   ·
    subst h6;rfl
   ·
    have h0:t≠0:=by omega
    have h1:t≠1:=by omega
    have h2:t≠2:=by omega
    simp [tOk,h0,h1,h2,h5,h6]
theorem l1In_some (x lo hi:Int):spec_l1In.f x lo hi=some (decide (lo≤x∧x≤hi)):=by unfold spec_l1In.f;exact l1In_same x lo hi
def nameOk (b:ByteArray):Bool:=decide (1≤(b.size:Int)∧(b.size:Int)≤20) && (List.range b.size).all (fun (i:Nat)=>decide (97≤bt b (i:Int)∧bt b (i:Int)≤122))
theorem spec_l5Name_ev (b:ByteArray)(hb:b.size≤9223372036854775807):Ev (fun k=>spec_l5Name.f k b) (nameOk b):=by
 unfold spec_l5Name.f nameOk
 refine Ev.here (l1In_some _ _ _) ?_
 by_cases h:1≤(b.size:Int)∧(b.size:Int)≤20
 ·
  rw [decide_eq_true h]
  refine Ev.pos rfl ?_
  have key:=all_loop (fun k i=>spec_l5Name.l0 k b i) (fun (i:Nat)=>decide (97≤bt b (i:Int)∧bt b (i:Int)≤122)) b.size false true
   (fun i r hi hp hr=>by
    have hp':=of_decide_eq_true hp
    refine Ev.step (fun k=>by rw [spec_l5Name.l0]) ?_
    refine Ev.pos (by omega) (Ev.pos (by omega) (Ev.neg (by omega) (Ev.neg (by omega) ?_)))
    rw [wrap64_id (by omega) (by omega)]
    simpa using hr)
   (fun i hi hp=>by
    have hp':=of_decide_eq_false hp
    refine Ev.step (fun k=>by rw [spec_l5Name.l0]) ?_
    refine Ev.pos (by omega) (Ev.pos (by omega) ?_)
    by_cases h1:bt b (i:Int) < 97
    ·
     exact Ev.pos h1 (Ev.now _)
    ·
     exact Ev.neg h1 (Ev.pos (by omega) (Ev.now _)))
   (by exact Ev.step (fun k=>by rw [spec_l5Name.l0]) (by exact Ev.neg (by omega) (Ev.now _)))
  refine Ev.cast key ?_
  cases (List.range b.size).all _ <;> rfl
 ·
  rw [decide_eq_false h]
  exact Ev.neg (by decide) (Ev.now _)
theorem impl_isColName_ev (b:ByteArray)(hb:b.size≤9223372036854775807):Ev (fun k=>impl_isColName.f k b) (nameOk b):=by
 unfold impl_isColName.f nameOk
 have key:=all_loop (fun k i=>impl_isColName.l0 k b (b.size:Int) i) (fun (i:Nat)=>decide (97≤bt b (i:Int)∧bt b (i:Int)≤122)) b.size false (decide (1≤(b.size:Int)∧(b.size:Int)≤20))
  (fun i r hi hp hr=>by
   have hp':=of_decide_eq_true hp
   refine Ev.step (fun k=>by rw [impl_isColName.l0]) ?_
   rw [wrap64_id (x:=bt b (i:Int)) (by omega) (by omega)]
   refine Ev.pos (by omega) (Ev.pos (by omega) (Ev.pos (by omega) (Ev.here (within_some _ _ _) (Ev.pos hp ?_))))
   rw [wrap64_id (by omega) (by omega)]
   simpa using hr)
  (fun i hi hp=>by
   have hrg:=bt_range b (i:Int)
   refine Ev.step (fun k=>by rw [impl_isColName.l0]) ?_
   rw [wrap64_id (x:=bt b (i:Int)) (by omega) (by omega)]
   refine Ev.pos (by omega) (Ev.pos (by omega) (Ev.pos (by omega) (Ev.here (within_some _ _ _) ?_)))
   rw [hp]
   exact Ev.neg (by decide) (Ev.now _))
  (by
   refine Ev.step (fun k=>by rw [impl_isColName.l0]) ?_
   exact Ev.neg (by omega) (Ev.here (within_some _ _ _) (Ev.now _)))
 refine Ev.cast key ?_
 cases (List.range b.size).all _ <;> simp
def colB (root:Bool)(c:S84):Bool:=(if c.f1=7 then decide (1≤c.f3) else tOk c.f1 && decide (c.f3=0)) && decide (0≤c.f2∧c.f2≤2) && (root || nameOk c.f0)
def parts (f:Int→Int)(s:List S84):Nat→Int→List ByteArray→Int
 | 0,next,_=>next
 | n + 1,next,names=>if next ≥ (s.length:Int) then -1 else if names.any (fun x=>decide (x.toList=(rd_T84 s next).f0.toList)) then -1 else if f next < 0 then -1 else parts f s n (f next) (names ++ [(rd_T84 s next).f0])
def chk (s:List S84):Nat→Int→Int
 | 0,_=>-1
 | d + 1,p=>if p ≥ (s.length:Int) then -1 else if colB (decide (p=0)) (rd_T84 s p)=true then parts (chk s d) s (rd_T84 s p).f3.toNat (p + 1) [] else -1
theorem parts_range (f:Int→Int)(s:List S84)(hf:∀ p,0≤p→f p=-1∨(p < f p∧f p≤s.length)):∀ (n:Nat) (next:Int) (names:List ByteArray),0≤next→next≤s.length→parts f s n next names=-1∨(next≤parts f s n next names∧parts f s n next names≤s.length)
 | 0,next,names,h0,h1=>.inr ⟨by simp [parts],by simp [parts];exact h1⟩
 | n + 1,next,names,h0,h1=>by
  unfold parts
  split
  ·
   exact .inl rfl
  split
  ·
   exact .inl rfl
  split
  ·
   exact .inl rfl
  ·
   have hn:=hf next h0
   have:=parts_range f s hf n (f next) (names ++ [(rd_T84 s next).f0]) (by omega) (by omega)
   omega
theorem chk_range (s:List S84):∀ (d:Nat) (p:Int),0≤p→chk s d p=-1∨(p < chk s d p∧chk s d p≤s.length)
 | 0,p,h=>.inl rfl
 | d + 1,p,h=>by
  unfold chk
  split
  ·
   exact .inl rfl
  split
  ·
   have:=parts_range (chk s d) s (fun q hq=>chk_range s d q hq) (rd_T84 s p).f3.toNat (p + 1) [] (by omega) (by omega)
   omega
  ·
   exact .inl rfl
def ColsOk (s:List S84):Prop:=s.length≤1048576∧(∀ i:Int,(rd_T84 s i).f0.size≤9223372036854775807)∧(∀ i:Int,(rd_T84 s i).f3≤9223372036854775807)
theorem colOk_some (c:S84):impl_colOk.f c.f0 c.f1 c.f2 c.f3=some ((if c.f1=7 then decide (1≤c.f3) else tOk c.f1 && decide (c.f3=0)) && decide (0≤c.f2∧c.f2≤2)):=by
 unfold impl_colOk.f
 simp only [typeOk_some,within_some,Option.bind_some]
 by_cases h7:c.f1=7
 ·
  rw [if_pos h7,if_pos h7]
  have ht:tOk c.f1=false:=by rw [h7];rfl
  rw [ht,if_neg (by decide)]
  by_cases h:c.f3 > 0
  ·
   rw [if_pos h,decide_eq_true (show 1≤c.f3 by omega)];rfl
  ·
   rw [if_neg h,decide_eq_false (show ¬ 1≤c.f3 by omega)];rfl
 ·
  rw [if_neg h7,if_neg h7]
  cases ht:tOk c.f1 with
  | false=>rw [if_neg (by decide)];rfl
  | true =>
   rw [if_pos rfl]
   by_cases h:c.f3=0
   ·
    rw [if_pos h,decide_eq_true h];rfl
   ·
    rw [if_neg h,decide_eq_false h];rfl
theorem impl_colAfter_ev (s:List S84)(hs:ColsOk s):∀ (d:Nat) (p:Int),d≤7→0≤p→p≤s.length→Ev (fun k=>impl_colAfter.f k s p (7 - (d:Int))) (chk s d p):=by
 obtain⟨hl,hn,hm⟩:=hs
 have bad:∀ p dd,Ev (fun k=>impl_colAfter.j0 k s p dd true) (-1):=fun p dd=>Ev.step (fun k=>by rw [impl_colAfter.j0]) (by exact Ev.pos rfl (Ev.now _))
 intro d
 induction d with
 | zero =>
  intro p _ h0 h1
  refine Ev.step (fun k=>by rw [impl_colAfter.f]) ?_
  by_cases h:p ≥ (s.length:Int)
  ·
   exact Ev.pos h (bad _ _)
  ·
   exact Ev.neg h (Ev.pos (by omega) (bad _ _))
 | succ d ih =>
  intro p hd h0 h1
  refine Ev.step (fun k=>by rw [impl_colAfter.f]) ?_
  unfold chk
  by_cases h:p ≥ (s.length:Int)
  ·
   rw [if_pos h];exact Ev.pos h (bad _ _)
  rw [if_neg h]
  refine Ev.neg h (Ev.neg (by omega) (Ev.pos h0 (Ev.pos (by omega) (Ev.here (colOk_some (rd_T84 s p)) ?_))))
  have inner:∀ (n:Nat) (i next:Int) (names:List ByteArray),i + n=(rd_T84 s p).f3→0≤i→0≤next→next≤s.length→(names.length:Int)≤next →
    Ev (fun k=>impl_colAfter.l0 k s (7 - ((d + 1:Nat):Int)) next names (rd_T84 s p).f3 i) (parts (chk s d) s n next names):=by
   intro n
   induction n with
   | zero =>
    intro i next names hi i0 n0 n1 nl
    exact Ev.step (fun k=>by rw [impl_colAfter.l0]) (by exact Ev.neg (by omega) (Ev.now _))
   | succ n ihn =>
    intro i next names hi i0 n0 n1 nl
    refine Ev.step (fun k=>by rw [impl_colAfter.l0]) ?_
    unfold parts
    refine Ev.pos (by omega) ?_
    by_cases hx:next ≥ (s.length:Int)
    ·
     rw [if_pos hx];exact Ev.pos hx (Ev.now _)
    rw [if_neg hx]
    refine Ev.neg hx ?_
    have rest:∀ (m j:Nat),j + m=names.length→Ev (fun k=>impl_colAfter.l1 k s (7 - ((d + 1:Nat):Int)) next names (rd_T84 s p).f3 i (names.length:Int) (j:Int))
      (if (names.drop j).any (fun x=>decide (x.toList=(rd_T84 s next).f0.toList)) then -1 else if chk s d next < 0 then -1 else parts (chk s d) s n (chk s d next) (names ++ [(rd_T84 s next).f0])):=by
     intro m
     induction m with
     | zero =>
      intro j hj
      rw [List.drop_eq_nil_of_le (by omega)]
      rw [if_neg (by simp)]
      refine Ev.step (fun k=>by rw [impl_colAfter.l1]) ?_
      refine Ev.neg (by omega) (Ev.pos n0 (Ev.pos (by omega) (Ev.pos (by omega) ?_)))
      have e:wrap64 (7 - ((d + 1:Nat):Int) + 1)=7 - (d:Int):=by rw [wrap64_id (by omega) (by omega)];omega
      rw [e]
      refine Ev.bind (ih next (by omega) n0 n1) ?_
      have hr:=chk_range s d next n0
      by_cases hneg:chk s d next < 0
      ·
       rw [if_pos hneg];exact Ev.pos hneg (Ev.now _)
      ·
       rw [if_neg hneg]
       refine Ev.neg hneg ?_
       have hmm:=hm p
       rw [wrap64_id (x:=i + 1) (by omega) (by omega)]
       exact ihn (i + 1) (chk s d next) (names ++ [(rd_T84 s next).f0]) (by omega) (by omega) (by omega) (by omega) (by simp;omega)
     | succ m ihm =>
      intro j hj
      have hjl:j < names.length:=by omega
      have ed:names.drop j=names[j] :: names.drop (j + 1):=List.drop_eq_getElem_cons hjl
      refine Ev.step (fun k=>by rw [impl_colAfter.l1]) ?_
      refine Ev.pos (by omega) (Ev.pos (by omega) (Ev.pos (by omega) (Ev.pos n0 (Ev.pos (by omega) ?_))))
      rw [rdOf_eq (by omega)]
      have ej:names[((j:Int)).toNat]'(by omega)=names[j]:=rfl
      rw [ej,ed,List.any_cons]
      by_cases he:(names[j]).toList=(rd_T84 s next).f0.toList
      ·
       rw [decide_eq_true he];exact Ev.pos he (Ev.now _)
      ·
       rw [decide_eq_false he]
       refine Ev.neg he ?_
       rw [wrap64_id (x:=(j:Int) + 1) (by omega) (by omega)]
       exact ihm (j + 1) (by omega)
    exact rest names.length 0 (by omega)
  have hx:∀ b:Bool,colB (decide (p=0)) (rd_T84 s p)=!b→Ev (fun k=>impl_colAfter.j0 k s p (7 - ((d + 1:Nat):Int)) b) (if colB (decide (p=0)) (rd_T84 s p)=true then parts (chk s d) s (rd_T84 s p).f3.toNat (p + 1) [] else -1):=by
   intro b hb
   cases b with
   | true=>rw [hb,if_neg (by decide)];exact bad _ _
   | false =>
    rw [hb,if_pos (show (!false)=true from rfl)]
    refine Ev.step (fun k=>by rw [impl_colAfter.j0]) ?_
    have hm0:0≤(rd_T84 s p).f3:=by
     unfold colB at hb
     by_cases h7:(rd_T84 s p).f1=7
     ·
      rw [if_pos h7] at hb;simp at hb;omega
     ·
      rw [if_neg h7] at hb;simp at hb;omega
    refine Ev.neg (by decide) (Ev.pos h0 (Ev.pos (by omega) ?_))
    rw [wrap64_id (x:=p + 1) (by omega) (by omega)]
    exact inner (rd_T84 s p).f3.toNat 0 (p + 1) [] (by omega) (by omega) (by omega) (by omega) (by simp;omega)
  cases hc:((if (rd_T84 s p).f1=7 then decide (1≤(rd_T84 s p).f3) else tOk (rd_T84 s p).f1 && decide ((rd_T84 s p).f3=0)) && decide (0≤(rd_T84 s p).f2∧(rd_T84 s p).f2≤2)) with
  | false=>exact Ev.neg (by decide) (hx true (by unfold colB;rw [hc];rfl))
  | true =>
   refine Ev.pos rfl ?_
   by_cases hp0:p > 0
   ·
    refine Ev.pos hp0 (Ev.bind (impl_isColName_ev _ (hn p)) ?_)
    exact hx _ (by unfold colB;rw [hc,decide_eq_false (show ¬ p=0 by omega)];simp)
   ·
    refine Ev.neg hp0 ?_
    exact hx false (by unfold colB;rw [hc,decide_eq_true (show p=0 by omega)];simp)
def rootB (c:S84):Bool:=decide (c.f1=7) && decide (c.f2=0) && decide (c.f0.toList=([]:List UInt8))
theorem spec_l5Check_ev (s:List S84)(hs:ColsOk s):∀ (d:Nat) (p:Int),d≤7→0≤p→p≤s.length→Ev (fun k=>spec_l5Check.f k s p (7 - (d:Int))) (if p=0∧rootB (rd_T84 s p)=false then -1 else chk s d p):=by
 obtain⟨hl,hn,hm⟩:=hs
 have bad:∀ p dd,Ev (fun k=>spec_l5Check.j0 k s p dd true) (-1):=fun p dd=>Ev.step (fun k=>by rw [spec_l5Check.j0]) (by exact Ev.pos rfl (Ev.now _))
 intro d
 induction d with
 | zero =>
  intro p _ h0 h1
  refine Ev.step (fun k=>by rw [spec_l5Check.f]) ?_
  have e:(if p=0∧rootB (rd_T84 s p)=false then -1 else chk s 0 p)=-1:=by split <;> rfl
  rw [e]
  by_cases h:p ≥ (s.length:Int)
  ·
   exact Ev.pos h (bad _ _)
  ·
   refine Ev.neg h ?_
   have:decide (7 - ((0:Nat):Int) > 6)=true:=by decide
   rw [this];exact bad _ _
 | succ d ih =>
  intro p hd h0 h1
  refine Ev.step (fun k=>by rw [spec_l5Check.f]) ?_
  by_cases h:p ≥ (s.length:Int)
  ·
   have e:(if p=0∧rootB (rd_T84 s p)=false then -1 else chk s (d + 1) p)=-1:=by
    split
    ·
     rfl
    ·
     unfold chk;rw [if_pos h]
   rw [e];exact Ev.pos h (bad _ _)
  refine Ev.neg h ?_
  have hdd:decide (7 - ((d + 1:Nat):Int) > 6)=false:=decide_eq_false (by omega)
  rw [hdd]
  refine Ev.step (fun k=>by rw [spec_l5Check.j0]) ?_
  refine Ev.neg (by decide) (Ev.pos h0 (Ev.pos (by omega) ?_))
  have inner:∀ (n:Nat) (i next:Int) (names:List ByteArray),i + n=(rd_T84 s p).f3→0≤i→0 < next→next≤s.length→(names.length:Int)≤next →
    Ev (fun k=>spec_l5Check.l0 k s (7 - ((d + 1:Nat):Int)) next names i (rd_T84 s p).f0 (rd_T84 s p).f1 (rd_T84 s p).f2 (rd_T84 s p).f3) (parts (chk s d) s n next names):=by
   intro n
   induction n with
   | zero =>
    intro i next names hi i0 n0 n1 nl
    exact Ev.step (fun k=>by rw [spec_l5Check.l0]) (by exact Ev.neg (by omega) (Ev.now _))
   | succ n ihn =>
    intro i next names hi i0 n0 n1 nl
    refine Ev.step (fun k=>by rw [spec_l5Check.l0]) ?_
    unfold parts
    refine Ev.pos (by omega) ?_
    by_cases hx:next ≥ (s.length:Int)
    ·
     rw [if_pos hx];exact Ev.pos hx (Ev.now _)
    rw [if_neg hx]
    refine Ev.neg hx ?_
    have rest:∀ (m j:Nat),j + m=names.length→Ev (fun k=>spec_l5Check.l1 k s (7 - ((d + 1:Nat):Int)) next names i (j:Int) (rd_T84 s p).f0 (rd_T84 s p).f1 (rd_T84 s p).f2 (rd_T84 s p).f3)
      (if (names.drop j).any (fun x=>decide (x.toList=(rd_T84 s next).f0.toList)) then -1 else if chk s d next < 0 then -1 else parts (chk s d) s n (chk s d next) (names ++ [(rd_T84 s next).f0])):=by
     intro m
     induction m with
     | zero =>
      intro j hj
      rw [List.drop_eq_nil_of_le (by omega)]
      rw [if_neg (by simp)]
      refine Ev.step (fun k=>by rw [spec_l5Check.l1]) ?_
      refine Ev.neg (by omega) (Ev.pos (by omega) (Ev.pos (by omega) (Ev.pos (by omega) ?_)))
      have e:wrap64 (7 - ((d + 1:Nat):Int) + 1)=7 - (d:Int):=by rw [wrap64_id (by omega) (by omega)];omega
      rw [e]
      have hih:=ih next (by omega) (by omega) n1
      rw [if_neg (by omega)] at hih
      refine Ev.bind hih ?_
      have hr:=chk_range s d next (by omega)
      by_cases hneg:chk s d next < 0
      ·
       rw [if_pos hneg];exact Ev.pos hneg (Ev.now _)
      ·
       rw [if_neg hneg]
       refine Ev.neg hneg ?_
       have hmm:=hm p
       rw [wrap64_id (x:=i + 1) (by omega) (by omega)]
       exact ihn (i + 1) (chk s d next) (names ++ [(rd_T84 s next).f0]) (by omega) (by omega) (by omega) (by omega) (by simp;omega)
     | succ m ihm =>
      intro j hj
      have hjl:j < names.length:=by omega
      have ed:names.drop j=names[j] :: names.drop (j + 1):=List.drop_eq_getElem_cons hjl
      refine Ev.step (fun k=>by rw [spec_l5Check.l1]) ?_
      refine Ev.pos (by omega) (Ev.pos (by omega) (Ev.pos (by omega) (Ev.pos (by omega) ?_)))
      rw [rdOf_eq (by omega)]
      have ej:names[((j:Int)).toNat]'(by omega)=names[j]:=rfl
      rw [ej,ed,List.any_cons]
      by_cases he:(names[j]).toList=(rd_T84 s next).f0.toList
      ·
       rw [decide_eq_true he];exact Ev.pos he (Ev.now _)
      ·
       rw [decide_eq_false he]
       refine Ev.neg he ?_
       rw [wrap64_id (x:=(j:Int) + 1) (by omega) (by omega)]
       exact ihm (j + 1) (by omega)
    exact rest names.length 0 (by omega)
  -- what stands behind the checks of the name and of the kind of repetition
  have hx:∀ b:Bool,(!b)=(decide (0≤(rd_T84 s p).f2∧(rd_T84 s p).f2≤2) && (decide (p=0) || nameOk (rd_T84 s p).f0))→Ev (fun k=>spec_l5Check.j1 k s p (7 - ((d + 1:Nat):Int)) b (rd_T84 s p).f0 (rd_T84 s p).f1 (rd_T84 s p).f2 (rd_T84 s p).f3) (chk s (d + 1) p):=by
   intro b hb
   unfold chk
   rw [if_neg h]
   refine Ev.step (fun k=>by rw [spec_l5Check.j1]) ?_
   unfold colB
   rw [Bool.and_assoc,← hb]
   cases b with
   | true=>rw [Bool.not_true,Bool.and_false,if_neg (show ¬ (false=true) by decide)];exact Ev.pos rfl (Ev.now _)
   | false =>
    rw [Bool.not_false,Bool.and_true]
    refine Ev.neg (by decide) ?_
    by_cases h7:(rd_T84 s p).f1=7
    ·
     refine Ev.pos h7 ?_
     rw [if_pos h7]
     by_cases h3:(rd_T84 s p).f3 < 1
     ·
      rw [decide_eq_false (show ¬ 1≤(rd_T84 s p).f3 by omega),if_neg (show ¬ (false=true) by decide)];exact Ev.pos h3 (Ev.now _)
     ·
      rw [decide_eq_true (show 1≤(rd_T84 s p).f3 by omega),if_pos (show true=true from rfl)]
      refine Ev.neg h3 ?_
      rw [wrap64_id (x:=p + 1) (by omega) (by omega)]
      exact inner (rd_T84 s p).f3.toNat 0 (p + 1) [] (by omega) (by omega) (by omega) (by omega) (by simp;omega)
    ·
     refine Ev.neg h7 (Ev.here (l5Type_some _) ?_)
     rw [if_neg h7]
     cases ht:tOk (rd_T84 s p).f1 with
     | false=>exact Ev.neg (show ¬ (false=true) by decide) (Ev.const rfl)
     | true =>
      refine Ev.pos rfl ?_
      by_cases h3:(rd_T84 s p).f3=0
      ·
       rw [decide_eq_true h3,if_pos (show (true && true)=true from rfl),h3]
       refine Ev.pos rfl (Ev.const ?_)
       rw [wrap64_id (x:=p + 1) (by omega) (by omega)];rfl
      ·
       rw [decide_eq_false h3,if_neg (show ¬ ((true && false)=true) by decide)];exact Ev.neg h3 (Ev.now _)
  by_cases hp0:p=0
  ·
   refine Ev.pos hp0 ?_
   have hbad:rootB (rd_T84 s p)=false→Ev (fun k=>spec_l5Check.j1 k s p (7 - ((d + 1:Nat):Int)) true (rd_T84 s p).f0 (rd_T84 s p).f1 (rd_T84 s p).f2 (rd_T84 s p).f3) (if p=0∧rootB (rd_T84 s p)=false then -1 else chk s (d + 1) p):=fun hr=>by
    rw [if_pos ⟨hp0,hr⟩]
    exact Ev.step (fun k=>by rw [spec_l5Check.j1]) (by exact Ev.pos rfl (Ev.now _))
   by_cases r1:(rd_T84 s p).f0.toList=([]:List UInt8)
   ·
    refine Ev.pos r1 ?_
    by_cases r2:(rd_T84 s p).f2=0
    ·
     refine Ev.pos r2 ?_
     by_cases r3:(rd_T84 s p).f1=7
     ·
      refine Ev.pos r3 (Ev.neg (by omega) (Ev.here (l1In_some _ _ _) ?_))
      have hr:rootB (rd_T84 s p)=true:=by unfold rootB;rw [decide_eq_true r1,decide_eq_true r2,decide_eq_true r3];rfl
      rw [if_neg (by rw [hr];simp)]
      exact hx _ (by rw [decide_eq_true hp0];simp)
     ·
      exact Ev.neg r3 (hbad (by unfold rootB;rw [decide_eq_false r3];simp))
    ·
     exact Ev.neg r2 (hbad (by unfold rootB;rw [decide_eq_false r2];simp))
   ·
    exact Ev.neg r1 (hbad (by unfold rootB;rw [decide_eq_false r1];simp))
  ·
   rw [if_neg (by omega)]
   refine Ev.neg hp0 (Ev.pos (by omega) (Ev.bind (spec_l5Name_ev _ (hn p)) ?_))
   cases hnm:nameOk (rd_T84 s p).f0 with
   | true =>
    refine Ev.pos rfl (Ev.here (l1In_some _ _ _) ?_)
    exact hx _ (by rw [hnm];simp)
   | false=>exact Ev.neg (by decide) (hx true (by rw [hnm,decide_eq_false hp0];simp))
def schOk (s:List S84):Bool:=decide (2≤(s.length:Int)∧(s.length:Int)≤20) && rootB (rd_T84 s 0) && decide (chk s 6 0=(s.length:Int))
theorem impl_SchemaOk_ev (s:List S84)(hs:ColsOk s):Ev (fun k=>impl_SchemaOk.f k s) (schOk s):=by
 unfold impl_SchemaOk.f schOk
 refine Ev.here (within_some _ _ _) ?_
 by_cases h:2≤(s.length:Int)∧(s.length:Int)≤20
 ·
  rw [decide_eq_true h]
  refine Ev.pos rfl (Ev.pos (by omega) ?_)
  unfold rootB
  by_cases r3:(rd_T84 s 0).f1=7
  ·
   refine Ev.pos r3 ?_
   by_cases r2:(rd_T84 s 0).f2=0
   ·
    refine Ev.pos r2 ?_
    by_cases r1:(rd_T84 s 0).f0.toList=([]:List UInt8)
    ·
     refine Ev.pos r1 (Ev.bind (impl_colAfter_ev s hs 6 0 (by omega) (by omega) (by omega)) (Ev.const ?_))
     rw [decide_eq_true r1,decide_eq_true r2,decide_eq_true r3]
     rfl
    ·
     refine Ev.neg r1 (Ev.const ?_);rw [decide_eq_false r1];simp
   ·
    refine Ev.neg r2 (Ev.const ?_);rw [decide_eq_false r2];simp
  ·
   refine Ev.neg r3 (Ev.const ?_);rw [decide_eq_false r3];simp
 ·
  rw [decide_eq_false h]
  exact Ev.neg (by decide) (Ev.now _)
theorem spec_SchemaOk_ev (s:List S84)(hs:ColsOk s):Ev (fun k=>spec_SchemaOk.f k s) (schOk s):=by
 unfold spec_SchemaOk.f schOk
 refine Ev.here (l1In_some _ _ _) ?_
 by_cases h:2≤(s.length:Int)∧(s.length:Int)≤20
 ·
  rw [decide_eq_true h]
  refine Ev.pos rfl (Ev.bind (spec_l5Check_ev s hs 6 0 (by omega) (by omega) (by omega)) (Ev.const ?_))
  cases hr:rootB (rd_T84 s 0) with
  | false =>
   rw [if_pos ⟨rfl,rfl⟩]
   have:((-1:Int) == (s.length:Int))=false:=by simp
   rw [this];rfl
  | true =>
   rw [if_neg (by simp)]
   rfl
 ·
  rw [decide_eq_false h]
  exact Ev.neg (by decide) (Ev.now _)
theorem parts_mono (f g:Int→Int)(s:List S84)(hr:∀ p,0≤p→f p=-1∨(p < f p∧f p≤s.length))(hg:∀ p,0≤p→f p≠-1→g p=f p) :
  ∀ (n:Nat) (next:Int) (names:List ByteArray),0≤next→parts f s n next names≠-1→parts g s n next names=parts f s n next names
 | 0,_,_,_,_=>rfl
 | n + 1,next,names,h0,h=>by
  unfold parts at h ⊢
  by_cases h1:next ≥ (s.length:Int)
  ·
   rw [if_pos h1,if_pos h1]
  rw [if_neg h1] at h
  rw [if_neg h1,if_neg h1]
  by_cases h2:names.any (fun x=>decide (x.toList=(rd_T84 s next).f0.toList))=true
  ·
   rw [if_pos h2,if_pos h2]
  rw [if_neg h2] at h
  rw [if_neg h2,if_neg h2]
  by_cases h3:f next < 0
  ·
   rw [if_pos h3] at h;exact absurd rfl h
  rw [if_neg h3] at h
  have e:=hg next h0 (by omega)
  rw [e,if_neg h3,if_neg h3]
  have:=hr next h0
  exact parts_mono f g s hr hg n (f next) _ (by omega) h
theorem chk_mono (s:List S84):∀ (d:Nat) (p:Int),0≤p→chk s d p≠-1→chk s (d + 1) p=chk s d p
 | 0,p,h0,h=>absurd rfl h
 | d + 1,p,h0,h=>by
  rw [chk] at h ⊢
  rw [show chk s (d + 1) p=if p ≥ (s.length:Int) then -1 else if colB (decide (p=0)) (rd_T84 s p)=true then parts (chk s d) s (rd_T84 s p).f3.toNat (p + 1) [] else -1 from rfl]
  by_cases h1:p ≥ (s.length:Int)
  ·
   rw [if_pos h1,if_pos h1]
  rw [if_neg h1] at h
  rw [if_neg h1,if_neg h1]
  by_cases h2:colB (decide (p=0)) (rd_T84 s p)=true
  ·
   rw [if_pos h2] at h
   rw [if_pos h2,if_pos h2]
   exact parts_mono (chk s d) (chk s (d + 1)) s (fun q hq=>chk_range s d q hq) (fun q hq hn=>chk_mono s d q hq hn) _ _ _ (by omega) h
  ·
   rw [if_neg h2,if_neg h2]
def en (s:List S84)(p:Int):Int:=chk s 6 p
theorem chk_en (s:List S84)(p:Int)(h0:0≤p):∀ (m d:Nat),d + m=6→chk s d p≠-1→en s p=chk s d p:=by
 intro m
 induction m with
 | zero=>intro d hd h;(obtain rfl:d=6:=(by omega));rfl
 | succ m ih =>
  intro d hd h
  have:=chk_mono s d p h0 h
  rw [← this]
  exact ih (d + 1) (by omega) (by rw [this];exact h)
theorem parts_inside (f:Int→Int)(s:List S84)(hr:∀ p,0≤p→f p=-1∨(p < f p∧f p≤s.length))(hi:∀ p,0≤p→f p≠-1→∀ q,p≤q→q < f p→en s q≠-1∧en s q≤f p) :
  ∀ (n:Nat) (next:Int) (names:List ByteArray),0≤next→parts f s n next names≠-1→∀ q,next≤q→q < parts f s n next names→en s q≠-1∧en s q≤parts f s n next names
 | 0,next,_,_,_,q,h1,h2=>by unfold parts at h2;omega
 | n + 1,next,names,h0,h,q,hq1,hq2=>by
  rw [parts] at h hq2 ⊢
  by_cases h1:next ≥ (s.length:Int)
  ·
   rw [if_pos h1] at h;exact absurd rfl h
  rw [if_neg h1] at h hq2 ⊢
  by_cases h2:names.any (fun x=>decide (x.toList=(rd_T84 s next).f0.toList))=true
  ·
   rw [if_pos h2] at h;exact absurd rfl h
  rw [if_neg h2] at h hq2 ⊢
  by_cases h3:f next < 0
  ·
   rw [if_pos h3] at h;exact absurd rfl h
  rw [if_neg h3] at h hq2 ⊢
  have hn:=hr next h0
  have hpr:=parts_range f s hr n (f next) (names ++ [(rd_T84 s next).f0]) (by omega) (by omega)
  by_cases h4:q < f next
  ·
   have:=hi next h0 (by omega) q hq1 h4
   exact⟨this.1,by omega⟩
  ·
   exact parts_inside f s hr hi n (f next) _ (by omega) h q (by omega) hq2
theorem chk_inside (s:List S84):∀ (d:Nat),d≤6→∀ (p:Int),0≤p→chk s d p≠-1→∀ q,p≤q→q < chk s d p→en s q≠-1∧en s q≤chk s d p
 | 0,_,p,h0,h,_,_,_=>absurd rfl h
 | d + 1,hd,p,h0,h,q,hq1,hq2=>by
  by_cases e:q=p
  ·
   have:=chk_en s p h0 (6 - (d + 1)) (d + 1) (by omega) h
   rw [e,this];exact⟨h,Int.le_refl _⟩
  rw [chk] at h hq2 ⊢
  by_cases h1:p ≥ (s.length:Int)
  ·
   rw [if_pos h1] at h;exact absurd rfl h
  rw [if_neg h1] at h hq2 ⊢
  by_cases h2:colB (decide (p=0)) (rd_T84 s p)=true
  ·
   rw [if_pos h2] at h hq2 ⊢
   exact parts_inside (chk s d) s (fun q hq=>chk_range s d q hq) (fun r hr hn=>chk_inside s d (by omega) r hr hn) _ _ _ (by omega) h q (by omega) hq2
  ·
   rw [if_neg h2] at h;exact absurd rfl h
theorem spec_l5After_ev (s:List S84)(hs:ColsOk s):∀ (d:Nat) (p:Int),0≤p→chk s d p≠-1→Ev (fun k=>spec_l5After.f k s p) (chk s d p)
 | 0,p,h0,h=>absurd rfl h
 | d + 1,p,h0,h=>by
  rw [chk] at h ⊢
  by_cases h1:p ≥ (s.length:Int)
  ·
   rw [if_pos h1] at h;exact absurd rfl h
  rw [if_neg h1] at h ⊢
  by_cases h2:colB (decide (p=0)) (rd_T84 s p)=true
  ·
   rw [if_pos h2] at h ⊢
   have hl:=hs.1
   have hm:=hs.2.2 p
   have hm0:0≤(rd_T84 s p).f3:=by
    unfold colB at h2
    by_cases h7:(rd_T84 s p).f1=7
    ·
     rw [if_pos h7] at h2;simp at h2;omega
    ·
     rw [if_neg h7] at h2;simp at h2;omega
   refine Ev.step (fun k=>by rw [spec_l5After.f]) ?_
   rw [wrap64_id (x:=p + 1) (by omega) (by omega)]
   have key:∀ (n:Nat) (i next:Int) (names:List ByteArray),i + n=(rd_T84 s p).f3→0≤i→0≤next→parts (chk s d) s n next names≠-1→Ev (fun k=>spec_l5After.l0 k s p next i) (parts (chk s d) s n next names):=by
    intro n
    induction n with
    | zero =>
     intro i next names hi i0 n0 hp
     refine Ev.step (fun k=>by rw [spec_l5After.l0]) ?_
     exact Ev.pos h0 (Ev.pos (by omega) (Ev.neg (by omega) (Ev.now _)))
    | succ n ih =>
     intro i next names hi i0 n0 hp
     refine Ev.step (fun k=>by rw [spec_l5After.l0]) ?_
     rw [parts] at hp ⊢
     by_cases g1:next ≥ (s.length:Int)
     ·
      rw [if_pos g1] at hp;exact absurd rfl hp
     rw [if_neg g1] at hp ⊢
     by_cases g2:names.any (fun x=>decide (x.toList=(rd_T84 s next).f0.toList))=true
     ·
      rw [if_pos g2] at hp;exact absurd rfl hp
     rw [if_neg g2] at hp ⊢
     by_cases g3:chk s d next < 0
     ·
      rw [if_pos g3] at hp;exact absurd rfl hp
     rw [if_neg g3] at hp ⊢
     refine Ev.pos h0 (Ev.pos (by omega) (Ev.pos (by omega) (Ev.bind (spec_l5After_ev s hs d next n0 (by omega)) ?_)))
     rw [wrap64_id (x:=i + 1) (by omega) (by omega)]
     exact ih (i + 1) (chk s d next) _ (by omega) (by omega) (by omega) hp
   exact key _ 0 (p + 1) [] (by omega) (by omega) (by omega) h
  ·
   rw [if_neg h2] at h;exact absurd rfl h
theorem schOk_parts {s:List S84}(h:schOk s=true):2≤(s.length:Int)∧(s.length:Int)≤20∧rootB (rd_T84 s 0)=true∧chk s 6 0=(s.length:Int):=by
 unfold schOk at h
 simp only [Bool.and_eq_true,decide_eq_true_eq] at h
 exact⟨h.1.1.1,h.1.1.2,h.1.2,h.2⟩
theorem en_ok {s:List S84}(h:schOk s=true)(q:Int)(h0:0≤q)(h1:q < s.length):en s q≠-1∧q < en s q∧en s q≤s.length:=by
 obtain⟨_,_,_,h4⟩:=schOk_parts h
 have:=chk_inside s 6 (by omega) 0 (by omega) (by omega) q h0 (by omega)
 have hr:=chk_range s 6 q h0
 unfold en at this ⊢
 exact⟨this.1,by omega,by omega⟩
def lvStep (s:List S84)(i:Nat)(out:List Int):List Int:=if (rd_T84 s (i:Int)).f1=7 then out else out ++ [(i:Int)]
def lvs (s:List S84)(n:Nat):List Int:=(List.range n).foldl (fun out i=>lvStep s i out) []
theorem lvStep_length (s:List S84)(i:Nat)(out:List Int):(lvStep s i out).length≤out.length + 1:=by
 unfold lvStep;split <;> simp
theorem lvs_length (s:List S84)(n:Nat):(lvs s n).length≤n:=by
 induction n with
 | zero=>simp [lvs]
 | succ n ih =>
  unfold lvs at ih ⊢
  rw [List.range_succ,List.foldl_append]
  simp only [List.foldl_cons,List.foldl_nil]
  have:=lvStep_length s n ((List.range n).foldl (fun out i=>lvStep s i out) [])
  omega
theorem lvs_mem (s:List S84)(n:Nat):∀ x ∈ lvs s n,0≤x∧x < n∧(rd_T84 s x).f1≠7:=by
 induction n with
 | zero=>intro x hx;simp [lvs] at hx
 | succ n ih =>
  intro x hx
  unfold lvs at hx ih
  rw [List.range_succ,List.foldl_append] at hx
  simp only [List.foldl_cons,List.foldl_nil] at hx
  generalize (List.range n).foldl (fun out i=>lvStep s i out) []=q at hx ih
  unfold lvStep at hx
  split at hx
  ·
   have:=ih x hx;omega
  ·
   rename_i h7
   rcases List.mem_append.1 hx with h | h
   ·
    have:=ih x h;exact⟨this.1,by omega,this.2.2⟩
   ·
    obtain rfl:=List.mem_singleton.1 h
    exact⟨by omega,by omega,h7⟩
theorem spec_l5Leaves_ev (s:List S84)(hs:s.length≤1048576):Ev (fun k=>spec_l5Leaves.f k s) (lvs s s.length):=by
 unfold spec_l5Leaves.f
 refine loop_inv (fun k out i=>spec_l5Leaves.l0 k s out i) (fun i out=>lvStep s i out) s.length _ (fun i out=>out.length≤i) [] (by simp) (fun i out hi ho=>by have:=lvStep_length s i out;omega) (fun i out hi ho hr=>?_) (fun out ho he=>?_)
 ·
  have e:((i + 1:Nat):Int)=(i:Int) + 1:=by push_cast;rfl
  rw [e] at hr
  refine Ev.step (fun k=>by rw [spec_l5Leaves.l0]) ?_
  refine Ev.pos (by omega) (Ev.pos (by omega) ?_)
  rw [wrap64_id (x:=(i:Int) + 1) (by omega) (by omega)]
  unfold lvStep at hr
  by_cases h7:(rd_T84 s (i:Int)).f1=7
  ·
   rw [if_pos h7] at hr;exact Ev.pos h7 hr
  ·
   rw [if_neg h7] at hr;exact Ev.neg h7 (Ev.pos (by omega) hr)
 ·
  refine Ev.step (fun k=>by rw [spec_l5Leaves.l0]) ?_
  refine Ev.neg (by omega) (Ev.const ?_)
  rw [he];rfl
theorem impl_leavesOf_ev (s:List S84)(hs:s.length≤1048576):Ev (fun k=>impl_leavesOf.f k s) (lvs s s.length):=by
 unfold impl_leavesOf.f
 refine loop_inv (fun k out i=>impl_leavesOf.l0 k out s (s.length:Int) i) (fun i out=>lvStep s i out) s.length _ (fun i out=>out.length≤i) [] (by simp) (fun i out hi ho=>by have:=lvStep_length s i out;omega) (fun i out hi ho hr=>?_) (fun out ho he=>?_)
 ·
  have e:((i + 1:Nat):Int)=(i:Int) + 1:=by push_cast;rfl
  rw [e] at hr
  refine Ev.step (fun k=>by rw [impl_leavesOf.l0]) ?_
  refine Ev.pos (by omega) (Ev.pos (by omega) (Ev.pos (by omega) ?_))
  rw [wrap64_id (x:=(i:Int) + 1) (by omega) (by omega)]
  unfold lvStep at hr
  by_cases h7:(rd_T84 s (i:Int)).f1=7
  ·
   rw [if_pos h7] at hr;exact Ev.pos h7 hr
  ·
   rw [if_neg h7] at hr;exact Ev.neg h7 (Ev.pos (by omega) hr)
 ·
  refine Ev.step (fun k=>by rw [impl_leavesOf.l0]) ?_
  refine Ev.neg (by omega) (Ev.const ?_)
  rw [he];rfl
def leaves (s:List S84):List Int:=if schOk s=true then lvs s s.length else []
theorem spec_SchemaLeaves_ev (s:List S84)(hs:ColsOk s):Ev (fun k=>spec_SchemaLeaves.f k s) (leaves s):=by
 unfold spec_SchemaLeaves.f leaves
 refine Ev.bind (spec_SchemaOk_ev s hs) ?_
 cases schOk s with
 | true=>exact Ev.pos rfl (Ev.bind (spec_l5Leaves_ev s hs.1) (Ev.now _))
 | false=>exact Ev.neg (by decide) (Ev.now _)
theorem leaves_length (s:List S84):(leaves s).length≤s.length:=by
 unfold leaves;split
 ·
  exact lvs_length s _
 ·
  simp
theorem impl_SchemaLeaves_ev (s:List S84)(hs:ColsOk s):Ev (fun k=>impl_SchemaLeaves.f k s) (leaves s):=by
 unfold impl_SchemaLeaves.f leaves
 refine Ev.bind (impl_SchemaOk_ev s hs) ?_
 cases schOk s with
 | true=>exact Ev.pos rfl (Ev.bind (impl_leavesOf_ev s hs.1) (Ev.now _))
 | false=>exact Ev.neg (by decide) (Ev.now _)
def wayF (s:List S84)(pos:Int):Nat→List Int
 | 0=>[]
 | d + 1=>if en s (pos - d) > pos then (pos - d) :: wayF s pos d else wayF s pos d
theorem wayF_mem (s:List S84)(pos:Int):∀ (d:Nat),∀ x ∈ wayF s pos d,pos - d < x∧x≤pos
 | 0,x,h=>by simp [wayF] at h
 | d + 1,x,h=>by
  unfold wayF at h
  split at h
  ·
   rcases List.mem_cons.1 h with rfl | h
   ·
    omega
   ·
    have:=wayF_mem s pos d x h;omega
  ·
   have:=wayF_mem s pos d x h;omega
theorem wayF_length (s:List S84)(pos:Int):∀ (d:Nat),(wayF s pos d).length≤d
 | 0=>by simp [wayF]
 | d + 1=>by
  have:=wayF_length s pos d
  unfold wayF
  split
  ·
   simp;exact this
  ·
   omega
theorem wayF_skip (s:List S84)(pos:Int):∀ (m d:Nat),(∀ q,pos - (d + m:Nat) < q→q≤pos - d→en s q≤pos)→wayF s pos (d + m)=wayF s pos d
 | 0,d,_=>rfl
 | m + 1,d,h=>by
  show (if en s (pos - (d + m:Nat)) > pos then (pos - (d + m:Nat)) :: wayF s pos (d + m) else wayF s pos (d + m))=_
  rw [if_neg (by have:=h (pos - (d + m:Nat)) (by omega) (by omega);omega)]
  exact wayF_skip s pos m d (fun q h1 h2=>h q (by omega) h2)
theorem spec_l5Way_ev (s:List S84)(hs:ColsOk s)(hk:schOk s=true)(pos:Nat)(hp:pos < s.length):Ev (fun k=>spec_l5Way.f k s (pos:Int)) (wayF s pos (pos + 1)):=by
 obtain⟨_,hl,_,_⟩:=schOk_parts hk
 unfold spec_l5Way.f
 have key:∀ (d:Nat) (q:Int) (out:List Int),q + d=pos + 1→0≤q→(out.length:Int)≤q→Ev (fun k=>spec_l5Way.l0 k s (pos:Int) out q) (out ++ wayF s pos d):=by
  intro d
  induction d with
  | zero =>
   intro q out hq h0 ho
   refine Ev.step (fun k=>by rw [spec_l5Way.l0]) ?_
   exact Ev.neg (by omega) (Ev.const (by simp [wayF]))
  | succ d ih =>
   intro q out hq h0 ho
   obtain⟨e1,e2,e3⟩:=en_ok hk q h0 (by omega)
   have eq:(pos:Int) - d=q:=by omega
   refine Ev.step (fun k=>by rw [spec_l5Way.l0]) ?_
   refine Ev.pos (by omega) (Ev.bind (spec_l5After_ev s hs 6 q h0 e1) ?_)
   rw [wrap64_id (x:=q + 1) (by omega) (by omega)]
   unfold wayF
   rw [eq]
   by_cases h:en s q > pos
   ·
    rw [if_pos h]
    have:=ih (q + 1) (out ++ [q]) (by omega) (by omega) (by simp;omega)
    rw [List.append_assoc,List.singleton_append] at this
    exact Ev.pos h (Ev.pos (by omega) this)
   ·
    rw [if_neg h]
    exact Ev.neg h (ih (q + 1) out (by omega) (by omega) (by omega))
 have:=key (pos + 1) 0 [] (by omega) (by omega) (by simp)
 simpa using this
theorem impl_wayTo_loop (s:List S84)(hs:ColsOk s)(hk:schOk s=true)(lv:List Int)(idx:Int)(i0:0≤idx)(i1:idx < lv.length)(pos:Nat)(hpos:rd lv idx=(pos:Int))(hp:pos < s.length) :
  ∀ (N d:Nat) (q:Int) (out:List Int),d≤N→q + d=pos + 1→0≤q→(out.length:Int)≤q→Ev (fun k=>impl_wayTo.l0 k s idx lv out q) (out ++ wayF s pos d):=by
 obtain⟨_,hl,_,_⟩:=schOk_parts hk
 intro N
 induction N with
 | zero =>
  intro d q out hN hq h0 ho
  obtain rfl:d=0:=by omega
  refine Ev.step (fun k=>by rw [impl_wayTo.l0]) ?_
  exact Ev.pos i0 (Ev.pos i1 (Ev.neg (by rw [hpos];omega) (Ev.const (by simp [wayF]))))
 | succ N ih =>
  intro d q out hN hq h0 ho
  refine Ev.step (fun k=>by rw [impl_wayTo.l0]) ?_
  cases d with
  | zero=>exact Ev.pos i0 (Ev.pos i1 (Ev.neg (by rw [hpos];omega) (Ev.const (by simp [wayF]))))
  | succ d =>
   obtain⟨e1,e2,e3⟩:=en_ok hk q h0 (by omega)
   have eq:(pos:Int) - d=q:=by omega
   refine Ev.pos i0 (Ev.pos i1 (Ev.pos (by rw [hpos];omega) (Ev.bind (impl_colAfter_ev s hs 6 q (by omega) h0 (by omega)) ?_)))
   rw [hpos,wrap64_id (x:=q + 1) (by omega) (by omega)]
   have een:chk s 6 q=en s q:=rfl
   rw [een]
   by_cases h:en s q > pos
   ·
    have:=ih d (q + 1) (out ++ [q]) (by omega) (by omega) (by omega) (by simp;omega)
    rw [List.append_assoc,List.singleton_append] at this
    unfold wayF
    rw [eq,if_pos h]
    exact Ev.pos h (Ev.pos (by omega) this)
   ·
    have hd2:∃ m d',d + 1=d' + m∧en s q + d'=pos + 1∧d'≤N:=⟨(en s q - q).toNat,(pos + 1 - en s q).toNat,by omega,by omega,by omega⟩
    obtain⟨m,d',h1,h2,h3⟩:=hd2
    rw [h1,wayF_skip s pos m d' (fun r hr1 hr2=>by
     by_cases hrq:r < s.length
     ·
      have hin:=chk_inside s 6 (by omega) q h0 e1 r (by omega) (by rw [een];omega)
      rw [een] at hin
      omega
     ·
      omega)]
    exact Ev.neg h (ih d' (en s q) out h3 h2 (by omega) (by omega))
def mstep (s:List S84)(st:Int × Int)(q:Int):Int × Int:=if (rd_T84 s q).f2=0 then st else if (rd_T84 s q).f2=2 then (wrap64 (st.1 + 1),wrap64 (st.2 + 1)) else (wrap64 (st.1 + 1),st.2)
theorem impl_max_loop (s:List S84)(ws:List Int)(hw:∀ x ∈ ws,0≤x∧x < s.length)(hl:ws.length≤1048576):∀ (d i:Nat) (st:Int × Int),i + d=ws.length→Ev (fun k=>impl_LeafMax.l0 k s st.1 st.2 ws (ws.length:Int) (i:Int)) ((ws.drop i).foldl (mstep s) st):=by
 intro d
 induction d with
 | zero =>
  intro i st hi
  rw [List.drop_eq_nil_of_le (by omega)]
  exact Ev.step (fun k=>by rw [impl_LeafMax.l0]) (by exact Ev.neg (by omega) (Ev.now _))
 | succ d ih =>
  intro i st hi
  have hil:i < ws.length:=by omega
  rw [List.drop_eq_getElem_cons hil,List.foldl_cons]
  have he:rd ws (i:Int)=ws[i]:=rd_eq (by omega)
  have hb:=hw ws[i] (List.getElem_mem _)
  have:=ih (i + 1) (mstep s st ws[i]) (by omega)
  refine Ev.step (fun k=>by rw [impl_LeafMax.l0]) ?_
  rw [he,wrap64_id (x:=(i:Int) + 1) (by omega) (by omega)]
  refine Ev.pos (by omega) (Ev.pos (by omega) (Ev.pos (by omega) (Ev.pos hb.1 (Ev.pos hb.2 ?_))))
  generalize (ws.drop (i + 1)).foldl (mstep s) (mstep s st ws[i])=R at this ⊢
  unfold mstep at this
  by_cases h0:(rd_T84 s ws[i]).f2=0
  ·
   rw [if_pos h0] at this
   exact Ev.pos h0 (Ev.neg (by omega) (by simpa using this))
  ·
   rw [if_neg h0] at this
   refine Ev.neg h0 ?_
   by_cases h2:(rd_T84 s ws[i]).f2=2
   ·
    rw [if_pos h2] at this;exact Ev.pos h2 (by simpa using this)
   ·
    rw [if_neg h2] at this;exact Ev.neg h2 (by simpa using this)
def leafMx (s:List S84)(pos:Int):Int × Int:=(wayF s pos pos.toNat).foldl (mstep s) (0,0)
def leafR (s:List S84)(i:Int):Int × Int × Int × Bool :=
 if 0≤i∧i < (leaves s).length then ((rd_T84 s (rd (leaves s) i)).f1,(leafMx s (rd (leaves s) i)).2,(leafMx s (rd (leaves s) i)).1,true) else (0,0,0,false)
theorem leaf_pos {s:List S84}{i:Int}(h0:0≤i)(h1:i < (leaves s).length):∃ pos:Nat,rd (leaves s) i=(pos:Int)∧pos < s.length∧0 < pos∧schOk s=true:=by
 have hk:schOk s=true:=by
  unfold leaves at h1
  split at h1
  ·
   assumption
  ·
   simp at h1;omega
 have hm:rd (leaves s) i ∈ leaves s:=by rw [rd_eq (by omega)];exact List.getElem_mem _
 have hm2:rd (leaves s) i ∈ lvs s s.length:=by
  have e:leaves s=lvs s s.length:=by unfold leaves;rw [if_pos hk]
  rw [e] at hm ⊢;exact hm
 obtain⟨m0,m1,m7⟩:=lvs_mem s s.length _ hm2
 obtain⟨_,_,hr,_⟩:=schOk_parts hk
 have hne:rd (leaves s) i≠0:=by
  intro e
  rw [e] at m7
  unfold rootB at hr
  simp only [Bool.and_eq_true,decide_eq_true_eq] at hr
  exact m7 hr.1.1
 exact⟨(rd (leaves s) i).toNat,by omega,by omega,by omega,hk⟩
theorem wayF_pos (s:List S84)(hk:schOk s=true)(pos:Nat)(hp:pos < s.length)(h0:0 < pos):wayF s pos (pos + 1)=0 :: wayF s pos pos∧wayF s pos pos≠[]:=by
 obtain⟨_,_,_,h4⟩:=schOk_parts hk
 refine⟨?_,?_⟩
 ·
  rw [wayF,if_pos (by rw [show (pos:Int) - pos=0 by omega];unfold en;omega)]
  rw [show (pos:Int) - pos=0 by omega]
 ·
  have key:∀ d:Nat,d≤pos→1≤d→wayF s pos d≠[]:=by
   intro d
   induction d with
   | zero=>intro _ h;omega
   | succ d ih =>
    intro hd _
    rw [wayF]
    by_cases hd0:d=0
    ·
     subst hd0
     have:=en_ok hk (pos:Int) (by omega) (by omega)
     rw [if_pos (by rw [show (pos:Int) - (0:Nat)=pos by omega];omega)];simp
    ·
     split
     ·
      simp
     ·
      exact ih (by omega) (by omega)
  exact key pos (Nat.le_refl _) h0
theorem impl_LeafMax_ev (s:List S84)(hs:ColsOk s)(i:Int)(h0:0≤i)(h1:i < (leaves s).length):Ev (fun k=>impl_LeafMax.f k s i) (leafMx s (rd (leaves s) i)):=by
 have hll:=leaves_length s
 have hl:=hs.1
 obtain⟨pos,hp,hps,hp0,hk⟩:=leaf_pos h0 h1
 obtain⟨_,hl20,_,_⟩:=schOk_parts hk
 unfold impl_LeafMax.f impl_wayTo.f
 have hw:Ev (fun k=>(impl_SchemaLeaves.f k s).bind fun t222=>((impl_within.f i 0 (wrap64 ((t222.length:Int) - 1))).bind fun t225=>(if t225=true then (impl_wayTo.l0 k s i t222 (([]:List Int)) 1) else (some ([]:List Int))))) (wayF s pos pos):=by
  refine Ev.bind (impl_SchemaLeaves_ev s hs) (Ev.here (within_some _ _ _) ?_)
  rw [wrap64_id (by omega) (by omega)]
  refine Ev.pos (by simp;omega) ?_
  have:=impl_wayTo_loop s hs hk (leaves s) i h0 h1 pos hp hps pos pos 1 [] (by omega) (by omega) (by omega) (by simp)
  simpa using this
 refine Ev.bind hw ?_
 have hlen:=wayF_length s pos pos
 obtain⟨_,w2⟩:=wayF_pos s hk pos hps hp0
 have hne:¬ ((wayF s pos pos).length:Int)=0:=by
  intro e
  exact w2 (List.length_eq_zero_iff.1 (by omega))
 refine Ev.neg hne ?_
 have:=impl_max_loop s (wayF s pos pos) (fun x hx=>by have:=wayF_mem s pos pos x hx;omega) (by omega) (wayF s pos pos).length 0 (0,0) (by omega)
 refine Ev.cast this ?_
 rw [hp];rfl
theorem impl_LeafOf_ev (s:List S84)(hs:ColsOk s)(i:Int)(hi0:-9223372036854775808≤i)(hi1:i≤9223372036854775807):Ev (fun k=>impl_LeafOf.f k s i) (leafR s i):=by
 unfold impl_LeafOf.f leafR
 have hll:=leaves_length s
 have hl:=hs.1
 refine Ev.bind (impl_SchemaLeaves_ev s hs) (Ev.here (within_some _ _ _) ?_)
 rw [wrap64_id (by omega) (by omega)]
 by_cases h:0≤i∧i < (leaves s).length
 ·
  rw [if_pos h]
  obtain⟨pos,hp,hps,hp0,hk⟩:=leaf_pos h.1 h.2
  exact Ev.pos (by simp;omega) (Ev.bind (impl_LeafMax_ev s hs i h.1 h.2) (Ev.pos h.1 (Ev.pos h.2 (Ev.pos (by rw [hp];omega) (Ev.pos (by rw [hp];omega) (Ev.now _))))))
 ·
  rw [if_neg h]
  exact Ev.neg (by simp;omega) (Ev.now _)
theorem colsOk_of (l:List S75)(hl:l.length≤1048576)(hw:∀ y ∈ l,w75 y):ColsOk (l.map cvCol):=by
 have h:∀ i:Int,(rd_T84 (l.map cvCol) i).f0.size≤9223372036854775807∧(rd_T84 (l.map cvCol) i).f3≤9223372036854775807:=by
  intro i
  have e:rd_T84 (l.map cvCol) i=(l.map cvCol).getD i.toNat z84:=rfl
  rw [e]
  by_cases hi:i.toNat < l.length
  ·
   rw [getD_eq (by simpa using hi),List.getElem_map]
   have:=hw (l[i.toNat]) (List.getElem_mem _)
   obtain⟨a,b,c,d⟩:=this
   have:=i64_of d
   exact⟨by unfold maxLen at a;exact a,this.2⟩
  ·
   rw [List.getD_eq_getElem?_getD,List.getElem?_eq_none (by simp;omega)]
   exact⟨by decide,by decide⟩
 exact⟨by simpa using hl,fun i=>(h i).1,fun i=>(h i).2⟩
def cvChunk (x:S119):S58:=⟨x.f0,x.f1,x.f2,x.f3,x.f4,x.f5⟩
def cvGroup (x:S79):S54:=⟨x.f0,x.f1.map cvChunk⟩
def ChunkShort (x:S119):Prop:=x.f5.length≤1048576
def GroupShort (x:S79):Prop:=x.f1.length≤1048576∧∀ y ∈ x.f1,ChunkShort y
theorem szIntS_ok (l:List Int)(hl:l.length≤9223372036854775807)(c:Int)(h0:0≤c)(h1:c≤1048576):∃ r,laws_szIntS.f l c=some r∧r≤c∧(0≤r→l.length≤1048576):=by
 unfold laws_szIntS.f
 rw [wrap64_id (by omega) (by omega)]
 by_cases hn:c - (l.length:Int) < 0
 ·
  rw [if_pos hn];exact⟨-1,rfl,by omega,by omega⟩
 ·
  rw [if_neg hn];exact⟨_,rfl,by omega,by omega⟩
theorem szChunk_ok (x:S119)(hw:w119 x)(c:Int)(h0:0≤c)(h1:c≤1048576):∃ r,laws_szChunk.f x.f0 x.f1 x.f2 x.f3 x.f4 x.f5 c=some r∧r≤c∧(0≤r→ChunkShort x):=by
 have hl:x.f5.length≤9223372036854775807:=by have:=hw.2.2.2.2.2.1;unfold maxLen at this;omega
 obtain⟨r,e,hr,hs⟩:=szIntS_ok x.f5 hl c h0 h1
 unfold laws_szChunk.f
 rw [e];simp only [Option.bind_some]
 by_cases hn:r < 0
 ·
  rw [if_pos hn];exact⟨-1,rfl,by omega,by omega⟩
 ·
  rw [if_neg hn];exact⟨r,rfl,hr,hs⟩
theorem short_loop {α:Type}(P:α→Prop)(xs:List α)(L:Nat→Int→Int→Option Int)
  (hs:∀ (c:Int) (i:Nat) (h:i < xs.length),0≤c→c≤1048576→∃ c',c'≤c∧(0≤c'→P xs[i])∧(c' < 0→Ev (fun k=>L k c (i:Int)) (-1))∧(0≤c'→∀ r,Ev (fun k=>L k c' (i + 1:Nat)) r→Ev (fun k=>L k c (i:Int)) r))
  (h0:∀ c,Ev (fun k=>L k c (xs.length:Int)) c) (c:Int) (hc:0≤c) (hc1:c≤1048576):∃ r,Ev (fun k=>L k c 0) r∧r≤c∧(0≤r→∀ x ∈ xs,P x):=by
 have key:∀ (d i:Nat) (c:Int),i + d=xs.length→0≤c→c≤1048576→∃ r,Ev (fun k=>L k c (i:Int)) r∧r≤c∧(0≤r→∀ j (h:j < xs.length),i≤j→P xs[j]):=by
  intro d
  induction d with
  | zero =>
   intro i c hi _ _
   obtain rfl:i=xs.length:=by omega
   exact⟨c,h0 c,by omega,fun _ j hj hij=>by omega⟩
  | succ d ih =>
   intro i c hi hc hc1
   have hil:i < xs.length:=by omega
   obtain⟨c',h1,h2,h3,h4⟩:=hs c i hil hc hc1
   by_cases hn:c' < 0
   ·
    exact⟨-1,h3 hn,by omega,fun h=>by omega⟩
   ·
    obtain⟨r,hr,hr1,hr2⟩:=ih (i + 1) c' (by omega) (by omega) (by omega)
    refine⟨r,h4 (by omega) r hr,by omega,fun hr0 j hj hij=>?_⟩
    by_cases e:j=i
    ·
     subst e;exact h2 (by omega)
    ·
     exact hr2 hr0 j hj (by omega)
 obtain⟨r,hr,h1,h2⟩:=key xs.length 0 c (by omega) hc hc1
 refine⟨r,by simpa using hr,h1,fun h x hx=>?_⟩
 obtain⟨j,hj,rfl⟩:=List.getElem_of_mem hx
 exact h2 h j hj (by omega)
theorem szChunkS_ok (l:List S119)(hw:l.length≤maxLen)(ht:∀ x ∈ l,w119 x)(c:Int)(h0:0≤c)(h1:c≤1048576):∃ r,Ev (fun k=>laws_szChunkS.f k l c) r∧r≤c∧(0≤r→l.length≤1048576∧∀ x ∈ l,ChunkShort x):=by
 have hm:l.length≤9223372036854775807:=by unfold maxLen at hw;omega
 unfold laws_szChunkS.f
 rw [wrap64_id (by omega) (by omega)]
 by_cases hn:c - (l.length:Int) < 0
 ·
  exact⟨-1,Ev.pos hn (Ev.now _),by omega,by omega⟩
 ·
  obtain⟨r,hr,hrc,hp⟩:=short_loop ChunkShort l (fun k c i=>laws_szChunkS.l0 k l c i) (fun c i hi hc0 hc1=>by
   have e:rd_T119 l (i:Int)=l[i]:=getD_eq (by simpa using hi)
   obtain⟨c',hc',hle,hsh⟩:=szChunk_ok l[i] (ht l[i] (List.getElem_mem hi)) c hc0 hc1
   refine⟨c',hle,hsh,fun hneg=>?_,fun hpos r hr=>?_⟩
   ·
    exact Ev.step (fun k=>by rw [laws_szChunkS.l0]) (by exact Ev.pos (by omega) (Ev.pos (by omega) (Ev.here (by rw [e];exact hc') (Ev.pos hneg (Ev.now _)))))
   ·
    refine Ev.step (fun k=>by rw [laws_szChunkS.l0]) ?_
    refine Ev.pos (by omega) (Ev.pos (by omega) (Ev.here (by rw [e];exact hc') (Ev.neg (by omega) ?_)))
    rw [wrap64_id (by omega) (by omega)]
    simpa using hr)
   (fun c=>Ev.step (fun k=>by rw [laws_szChunkS.l0]) (by exact Ev.neg (by omega) (Ev.now _))) (c - l.length) (by omega) (by omega)
  exact⟨r,Ev.neg hn hr,by omega,fun h=>⟨by omega,hp h⟩⟩
theorem szGroupMeta_ok (x:S79)(hw:w79 x)(c:Int)(h0:0≤c)(h1:c≤1048576):∃ r,Ev (fun k=>laws_szGroupMeta.f k x.f0 x.f1 c) r∧r≤c∧(0≤r→GroupShort x):=by
 obtain⟨r,e,hr,hs⟩:=szChunkS_ok x.f1 hw.2.1 hw.2.2 c h0 h1
 unfold laws_szGroupMeta.f
 by_cases hn:r < 0
 ·
  exact⟨-1,Ev.bind e (Ev.pos hn (Ev.now _)),by omega,by omega⟩
 ·
  exact⟨r,Ev.bind e (Ev.neg hn (Ev.now _)),hr,hs⟩
theorem szGroupMetaS_ok (l:List S79)(hw:l.length≤maxLen)(ht:∀ x ∈ l,w79 x)(c:Int)(h0:0≤c)(h1:c≤1048576):∃ r,Ev (fun k=>laws_szGroupMetaS.f k l c) r∧r≤c∧(0≤r→l.length≤1048576∧∀ x ∈ l,GroupShort x):=by
 have hm:l.length≤9223372036854775807:=by unfold maxLen at hw;omega
 unfold laws_szGroupMetaS.f
 rw [wrap64_id (by omega) (by omega)]
 by_cases hn:c - (l.length:Int) < 0
 ·
  exact⟨-1,Ev.pos hn (Ev.now _),by omega,by omega⟩
 ·
  obtain⟨r,hr,hrc,hp⟩:=short_loop GroupShort l (fun k c i=>laws_szGroupMetaS.l0 k l c i) (fun c i hi hc0 hc1=>by
   have e:rd_T79 l (i:Int)=l[i]:=getD_eq (by simpa using hi)
   obtain⟨c',hc',hle,hsh⟩:=szGroupMeta_ok l[i] (ht l[i] (List.getElem_mem hi)) c hc0 hc1
   refine⟨c',hle,hsh,fun hneg=>?_,fun hpos r hr=>?_⟩
   ·
    refine Ev.step (fun k=>by rw [laws_szGroupMetaS.l0]) ?_
    rw [e]
    exact Ev.pos (by omega) (Ev.pos (by omega) (Ev.bind hc' (Ev.pos hneg (Ev.now _))))
   ·
    refine Ev.step (fun k=>by rw [laws_szGroupMetaS.l0]) ?_
    rw [e,wrap64_id (by omega) (by omega)]
    refine Ev.pos (by omega) (Ev.pos (by omega) (Ev.bind hc' (Ev.neg (by omega) ?_)))
    simpa using hr)
   (fun c=>Ev.step (fun k=>by rw [laws_szGroupMetaS.l0]) (by exact Ev.neg (by omega) (Ev.now _))) (c - l.length) (by omega) (by omega)
  exact⟨r,Ev.neg hn hr,by omega,fun h=>⟨by omega,hp h⟩⟩
theorem toChunk_ev (x:S119)(h:ChunkShort x):Ev (fun k=>laws_toChunk.f k x.f0 x.f1 x.f2 x.f3 x.f4 x.f5) (x.f0,x.f1,x.f2,x.f3,x.f4,x.f5):=by
 unfold laws_toChunk.f
 unfold ChunkShort at h
 exact Ev.bind (toIntS_ev x.f5 (by omega)) (Ev.now _)
theorem toChunkS_ev (l:List S119)(hl:l.length≤1048576)(hs:∀ x ∈ l,ChunkShort x):Ev (fun k=>laws_toChunkS.f k l) (l.map cvChunk):=by
 unfold laws_toChunkS.f
 refine Ev.pos (by omega) (Ev.pos (by omega) ?_)
 refine copy_loop (fun k out i=>laws_toChunkS.l0 k l out i) l cvChunk (fun out i r h ho hr=>?_) (fun out ho=>?_) (List.replicate ((l.length:Int)).toNat z58) (by simp)
 ·
  have e:rd_T119 l (i:Int)=l[i]:=getD_eq (by simpa using h)
  refine Ev.step (fun k=>by rw [laws_toChunkS.l0]) ?_
  rw [e,wrap64_id (by omega) (by omega)]
  refine Ev.pos (by omega) (Ev.pos (by omega) (Ev.bind (toChunk_ev l[i] (hs _ (List.getElem_mem h))) (Ev.pos (by omega) ?_)))
  simpa [cvChunk] using hr
 ·
  exact Ev.step (fun k=>by rw [laws_toChunkS.l0]) (by exact Ev.neg (by omega) (Ev.now _))
theorem toGroupMeta_ev (x:S79)(h:GroupShort x):Ev (fun k=>laws_toGroupMeta.f k x.f0 x.f1) (x.f0,x.f1.map cvChunk):=by
 unfold laws_toGroupMeta.f
 exact Ev.bind (toChunkS_ev x.f1 h.1 h.2) (Ev.now _)
theorem toGroupMetaS_ev (l:List S79)(hl:l.length≤1048576)(hs:∀ x ∈ l,GroupShort x):Ev (fun k=>laws_toGroupMetaS.f k l) (l.map cvGroup):=by
 unfold laws_toGroupMetaS.f
 refine Ev.pos (by omega) (Ev.pos (by omega) ?_)
 refine copy_loop (fun k out i=>laws_toGroupMetaS.l0 k l out i) l cvGroup (fun out i r h ho hr=>?_) (fun out ho=>?_) (List.replicate ((l.length:Int)).toNat z54) (by simp)
 ·
  have e:rd_T79 l (i:Int)=l[i]:=getD_eq (by simpa using h)
  refine Ev.step (fun k=>by rw [laws_toGroupMetaS.l0]) ?_
  rw [e,wrap64_id (by omega) (by omega)]
  refine Ev.pos (by omega) (Ev.pos (by omega) (Ev.bind (toGroupMeta_ev l[i] (hs _ (List.getElem_mem h))) (Ev.pos (by omega) ?_)))
  simpa [cvGroup] using hr
 ·
  exact Ev.step (fun k=>by rw [laws_toGroupMetaS.l0]) (by exact Ev.neg (by omega) (Ev.now _))
def MetaShort (l:List S54):Prop:=l.length≤1048576∧∀ x ∈ l,x.f1.length≤1048576∧∀ y ∈ x.f1,y.f5.length≤1048576
theorem metaShort_of (l:List S79)(hl:l.length≤1048576)(hs:∀ x ∈ l,GroupShort x):MetaShort (l.map cvGroup):=by
 refine⟨by simpa using hl,fun x hx=>?_⟩
 obtain⟨y,hy,rfl⟩:=List.mem_map.1 hx
 refine⟨by simpa [cvGroup] using (hs y hy).1,fun z hz=>?_⟩
 obtain⟨u,hu,rfl⟩:=List.mem_map.1 hz
 exact (hs y hy).2 u hu
theorem eqChunk_ev (a:S58)(h:a.f5.length≤1048576):Ev (fun k=>laws_eqChunk.f k a.f0 a.f1 a.f2 a.f3 a.f4 a.f5 a.f0 a.f1 a.f2 a.f3 a.f4 a.f5) true:=by
 unfold laws_eqChunk.f
 exact Ev.pos rfl (Ev.pos rfl (Ev.pos rfl (Ev.pos rfl (Ev.pos rfl (Ev.bind (eqIntS_ev a.f5 (by omega)) (Ev.pos rfl (Ev.now _)))))))
theorem eqChunkS_ev (l:List S58)(hl:l.length≤1048576)(hs:∀ x ∈ l,x.f5.length≤1048576):Ev (fun k=>laws_eqChunkS.f k l l) true:=by
 unfold laws_eqChunkS.f
 refine Ev.pos rfl ?_
 refine same_loop (fun k i=>laws_eqChunkS.l0 k l l i) l.length (fun i r h hr=>?_) ?_
 ·
  have e:rd_T58 l (i:Int)=l[i]:=getD_eq (by simpa using h)
  refine Ev.step (fun k=>by rw [laws_eqChunkS.l0]) ?_
  rw [e,wrap64_id (by omega) (by omega)]
  refine Ev.pos (by omega) (Ev.pos (by omega) (Ev.pos (by omega) (Ev.bind (eqChunk_ev _ (hs _ (List.getElem_mem h))) (Ev.pos rfl ?_))))
  simpa using hr
 ·
  exact Ev.step (fun k=>by rw [laws_eqChunkS.l0]) (by exact Ev.neg (by omega) (Ev.now _))
theorem eqGroupMeta_ev (a:S54)(h:a.f1.length≤1048576∧∀ y ∈ a.f1,y.f5.length≤1048576):Ev (fun k=>laws_eqGroupMeta.f k a.f0 a.f1 a.f0 a.f1) true:=by
 unfold laws_eqGroupMeta.f
 exact Ev.pos rfl (Ev.bind (eqChunkS_ev a.f1 h.1 h.2) (Ev.pos rfl (Ev.now _)))
theorem eqGroupMetaS_ev (l:List S54)(h:MetaShort l):Ev (fun k=>laws_eqGroupMetaS.f k l l) true:=by
 have hl:=h.1
 unfold laws_eqGroupMetaS.f
 refine Ev.pos rfl ?_
 refine same_loop (fun k i=>laws_eqGroupMetaS.l0 k l l i) l.length (fun i r hi hr=>?_) ?_
 ·
  have e:rd_T54 l (i:Int)=l[i]:=getD_eq (by simpa using hi)
  refine Ev.step (fun k=>by rw [laws_eqGroupMetaS.l0]) ?_
  rw [e,wrap64_id (by omega) (by omega)]
  refine Ev.pos (by omega) (Ev.pos (by omega) (Ev.pos (by omega) (Ev.bind (eqGroupMeta_ev _ (h.2 _ (List.getElem_mem hi))) (Ev.pos rfl ?_))))
  simpa using hr
 ·
  exact Ev.step (fun k=>by rw [laws_eqGroupMetaS.l0]) (by exact Ev.neg (by omega) (Ev.now _))
def encG (l:List Int):Nat→Nat→Bool
 | 0,_=>true
 | d + 1,i=>decide (0≤rd l (i:Int)∧rd l (i:Int)≤9) && ((decide (i=0) || decide (rd l ((i:Int) - 1) < rd l (i:Int))) && encG l d (i + 1))
def chB (x:S58)(i:Int):Bool:=decide (x.f0=i) && (decide (0≤x.f1∧x.f1≤60000) && (decide (-1≤x.f2∧x.f2≤60000) && (decide (1≤x.f3∧x.f3≤2000) && (decide (0≤x.f4∧x.f4≤60000) && (decide (1≤(x.f5.length:Int)∧(x.f5.length:Int)≤5) && encG x.f5 x.f5.length 0)))))
theorem spec_chunk_loop (x:S58)(hl:x.f5.length≤1048576):∀ d i:Nat,i + d=x.f5.length→Ev (fun k=>spec_l18Chunk.l0 k (i:Int) x.f0 x.f1 x.f2 x.f3 x.f4 x.f5) (encG x.f5 d i):=by
 intro d
 induction d with
 | zero=>intro i hi;exact Ev.step (fun k=>by rw [spec_l18Chunk.l0]) (by exact Ev.neg (by omega) (Ev.now _))
 | succ d ih =>
  intro i hi
  have h:=ih (i + 1) (by omega)
  refine Ev.step (fun k=>by rw [spec_l18Chunk.l0]) ?_
  refine Ev.pos (by omega) (Ev.pos (by omega) (Ev.here (l1In_some _ _ _) ?_))
  unfold encG
  rw [wrap64_id (x:=(i:Int) + 1) (by omega) (by omega)]
  by_cases h1:0≤rd x.f5 (i:Int)∧rd x.f5 (i:Int)≤9
  ·
   rw [decide_eq_true h1]
   refine Ev.pos rfl ?_
   by_cases h2:i=0
   ·
    rw [decide_eq_true h2]
    refine Ev.neg (by omega) ?_
    simpa using h
   ·
    rw [decide_eq_false h2,wrap64_id (x:=(i:Int) - 1) (by omega) (by omega)]
    refine Ev.pos (by omega) (Ev.pos (by omega) (Ev.pos (by omega) ?_))
    by_cases h3:rd x.f5 ((i:Int) - 1) < rd x.f5 (i:Int)
    ·
     rw [decide_eq_true h3]
     refine Ev.neg (by omega) ?_
     simpa using h
    ·
     rw [decide_eq_false h3]
     exact Ev.pos (by omega) (Ev.now _)
  ·
   rw [decide_eq_false h1]
   exact Ev.neg (by decide) (Ev.now _)
theorem impl_encs_loop (l:List Int)(hl:l.length≤1048576):∀ d i:Nat,i + d=l.length→Ev (fun k=>impl_encsRight.l0 k l l (l.length:Int) (i:Int)) (encG l d i && decide (1≤(l.length:Int)∧(l.length:Int)≤5)):=by
 intro d
 induction d with
 | zero=>intro i hi;exact Ev.step (fun k=>by rw [impl_encsRight.l0]) (by exact Ev.neg (by omega) (Ev.here (within_some _ _ _) (Ev.const (by simp [encG]))))
 | succ d ih =>
  intro i hi
  have h:=ih (i + 1) (by omega)
  refine Ev.step (fun k=>by rw [impl_encsRight.l0]) ?_
  refine Ev.pos (by omega) (Ev.pos (by omega) (Ev.pos (by omega) (Ev.here (within_some _ _ _) ?_)))
  unfold encG
  rw [wrap64_id (x:=(i:Int) + 1) (by omega) (by omega)]
  by_cases h1:0≤rd l (i:Int)∧rd l (i:Int)≤9
  ·
   rw [decide_eq_true h1]
   refine Ev.pos rfl ?_
   by_cases h2:i=0
   ·
    rw [decide_eq_true h2]
    refine Ev.neg (by omega) ?_
    simpa using h
   ·
    rw [decide_eq_false h2,wrap64_id (x:=(i:Int) - 1) (by omega) (by omega)]
    refine Ev.pos (by omega) (Ev.pos (by omega) (Ev.pos (by omega) ?_))
    by_cases h3:rd l ((i:Int) - 1) < rd l (i:Int)
    ·
     rw [decide_eq_true h3]
     refine Ev.neg (by omega) ?_
     simpa using h
    ·
     rw [decide_eq_false h3]
     exact Ev.pos (by omega) (Ev.now _)
  ·
   rw [decide_eq_false h1]
   exact Ev.neg (by decide) (Ev.now _)
theorem spec_l18Chunk_ev (x:S58)(hl:x.f5.length≤1048576)(i:Int):Ev (fun k=>spec_l18Chunk.f k x.f0 x.f1 x.f2 x.f3 x.f4 x.f5 i) (chB x i):=by
 have bad:chB x i=false→Ev (fun k=>spec_l18Chunk.j0 k true x.f0 x.f1 x.f2 x.f3 x.f4 x.f5) (chB x i):=fun h=>by
  rw [h];exact Ev.step (fun k=>by rw [spec_l18Chunk.j0]) (by exact Ev.pos rfl (Ev.now _))
 unfold spec_l18Chunk.f
 by_cases h0:x.f0=i
 ·
  refine Ev.pos h0 (Ev.here (l1In_some _ _ _) ?_)
  by_cases h1:0≤x.f1∧x.f1≤60000
  ·
   refine Ev.pos (decide_eq_true h1) (Ev.here (l1In_some _ _ _) ?_)
   by_cases h2:-1≤x.f2∧x.f2≤60000
   ·
    refine Ev.pos (decide_eq_true h2) (Ev.here (l1In_some _ _ _) ?_)
    by_cases h3:1≤x.f3∧x.f3≤2000
    ·
     refine Ev.pos (decide_eq_true h3) (Ev.here (l1In_some _ _ _) ?_)
     by_cases h4:0≤x.f4∧x.f4≤60000
     ·
      refine Ev.pos (decide_eq_true h4) (Ev.here (l1In_some _ _ _) ?_)
      by_cases h5:1≤(x.f5.length:Int)∧(x.f5.length:Int)≤5
      ·
       rw [decide_eq_true h5]
       refine Ev.step (fun k=>by rw [spec_l18Chunk.j0]) ?_
       refine Ev.neg (by decide) ?_
       refine Ev.cast (spec_chunk_loop x hl x.f5.length 0 (by omega)) ?_
       unfold chB;rw [decide_eq_true h0,decide_eq_true h1,decide_eq_true h2,decide_eq_true h3,decide_eq_true h4,decide_eq_true h5];rfl
      ·
       rw [decide_eq_false h5]
       exact bad (by unfold chB;rw [decide_eq_false h5];simp)
     ·
      exact Ev.neg (by rw [decide_eq_false h4];decide) (bad (by unfold chB;rw [decide_eq_false h4];simp))
    ·
     exact Ev.neg (by rw [decide_eq_false h3];decide) (bad (by unfold chB;rw [decide_eq_false h3];simp))
   ·
    exact Ev.neg (by rw [decide_eq_false h2];decide) (bad (by unfold chB;rw [decide_eq_false h2];simp))
  ·
   exact Ev.neg (by rw [decide_eq_false h1];decide) (bad (by unfold chB;rw [decide_eq_false h1];simp))
 ·
  exact Ev.neg h0 (bad (by unfold chB;rw [decide_eq_false h0];simp))
theorem impl_chunkOk_ev (x:S58)(hl:x.f5.length≤1048576)(i:Int):Ev (fun k=>impl_chunkOk.f k x.f0 x.f1 x.f2 x.f3 x.f4 x.f5 i) (chB x i):=by
 have no:chB x i=false→∀ (c:Prop) [Decidable c],Ev (fun _=>if c then some false else some false) (chB x i):=fun h c _=>by
  rw [h]
  by_cases hc:c
  ·
   exact Ev.pos hc (Ev.now _)
  ·
   exact Ev.neg hc (Ev.now _)
 have no1:chB x i=false→Ev (fun _=>some false) (chB x i):=fun h=>by rw [h];exact Ev.now _
 unfold impl_chunkOk.f
 refine Ev.here (within_some _ _ _) ?_
 by_cases h1:0≤x.f1∧x.f1≤60000
 ·
  refine Ev.pos (decide_eq_true h1) (Ev.here (within_some _ _ _) ?_)
  by_cases h2:-1≤x.f2∧x.f2≤60000
  ·
   refine Ev.pos (decide_eq_true h2) (Ev.here (within_some _ _ _) ?_)
   by_cases h0:x.f0=i
   ·
    refine Ev.pos h0 ?_
    by_cases h4:0≤x.f4∧x.f4≤60000
    ·
     refine Ev.pos (decide_eq_true h4) (Ev.here (within_some _ _ _) ?_)
     by_cases h3:1≤x.f3∧x.f3≤2000
     ·
      refine Ev.pos (decide_eq_true h3) (Ev.bind (a:=encG x.f5 x.f5.length 0 && decide (1≤(x.f5.length:Int)∧(x.f5.length:Int)≤5)) ?_ (Ev.const ?_))
      ·
       unfold impl_encsRight.f
       exact impl_encs_loop x.f5 hl x.f5.length 0 (by omega)
      ·
       unfold chB;rw [decide_eq_true h0,decide_eq_true h1,decide_eq_true h2,decide_eq_true h3,decide_eq_true h4,Bool.and_comm (encG x.f5 x.f5.length 0)];rfl
     ·
      exact Ev.neg (by rw [decide_eq_false h3];decide) (no1 (by unfold chB;rw [decide_eq_false h3];simp))
    ·
     exact Ev.neg (by rw [decide_eq_false h4];decide) (no1 (by unfold chB;rw [decide_eq_false h4];simp))
   ·
    exact Ev.neg h0 (no1 (by unfold chB;rw [decide_eq_false h0];simp))
  ·
   exact Ev.neg (by rw [decide_eq_false h2];decide) (no (by unfold chB;rw [decide_eq_false h2];simp) _)
 ·
  exact Ev.neg (by rw [decide_eq_false h1];decide) (no (by unfold chB;rw [decide_eq_false h1];simp) _)
def chsB (l:List S58):Nat→Nat→Bool
 | 0,_=>true
 | d + 1,i=>chB (rd_T58 l (i:Int)) (i:Int) && chsB l d (i + 1)
def grB (n:Nat)(g:S54):Bool:=decide (1≤g.f0∧g.f0≤200) && (decide ((g.f1.length:Int)=(n:Int)) && chsB g.f1 g.f1.length 0)
def metaG (L:List S54)(n:Nat)(R:Int):Nat→Nat→Int→Bool
 | 0,_,acc=>decide (acc=R)
 | d + 1,i,acc=>grB n (rd_T54 L (i:Int)) && metaG L n R d (i + 1) (acc + (rd_T54 L (i:Int)).f0)
def metaB (s:List S84)(R:Int)(L:List S54):Bool:=schOk s && (decide ((L.length:Int)≤40) && (decide (0≤R∧R≤200) && metaG L (leaves s).length R L.length 0 0))
theorem spec_chs_loop (lv:List Int)(acc i':Int)(s:List S84)(R:Int)(L:List S54)(i:Int)(g0:Int)(l:List S58)(hl:l.length≤1048576)(hs:∀ y ∈ l,y.f5.length≤1048576)(r:Bool)(hr:Ev (fun k=>spec_MetaOk.l0 k lv acc (wrap64 (i + 1)) s R L) r) :
  ∀ d j:Nat,j + d=l.length→Ev (fun k=>spec_MetaOk.l1 k lv acc i (j:Int) s R L g0 l) (chsB l d j && r):=by
 intro d
 induction d with
 | zero =>
  intro j hj
  refine Ev.step (fun k=>by rw [spec_MetaOk.l1]) ?_
  exact Ev.neg (by omega) (by simpa [chsB] using hr)
 | succ d ih =>
  intro j hj
  have h:=ih (j + 1) (by omega)
  have e:rd_T58 l (j:Int)=l[j]:=getD_eq (by simpa using (show j < l.length by omega))
  have hc:=spec_l18Chunk_ev (rd_T58 l (j:Int)) (by rw [e];exact hs _ (List.getElem_mem _)) (j:Int)
  refine Ev.step (fun k=>by rw [spec_MetaOk.l1]) ?_
  unfold chsB
  rw [wrap64_id (x:=(j:Int) + 1) (by omega) (by omega)]
  refine Ev.pos (by omega) (Ev.pos (by omega) (Ev.bind hc ?_))
  cases chB (rd_T58 l (j:Int)) (j:Int) with
  | true=>refine Ev.pos rfl ?_;simpa using h
  | false=>exact Ev.neg (by decide) (Ev.now _)
theorem impl_chs_loop (x3:Int)(s:List S84)(R:Int)(L L2:List S54)(n:Int)(i:Int)(g0:Int)(l:List S58)(hl:l.length≤1048576)(hs:∀ y ∈ l,y.f5.length≤1048576)(r:Bool)(hr:Ev (fun k=>impl_MetaOk.l0 k (wrap64 (x3 + g0)) L n (wrap64 (i + 1)) s R L2) r) :
  ∀ d j:Nat,j + d=l.length→Ev (fun k=>impl_MetaOk.l1 k x3 L n i l (l.length:Int) (j:Int) s R L2 g0 l) (chsB l d j && r):=by
 intro d
 induction d with
 | zero =>
  intro j hj
  refine Ev.step (fun k=>by rw [impl_MetaOk.l1]) ?_
  exact Ev.neg (by omega) (by simpa [chsB] using hr)
 | succ d ih =>
  intro j hj
  have h:=ih (j + 1) (by omega)
  have e:rd_T58 l (j:Int)=l[j]:=getD_eq (by simpa using (show j < l.length by omega))
  have hc:=impl_chunkOk_ev (rd_T58 l (j:Int)) (by rw [e];exact hs _ (List.getElem_mem _)) (j:Int)
  refine Ev.step (fun k=>by rw [impl_MetaOk.l1]) ?_
  unfold chsB
  rw [wrap64_id (x:=(j:Int) + 1) (by omega) (by omega)]
  refine Ev.pos (by omega) (Ev.pos (by omega) (Ev.pos (by omega) (Ev.bind hc ?_)))
  cases chB (rd_T58 l (j:Int)) (j:Int) with
  | true=>refine Ev.pos rfl ?_;simpa using h
  | false=>exact Ev.neg (by decide) (Ev.now _)
theorem spec_meta_loop (lv:List Int)(s:List S84)(R:Int)(L:List S54)(hm:MetaShort L)(hL:L.length≤40):∀ (d i:Nat) (acc:Int),i + d=L.length→0≤acc→acc≤200 * i→Ev (fun k=>spec_MetaOk.l0 k lv acc (i:Int) s R L) (metaG L lv.length R d i acc):=by
 intro d
 induction d with
 | zero =>
  intro i acc hi h0 h1
  refine Ev.step (fun k=>by rw [spec_MetaOk.l0]) ?_
  exact Ev.neg (by omega) (Ev.const (by unfold metaG;by_cases h:acc=R <;> simp [h]))
 | succ d ih =>
  intro i acc hi h0 h1
  refine Ev.step (fun k=>by rw [spec_MetaOk.l0]) ?_
  unfold metaG grB
  have e:rd_T54 L (i:Int)=L[i]:=getD_eq (by simpa using (show i < L.length by omega))
  have hg:=hm.2 (rd_T54 L (i:Int)) (by rw [e];exact List.getElem_mem _)
  generalize rd_T54 L (i:Int)=g at *
  refine Ev.pos (by omega) (Ev.pos (by omega) (Ev.here (l1In_some _ _ _) ?_))
  by_cases h2:1≤g.f0∧g.f0≤200
  ·
   rw [decide_eq_true h2]
   refine Ev.pos rfl ?_
   refine Ev.step (fun k=>by rw [spec_MetaOk.j2]) ?_
   by_cases h3:(g.f1.length:Int)=(lv.length:Int)
   ·
    rw [decide_eq_true h3]
    refine Ev.neg (by simp [h3]) ?_
    rw [wrap64_id (x:=acc + g.f0) (by omega) (by omega)]
    have hn:=ih (i + 1) (acc + g.f0) (by omega) (by omega) (by omega)
    have hr:Ev (fun k=>spec_MetaOk.l0 k lv (acc + g.f0) (wrap64 ((i:Int) + 1)) s R L) (metaG L lv.length R d (i + 1) (acc + g.f0)):=by
     rw [wrap64_id (x:=(i:Int) + 1) (by omega) (by omega)];simpa using hn
    have:=spec_chs_loop lv (acc + g.f0) 0 s R L (i:Int) g.f0 g.f1 hg.1 hg.2 _ hr g.f1.length 0 (by omega)
    simpa using this
   ·
    rw [decide_eq_false h3]
    exact Ev.pos (by simp [h3]) (Ev.now _)
  ·
   rw [decide_eq_false h2]
   refine Ev.neg (by decide) ?_
   exact Ev.step (fun k=>by rw [spec_MetaOk.j2]) (by exact Ev.pos rfl (Ev.now _))
theorem impl_meta_loop (s:List S84)(hs:ColsOk s)(R:Int)(L:List S54)(hm:MetaShort L)(hL:L.length≤40):∀ (d i:Nat) (acc:Int),i + d=L.length→0≤acc→acc≤200 * i→Ev (fun k=>impl_MetaOk.l0 k acc L (L.length:Int) (i:Int) s R L) (metaG L (lvs s s.length).length R d i acc && decide (0≤R∧R≤200)):=by
 intro d
 induction d with
 | zero =>
  intro i acc hi h0 h1
  refine Ev.step (fun k=>by rw [impl_MetaOk.l0]) ?_
  refine Ev.neg (by omega) ?_
  unfold metaG
  by_cases h:acc=R
  ·
   subst h
   exact Ev.pos rfl (Ev.const (by by_cases h5:acc≤200 <;> simp [h5,h0]))
  ·
   rw [decide_eq_false h]
   exact Ev.neg h (Ev.now _)
 | succ d ih =>
  intro i acc hi h0 h1
  refine Ev.step (fun k=>by rw [impl_MetaOk.l0]) ?_
  unfold metaG grB
  have e:rd_T54 L (i:Int)=L[i]:=getD_eq (by simpa using (show i < L.length by omega))
  have hg:=hm.2 (rd_T54 L (i:Int)) (by rw [e];exact List.getElem_mem _)
  generalize rd_T54 L (i:Int)=g at *
  refine Ev.pos (by omega) (Ev.pos (by omega) (Ev.pos (by omega) (Ev.here (within_some _ _ _) ?_)))
  by_cases h2:1≤g.f0∧g.f0≤200
  ·
   rw [decide_eq_true h2]
   refine Ev.pos rfl (Ev.bind (impl_leavesOf_ev s hs.1) ?_)
   refine Ev.step (fun k=>by rw [impl_MetaOk.j2]) ?_
   by_cases h3:(g.f1.length:Int)=((lvs s s.length).length:Int)
   ·
    rw [decide_eq_true h3]
    refine Ev.neg (by simp [h3]) ?_
    have hn:=ih (i + 1) (acc + g.f0) (by omega) (by omega) (by omega)
    have hr:Ev (fun k=>impl_MetaOk.l0 k (wrap64 (acc + g.f0)) L (L.length:Int) (wrap64 ((i:Int) + 1)) s R L) (metaG L (lvs s s.length).length R d (i + 1) (acc + g.f0) && decide (0≤R∧R≤200)):=by
     rw [wrap64_id (x:=(i:Int) + 1) (by omega) (by omega),wrap64_id (x:=acc + g.f0) (by omega) (by omega)];simpa using hn
    have:=impl_chs_loop acc s R L L (L.length:Int) (i:Int) g.f0 g.f1 hg.1 hg.2 _ hr g.f1.length 0 (by omega)
    simpa [Bool.and_assoc] using this
   ·
    rw [decide_eq_false h3]
    exact Ev.pos (by simp [h3]) (Ev.now _)
  ·
   rw [decide_eq_false h2]
   refine Ev.neg (by decide) ?_
   exact Ev.step (fun k=>by rw [impl_MetaOk.j2]) (by exact Ev.pos rfl (Ev.now _))
theorem spec_MetaOk_ev (s:List S84)(hs:ColsOk s)(R:Int)(L:List S54)(hm:MetaShort L):Ev (fun k=>spec_MetaOk.f k s R L) (metaB s R L):=by
 have bad:metaB s R L=false→Ev (fun k=>spec_MetaOk.j0 k (leaves s) true s R L) (metaB s R L):=fun h=>by
  rw [h];exact Ev.step (fun k=>by rw [spec_MetaOk.j0]) (by exact Ev.pos rfl (Ev.now _))
 unfold spec_MetaOk.f
 refine Ev.bind (spec_SchemaLeaves_ev s hs) (Ev.bind (spec_SchemaOk_ev s hs) ?_)
 cases hk:schOk s with
 | false=>exact Ev.neg (by decide) (bad (by unfold metaB;rw [hk];rfl))
 | true =>
  refine Ev.pos rfl ?_
  by_cases hL:(L.length:Int) > 40
  ·
   exact Ev.pos hL (bad (by unfold metaB;rw [decide_eq_false (show ¬ (L.length:Int)≤40 by omega)];simp))
  ·
   refine Ev.neg hL (Ev.here (l1In_some _ _ _) ?_)
   by_cases hR:0≤R∧R≤200
   ·
    rw [decide_eq_true hR]
    refine Ev.step (fun k=>by rw [spec_MetaOk.j0]) ?_
    refine Ev.neg (by decide) ?_
    have:=spec_meta_loop (leaves s) s R L hm (by omega) L.length 0 0 (by omega) (by omega) (by omega)
    refine Ev.cast this ?_
    unfold metaB;rw [hk,decide_eq_true hR,decide_eq_true (show (L.length:Int)≤40 by omega)];rfl
   ·
    rw [decide_eq_false hR]
    exact bad (by unfold metaB;rw [decide_eq_false hR];simp)
theorem impl_MetaOk_ev (s:List S84)(hs:ColsOk s)(R:Int)(L:List S54)(hm:MetaShort L):Ev (fun k=>impl_MetaOk.f k s R L) (metaB s R L):=by
 have bad:∀ b,b=true→metaB s R L=false→Ev (fun k=>impl_MetaOk.j0 k b s R L) (metaB s R L):=fun b hb h=>by
  rw [h,hb];exact Ev.step (fun k=>by rw [impl_MetaOk.j0]) (by exact Ev.pos rfl (Ev.now _))
 unfold impl_MetaOk.f
 refine Ev.bind (impl_SchemaOk_ev s hs) ?_
 cases hk:schOk s with
 | false=>exact Ev.neg (by decide) (bad _ rfl (by unfold metaB;rw [hk];rfl))
 | true =>
  refine Ev.pos rfl ?_
  by_cases hL:(L.length:Int) > 40
  ·
   exact bad _ (decide_eq_true hL) (by unfold metaB;rw [decide_eq_false (show ¬ (L.length:Int)≤40 by omega)];simp)
  ·
   rw [decide_eq_false hL]
   refine Ev.step (fun k=>by rw [impl_MetaOk.j0]) ?_
   refine Ev.neg (by decide) ?_
   have:=impl_meta_loop s hs R L hm (by omega) L.length 0 0 (by omega) (by omega) (by omega)
   refine Ev.cast this ?_
   have hlv:leaves s=lvs s s.length:=by unfold leaves;rw [if_pos hk]
   unfold metaB;rw [hk,decide_eq_true (show (L.length:Int)≤40 by omega),hlv,Bool.and_comm];rfl
theorem flat_snoc_ {α β:Type}(g:α→List β)(T:List α)(i:Nat)(h:i < T.length):(T.take (i + 1)).flatMap g=(T.take i).flatMap g ++ g T[i]:=by
 rw [List.take_succ_eq_append_getElem h,List.flatMap_append];congr 1;simp
theorem flat_le_ {α β:Type}(g:α→List β)(c:Nat)(T:List α)(hc:∀ x ∈ T,(g x).length≤c):(T.flatMap g).length≤c * T.length:=by
 induction T with
 | nil=>simp
 | cons s T ih =>
  have h1:=ih (fun x hx=>hc x (List.mem_cons_of_mem _ hx))
  have h2:=hc s (List.mem_cons_self)
  rw [List.flatMap_cons,List.length_append,List.length_cons,Nat.mul_add]
  omega
theorem flat_loop {α β γ:Type}(L:Nat→List β→Int→Option γ)(g:α→List β)(c:Nat)(T:List α)(hc:∀ x ∈ T,(g x).length≤c)(r:γ)(s0:List β)
  (hL:∀ (i:Nat) (s:List β) (h:i < T.length),s.length≤s0.length + c * i→(g T[i]).length≤c→Ev (fun k=>L k (s ++ g T[i]) (i + 1:Nat)) r→Ev (fun k=>L k s (i:Int)) r)
  (h:Ev (fun k=>L k (s0 ++ T.flatMap g) (T.length:Int)) r):Ev (fun k=>L k s0 0) r:=by
 have key:∀ (d i:Nat),i + d=T.length→Ev (fun k=>L k (s0 ++ (T.take i).flatMap g) (i:Int)) r:=by
  intro d
  induction d with
  | zero =>
   intro i hi
   obtain rfl:i=T.length:=by omega
   rw [List.take_length];exact h
  | succ d ih =>
   intro i hi
   have h1:=ih (i + 1) (by omega)
   rw [flat_snoc_ g T i (by omega),← List.append_assoc] at h1
   refine hL i _ (by omega) ?_ (hc _ (List.getElem_mem _)) h1
   have h2:=flat_le_ g c (T.take i) (fun s hs=>hc s (List.mem_of_mem_take hs))
   rw [List.length_take] at h2
   have e:min i T.length=i:=by omega
   rw [e] at h2
   rw [List.length_append];omega
 have:=key T.length 0 (by omega)
 simpa using this
theorem structNode_ev (id:Int)(c:Nat)(P:List (List S49))(hn:P.length≤1048576)(hc:∀ x ∈ P,x.length≤c)(hcp:c * P.length≤1000000000) :
  Ev (fun k=>impl_structNode.f k id P) ([(⟨12,id,0,(⟨#[]⟩:ByteArray),(P.length:Int)⟩:S49)] ++ P.flatMap _root_.id):=by
 unfold impl_structNode.f
 refine flat_loop (fun k s i=>impl_structNode.l0 k s P (P.length:Int) i) _root_.id c P hc _ _ (fun i s hi hs hsz hr=>?_) ?_
 ·
  have e:rd_L15 P (i:Int)=P[i]:=getD_eq (by simpa using hi)
  have h1:c * i≤c * P.length:=Nat.mul_le_mul_left _ (by omega)
  refine Ev.step (fun k=>by rw [impl_structNode.l0]) ?_
  rw [wrap64_id (x:=(i:Int) + 1) (by omega) (by omega),e]
  simp only [_root_.id] at hr hsz
  have hs2:s.length≤1 + c * i:=hs
  have hcc:P[i].length≤c * P.length:=Nat.le_trans hsz (Nat.le_mul_of_pos_right _ (by omega))
  exact Ev.pos (by omega) (Ev.pos (by omega) (Ev.pos (by omega) (Ev.pos (by omega) (by simpa using hr))))
 ·
  refine Ev.step (fun k=>by rw [impl_structNode.l0]) ?_
  exact Ev.neg (by omega) (Ev.now _)
theorem listNode_ev (id kind:Int)(c:Nat)(P:List (List S49))(hn:P.length≤1048576)(hc:∀ x ∈ P,x.length≤c)(hcp:c * P.length≤1000000000) :
  Ev (fun k=>impl_listNode.f k id kind P) ([(⟨9,id,if P.length=0 then 0 else kind,(⟨#[]⟩:ByteArray),(P.length:Int)⟩:S49)] ++ P.flatMap _root_.id):=by
 have key:∀ kd:Int,Ev (fun k=>impl_listNode.j0 k P [(⟨9,id,kd,(⟨#[]⟩:ByteArray),(P.length:Int)⟩:S49)]) ([(⟨9,id,kd,(⟨#[]⟩:ByteArray),(P.length:Int)⟩:S49)] ++ P.flatMap _root_.id):=by
  intro kd
  refine Ev.step (fun k=>by rw [impl_listNode.j0]) ?_
  refine flat_loop (fun k s i=>impl_listNode.l0 k s P (P.length:Int) i) _root_.id c P hc _ _ (fun i s hi hs hsz hr=>?_) ?_
  ·
   have e:rd_L15 P (i:Int)=P[i]:=getD_eq (by simpa using hi)
   have h1:c * i≤c * P.length:=Nat.mul_le_mul_left _ (by omega)
   refine Ev.step (fun k=>by rw [impl_listNode.l0]) ?_
   rw [wrap64_id (x:=(i:Int) + 1) (by omega) (by omega),e]
   simp only [_root_.id] at hr hsz
   have hs2:s.length≤1 + c * i:=hs
   have hcc:P[i].length≤c * P.length:=Nat.le_trans hsz (Nat.le_mul_of_pos_right _ (by omega))
   exact Ev.pos (by omega) (Ev.pos (by omega) (Ev.pos (by omega) (Ev.pos (by omega) (by simpa using hr))))
  ·
   refine Ev.step (fun k=>by rw [impl_listNode.l0]) ?_
   exact Ev.neg (by omega) (Ev.now _)
 unfold impl_listNode.f
 refine Ev.here rfl ?_
 by_cases h0:P.length=0
 ·
  rw [if_pos h0]
  exact Ev.pos (by omega) (Ev.pos (by simp) (key 0))
 ·
  rw [if_neg h0]
  exact Ev.neg (by omega) (key kind)
theorem impl_wayTo_ev (s:List S84)(hs:ColsOk s)(i:Int)(h0:0≤i)(h1:i < (leaves s).length):Ev (fun k=>impl_wayTo.f k s i) (wayF s (rd (leaves s) i) (rd (leaves s) i).toNat):=by
 have hll:=leaves_length s
 have hl:=hs.1
 obtain⟨pos,hp,hps,hp0,hk⟩:=leaf_pos h0 h1
 rw [hp]
 unfold impl_wayTo.f
 refine Ev.bind (impl_SchemaLeaves_ev s hs) (Ev.here (within_some _ _ _) ?_)
 rw [wrap64_id (by omega) (by omega)]
 refine Ev.pos (by simp;omega) ?_
 have:=impl_wayTo_loop s hs hk (leaves s) i h0 h1 pos hp hps pos pos 1 [] (by omega) (by omega) (by omega) (by simp)
 simpa using this
def pathR (s:List S84)(i:Int):List ByteArray:=(wayF s (rd (leaves s) i) (rd (leaves s) i).toNat).map fun q=>(rd_T84 s q).f0
theorem pathR_length {s:List S84}{i:Int}(h0:0≤i)(h1:i < (leaves s).length):(pathR s i).length≤20∧(pathR s i).length≠0:=by
 obtain⟨pos,hp,hps,hp0,hk⟩:=leaf_pos h0 h1
 obtain⟨_,hl20,_,_⟩:=schOk_parts hk
 obtain⟨_,w2⟩:=wayF_pos s hk pos hps hp0
 have hlen:=wayF_length s pos pos
 unfold pathR
 rw [hp,List.length_map]
 refine⟨by simp only [Int.toNat_natCast];omega,fun e=>?_⟩
 rw [Int.toNat_natCast] at e
 exact w2 (List.length_eq_zero_iff.1 e)
theorem path_drop (s:List S84)(ws:List Int)(i:Nat)(h:i < ws.length):(ws.drop i).map (fun q=>(rd_T84 s q).f0)=(rd_T84 s ws[i]).f0 :: (ws.drop (i + 1)).map (fun q=>(rd_T84 s q).f0):=by
 rw [List.drop_eq_getElem_cons h];rfl
theorem impl_path_loop (s:List S84)(ws:List Int)(hw:∀ x ∈ ws,0≤x∧x < s.length)(hl:ws.length≤1048576):∀ (d i:Nat) (out:List ByteArray),i + d=ws.length→out.length≤i→Ev (fun k=>impl_LeafPath.l0 k s out ws (ws.length:Int) (i:Int)) (out ++ (ws.drop i).map fun q=>(rd_T84 s q).f0):=by
 intro d
 induction d with
 | zero =>
  intro i out hi ho
  rw [List.drop_eq_nil_of_le (by omega)]
  exact Ev.step (fun k=>by rw [impl_LeafPath.l0]) (by exact Ev.neg (by omega) (Ev.const (by simp)))
 | succ d ih =>
  intro i out hi ho
  have hil:i < ws.length:=by omega
  have e:rd ws (i:Int)=ws[i]:=rd_eq (by simpa using hil)
  have hm:=hw ws[i] (List.getElem_mem _)
  have:=ih (i + 1) (out ++ [(rd_T84 s ws[i]).f0]) (by omega) (by simp;omega)
  rw [List.append_assoc,List.singleton_append,← path_drop s ws i hil] at this
  refine Ev.step (fun k=>by rw [impl_LeafPath.l0]) ?_
  rw [e,wrap64_id (x:=(i:Int) + 1) (by omega) (by omega)]
  exact Ev.pos (by omega) (Ev.pos (by omega) (Ev.pos (by omega) (Ev.pos hm.1 (Ev.pos hm.2 (Ev.pos (by omega) this)))))
theorem spec_path_loop (s:List S84)(ws:List Int)(hw:∀ x ∈ ws,0≤x∧x < s.length)(hl:ws.length≤1048576):∀ (d i:Nat) (out:List ByteArray),i + d=ws.length→out.length≤i→Ev (fun k=>spec_LeafPath.l0 k s out ws (i:Int)) (out ++ (ws.drop i).map fun q=>(rd_T84 s q).f0):=by
 intro d
 induction d with
 | zero =>
  intro i out hi ho
  rw [List.drop_eq_nil_of_le (by omega)]
  exact Ev.step (fun k=>by rw [spec_LeafPath.l0]) (by exact Ev.neg (by omega) (Ev.const (by simp)))
 | succ d ih =>
  intro i out hi ho
  have hil:i < ws.length:=by omega
  have e:rd ws (i:Int)=ws[i]:=rd_eq (by simpa using hil)
  have hm:=hw ws[i] (List.getElem_mem _)
  have:=ih (i + 1) (out ++ [(rd_T84 s ws[i]).f0]) (by omega) (by simp;omega)
  rw [List.append_assoc,List.singleton_append,← path_drop s ws i hil] at this
  refine Ev.step (fun k=>by rw [spec_LeafPath.l0]) ?_
  rw [e,wrap64_id (x:=(i:Int) + 1) (by omega) (by omega)]
  exact Ev.pos (by omega) (Ev.pos (by omega) (Ev.pos hm.1 (Ev.pos hm.2 (Ev.pos (by omega) this))))
theorem impl_LeafPath_ev (s:List S84)(hs:ColsOk s)(i:Int)(h0:0≤i)(h1:i < (leaves s).length):Ev (fun k=>impl_LeafPath.f k s i) (pathR s i):=by
 obtain⟨pos,hp,hps,hp0,hk⟩:=leaf_pos h0 h1
 obtain⟨_,hl20,_,_⟩:=schOk_parts hk
 have hlen:=wayF_length s pos pos
 unfold impl_LeafPath.f
 refine Ev.bind (impl_wayTo_ev s hs i h0 h1) ?_
 unfold pathR
 rw [hp,Int.toNat_natCast]
 have:=impl_path_loop s (wayF s pos pos) (fun x hx=>by have:=wayF_mem s pos pos x hx;omega) (by omega) (wayF s pos pos).length 0 [] (by omega) (by simp)
 simpa using this
theorem spec_LeafPath_ev (s:List S84)(hs:ColsOk s)(i:Int)(h0:0≤i)(h1:i < (leaves s).length):Ev (fun k=>spec_LeafPath.f k s i) (pathR s i):=by
 obtain⟨pos,hp,hps,hp0,hk⟩:=leaf_pos h0 h1
 obtain⟨_,hl20,_,_⟩:=schOk_parts hk
 have hll:=leaves_length s
 have hlen:=wayF_length s pos pos
 obtain⟨w1,_⟩:=wayF_pos s hk pos hps hp0
 unfold spec_LeafPath.f
 refine Ev.here rfl (Ev.bind (spec_SchemaLeaves_ev s hs) (Ev.here (l1In_some _ _ _) ?_))
 rw [wrap64_id (by omega) (by omega)]
 unfold pathR
 rw [hp,Int.toNat_natCast]
 refine Ev.pos (by simp;omega) (Ev.pos h0 (Ev.pos h1 (Ev.bind (spec_l5Way_ev s hs hk pos hps) ?_)))
 rw [w1]
 have:=spec_path_loop s (0 :: wayF s pos pos) (fun x hx=>by
  rcases List.mem_cons.1 hx with rfl | h
  ·
   omega
  ·
   have:=wayF_mem s pos pos x h;omega) (by simp;omega) (wayF s pos pos).length 1 [] (by simp;omega) (by simp)
 simpa using this
theorem lvs_pos {s:List S84}(h:schOk s=true):1≤(lvs s s.length).length:=by
 obtain⟨h2,h20,_,_⟩:=schOk_parts h
 have hq:=en_ok h ((s.length:Int) - 1) (by omega) (by omega)
 have h7:(rd_T84 s ((s.length:Int) - 1)).f1≠7:=by
  intro e7
  apply hq.1
  unfold en
  rw [chk,if_neg (by omega)]
  split
  ·
   rename_i hc
   unfold colB at hc
   rw [if_pos e7] at hc
   simp only [Bool.and_eq_true,decide_eq_true_eq] at hc
   have h3:=hc.1.1
   obtain⟨n,hn⟩:∃ n,(rd_T84 s ((s.length:Int) - 1)).f3.toNat=n + 1:=⟨(rd_T84 s ((s.length:Int) - 1)).f3.toNat - 1,by omega⟩
   rw [hn,parts,if_pos (by omega)]
  ·
   rfl
 obtain⟨n,hn⟩:∃ n,s.length=n + 1:=⟨s.length - 1,by omega⟩
 unfold lvs
 rw [hn,List.range_succ,List.foldl_append]
 simp only [List.foldl_cons,List.foldl_nil]
 unfold lvStep
 have e:(s.length:Int) - 1=(n:Int):=by omega
 rw [e] at h7
 rw [if_neg h7]
 simp
def colN (s:List S84)(i:Nat):List S49 :=
 [(⟨12,0,0,(⟨#[]⟩:ByteArray),if i=0 then 2 else 3⟩:S49)] ++ (if (rd_T84 s (i:Int)).f1=7 then [] else [⟨5,1,(rd_T84 s (i:Int)).f1,(⟨#[]⟩:ByteArray),0⟩]) ++ (if i=0 then [] else [⟨5,3,(rd_T84 s (i:Int)).f2,(⟨#[]⟩:ByteArray),0⟩])
  ++ [⟨8,4,0,(rd_T84 s (i:Int)).f0,0⟩] ++ (if (rd_T84 s (i:Int)).f1=7 then [⟨5,5,(rd_T84 s (i:Int)).f3,(⟨#[]⟩:ByteArray),0⟩] else [])
theorem colN_len (s:List S84)(i:Nat):(colN s i).length≤5:=by
 unfold colN
 generalize rd_T84 s (i:Int)=x
 by_cases h7:x.f1=7 <;> by_cases h0:i=0 <;> simp [h7,h0]
def schN (s:List S84):List S49:=[(⟨9,2,12,(⟨#[]⟩:ByteArray),(s.length:Int)⟩:S49)] ++ (List.range s.length).flatMap (colN s)
theorem set_mid {α:Type}(out:List α)(a b:α)(rest:List α):(out ++ a :: rest).set out.length b=out ++ b :: rest:=by
 rw [List.set_append_right _ _ (Nat.le_refl _)];simp
theorem rd_mid (out rest:List S49)(a:S49):rd_T49 (out ++ a :: rest) (out.length:Int)=a:=by
 show (out ++ a :: rest).getD out.length _=a
 rw [getD_eq (by simp)];simp
theorem wrap_len {α:Type}(out rest:List α)(n:Nat)(h:rest.length=n + 1)(hn:n≤100):wrap64 (wrap64 (((out ++ rest).length:Int) - (out.length:Int)) - 1)=(n:Int):=by
 have e:(((out ++ rest).length:Int) - (out.length:Int))=(n:Int) + 1:=by rw [List.length_append];omega
 rw [e,wrap64_id (x:=(n:Int) + 1) (by omega) (by omega),wrap64_id (by omega) (by omega)];omega
theorem spec_l5Nodes_ev (s:List S84)(hs:s.length≤20):Ev (fun k=>spec_l5Nodes.f k s 2) (schN s):=by
 unfold spec_l5Nodes.f schN
 refine flat_loop (fun k out i=>spec_l5Nodes.l0 k s out i) (colN s) 5 (List.range s.length) (fun x _=>colN_len s x) _ _ (fun i out hi ho hg hr=>?_) ?_
 ·
  rw [List.length_range] at hi
  have e:(List.range s.length)[i]'(by simpa using hi)=i:=by simp
  rw [e] at hr
  have ho':out.length≤1 + 5 * i:=by simpa using ho
  refine Ev.step (fun k=>by rw [spec_l5Nodes.l0]) ?_
  refine Ev.pos (by omega) (Ev.pos (by omega) (Ev.pos (by omega) (Ev.here rfl ?_)))
  have w1:wrap64 ((i:Int) + 1)=((i + 1:Nat):Int):=by rw [wrap64_id (by omega) (by omega)];push_cast;rfl
  have ec:=colN.eq_1 s i
  by_cases h7:(rd_T84 s (i:Int)).f1=7
  ·
   rw [if_pos h7,if_pos h7] at ec
   refine Ev.pos h7 (Ev.step (fun k=>by rw [spec_l5Nodes.j1]) ?_)
   by_cases h0:i=0
   ·
    rw [if_pos h0,if_pos h0] at ec;rw [ec] at hr
    refine Ev.neg (by omega) (Ev.pos (by simp;omega) (Ev.here rfl (Ev.pos h7 (Ev.pos (by simp;omega) (Ev.here rfl (Ev.pos (by omega) (Ev.pos (by simp;omega) ?_)))))))
    simp only [List.append_assoc,List.cons_append,List.nil_append] at hr ⊢
    rw [rd_mid,Int.toNat_natCast,set_mid,w1,wrap_len _ _ 2 rfl (by omega)]
    exact hr
   ·
    rw [if_neg h0,if_neg h0] at ec;rw [ec] at hr
    refine Ev.pos (by omega) (Ev.pos (by simp;omega) (Ev.here rfl (Ev.pos (by simp;omega) (Ev.here rfl (Ev.pos h7 (Ev.pos (by simp;omega) (Ev.here rfl (Ev.pos (by omega) (Ev.pos (by simp;omega) ?_)))))))))
    simp only [List.append_assoc,List.cons_append,List.nil_append] at hr ⊢
    rw [rd_mid,Int.toNat_natCast,set_mid,w1,wrap_len _ _ 3 rfl (by omega)]
    exact hr
  ·
   rw [if_neg h7,if_neg h7] at ec
   refine Ev.neg h7 (Ev.pos (by simp;omega) (Ev.step (fun k=>by rw [spec_l5Nodes.j1]) ?_))
   by_cases h0:i=0
   ·
    rw [if_pos h0,if_pos h0] at ec;rw [ec] at hr
    refine Ev.neg (by omega) (Ev.pos (by simp;omega) (Ev.here rfl (Ev.neg h7 (Ev.pos (by omega) (Ev.pos (by simp;omega) ?_)))))
    simp only [List.append_assoc,List.cons_append,List.nil_append] at hr ⊢
    rw [rd_mid,Int.toNat_natCast,set_mid,w1,wrap_len _ _ 2 rfl (by omega)]
    exact hr
   ·
    rw [if_neg h0,if_neg h0] at ec;rw [ec] at hr
    refine Ev.pos (by omega) (Ev.pos (by simp;omega) (Ev.here rfl (Ev.pos (by simp;omega) (Ev.here rfl (Ev.neg h7 (Ev.pos (by omega) (Ev.pos (by simp;omega) ?_)))))))
    simp only [List.append_assoc,List.cons_append,List.nil_append] at hr ⊢
    rw [rd_mid,Int.toNat_natCast,set_mid,w1,wrap_len _ _ 3 rfl (by omega)]
    exact hr
 ·
  refine Ev.step (fun k=>by rw [spec_l5Nodes.l0]) ?_
  exact Ev.neg (by simp) (Ev.const (by simp))
theorem impl_schemaNodes_ev (s:List S84)(hs:s.length≤20)(hne:s.length≠0):Ev (fun k=>impl_schemaNodes.f k s) (schN s):=by
 unfold impl_schemaNodes.f
 refine append_loop (fun k out i=>impl_schemaNodes.l0 k out s (s.length:Int) i) (colN s) s.length _ (fun i out hi ho hr=>?_) ?_
 ·
  have w1:wrap64 ((i:Int) + 1)=((i + 1:Nat):Int):=by rw [wrap64_id (by omega) (by omega)];push_cast;rfl
  have sn:∀ P:List (List S49),P.length≤3→(∀ x ∈ P,x.length≤1)→∀ R,[(⟨12,0,0,(⟨#[]⟩:ByteArray),(P.length:Int)⟩:S49)] ++ P.flatMap _root_.id=R→Ev (fun k=>impl_structNode.f k 0 P) R:=by
   intro P hP hx R e
   exact e ▸ structNode_ev 0 1 P (by omega) hx (by omega)
  refine Ev.step (fun k=>by rw [impl_schemaNodes.l0]) ?_
  refine Ev.pos (by omega) (Ev.pos (by omega) (Ev.pos (by omega) (Ev.here rfl ?_)))
  by_cases h7:(rd_T84 s (i:Int)).f1=7
  ·
   refine Ev.pos h7 (Ev.step (fun k=>by rw [impl_schemaNodes.j1]) ?_)
   by_cases h0:i=0
   ·
    refine Ev.neg (by omega) (Ev.step (fun k=>by rw [impl_schemaNodes.j2]) ?_)
    refine Ev.here rfl (Ev.pos (by simp) (Ev.here rfl (Ev.pos h7 (Ev.here rfl (Ev.pos (by simp) (Ev.bind (sn _ (by simp) (by simp) (colN s i) ?_) (Ev.pos (by omega) (by rw [w1];exact hr))))))))
    unfold colN;rw [if_pos h7,if_pos h0,if_pos h7,if_pos h0];rfl
   ·
    refine Ev.pos (by omega) (Ev.here rfl (Ev.pos (by simp) (Ev.step (fun k=>by rw [impl_schemaNodes.j2]) ?_)))
    refine Ev.here rfl (Ev.pos (by simp) (Ev.here rfl (Ev.pos h7 (Ev.here rfl (Ev.pos (by simp) (Ev.bind (sn _ (by simp) (by simp) (colN s i) ?_) (Ev.pos (by omega) (by rw [w1];exact hr))))))))
    unfold colN;rw [if_pos h7,if_neg h0,if_pos h7,if_neg h0];rfl
  ·
   refine Ev.neg h7 (Ev.here rfl (Ev.pos (by simp) (Ev.step (fun k=>by rw [impl_schemaNodes.j1]) ?_)))
   by_cases h0:i=0
   ·
    refine Ev.neg (by omega) (Ev.step (fun k=>by rw [impl_schemaNodes.j2]) ?_)
    refine Ev.here rfl (Ev.pos (by simp) (Ev.here rfl (Ev.neg h7 (Ev.bind (sn _ (by simp) (by simp) (colN s i) ?_) (Ev.pos (by omega) (by rw [w1];exact hr))))))
    unfold colN;rw [if_neg h7,if_pos h0,if_neg h7,if_pos h0];rfl
   ·
    refine Ev.pos (by omega) (Ev.here rfl (Ev.pos (by simp) (Ev.step (fun k=>by rw [impl_schemaNodes.j2]) ?_)))
    refine Ev.here rfl (Ev.pos (by simp) (Ev.here rfl (Ev.neg h7 (Ev.bind (sn _ (by simp) (by simp) (colN s i) ?_) (Ev.pos (by omega) (by rw [w1];exact hr))))))
    unfold colN;rw [if_neg h7,if_neg h0,if_neg h7,if_neg h0];rfl
 ·
  refine Ev.step (fun k=>by rw [impl_schemaNodes.l0]) ?_
  have:=listNode_ev 2 12 5 ((List.range s.length).map (colN s)) (by simp;omega) (fun x hx=>by obtain⟨i,_,rfl⟩:=List.mem_map.1 hx;exact colN_len s i) (by simp;omega)
  rw [List.length_map,List.length_range,if_neg hne] at this
  refine Ev.neg (by omega) (Ev.bind (Ev.cast this ?_) (Ev.now _))
  unfold schN
  rw [List.flatMap_map];rfl
theorem flatMap_single_ {α β:Type}(f:α→β)(T:List α):T.flatMap (fun a=>[f a])=T.map f:=by
 induction T with
 | nil=>rfl
 | cons a T ih=>rw [List.flatMap_cons,ih];rfl
theorem map_loop {α β γ:Type}(L:Nat→List β→Int→Option γ)(f:α→β)(T:List α)(r:γ)(s0:List β)
  (hL:∀ (i:Nat) (s:List β) (h:i < T.length),s.length≤s0.length + i→Ev (fun k=>L k (s ++ [f T[i]]) (i + 1:Nat)) r→Ev (fun k=>L k s (i:Int)) r)
  (h:Ev (fun k=>L k (s0 ++ T.map f) (T.length:Int)) r):Ev (fun k=>L k s0 0) r :=
 flat_loop L (fun a=>[f a]) 1 T (fun _ _=>Nat.le_refl _) r s0 (fun i s hi hs _ hr=>hL i s hi (by omega) hr) (by rw [flatMap_single_];exact h)
theorem flat2_loop {α β γ:Type}(L:Nat→List β→Int→Int→Option γ)(g:α→List β)(f:Int→α→Int)(c:Nat)(T:List α)(hc:∀ x ∈ T,(g x).length≤c)(r:γ)(s0:List β)(a0:Int)
  (hL:∀ (i:Nat) (s:List β) (a:Int) (h:i < T.length),s.length≤s0.length + c * i→(g T[i]).length≤c→Ev (fun k=>L k (s ++ g T[i]) (f a T[i]) (i + 1:Nat)) r→Ev (fun k=>L k s a (i:Int)) r)
  (h:Ev (fun k=>L k (s0 ++ T.flatMap g) (T.foldl f a0) (T.length:Int)) r):Ev (fun k=>L k s0 a0 0) r:=by
 have key:∀ (d i:Nat),i + d=T.length→Ev (fun k=>L k (s0 ++ (T.take i).flatMap g) ((T.take i).foldl f a0) (i:Int)) r:=by
  intro d
  induction d with
  | zero =>
   intro i hi
   obtain rfl:i=T.length:=by omega
   rw [List.take_length];exact h
  | succ d ih =>
   intro i hi
   have hil:i < T.length:=by omega
   have h1:=ih (i + 1) (by omega)
   rw [flat_snoc_ g T i hil,← List.append_assoc,List.take_succ_eq_append_getElem hil,List.foldl_append] at h1
   refine hL i _ _ hil ?_ (hc _ (List.getElem_mem _)) h1
   have h2:=flat_le_ g c (T.take i) (fun s hs=>hc s (List.mem_of_mem_take hs))
   rw [List.length_take] at h2
   have e:min i T.length=i:=by omega
   rw [e] at h2
   rw [List.length_append];omega
 have:=key T.length 0 (by omega)
 simpa using this
def chN (s:List S84)(x:S58):List S49 :=
 [(⟨12,0,0,(⟨#[]⟩:ByteArray),2⟩:S49),⟨6,2,x.f1,(⟨#[]⟩:ByteArray),0⟩,⟨12,3,0,(⟨#[]⟩:ByteArray),if x.f2=-1 then 8 else 9⟩,⟨5,1,(rd_T84 s (rd (leaves s) x.f0)).f1,(⟨#[]⟩:ByteArray),0⟩,⟨9,2,5,(⟨#[]⟩:ByteArray),(x.f5.length:Int)⟩]
  ++ ((x.f5.map fun v=>(⟨5,0,v,(⟨#[]⟩:ByteArray),0⟩:S49)) ++ ((⟨9,3,8,(⟨#[]⟩:ByteArray),((pathR s x.f0).length:Int)⟩:S49) :: (((pathR s x.f0).map fun t=>(⟨8,0,0,t,0⟩:S49))
  ++ ([(⟨5,4,0,(⟨#[]⟩:ByteArray),0⟩:S49),⟨6,5,x.f3,(⟨#[]⟩:ByteArray),0⟩,⟨6,6,x.f4,(⟨#[]⟩:ByteArray),0⟩,⟨6,7,x.f4,(⟨#[]⟩:ByteArray),0⟩,⟨6,9,x.f1,(⟨#[]⟩:ByteArray),0⟩] ++ if x.f2=-1 then [] else [(⟨6,11,x.f2,(⟨#[]⟩:ByteArray),0⟩:S49)]))))
def ChOk (s:List S84)(x:S58):Prop:=0≤x.f0∧x.f0 < (leaves s).length∧-1≤x.f2∧x.f5.length≠0∧x.f5.length≤5
theorem chN_len {s:List S84}{x:S58}(h:ChOk s x):(chN s x).length≤40:=by
 obtain⟨h0,h1,h2,h3,h4⟩:=h
 have:=(pathR_length h0 h1).1
 unfold chN
 by_cases hd:x.f2=-1
 ·
  rw [if_pos hd,if_pos hd];simp;omega
 ·
  rw [if_neg hd,if_neg hd];simp;omega
theorem spec_l18Nodes_ev (s:List S84)(hs:ColsOk s)(x:S58)(h:ChOk s x):Ev (fun k=>spec_l18Nodes.f k s x.f0 x.f1 x.f2 x.f3 x.f4 x.f5) (chN s x):=by
 obtain⟨h0,h1,h2,h3,h4⟩:=h
 obtain⟨hp,hp0⟩:=pathR_length h0 h1
 obtain⟨pos,hpos,hps,hpp,hk⟩:=leaf_pos h0 h1
 have hlv:leaves s=lvs s s.length:=by unfold leaves;rw [if_pos hk]
 unfold spec_l18Nodes.f
 refine Ev.bind (spec_LeafPath_ev s hs x.f0 h0 h1) (Ev.here rfl (Ev.here rfl (Ev.bind (spec_l5Leaves_ev s hs.1) ?_)))
 rw [← hlv]
 refine Ev.pos h0 (Ev.pos h1 (Ev.pos (by omega) (Ev.pos (by omega) (Ev.here rfl (Ev.here rfl (Ev.pos (by simp) ?_))))))
 unfold chN
 generalize pathR s x.f0=p at *
 refine map_loop (fun k out i=>spec_l18Nodes.l0 k p out i x.f0 x.f1 x.f2 x.f3 x.f4 x.f5) (fun v=>(⟨5,0,v,(⟨#[]⟩:ByteArray),0⟩:S49)) x.f5 _ _ (fun i out hi ho hr=>?_) ?_
 ·
  have e:rd x.f5 (i:Int)=x.f5[i]:=rd_eq (by simpa using hi)
  simp only [List.length_append,List.length_cons,List.length_nil] at ho
  refine Ev.step (fun k=>by rw [spec_l18Nodes.l0]) ?_
  rw [e,wrap64_id (x:=(i:Int) + 1) (by omega) (by omega)]
  exact Ev.pos (by omega) (Ev.pos (by omega) (Ev.here rfl (Ev.pos (by omega) hr)))
 refine Ev.step (fun k=>by rw [spec_l18Nodes.l0]) ?_
 refine Ev.neg (by omega) (Ev.pos (by simp;omega) ?_)
 refine map_loop (fun k out i=>spec_l18Nodes.l1 k p out i x.f0 x.f1 x.f2 x.f3 x.f4 x.f5) (fun t=>(⟨8,0,0,t,0⟩:S49)) p _ _ (fun i out hi ho hr=>?_) ?_
 ·
  have e:rdOf ByteArray.empty p (i:Int)=p[i]:=rdOf_eq (by simpa using hi)
  simp only [List.length_append,List.length_cons,List.length_nil,List.length_map] at ho
  refine Ev.step (fun k=>by rw [spec_l18Nodes.l1]) ?_
  rw [e,wrap64_id (x:=(i:Int) + 1) (by omega) (by omega)]
  exact Ev.pos (by omega) (Ev.pos (by omega) (Ev.pos (by omega) hr))
 refine Ev.step (fun k=>by rw [spec_l18Nodes.l1]) ?_
 refine Ev.neg (by omega) (Ev.here rfl (Ev.here rfl (Ev.here rfl (Ev.here rfl (Ev.here rfl (Ev.here rfl (Ev.pos (by simp;omega) (Ev.here rfl ?_))))))))
 by_cases hd:x.f2=-1
 ·
  rw [if_pos hd,if_pos hd]
  refine Ev.neg (by omega) (Ev.const ?_)
  simp
 ·
  rw [if_neg hd,if_neg hd]
  refine Ev.pos (by omega) (Ev.pos (by simp;omega) (Ev.here rfl (Ev.here rfl (Ev.pos (by simp;omega) (Ev.const ?_)))))
  rw [show (2:Int).toNat=2 from rfl]
  simp only [List.append_assoc,List.cons_append,List.nil_append,List.set_cons_succ,List.set_cons_zero]
  rfl
theorem impl_chunkNodes_ev (s:List S84)(hs:ColsOk s)(x:S58)(h:ChOk s x)(hx:x.f0≤9223372036854775807):Ev (fun k=>impl_chunkNodes.f k s x.f0 x.f1 x.f2 x.f3 x.f4 x.f5) (chN s x):=by
 obtain⟨h0,h1,h2,h3,h4⟩:=h
 obtain⟨hp,hp0⟩:=pathR_length h0 h1
 have hlf:=impl_LeafOf_ev s hs x.f0 (by omega) hx
 unfold leafR at hlf
 rw [if_pos ⟨h0,h1⟩] at hlf
 have hpa:=impl_LeafPath_ev s hs x.f0 h0 h1
 unfold impl_chunkNodes.f chN
 generalize pathR s x.f0=p at *
 refine map_loop (fun k out i=>impl_chunkNodes.l0 k s out x.f5 (x.f5.length:Int) i x.f0 x.f1 x.f2 x.f3 x.f4 x.f5) (fun v=>[(⟨5,0,v,(⟨#[]⟩:ByteArray),0⟩:S49)]) x.f5 _ _ (fun i out hi ho hr=>?_) ?_
 ·
  have e:rd x.f5 (i:Int)=x.f5[i]:=rd_eq (by simpa using hi)
  simp only [List.length_nil] at ho
  refine Ev.step (fun k=>by rw [impl_chunkNodes.l0]) ?_
  rw [e,wrap64_id (x:=(i:Int) + 1) (by omega) (by omega)]
  exact Ev.pos (by omega) (Ev.pos (by omega) (Ev.pos (by omega) (Ev.here rfl (Ev.pos (by omega) hr))))
 refine Ev.step (fun k=>by rw [impl_chunkNodes.l0]) ?_
 refine Ev.neg (by omega) (Ev.bind hpa ?_)
 rw [List.nil_append]
 have b1:=listNode_ev 2 5 1 (x.f5.map fun v=>[(⟨5,0,v,(⟨#[]⟩:ByteArray),0⟩:S49)]) (by simp;omega) (fun y hy=>by obtain⟨v,_,rfl⟩:=List.mem_map.1 hy;simp) (by simp;omega)
 have b2:=listNode_ev 3 8 1 (p.map fun t=>[(⟨8,0,0,t,0⟩:S49)]) (by simp;omega) (fun y hy=>by obtain⟨v,_,rfl⟩:=List.mem_map.1 hy;simp) (by simp;omega)
 rw [List.length_map,if_neg h3,List.flatMap_map] at b1
 rw [List.length_map,if_neg hp0,List.flatMap_map] at b2
 simp only [_root_.id,flatMap_single_] at b1 b2
 generalize (x.f5.map fun v=>[(⟨5,0,v,(⟨#[]⟩:ByteArray),0⟩:S49)])=P1 at *
 refine map_loop (fun k out i=>impl_chunkNodes.l1 k s P1 out p (p.length:Int) i x.f0 x.f1 x.f2 x.f3 x.f4 x.f5) (fun t=>[(⟨8,0,0,t,0⟩:S49)]) p _ _ (fun i out hi ho hr=>?_) ?_
 ·
  have e:rdOf ByteArray.empty p (i:Int)=p[i]:=rdOf_eq (by simpa using hi)
  simp only [List.length_nil] at ho
  refine Ev.step (fun k=>by rw [impl_chunkNodes.l1]) ?_
  rw [e,wrap64_id (x:=(i:Int) + 1) (by omega) (by omega)]
  exact Ev.pos (by omega) (Ev.pos (by omega) (Ev.pos (by omega) (Ev.here rfl (Ev.pos (by omega) hr))))
 rw [List.nil_append]
 generalize (p.map fun t=>[(⟨8,0,0,t,0⟩:S49)])=P2 at *
 refine Ev.step (fun k=>by rw [impl_chunkNodes.l1]) ?_
 refine Ev.neg (by omega) (Ev.bind hlf (Ev.here rfl (Ev.bind b1 (Ev.bind b2 (Ev.here rfl (Ev.here rfl (Ev.here rfl (Ev.here rfl (Ev.here rfl (Ev.here rfl ?_))))))))))
 have l1:(x.f5.map fun v=>(⟨5,0,v,(⟨#[]⟩:ByteArray),0⟩:S49)).length≤5:=by simp;omega
 have l2:(p.map fun t=>(⟨8,0,0,t,0⟩:S49)).length≤20:=by simp;omega
 generalize (x.f5.map fun v=>(⟨5,0,v,(⟨#[]⟩:ByteArray),0⟩:S49))=E1 at *
 generalize (p.map fun t=>(⟨8,0,0,t,0⟩:S49))=E2 at *
 by_cases hd:x.f2=-1
 ·
  rw [if_pos hd,if_pos hd]
  refine Ev.pos hd (Ev.here rfl (Ev.bind (structNode_ev 3 40 _ (by simp) (by simp;omega) (by simp)) (Ev.bind (structNode_ev 0 400 _ (by simp) (by simp;omega) (by simp)) (Ev.const ?_))))
  simp
 ·
  rw [if_neg hd,if_neg hd]
  refine Ev.neg hd (Ev.here rfl (Ev.pos (by simp) (Ev.here rfl (Ev.bind (structNode_ev 3 40 _ (by simp) (by simp;omega) (by simp)) (Ev.bind (structNode_ev 0 400 _ (by simp) (by simp;omega) (by simp)) (Ev.const ?_))))))
  simp
def itemB (t:Int):Bool:=decide (t=5∨t=6∨t=8∨t=9∨t=12)
def noT (s:ByteArray):Bool:=decide (s.toList=([]:List UInt8))
def plainB (n:S49):Bool :=
 if n.f0=1∨n.f0=2 then decide (n.f2=0) && (noT n.f3 && n.f4 == 0)
 else if n.f0=5 then decide (-2147483648≤n.f2∧n.f2≤2147483647) && (noT n.f3 && n.f4 == 0)
 else if n.f0=6 then noT n.f3 && n.f4 == 0
 else if n.f0=8 then decide (n.f2=0) && (decide ((n.f3.size:Int)≤300) && n.f4 == 0)
 else if n.f0=9 then noT n.f3 && (decide (n.f4 ≥ 0) && (if n.f4=0 then decide (n.f2=0) else itemB n.f2))
 else if n.f0=12 then decide (n.f2=0) && (noT n.f3 && decide (n.f4 ≥ 0)) else false
theorem isType_some (t:Int)(b:Bool):Ev (fun k=>impl_isType.f k t b) (if t=1∨t=2 then !b else itemB t):=by
 refine⟨1,fun k hk=>?_⟩
 obtain⟨m,rfl⟩:∃ m,k=m + 1:=⟨k - 1,by omega⟩
 unfold impl_isType.f itemB
 simp only [impl_isType.j0]
 by_cases h1:t=1
 ·
  subst h1;simp
 by_cases h2:t=2
 ·
  subst h2;simp
 simp only [if_neg h1,h1,h2,or_self,if_false]
 by_cases h5:t=5
 ·
  subst h5;simp
 by_cases h6:t=6
 ·
  subst h6;simp
 by_cases h8:t=8
 ·
  subst h8;simp
 by_cases h9:t=9
 ·
  subst h9;simp
 by_cases h12:t=12
 ·
  subst h12;simp
 simp [h1,h2,h5,h6,h8,h9,h12]
theorem l4Item_some (t:Int):spec_l4Item.f t=some (itemB t):=by
 unfold spec_l4Item.f spec_l4Kind.f itemB
 by_cases h1:t=1
 ·
  subst h1;simp
 by_cases h2:t=2
 ·
  subst h2;simp
 by_cases h5:t=5
 ·
  subst h5;simp
 by_cases h6:t=6
 ·
  subst h6;simp
 by_cases h8:t=8
 ·
  subst h8;simp
 by_cases h9:t=9
 ·
  subst h9;simp
 by_cases h12:t=12
 ·
  subst h12;simp
 simp [h1,h2,h5,h6,h8,h9,h12]
theorem impl_nodeOk_ev (n:S49):Ev (fun k=>impl_nodeOk.f k n.f0 n.f1 n.f2 n.f3 n.f4) (plainB n):=by
 have nt:∀ {g:Nat→Option Bool} {r:Bool},(n.f3.toList=([]:List UInt8)→Ev g r)→Ev (fun k=>if n.f3.toList=([]:List UInt8) then g k else some false) (noT n.f3 && r):=by
  intro g r h
  by_cases h3:n.f3.toList=([]:List UInt8)
  ·
   rw [show noT n.f3=true from decide_eq_true h3,Bool.true_and];exact Ev.pos h3 (h h3)
  ·
   rw [show noT n.f3=false from decide_eq_false h3,Bool.false_and];exact Ev.neg h3 (Ev.now _)
 have z:∀ {c:Prop} [Decidable c] {g:Nat→Option Bool} {r:Bool},(c→Ev g r)→Ev (fun k=>if c then g k else some false) (decide c && r):=by
  intro c _ g r h
  by_cases hc:c
  ·
   rw [decide_eq_true hc,Bool.true_and];exact Ev.pos hc (h hc)
  ·
   rw [decide_eq_false hc,Bool.false_and];exact Ev.neg hc (Ev.now _)
 unfold impl_nodeOk.f
 by_cases h5:n.f0=5
 ·
  have e:plainB n=(decide (-2147483648≤n.f2∧n.f2≤2147483647) && (noT n.f3 && n.f4 == 0)):=by unfold plainB;rw [if_neg (by omega),if_pos h5]
  rw [e]
  refine Ev.pos h5 (Ev.here (a:=decide (-2147483648≤n.f2∧n.f2≤2147483647)) (by unfold impl_isInt32.f;rw [within_some];rfl) ?_)
  cases decide (-2147483648≤n.f2∧n.f2≤2147483647) with
  | true=>exact Ev.pos rfl (Ev.cast (nt (fun _=>Ev.now _)) (by simp))
  | false=>exact Ev.neg (by decide) (Ev.now _)
 refine Ev.neg h5 ?_
 by_cases h6:n.f0=6
 ·
  have e:plainB n=(noT n.f3 && n.f4 == 0):=by unfold plainB;rw [if_neg (by omega),if_neg h5,if_pos h6]
  rw [e]
  exact Ev.pos h6 (nt (fun _=>Ev.now _))
 refine Ev.neg h6 ?_
 by_cases h8:n.f0=8
 ·
  have e:plainB n=(decide (n.f2=0) && (decide ((n.f3.size:Int)≤300) && n.f4 == 0)):=by unfold plainB;rw [if_neg (by omega),if_neg h5,if_neg h6,if_pos h8]
  rw [e]
  exact Ev.pos h8 (z (fun _=>z (fun _=>Ev.now _)))
 refine Ev.neg h8 ?_
 by_cases h9:n.f0=9
 ·
  have e:plainB n=(noT n.f3 && (decide (n.f4 ≥ 0) && (if n.f4=0 then decide (n.f2=0) else itemB n.f2))):=by unfold plainB;rw [if_neg (by omega),if_neg h5,if_neg h6,if_neg h8,if_pos h9]
  rw [e]
  refine Ev.pos h9 (nt (fun _=>z (fun hge=>?_)))
  have it:Ev (fun k=>if n.f4 > 0 then ((impl_isType.f k n.f2 true).bind fun t=>(some t)) else some false) (decide (n.f4 > 0) && itemB n.f2):=by
   refine z (fun _=>Ev.cast (Ev.bind (isType_some n.f2 true) (Ev.now _)) ?_)
   by_cases h12:n.f2=1∨n.f2=2
   ·
    rw [if_pos h12];unfold itemB;symm;rw [decide_eq_false (by omega)];rfl
   ·
    rw [if_neg h12]
  by_cases h0:n.f4=0
  ·
   have e2:(if n.f4=0 then decide (n.f2=0) else itemB n.f2)=decide (n.f2=0):=if_pos h0
   rw [e2]
   refine Ev.pos h0 ?_
   by_cases h2:n.f2=0
   ·
    rw [decide_eq_true h2];exact Ev.pos h2 (Ev.now _)
   ·
    rw [decide_eq_false h2];exact Ev.neg h2 (Ev.cast it (by rw [decide_eq_false (by omega)];rfl))
  ·
   have e2:(if n.f4=0 then decide (n.f2=0) else itemB n.f2)=itemB n.f2:=if_neg h0
   rw [e2]
   exact Ev.neg h0 (Ev.cast it (by rw [decide_eq_true (by omega)];rfl))
 refine Ev.neg h9 ?_
 by_cases h12:n.f0=12
 ·
  have e:plainB n=(decide (n.f2=0) && (noT n.f3 && decide (n.f4 ≥ 0))):=by unfold plainB;rw [if_neg (by omega),if_neg h5,if_neg h6,if_neg h8,if_neg h9,if_pos h12]
  rw [e]
  exact Ev.pos h12 (z (fun _=>nt (fun _=>Ev.now _)))
 refine Ev.neg h12 (Ev.bind (isType_some n.f0 false) ?_)
 by_cases h1:n.f0=1∨n.f0=2
 ·
  have e:plainB n=(decide (n.f2=0) && (noT n.f3 && n.f4 == 0)):=by unfold plainB;rw [if_pos h1]
  rw [e,if_pos h1]
  exact Ev.pos rfl (z (fun _=>nt (fun _=>Ev.now _)))
 ·
  have e:plainB n=false:=by unfold plainB;rw [if_neg h1,if_neg h5,if_neg h6,if_neg h8,if_neg h9,if_neg h12]
  rw [e,if_neg h1]
  refine Ev.neg ?_ (Ev.now _)
  unfold itemB;rw [decide_eq_false (by omega)];decide
theorem spec_l4Plain_ev (n:S49):Ev (fun k=>spec_l4Plain.f k n.f0 n.f1 n.f2 n.f3 n.f4) (plainB n):=by
 have nt:∀ {g:Nat→Option Bool} {r:Bool},(n.f3.toList=([]:List UInt8)→Ev g r)→Ev (fun k=>if n.f3.toList=([]:List UInt8) then g k else some false) (noT n.f3 && r):=by
  intro g r h
  by_cases h3:n.f3.toList=([]:List UInt8)
  ·
   rw [show noT n.f3=true from decide_eq_true h3,Bool.true_and];exact Ev.pos h3 (h h3)
  ·
   rw [show noT n.f3=false from decide_eq_false h3,Bool.false_and];exact Ev.neg h3 (Ev.now _)
 have z:∀ {c:Prop} [Decidable c] {g:Nat→Option Bool} {r:Bool},(c→Ev g r)→Ev (fun k=>if c then g k else some false) (decide c && r):=by
  intro c _ g r h
  by_cases hc:c
  ·
   rw [decide_eq_true hc,Bool.true_and];exact Ev.pos hc (h hc)
  ·
   rw [decide_eq_false hc,Bool.false_and];exact Ev.neg hc (Ev.now _)
 have rest:∀ b:Bool,(b=decide (n.f0=1∨n.f0=2))→Ev (fun k=>spec_l4Plain.j0 k n.f0 b n.f0 n.f1 n.f2 n.f3 n.f4) (plainB n):=by
  intro b hb
  subst hb
  refine Ev.step (fun k=>by rw [spec_l4Plain.j0]) ?_
  by_cases h1:n.f0=1∨n.f0=2
  ·
   have e:plainB n=(decide (n.f2=0) && (noT n.f3 && n.f4 == 0)):=by unfold plainB;rw [if_pos h1]
   rw [e]
   exact Ev.pos (decide_eq_true h1) (z (fun _=>nt (fun _=>Ev.now _)))
  refine Ev.neg (by rw [decide_eq_false h1];decide) ?_
  by_cases h5:n.f0=5
  ·
   have e:plainB n=(decide (-2147483648≤n.f2∧n.f2≤2147483647) && (noT n.f3 && n.f4 == 0)):=by unfold plainB;rw [if_neg h1,if_pos h5]
   rw [e]
   refine Ev.pos h5 (Ev.here (a:=decide (-2147483648≤n.f2∧n.f2≤2147483647)) (by unfold spec_l4Int.f;rw [l1In_some];rfl) ?_)
   cases decide (-2147483648≤n.f2∧n.f2≤2147483647) with
   | true=>exact Ev.pos rfl (Ev.cast (nt (fun _=>Ev.now _)) (by simp))
   | false=>exact Ev.neg (by decide) (Ev.now _)
  refine Ev.neg h5 ?_
  by_cases h6:n.f0=6
  ·
   have e:plainB n=(noT n.f3 && n.f4 == 0):=by unfold plainB;rw [if_neg h1,if_neg h5,if_pos h6]
   rw [e]
   exact Ev.pos h6 (nt (fun _=>Ev.now _))
  refine Ev.neg h6 ?_
  by_cases h8:n.f0=8
  ·
   have e:plainB n=(decide (n.f2=0) && (decide ((n.f3.size:Int)≤300) && n.f4 == 0)):=by unfold plainB;rw [if_neg h1,if_neg h5,if_neg h6,if_pos h8]
   rw [e]
   exact Ev.pos h8 (z (fun _=>z (fun _=>Ev.now _)))
  refine Ev.neg h8 ?_
  by_cases h9:n.f0=9
  ·
   have e:plainB n=(noT n.f3 && (decide (n.f4 ≥ 0) && (if n.f4=0 then decide (n.f2=0) else itemB n.f2))):=by unfold plainB;rw [if_neg h1,if_neg h5,if_neg h6,if_neg h8,if_pos h9]
   rw [e]
   refine Ev.pos h9 (nt (fun _=>z (fun hge=>?_)))
   have it:Ev (fun (_:Nat)=>if n.f4 > 0 then ((spec_l4Item.f n.f2).bind fun t=>(some t)) else some false) (decide (n.f4 > 0) && itemB n.f2) :=
    z (fun _=>Ev.here (l4Item_some n.f2) (Ev.now _))
   by_cases h0:n.f4=0
   ·
    have e2:(if n.f4=0 then decide (n.f2=0) else itemB n.f2)=decide (n.f2=0):=if_pos h0
    rw [e2]
    refine Ev.pos h0 ?_
    by_cases h2:n.f2=0
    ·
     rw [decide_eq_true h2];exact Ev.pos h2 (Ev.now _)
    ·
     rw [decide_eq_false h2];exact Ev.neg h2 (Ev.cast it (by rw [decide_eq_false (by omega)];rfl))
   ·
    have e2:(if n.f4=0 then decide (n.f2=0) else itemB n.f2)=itemB n.f2:=if_neg h0
    rw [e2]
    exact Ev.neg h0 (Ev.cast it (by rw [decide_eq_true (by omega)];rfl))
  refine Ev.neg h9 ?_
  by_cases h12:n.f0=12
  ·
   have e:plainB n=(decide (n.f2=0) && (noT n.f3 && decide (n.f4 ≥ 0))):=by unfold plainB;rw [if_neg h1,if_neg h5,if_neg h6,if_neg h8,if_neg h9,if_pos h12]
   rw [e]
   exact Ev.pos h12 (z (fun _=>nt (fun _=>Ev.now _)))
  have e:plainB n=false:=by unfold plainB;rw [if_neg h1,if_neg h5,if_neg h6,if_neg h8,if_neg h9,if_neg h12]
  rw [e]
  exact Ev.neg h12 (Ev.now _)
 unfold spec_l4Plain.f
 by_cases h1:n.f0=1
 ·
  exact Ev.pos h1 (rest _ (by rw [decide_eq_true (by omega)];simp [h1]))
 ·
  refine Ev.neg h1 (rest _ ?_)
  by_cases h2:n.f0=2
  ·
   rw [decide_eq_true (by omega)];simp [h2]
  ·
   rw [decide_eq_false (by omega)];simp [h2]
theorem plainB_many {n:S49}(h:plainB n=true):n.f0=9∨n.f0=12∨n.f4=0:=by
 unfold plainB at h
 by_cases h9:n.f0=9
 ·
  exact .inl h9
 by_cases h12:n.f0=12
 ·
  exact .inr (.inl h12)
 right;right
 (repeat' split at h) <;> simp_all
def nd (L:List S49)(p:Nat):S49:=L.getD p z49
theorem rd_nd (L:List S49)(p:Nat):rd_T49 L (p:Int)=nd L p:=rfl
def partB (n:S49)(last:Int)(p:S49):Bool :=
 if n.f0=9 then decide (p.f0=n.f2) && decide (p.f1=0) else if n.f0=12 then decide (last < p.f1∧p.f1≤1000) else true
def cLoop (L:List S49)(n:S49)(rec:Nat→Option Nat):Nat→Nat→Int→Nat→Option Nat
 | 0,_,_,_=>none
 | f + 1,next,last,i=>if (i:Int) < n.f4 then (if next < L.length then (if partB n last (nd L next)=true then (match rec next with | none=>none | some x=>cLoop L n rec f x (nd L next).f1 (i + 1)) else none) else none) else some next
def cF (L:List S49):Nat→Nat→Option Nat
 | 0,_=>none
 | d + 1,p=>if p < L.length then (if plainB (nd L p)=true then cLoop L (nd L p) (cF L d) (L.length + 1 - p) (p + 1) 0 0 else none) else none
def oN:Option Nat→Int
 | none=>-1
 | some v=>v
theorem oN_some (v:Nat):oN (some v)=(v:Int):=rfl
theorem cLoop_bound (L:List S49)(n:S49)(rec:Nat→Option Nat)(hr:∀ q x,rec q=some x→q < x∧x≤L.length):∀ f next last i v,next≤L.length→cLoop L n rec f next last i=some v→next≤v∧v≤L.length
 | 0,_,_,_,_,_,h=>by simp [cLoop] at h
 | f + 1,next,last,i,v,hn,h=>by
  unfold cLoop at h
  split at h
  ·
   split at h
   ·
    split at h
    ·
     cases hx:rec next with
     | none=>rw [hx] at h;cases h
     | some x =>
      rw [hx] at h
      have h1:=hr next x hx
      have h2:=cLoop_bound L n rec hr f x _ _ v h1.2 h
      omega
    ·
     cases h
   ·
    cases h
  ·
   injection h with h;omega
theorem cF_bound (L:List S49):∀ d p v,cF L d p=some v→p < v∧v≤L.length
 | 0,_,_,h=>by simp [cF] at h
 | d + 1,p,v,h=>by
  unfold cF at h
  split at h
  ·
   split at h
   ·
    have:=cLoop_bound L _ _ (cF_bound L d) _ _ _ _ v (by omega) h;omega
   ·
    cases h
  ·
   cases h
theorem cLoop_mono (L:List S49)(n:S49)(rec rec':Nat→Option Nat)(hr:∀ q x,rec q=some x→rec' q=some x):∀ f next last i v,cLoop L n rec f next last i=some v→cLoop L n rec' f next last i=some v
 | 0,_,_,_,_,h=>by simp [cLoop] at h
 | f + 1,next,last,i,v,h=>by
  unfold cLoop at h ⊢
  split at h
  ·
   rename_i h1
   rw [if_pos h1]
   split at h
   ·
    rename_i h2
    rw [if_pos h2]
    split at h
    ·
     rename_i h3
     rw [if_pos h3]
     cases hx:rec next with
     | none=>rw [hx] at h;cases h
     | some x =>
      rw [hx] at h
      rw [hr next x hx]
      exact cLoop_mono L n rec rec' hr f x _ _ v h
    ·
     cases h
   ·
    cases h
  ·
   rename_i h1
   rw [if_neg h1];exact h
theorem cF_mono1 (L:List S49):∀ d p v,cF L d p=some v→cF L (d + 1) p=some v
 | 0,_,_,h=>by simp [cF] at h
 | d + 1,p,v,h=>by
  rw [cF] at h ⊢
  split at h
  ·
   rename_i h1
   rw [if_pos h1]
   split at h
   ·
    rename_i h2
    rw [if_pos h2]
    exact cLoop_mono L _ _ _ (cF_mono1 L d) _ _ _ _ v h
   ·
    cases h
  ·
   cases h
theorem cF_mono (L:List S49)(p v:Nat)(d:Nat)(h:cF L d p=some v):∀ e,cF L (d + e) p=some v
 | 0=>h
 | e + 1=>cF_mono1 L (d + e) p v (cF_mono L p v d h e)
theorem cF_det (L:List S49){p v v' d d':Nat}(h:cF L d p=some v)(h':cF L d' p=some v'):v=v':=by
 have h1:=cF_mono L p v d h d'
 have h2:=cF_mono L p v' d' h' d
 rw [Nat.add_comm] at h2
 rw [h1] at h2
 injection h2
def mLoop (L:List S49)(n:S49)(rec:Nat→List Int→Option Nat × List Int):Nat→Nat→Int→Nat→List Int→Option Nat × List Int
 | 0,_,_,_,A=>(none,A)
 | f + 1,next,last,i,A=>if (i:Int) < n.f4 then (if next < L.length then (if partB n last (nd L next)=true then (match (rec next A).1 with | none=>(none,(rec next A).2) | some x=>mLoop L n rec f x (nd L next).f1 (i + 1) (rec next A).2) else (none,A)) else (none,A)) else (some next,A)
def mF (L:List S49):Nat→Nat→List Int→Option Nat × List Int
 | 0,_,A=>(none,A)
 | d + 1,p,A=>if p < L.length then (if plainB (nd L p)=true then (match (mLoop L (nd L p) (mF L d) (L.length + 1 - p) (p + 1) 0 0 A).1 with | none=>(none,(mLoop L (nd L p) (mF L d) (L.length + 1 - p) (p + 1) 0 0 A).2) | some x=>(some x,(mLoop L (nd L p) (mF L d) (L.length + 1 - p) (p + 1) 0 0 A).2.set p (x:Int))) else (none,A)) else (none,A)
theorem mLoop_fst (L:List S49)(n:S49)(rec:Nat→List Int→Option Nat × List Int)(rec':Nat→Option Nat)(hr:∀ q A,(rec q A).1=rec' q):∀ f next last i A,(mLoop L n rec f next last i A).1=cLoop L n rec' f next last i
 | 0,_,_,_,_=>rfl
 | f + 1,next,last,i,A=>by
  unfold mLoop cLoop
  by_cases h1:(i:Int) < n.f4
  ·
   rw [if_pos h1,if_pos h1]
   by_cases h2:next < L.length
   ·
    rw [if_pos h2,if_pos h2]
    by_cases h3:partB n last (nd L next)=true
    ·
     rw [if_pos h3,if_pos h3,hr next A]
     cases rec' next with
     | none=>rfl
     | some x=>exact mLoop_fst L n rec rec' hr f x _ _ _
    ·
     rw [if_neg h3,if_neg h3]
   ·
    rw [if_neg h2,if_neg h2]
  ·
   rw [if_neg h1,if_neg h1]
theorem mF_fst (L:List S49):∀ d p A,(mF L d p A).1=cF L d p
 | 0,_,_=>rfl
 | d + 1,p,A=>by
  unfold mF cF
  by_cases h1:p < L.length
  ·
   rw [if_pos h1,if_pos h1]
   by_cases h2:plainB (nd L p)=true
   ·
    rw [if_pos h2,if_pos h2,mLoop_fst L _ _ (cF L d) (fun q A=>mF_fst L d q A)]
    cases cLoop L (nd L p) (cF L d) (L.length + 1 - p) (p + 1) 0 0 <;> rfl
   ·
    rw [if_neg h2,if_neg h2]
  ·
   rw [if_neg h1,if_neg h1]
theorem mLoop_len (L:List S49)(n:S49)(rec:Nat→List Int→Option Nat × List Int)(hr:∀ q A,(rec q A).2.length=A.length):∀ f next last i A,(mLoop L n rec f next last i A).2.length=A.length
 | 0,_,_,_,_=>rfl
 | f + 1,next,last,i,A=>by
  unfold mLoop
  split
  ·
   split
   ·
    split
    ·
     cases (rec next A).1 with
     | none=>exact hr next A
     | some x=>exact (mLoop_len L n rec hr f x _ _ _).trans (hr next A)
    ·
     rfl
   ·
    rfl
  ·
   rfl
theorem mF_len (L:List S49):∀ d p A,(mF L d p A).2.length=A.length
 | 0,_,_=>rfl
 | d + 1,p,A=>by
  unfold mF
  have h:=mLoop_len L (nd L p) (mF L d) (mF_len L d) (L.length + 1 - p) (p + 1) 0 0 A
  split
  ·
   split
   ·
    cases (mLoop L (nd L p) (mF L d) (L.length + 1 - p) (p + 1) 0 0 A).1 with
    | none=>exact h
    | some x=>show ((mLoop L (nd L p) (mF L d) (L.length + 1 - p) (p + 1) 0 0 A).2.set p (x:Int)).length=_;rw [List.length_set];exact h
   ·
    rfl
  ·
   rfl
def Noted (L:List S49)(a b:Nat)(A B:List Int):Prop:=(∀ q,q < a∨b≤q→B[q]?=A[q]?)∧∀ q,a≤q→q < b→∃ (x:Nat) (e:Nat),B[q]?=some (x:Int)∧cF L e q=some x
theorem mLoop_noted (L:List S49)(n:S49)(d:Nat)(hr:∀ q A v,q < L.length→A.length=L.length→cF L d q=some v→Noted L q v A (mF L d q A).2):∀ f next last i A v,next≤L.length→A.length=L.length→cLoop L n (cF L d) f next last i=some v→Noted L next v A (mLoop L n (mF L d) f next last i A).2
 | 0,_,_,_,_,_,_,_,h=>by simp [cLoop] at h
 | f + 1,next,last,i,A,v,hn,hA,h=>by
  unfold cLoop at h
  unfold mLoop
  by_cases h1:(i:Int) < n.f4
  ·
   rw [if_pos h1] at h ⊢
   by_cases h2:next < L.length
   ·
    rw [if_pos h2] at h ⊢
    by_cases h3:partB n last (nd L next)=true
    ·
     rw [if_pos h3] at h ⊢
     rw [mF_fst]
     cases hx:cF L d next with
     | none=>rw [hx] at h;cases h
     | some x =>
      rw [hx] at h
      have hb:=cF_bound L d next x hx
      have n1:=hr next A x h2 hA hx
      have n2:=mLoop_noted L n d hr f x _ _ (mF L d next A).2 v hb.2 (by rw [mF_len];exact hA) h
      have hv:=cLoop_bound L n (cF L d) (cF_bound L d) f x _ _ v hb.2 h
      refine⟨fun q hq=>(n2.1 q (by omega)).trans (n1.1 q (by omega)),fun q h4 h5=>?_⟩
      by_cases h6:q < x
      ·
       obtain⟨y,e,e1,e2⟩:=n1.2 q h4 h6
       exact⟨y,e,(n2.1 q (by omega)).trans e1,e2⟩
      ·
       exact n2.2 q (by omega) h5
    ·
     rw [if_neg h3] at h;cases h
   ·
    rw [if_neg h2] at h;cases h
  ·
   rw [if_neg h1] at h ⊢
   injection h with h
   subst h
   exact⟨fun _ _=>rfl,fun q h4 h5=>by omega⟩
theorem mF_noted (L:List S49):∀ d p A v,p < L.length→A.length=L.length→cF L d p=some v→Noted L p v A (mF L d p A).2
 | 0,_,_,_,_,_,h=>by simp [cF] at h
 | d + 1,p,A,v,hp,hA,h=>by
  have h0:=h
  unfold cF at h
  unfold mF
  rw [if_pos hp] at h ⊢
  by_cases h2:plainB (nd L p)=true
  ·
   rw [if_pos h2] at h ⊢
   have n1:=mLoop_noted L (nd L p) d (mF_noted L d) (L.length + 1 - p) (p + 1) 0 0 A v (by omega) hA h
   have hl:=mLoop_len L (nd L p) (mF L d) (mF_len L d) (L.length + 1 - p) (p + 1) 0 0 A
   have hv:=cLoop_bound L (nd L p) (cF L d) (cF_bound L d) _ _ _ _ v (by omega) h
   rw [mLoop_fst L (nd L p) (mF L d) (cF L d) (mF_fst L d),h]
   refine⟨fun q hq=>?_,fun q h4 h5=>?_⟩
   ·
    show ((mLoop L (nd L p) (mF L d) (L.length + 1 - p) (p + 1) 0 0 A).2.set p (v:Int))[q]?=_
    rw [List.getElem?_set_ne (by omega)]
    exact n1.1 q (by omega)
   ·
    show ∃ (x:Nat) (e:Nat),((mLoop L (nd L p) (mF L d) (L.length + 1 - p) (p + 1) 0 0 A).2.set p (v:Int))[q]?=some (x:Int)∧_
    by_cases h6:q=p
    ·
     subst h6
     exact⟨v,d + 1,by rw [List.getElem?_set_self (by omega)],h0⟩
    ·
     obtain⟨y,e,e1,e2⟩:=n1.2 q (by omega) h5
     exact⟨y,e,by rw [List.getElem?_set_ne (by omega)];exact e1,e2⟩
  ·
   rw [if_neg h2] at h;cases h
theorem spec_part (L:List S49)(deep next i last:Int)(n p:S49)(r:Int)(h:Ev (fun k=>spec_l4Check.j2 k L deep next i (!partB n last p) n.f0 n.f1 n.f2 n.f3 n.f4 p.f0 p.f1 p.f2 p.f3 p.f4) r) :
  Ev (fun k=>(if n.f0=9 then (if (p.f0)=n.f2 then (if (p.f1)=0 then (if n.f0=12 then (if (p.f1)≤last then (spec_l4Check.j2 k L deep next i true n.f0 n.f1 n.f2 n.f3 n.f4 p.f0 p.f1 p.f2 p.f3 p.f4) else (spec_l4Check.j2 k L deep next i (decide ((p.f1) > 1000)) n.f0 n.f1 n.f2 n.f3 n.f4 p.f0 p.f1 p.f2 p.f3 p.f4)) else (spec_l4Check.j2 k L deep next i false n.f0 n.f1 n.f2 n.f3 n.f4 p.f0 p.f1 p.f2 p.f3 p.f4)) else (spec_l4Check.j2 k L deep next i true n.f0 n.f1 n.f2 n.f3 n.f4 p.f0 p.f1 p.f2 p.f3 p.f4)) else (spec_l4Check.j2 k L deep next i true n.f0 n.f1 n.f2 n.f3 n.f4 p.f0 p.f1 p.f2 p.f3 p.f4)) else (if n.f0=12 then (if (p.f1)≤last then (spec_l4Check.j2 k L deep next i true n.f0 n.f1 n.f2 n.f3 n.f4 p.f0 p.f1 p.f2 p.f3 p.f4) else (spec_l4Check.j2 k L deep next i (decide ((p.f1) > 1000)) n.f0 n.f1 n.f2 n.f3 n.f4 p.f0 p.f1 p.f2 p.f3 p.f4)) else (spec_l4Check.j2 k L deep next i false n.f0 n.f1 n.f2 n.f3 n.f4 p.f0 p.f1 p.f2 p.f3 p.f4)))) r:=by
 unfold partB at h
 by_cases h9:n.f0=9
 ·
  rw [if_pos h9] at h
  refine Ev.pos h9 ?_
  by_cases h1:p.f0=n.f2
  ·
   refine Ev.pos h1 ?_
   by_cases h2:p.f1=0
   ·
    refine Ev.pos h2 (Ev.neg (by omega) ?_)
    rw [decide_eq_true h1,decide_eq_true h2] at h;exact h
   ·
    refine Ev.neg h2 ?_
    rw [decide_eq_true h1,decide_eq_false h2] at h;exact h
  ·
   refine Ev.neg h1 ?_
   rw [decide_eq_false h1] at h;exact h
 ·
  rw [if_neg h9] at h
  refine Ev.neg h9 ?_
  by_cases h12:n.f0=12
  ·
   rw [if_pos h12] at h
   refine Ev.pos h12 ?_
   by_cases h1:p.f1≤last
   ·
    refine Ev.pos h1 ?_
    rw [decide_eq_false (show ¬ (last < p.f1∧p.f1≤1000) by omega)] at h;exact h
   ·
    refine Ev.neg h1 ?_
    have e:(decide (p.f1 > 1000))=!decide (last < p.f1∧p.f1≤1000):=by
     by_cases h3:p.f1 > 1000
     ·
      rw [decide_eq_true h3,decide_eq_false (show ¬ (last < p.f1∧p.f1≤1000) by omega)];rfl
     ·
      rw [decide_eq_false h3,decide_eq_true (show last < p.f1∧p.f1≤1000 by omega)];rfl
    rw [e];exact h
  ·
   rw [if_neg h12] at h
   exact Ev.neg h12 h
theorem spec_check_ev (L:List S49)(hL:L.length≤1500):∀ d p:Nat,d≤12→p≤L.length→Ev (fun k=>spec_l4Check.f k L (p:Int) (13 - (d:Int))) (oN (cF L d p)):=by
 intro d
 induction d with
 | zero =>
  intro p _ hp
  have bad:Ev (fun k=>spec_l4Check.j0 k L (p:Int) (13 - ((0:Nat):Int)) true) (-1):=Ev.step (fun k=>by rw [spec_l4Check.j0]) (by exact Ev.pos rfl (Ev.now _))
  refine Ev.step (fun k=>by rw [spec_l4Check.f]) ?_
  by_cases h1:(p:Int) ≥ (L.length:Int)
  ·
   exact Ev.pos h1 bad
  ·
   exact Ev.neg h1 (Ev.pos (by omega) bad)
 | succ d ih =>
  intro p hd hp
  have bad:Ev (fun k=>spec_l4Check.j0 k L (p:Int) (13 - ((d + 1:Nat):Int)) true) (-1):=Ev.step (fun k=>by rw [spec_l4Check.j0]) (by exact Ev.pos rfl (Ev.now _))
  refine Ev.step (fun k=>by rw [spec_l4Check.f]) ?_
  unfold cF
  by_cases h1:p < L.length
  ·
   rw [if_pos h1]
   refine Ev.neg (by omega) (Ev.neg (by omega) (Ev.pos (by omega) (Ev.pos (by omega) ?_)))
   rw [rd_nd]
   refine Ev.bind (spec_l4Plain_ev (nd L p)) ?_
   cases hb:plainB (nd L p) with
   | false=>rw [if_neg (by decide)];exact bad
   | true =>
    rw [if_pos rfl]
    have loop:∀ f next i:Nat,∀ last:Int,next≤L.length→L.length + 1≤next + f→i + 1≤next→Ev (fun k=>spec_l4Check.l0 k L (13 - ((d + 1:Nat):Int)) (next:Int) last (i:Int) (nd L p).f0 (nd L p).f1 (nd L p).f2 (nd L p).f3 (nd L p).f4) (oN (cLoop L (nd L p) (cF L d) f next last i)):=by
     intro f
     induction f with
     | zero=>intro next i last h2 h3 _;omega
     | succ f ihf =>
      intro next i last h2 h3 h4
      refine Ev.step (fun k=>by rw [spec_l4Check.l0]) ?_
      unfold cLoop
      by_cases h5:(i:Int) < (nd L p).f4
      ·
       rw [if_pos h5]
       refine Ev.pos h5 ?_
       by_cases h6:next < L.length
       ·
        rw [if_pos h6]
        refine Ev.neg (by omega) (Ev.pos (by omega) (Ev.pos (by omega) ?_))
        rw [rd_nd]
        refine spec_part L _ _ _ last (nd L p) (nd L next) _ ?_
        refine Ev.step (fun k=>by rw [spec_l4Check.j2]) ?_
        cases hq:partB (nd L p) last (nd L next) with
        | false=>rw [if_neg (by decide)];exact Ev.pos rfl (Ev.now _)
        | true =>
         rw [if_pos rfl]
         refine Ev.neg (by decide) ?_
         rw [wrap64_id (x:=13 - ((d + 1:Nat):Int) + 1) (by omega) (by omega),show 13 - ((d + 1:Nat):Int) + 1=13 - (d:Int) by omega]
         refine Ev.bind (ih next (by omega) (by omega)) ?_
         cases hx:cF L d next with
         | none=>exact Ev.pos (by decide) (Ev.now _)
         | some x =>
          have hxb:=cF_bound L d next x hx
          refine Ev.neg (by show ¬ ((x:Nat):Int) < 0;omega) ?_
          rw [wrap64_id (x:=(i:Int) + 1) (by omega) (by omega)]
          have:=ihf x (i + 1) (nd L next).f1 hxb.2 (by omega) (by omega)
          simpa [oN_some] using this
       ·
        rw [if_neg h6]
        exact Ev.pos (by omega) (Ev.now _)
      ·
       rw [if_neg h5]
       exact Ev.neg h5 (Ev.now _)
    refine Ev.step (fun k=>by rw [spec_l4Check.j0]) ?_
    refine Ev.neg (by decide) (Ev.pos (by omega) (Ev.pos (by omega) ?_))
    rw [wrap64_id (x:=(p:Int) + 1) (by omega) (by omega),rd_nd]
    have:=loop (L.length + 1 - p) (p + 1) 0 0 (by omega) (by omega) (by omega)
    simpa using this
  ·
   rw [if_neg h1]
   exact Ev.pos (by omega) bad
theorem impl_measure_ev (L:List S49)(hL:L.length≤1500):∀ d p:Nat,∀ A:List Int,d≤12→p≤L.length→A.length=L.length→Ev (fun k=>impl_tree_measure.f k L A (p:Int) (13 - (d:Int))) (oN (mF L d p A).1,(mF L d p A).2):=by
 intro d
 induction d with
 | zero =>
  intro p A _ hp hA
  have bad:Ev (fun k=>impl_tree_measure.j0 k (p:Int) (13 - ((0:Nat):Int)) true L A) (-1,A):=Ev.step (fun k=>by rw [impl_tree_measure.j0]) (by exact Ev.pos rfl (Ev.now _))
  refine Ev.step (fun k=>by rw [impl_tree_measure.f]) ?_
  by_cases h1:(p:Int) ≥ (L.length:Int)
  ·
   exact Ev.pos h1 bad
  ·
   exact Ev.neg h1 (Ev.pos (by omega) bad)
 | succ d ih =>
  intro p A hd hp hA
  have bad:Ev (fun k=>impl_tree_measure.j0 k (p:Int) (13 - ((d + 1:Nat):Int)) true L A) (-1,A):=Ev.step (fun k=>by rw [impl_tree_measure.j0]) (by exact Ev.pos rfl (Ev.now _))
  refine Ev.step (fun k=>by rw [impl_tree_measure.f]) ?_
  unfold mF
  by_cases h1:p < L.length
  ·
   rw [if_pos h1]
   refine Ev.neg (by omega) (Ev.neg (by omega) (Ev.pos (by omega) (Ev.pos (by omega) ?_)))
   rw [rd_nd]
   refine Ev.bind (impl_nodeOk_ev (nd L p)) ?_
   cases hb:plainB (nd L p) with
   | false=>rw [if_neg (by decide)];exact bad
   | true =>
    rw [if_pos rfl]
    have fin:Option Nat × List Int→Int × List Int:=fun z=>match z.1 with | none=>(-1,z.2) | some x=>((x:Int),z.2.set p (x:Int))
    have loop:∀ f next i:Nat,∀ last:Int,∀ B:List Int,next≤L.length→L.length + 1≤next + f→i + 1≤next→B.length=L.length→((nd L p).f0=12→0≤last∧last≤1000)→Ev (fun k=>impl_tree_measure.l0 k (p:Int) (13 - ((d + 1:Nat):Int)) (next:Int) last (nd L p).f4 (i:Int) L B (nd L p).f0 (nd L p).f1 (nd L p).f2 (nd L p).f3 (nd L p).f4)
      (oN (mLoop L (nd L p) (mF L d) f next last i B).1,(match (mLoop L (nd L p) (mF L d) f next last i B).1 with | none=>(mLoop L (nd L p) (mF L d) f next last i B).2 | some x=>(mLoop L (nd L p) (mF L d) f next last i B).2.set p (x:Int))):=by
     intro f
     induction f with
     | zero=>intro next i last B h2 h3 _ _ _;omega
     | succ f ihf =>
      intro next i last B h2 h3 h4 hB hlast
      refine Ev.step (fun k=>by rw [impl_tree_measure.l0]) ?_
      unfold mLoop
      by_cases h5:(i:Int) < (nd L p).f4
      ·
       rw [if_pos h5]
       refine Ev.pos h5 ?_
       by_cases h6:next < L.length
       ·
        rw [if_pos h6]
        refine Ev.neg (by omega) (Ev.pos (by omega) (Ev.pos (by omega) ?_))
        rw [rd_nd]
        have good:partB (nd L p) last (nd L next)=true→Ev (fun k=>impl_tree_measure.j3 k (p:Int) (13 - ((d + 1:Nat):Int)) (next:Int) (nd L p).f4 (i:Int) false L B (nd L p).f0 (nd L p).f1 (nd L p).f2 (nd L p).f3 (nd L p).f4 (nd L next).f0 (nd L next).f1 (nd L next).f2 (nd L next).f3 (nd L next).f4)
          (oN (match (mF L d next B).1 with | none=>(none,(mF L d next B).2) | some x=>mLoop L (nd L p) (mF L d) f x (nd L next).f1 (i + 1) (mF L d next B).2).1,(match (match (mF L d next B).1 with | none=>(none,(mF L d next B).2) | some x=>mLoop L (nd L p) (mF L d) f x (nd L next).f1 (i + 1) (mF L d next B).2).1 with | none=>(match (mF L d next B).1 with | none=>(none,(mF L d next B).2) | some x=>mLoop L (nd L p) (mF L d) f x (nd L next).f1 (i + 1) (mF L d next B).2).2 | some x=>(match (mF L d next B).1 with | none=>(none,(mF L d next B).2) | some x=>mLoop L (nd L p) (mF L d) f x (nd L next).f1 (i + 1) (mF L d next B).2).2.set p (x:Int))):=by
         intro hq
         have hl2:(nd L p).f0=12→0≤(nd L next).f1∧(nd L next).f1≤1000:=fun h12=>by
          have h14:=hlast h12
          unfold partB at hq
          rw [if_neg (show ¬ (nd L p).f0=9 by omega),if_pos h12] at hq
          have h13:=of_decide_eq_true hq
          omega
         refine Ev.step (fun k=>by rw [impl_tree_measure.j3]) ?_
         refine Ev.neg (by decide) ?_
         rw [wrap64_id (x:=13 - ((d + 1:Nat):Int) + 1) (by omega) (by omega),show 13 - ((d + 1:Nat):Int) + 1=13 - (d:Int) by omega]
         refine Ev.bind (ih next B (by omega) (by omega) hB) ?_
         have hfst:=mF_fst L d next B
         have hlen:=mF_len L d next B
         cases hx:(mF L d next B).1 with
         | none=>exact Ev.pos (show (-1:Int) < 0 by decide) (Ev.now _)
         | some x =>
          rw [hx] at hfst
          have hxb:=cF_bound L d next x hfst.symm
          refine Ev.neg (by show ¬ ((x:Nat):Int) < 0;omega) ?_
          rw [wrap64_id (x:=(i:Int) + 1) (by omega) (by omega)]
          have:=ihf x (i + 1) (nd L next).f1 (mF L d next B).2 hxb.2 (by omega) (by omega) (by rw [hlen];exact hB) hl2
          simpa [oN_some] using this
        have badj3:Ev (fun k=>impl_tree_measure.j3 k (p:Int) (13 - ((d + 1:Nat):Int)) (next:Int) (nd L p).f4 (i:Int) true L B (nd L p).f0 (nd L p).f1 (nd L p).f2 (nd L p).f3 (nd L p).f4 (nd L next).f0 (nd L next).f1 (nd L next).f2 (nd L next).f3 (nd L next).f4) (-1,B) :=
         Ev.step (fun k=>by rw [impl_tree_measure.j3]) (by exact Ev.pos rfl (Ev.now _))
        have badj2:Ev (fun k=>impl_tree_measure.j2 k (p:Int) (13 - ((d + 1:Nat):Int)) (next:Int) last (nd L p).f4 (i:Int) true L B (nd L p).f0 (nd L p).f1 (nd L p).f2 (nd L p).f3 (nd L p).f4 (nd L next).f0 (nd L next).f1 (nd L next).f2 (nd L next).f3 (nd L next).f4) (-1,B) :=
         Ev.step (fun k=>by rw [impl_tree_measure.j2]) (by exact Ev.pos rfl (Ev.now _))
        cases hq:partB (nd L p) last (nd L next) with
        | false =>
         rw [if_neg (by decide)]
         show Ev _ (-1,B)
         unfold partB at hq
         by_cases h9:(nd L p).f0=9
         ·
          rw [if_pos h9] at hq
          refine Ev.pos h9 ?_
          by_cases h10:(nd L next).f0=(nd L p).f2
          ·
           refine Ev.pos h10 ?_
           rw [decide_eq_true h10,Bool.true_and] at hq
           have h11:=of_decide_eq_false hq
           rw [show ((nd L next).f1 != 0)=true from by simpa using h11]
           exact badj2
          ·
           exact Ev.neg h10 badj2
         ·
          rw [if_neg h9] at hq
          refine Ev.neg h9 ?_
          by_cases h12:(nd L p).f0=12
          ·
           rw [if_pos h12] at hq
           have h13:=of_decide_eq_false hq
           have h14:=hlast h12
           refine Ev.step (fun k=>by rw [impl_tree_measure.j2]) ?_
           refine Ev.neg (by decide) (Ev.pos h12 (Ev.here (within_some _ _ _) ?_))
           rw [wrap64_id (x:=last + 1) (by omega) (by omega),decide_eq_false (by omega)]
           exact badj3
          ·
           rw [if_neg h12] at hq;cases hq
        | true =>
         rw [if_pos rfl]
         have gd:=good hq
         unfold partB at hq
         by_cases h9:(nd L p).f0=9
         ·
          rw [if_pos h9] at hq
          simp only [Bool.and_eq_true,decide_eq_true_eq] at hq
          refine Ev.pos h9 (Ev.pos hq.1 ?_)
          rw [show ((nd L next).f1 != 0)=false from by simpa using hq.2]
          refine Ev.step (fun k=>by rw [impl_tree_measure.j2]) ?_
          exact Ev.neg (by decide) (Ev.neg (by omega) gd)
         ·
          rw [if_neg h9] at hq
          refine Ev.neg h9 ?_
          refine Ev.step (fun k=>by rw [impl_tree_measure.j2]) ?_
          refine Ev.neg (by decide) ?_
          by_cases h12:(nd L p).f0=12
          ·
           rw [if_pos h12] at hq
           have h13:=of_decide_eq_true hq
           have h14:=hlast h12
           refine Ev.pos h12 (Ev.here (within_some _ _ _) ?_)
           rw [wrap64_id (x:=last + 1) (by omega) (by omega),decide_eq_true (show last + 1≤(nd L next).f1∧(nd L next).f1≤1000 by omega)]
           exact gd
          ·
           exact Ev.neg h12 gd
       ·
        rw [if_neg h6]
        exact Ev.pos (by omega) (Ev.now _)
      ·
       rw [if_neg h5]
       exact Ev.neg h5 (Ev.pos (by omega) (Ev.pos (by omega) (Ev.const (by simp [oN]))))
    refine Ev.step (fun k=>by rw [impl_tree_measure.j0]) ?_
    refine Ev.neg (by decide) (Ev.pos (by omega) (Ev.pos (by omega) ?_))
    rw [wrap64_id (x:=(p:Int) + 1) (by omega) (by omega),rd_nd]
    have:=loop (L.length + 1 - p) (p + 1) 0 0 A (by omega) (by omega) (by omega) hA (fun _=>by omega)
    cases hm:(mLoop L (nd L p) (mF L d) (L.length + 1 - p) (p + 1) 0 0 A).1 with
    | none=>rw [hm] at this;simpa [hm] using this
    | some x=>rw [hm] at this;simpa [hm] using this
  ·
   rw [if_neg h1]
   exact Ev.pos (by omega) bad
def AllNoted (L:List S49)(A:List Int):Prop:=A.length=L.length∧∀ q,q < L.length→∃ (x:Nat) (e:Nat),A[q]?=some (x:Int)∧cF L e q=some x
def treeB (L:List S49):Bool:=decide (1≤(L.length:Int)∧(L.length:Int)≤1500) && (decide ((rd_T49 L 0).f0=12) && (decide ((rd_T49 L 0).f1=0) && decide (oN (cF L 12 0)=(L.length:Int))))
theorem treeB_len {L:List S49}(h:treeB L=true):1≤L.length∧L.length≤1500:=by
 unfold treeB at h
 simp only [Bool.and_eq_true,decide_eq_true_eq] at h
 omega
theorem treeB_cF {L:List S49}(h:treeB L=true):cF L 12 0=some L.length:=by
 have hl:=treeB_len h
 unfold treeB at h
 simp only [Bool.and_eq_true,decide_eq_true_eq] at h
 have h4:=h.2.2.2
 cases hx:cF L 12 0 with
 | none=>rw [hx] at h4;have:(-1:Int)=(L.length:Int):=h4;omega
 | some v=>rw [hx] at h4;have:(v:Int)=(L.length:Int):=h4;rw [show v=L.length by omega]
theorem spec_TreeOk_ev (L:List S49):Ev (fun k=>spec_TreeOk.f k L) (treeB L):=by
 unfold spec_TreeOk.f treeB
 refine Ev.here (l1In_some _ _ _) ?_
 by_cases h1:1≤(L.length:Int)∧(L.length:Int)≤1500
 ·
  rw [decide_eq_true h1]
  refine Ev.pos rfl (Ev.pos (by omega) ?_)
  by_cases h2:(rd_T49 L 0).f0=12
  ·
   rw [decide_eq_true h2]
   refine Ev.pos h2 ?_
   by_cases h3:(rd_T49 L 0).f1=0
   ·
    rw [decide_eq_true h3]
    have:=spec_check_ev L (by omega) 12 0 (by omega) (by omega)
    refine Ev.pos h3 (Ev.bind (by simpa using this) (Ev.cast (Ev.now _) ?_))
    by_cases h4:oN (cF L 12 0)=(L.length:Int) <;> simp [h4]
   ·
    rw [decide_eq_false h3];exact Ev.neg h3 (Ev.now _)
  ·
   rw [decide_eq_false h2];exact Ev.neg h2 (Ev.now _)
 ·
  rw [decide_eq_false h1];exact Ev.neg (by decide) (Ev.now _)
def afterR (L:List S49):List Int:=(mF L 12 0 (List.replicate L.length 0)).2
theorem impl_treeOf_ev (L:List S49):Ev (fun k=>impl_treeOf.f k L) (if treeB L=true then (afterR L,true) else ([],false)):=by
 unfold impl_treeOf.f treeB
 refine Ev.here (within_some _ _ _) ?_
 by_cases h1:1≤(L.length:Int)∧(L.length:Int)≤1500
 ·
  rw [decide_eq_true h1]
  refine Ev.pos rfl ?_
  by_cases h2:(rd_T49 L 0).f0=12
  ·
   rw [decide_eq_true h2]
   refine Ev.pos h2 ?_
   by_cases h3:(rd_T49 L 0).f1=0
   ·
    rw [decide_eq_true h3]
    have:=impl_measure_ev L (by omega) 12 0 (List.replicate L.length 0) (by omega) (by omega) (by simp)
    refine Ev.pos h3 (Ev.bind (by simpa using this) ?_)
    rw [mF_fst]
    by_cases h4:oN (cF L 12 0)=(L.length:Int)
    ·
     rw [decide_eq_true h4];exact Ev.pos h4 (Ev.now _)
    ·
     rw [decide_eq_false h4];exact Ev.neg h4 (Ev.now _)
   ·
    rw [decide_eq_false h3];exact Ev.neg h3 (Ev.now _)
  ·
   rw [decide_eq_false h2];exact Ev.neg h2 (Ev.now _)
 ·
  rw [decide_eq_false h1];exact Ev.neg (by decide) (Ev.now _)
theorem afterR_noted {L:List S49}(h:treeB L=true):AllNoted L (afterR L):=by
 have hl:=treeB_len h
 have hn:=mF_noted L 12 0 (List.replicate L.length 0) L.length (by omega) (by simp) (treeB_cF h)
 exact⟨by unfold afterR;rw [mF_len];simp,fun q hq=>hn.2 q (by omega) hq⟩
theorem or_digit (m a d:Nat)(ha:a < 2 ^ m):a ||| d * 2 ^ m=a + d * 2 ^ m:=by
 have:=Nat.shiftLeft_add_eq_or_of_lt ha d
 rw [Nat.shiftLeft_eq] at this
 rw [Nat.or_comm,← this,Nat.add_comm]
theorem bits_and_mask (x m:Int)(k:Nat)(hk:k≤63)(hm:m=2 ^ k - 1):Go.bits .and .i64 x m=x % 2 ^ k:=by
 have p0:(0:Int) < 2 ^ k:=Int.pow_pos (by omega)
 have eP:(2:Int) ^ k=((2 ^ k:Nat):Int):=by push_cast;rfl
 have h63:2 ^ k≤2 ^ 63:=Nat.pow_le_pow_right (by omega) hk
 have n0:0 < 2 ^ k:=Nat.pow_pos (by omega)
 have e:Go.bits .and .i64 x m=IntKind.i64.wrap ((((BitVec.ofInt 64 x) &&& (BitVec.ofInt 64 m)).toNat:Nat):Int):=rfl
 rw [e,BitVec.toNat_and,BitVec.toNat_ofInt,BitVec.toNat_ofInt]
 have em:(m % ((2 ^ 64:Nat):Int)).toNat=2 ^ k - 1:=by
  rw [hm,eP,Int.emod_eq_of_lt (by omega) (by omega)];omega
 rw [em,Nat.and_two_pow_sub_one_eq_mod]
 have hlt:(x % ((2 ^ 64:Nat):Int)).toNat % 2 ^ k < 2 ^ k:=Nat.mod_lt _ n0
 rw [wraps_i64 _ (by omega) (by omega),eP,Int.natCast_emod]
 rw [Int.toNat_of_nonneg (Int.emod_nonneg _ (by omega))]
 apply Int.emod_emod_of_dvd
 refine Int.natCast_dvd_natCast.2 (Nat.pow_dvd_pow 2 (by omega))
theorem u64_id {x:Int}(h0:0≤x)(h1:x < 18446744073709551616):IntKind.u64.wrap x=x:=by rw [IntKind.wrap_u64];omega
theorem bits_and_mask_u (x m:Int)(k:Nat)(hk:k≤63)(hm:m=2 ^ k - 1):Go.bits .and .u64 x m=x % 2 ^ k:=by
 have p0:(0:Int) < 2 ^ k:=Int.pow_pos (by omega)
 have eP:(2:Int) ^ k=((2 ^ k:Nat):Int):=by push_cast;rfl
 have h63:2 ^ k≤2 ^ 63:=Nat.pow_le_pow_right (by omega) hk
 have n0:0 < 2 ^ k:=Nat.pow_pos (by omega)
 have e:Go.bits .and .u64 x m=IntKind.u64.wrap ((((BitVec.ofInt 64 x) &&& (BitVec.ofInt 64 m)).toNat:Nat):Int):=rfl
 rw [e,BitVec.toNat_and,BitVec.toNat_ofInt,BitVec.toNat_ofInt]
 have em:(m % ((2 ^ 64:Nat):Int)).toNat=2 ^ k - 1:=by
  rw [hm,eP,Int.emod_eq_of_lt (by omega) (by omega)];omega
 rw [em,Nat.and_two_pow_sub_one_eq_mod]
 have hlt:(x % ((2 ^ 64:Nat):Int)).toNat % 2 ^ k < 2 ^ k:=Nat.mod_lt _ n0
 rw [u64_id (by omega) (by omega),eP,Int.natCast_emod]
 rw [Int.toNat_of_nonneg (Int.emod_nonneg _ (by omega))]
 apply Int.emod_emod_of_dvd
 refine Int.natCast_dvd_natCast.2 (Nat.pow_dvd_pow 2 (by omega))
theorem l2Down7 (x:Int):spec_l2Down.f x 7=some (x / 128 % 144115188075855872):=by
 unfold spec_l2Down.f
 rw [if_neg (by decide),if_pos (by decide),wrap64_id (x:=64 - 7) (by omega) (by omega),if_pos (by decide)]
 have e1:shr .i64 x 7=x / 128:=rfl
 have e2:shl .i64 1 (64 - 7)=144115188075855872:=by
  unfold shl;rw [IntKind.wrap_i64];rfl
 rw [e1,e2,wrap64_id (by omega) (by omega),bits_and_mask (x / 128) (144115188075855872 - 1) 57 (by omega) rfl];rfl
theorem or_u64_128 (x:Int)(h0:0≤x)(h1:x < 128):Go.bits .or .u64 x 128=x + 128:=by
 obtain⟨n,rfl⟩:=Int.eq_ofNat_of_zero_le h0
 have hn:n < 2 ^ 7:=by omega
 have e:=(bits_nat .u64 64 (by decide) (fun m h0 h1=>u64_id h0 (by simpa using h1)) n 128 (by omega) (by decide)).2
 have e2:n ||| 128=n + 128:=by
  have:=or_digit 7 n 1 hn
  simpa using this
 have e3:Go.bits .or .u64 (n:Int) 128=((n ||| 128:Nat):Int):=e
 rw [e3,e2];rfl
theorem uvarPut_both:∀ (d:Nat) (x X:Int) (out:List Int),0≤X→X < 18446744073709551616→X=x % 18446744073709551616→X < 128 ^ (d + 1)→out.length + d≤10000 →
  ∃ r:List Int,Ev (fun k=>spec_UvarPut.l0 k x (out)) r∧Ev (fun k=>impl_UvarPut.l0 k X out) r∧r.length≤out.length + d + 1∧(∀ y ∈ r,y ∈ out∨(0≤y∧y≤255)):=by
 intro d
 induction d with
 | zero =>
  intro x X out h0 h1 hx hd ho
  have hX:X < 128:=by simpa using hd
  refine⟨out ++ [X],?_,?_,by simp,?_⟩
  ·
   refine Ev.step (fun k=>by rw [spec_UvarPut.l0]) ?_
   refine Ev.here (l2Down7 x) (Ev.pos (by omega) (Ev.pos (by omega) (Ev.const ?_)))
   have:x % 256=X:=by omega
   rw [this]
  ·
   refine Ev.step (fun k=>by rw [impl_UvarPut.l0]) ?_
   refine Ev.neg (by omega) (Ev.pos (by omega) (Ev.const ?_))
   have:X % 256=X:=by omega
   rw [this]
  ·
   intro y hy
   rcases List.mem_append.1 hy with h | h
   ·
    exact .inl h
   ·
    obtain rfl:=List.mem_singleton.1 h;right;omega
 | succ d ih =>
  intro x X out h0 h1 hx hd ho
  by_cases hX:X < 128
  ·
   refine⟨out ++ [X],?_,?_,by simp,?_⟩
   ·
    refine Ev.step (fun k=>by rw [spec_UvarPut.l0]) ?_
    refine Ev.here (l2Down7 x) (Ev.pos (by omega) (Ev.pos (by omega) (Ev.const ?_)))
    have:x % 256=X:=by omega
    rw [this]
   ·
    refine Ev.step (fun k=>by rw [impl_UvarPut.l0]) ?_
    refine Ev.neg (by omega) (Ev.pos (by omega) (Ev.const ?_))
    have:X % 256=X:=by omega
    rw [this]
   ·
    intro y hy
    rcases List.mem_append.1 hy with h | h
    ·
     exact .inl h
    ·
     obtain rfl:=List.mem_singleton.1 h;right;omega
  ·
   have hpow:X / 128 < 128 ^ (d + 1):=by
    rw [Int.pow_succ] at hd
    omega
   have hq:x / 128 % 144115188075855872=X / 128:=by omega
   obtain⟨r,r1,r2,r3,r4⟩:=ih (x / 128 % 144115188075855872) (X / 128) (out ++ [X % 128 + 128]) (by omega) (by omega) (by rw [hq];omega) hpow (by simp;omega)
   refine⟨r,?_,?_,by simp at r3;omega,?_⟩
   ·
    refine Ev.step (fun k=>by rw [spec_UvarPut.l0]) ?_
    refine Ev.here (l2Down7 x) (Ev.neg (by omega) (Ev.pos (by omega) (Ev.here (l2Down7 x) ?_)))
    rw [bits_and_mask x 127 7 (by omega) rfl]
    have e:(2:Int) ^ 7=128:=rfl
    rw [e,wrap64_id (by omega) (by omega)]
    have e2:(x % 128 + 128) % 256=X % 128 + 128:=by omega
    rw [e2];exact r1
   ·
    refine Ev.step (fun k=>by rw [impl_UvarPut.l0]) ?_
    refine Ev.pos (by omega) (Ev.pos (by omega) ?_)
    rw [bits_and_mask_u X 127 7 (by omega) rfl]
    have e:(2:Int) ^ 7=128:=rfl
    rw [e,or_u64_128 _ (by omega) (by omega)]
    have e2:(X % 128 + 128) % 256=X % 128 + 128:=by omega
    rw [e2];exact r2
   ·
    intro y hy
    rcases r4 y hy with h | h
    ·
     rcases List.mem_append.1 h with h | h
     ·
      exact .inl h
     ·
      obtain rfl:=List.mem_singleton.1 h;right;omega
    ·
     exact .inr h
theorem UvarPut_ev (x:Int):∃ r:List Int,Ev (fun k=>spec_UvarPut.f k x) r∧Ev (fun k=>impl_UvarPut.f k x) r∧r.length≤10∧(∀ y ∈ r,0≤y∧y≤255):=by
 unfold spec_UvarPut.f impl_UvarPut.f
 have e:IntKind.u64.wrap x=x % 18446744073709551616:=by rw [IntKind.wrap_u64]
 rw [e]
 obtain⟨r,r1,r2,r3,r4⟩:=uvarPut_both 9 x (x % 18446744073709551616) [] (by omega) (by omega) rfl (by
  have:(128:Int) ^ (9 + 1)=1180591620717411303424:=by decide
  omega) (by simp)
 exact⟨r,r1,r2,by simpa using r3,fun y hy=>by
  rcases r4 y hy with h | h
  ·
   cases h
  ·
   exact h⟩
theorem Zig_both (x:Int)(h0:-9223372036854775808≤x)(h1:x≤9223372036854775807):∃ z,spec_Zig.f x=some z∧impl_Zig.f x=some z:=by
 unfold spec_Zig.f impl_Zig.f
 by_cases h:x < 0
 ·
  rw [if_pos h]
  refine⟨_,rfl,?_⟩
  have e:x / 9223372036854775808=-1:=by omega
  rw [e]
  simp only [Go.bits,BitVec.xor_comm]
 ·
  rw [if_neg h]
  refine⟨_,rfl,?_⟩
  have e:x / 9223372036854775808=0:=by omega
  rw [e]
  have e2:Go.bits .xor .i64 (wrap64 (x * 2)) 0=IntKind.i64.wrap ((((BitVec.ofInt 64 (wrap64 (x * 2))) ^^^ (BitVec.ofInt 64 0)).toNat:Nat):Int):=rfl
  have e3:(BitVec.ofInt 64 0)=0#64:=rfl
  have e4:Go.bits .xor .i64 (wrap64 (x * 2)) 0=wrap64 (x * 2):=by
   rw [e2,e3,BitVec.xor_zero,BitVec.toNat_ofInt,IntKind.wrap_i64]
   unfold wrap64;omega
  rw [e4]
theorem ZigPut_ev (x:Int)(h0:-9223372036854775808≤x)(h1:x≤9223372036854775807):∃ r:List Int,Ev (fun k=>spec_ZigPut.f k x) r∧Ev (fun k=>impl_ZigPut.f k x) r∧r.length≤10∧(∀ y ∈ r,0≤y∧y≤255):=by
 obtain⟨z,z1,z2⟩:=Zig_both x h0 h1
 obtain⟨r,r1,r2,r3,r4⟩:=UvarPut_ev z
 unfold spec_ZigPut.f impl_ZigPut.f
 exact⟨r,Ev.here z1 (Ev.bind r1 (Ev.now _)),Ev.here z2 (Ev.bind r2 (Ev.now _)),r3,r4⟩
theorem noted_rd {L:List S49}{A:List Int}(hA:AllNoted L A){d q x:Nat}(hq:q < L.length)(h:cF L d q=some x):rd A (q:Int)=(x:Int):=by
 obtain⟨y,e,h1,h2⟩:=hA.2 q hq
 have:=cF_det L h h2
 subst this
 unfold rd
 rw [List.getD_eq_getElem?_getD,Int.toNat_natCast,h1];rfl
theorem len_a1b (out b:List Int)(y:Int):(out ++ [y] ++ b).length=out.length + 1 + b.length:=by rw [List.length_append,List.length_append];rfl
theorem len_azb (out z b:List Int)(y:Int):(out ++ ([y] ++ z) ++ b).length=out.length + 1 + z.length + b.length:=by rw [List.length_append,List.length_append,List.length_append,List.length_singleton];omega
theorem pk_short (L:List S49)(hL:L.length≤1500)(A:List Int)(hAl:A.length=L.length)(n:S49)(hn:n.f0=12)(next i x:Nat)(last y:Int)(out b:List Int)(R2:List Int × Int)(R3:List Int)
  (h5:(i:Int) < n.f4) (h6:next < L.length) (hi:i≤3000) (hrd:rd A (next:Int)=(x:Int)) (hs:wrap64 ((nd L next).f1 - last)≤15) (hy:wrap64 ((wrap64 (16 * (wrap64 ((nd L next).f1 - last)))) + (nd L next).f0) % 256=y)
  (e1:Ev (fun k=>spec_l4Pack.f k L (next:Int)) (b,(x:Int))) (e2:Ev (fun k=>impl_tree_bytesOf.f k L A (next:Int)) b) (ho:out.length + 1 + b.length≤10000000)
  (g2:Ev (fun k=>spec_l4Pack.l1 k L (x:Int) (out ++ [y] ++ b) (nd L next).f1 ((i + 1:Nat):Int) n.f0 n.f1 n.f2 n.f3 n.f4) R2) (g3:Ev (fun k=>impl_tree_bytesOf.l0 k (out ++ [y] ++ b) (x:Int) (nd L next).f1 n.f4 ((i + 1:Nat):Int) L A n.f0 n.f1 n.f2 n.f3 n.f4) R3) :
  Ev (fun k=>spec_l4Pack.l1 k L (next:Int) out last (i:Int) n.f0 n.f1 n.f2 n.f3 n.f4) R2∧Ev (fun k=>impl_tree_bytesOf.l0 k out (next:Int) last n.f4 (i:Int) L A n.f0 n.f1 n.f2 n.f3 n.f4) R3:=by
 have hw:wrap64 ((i:Int) + 1)=((i + 1:Nat):Int):=by rw [wrap64_id (by omega) (by omega)];push_cast;rfl
 have l1:(out ++ [y]).length=out.length + 1:=by rw [List.length_append];rfl
 have c1:(0:Int)≤(next:Int):=by omega
 have c2:(next:Int) < (L.length:Int):=by omega
 have c3:(next:Int) < (A.length:Int):=by omega
 have c4:out.length < 140737488355328:=by omega
 have c5:(out ++ [y]).length + b.length < 140737488355328:=by rw [l1];omega
 have c6:out.length + ([y]:List Int).length < 140737488355328:=by rw [List.length_singleton];omega
 constructor
 ·
  refine Ev.step (fun k=>by rw [spec_l4Pack.l1]) ?_
  rw [rd_nd,hw,hy]
  exact Ev.pos h5 (Ev.pos c1 (Ev.pos c2 (Ev.pos hs (Ev.pos c4 (Ev.here rfl (Ev.bind e1 (Ev.pos c5 g2)))))))
 ·
  refine Ev.step (fun k=>by rw [impl_tree_bytesOf.l0]) ?_
  rw [rd_nd,hw,hrd]
  refine Ev.pos h5 (Ev.pos c1 (Ev.pos c2 (Ev.pos hn (Ev.bind (a:=[y]) ?_ (Ev.pos c6 (Ev.here rfl (Ev.bind e2 (Ev.pos c5 (Ev.pos c3 g3)))))))))
  unfold impl_headOf.f
  rw [hy]
  exact Ev.pos hs (Ev.now _)
theorem pk_long (L:List S49)(hL:L.length≤1500)(A:List Int)(hAl:A.length=L.length)(n:S49)(hn:n.f0=12)(next i x:Nat)(last y:Int)(out b z:List Int)(R2:List Int × Int)(R3:List Int)
  (h5:(i:Int) < n.f4) (h6:next < L.length) (hi:i≤3000) (hrd:rd A (next:Int)=(x:Int)) (hs:¬ wrap64 ((nd L next).f1 - last)≤15) (hy:(nd L next).f0 % 256=y)
  (z1:Ev (fun k=>spec_ZigPut.f k (nd L next).f1) z) (z2:Ev (fun k=>impl_ZigPut.f k (nd L next).f1) z)
  (e1:Ev (fun k=>spec_l4Pack.f k L (next:Int)) (b,(x:Int))) (e2:Ev (fun k=>impl_tree_bytesOf.f k L A (next:Int)) b) (ho:out.length + 1 + z.length + b.length≤10000000)
  (g2:Ev (fun k=>spec_l4Pack.l1 k L (x:Int) (out ++ ([y] ++ z) ++ b) (nd L next).f1 ((i + 1:Nat):Int) n.f0 n.f1 n.f2 n.f3 n.f4) R2) (g3:Ev (fun k=>impl_tree_bytesOf.l0 k (out ++ ([y] ++ z) ++ b) (x:Int) (nd L next).f1 n.f4 ((i + 1:Nat):Int) L A n.f0 n.f1 n.f2 n.f3 n.f4) R3) :
  Ev (fun k=>spec_l4Pack.l1 k L (next:Int) out last (i:Int) n.f0 n.f1 n.f2 n.f3 n.f4) R2∧Ev (fun k=>impl_tree_bytesOf.l0 k out (next:Int) last n.f4 (i:Int) L A n.f0 n.f1 n.f2 n.f3 n.f4) R3:=by
 have hw:wrap64 ((i:Int) + 1)=((i + 1:Nat):Int):=by rw [wrap64_id (by omega) (by omega)];push_cast;rfl
 have l1:(out ++ [y]).length=out.length + 1:=by rw [List.length_append];rfl
 have l2:([y] ++ z).length=1 + z.length:=by rw [List.length_append];rfl
 have l3:(out ++ ([y] ++ z)).length=out.length + (1 + z.length):=by rw [List.length_append,l2]
 have c1:(0:Int)≤(next:Int):=by omega
 have c2:(next:Int) < (L.length:Int):=by omega
 have c3:(next:Int) < (A.length:Int):=by omega
 have c4:out.length < 140737488355328:=by omega
 have c5:(out ++ ([y] ++ z)).length + b.length < 140737488355328:=by rw [l3];omega
 have c6:out.length + ([y] ++ z).length < 140737488355328:=by rw [l2];omega
 have c7:(out ++ [y]).length + z.length < 140737488355328:=by rw [l1];omega
 have c8:([y]:List Int).length + z.length < 140737488355328:=by rw [List.length_singleton];omega
 have ea:out ++ [y] ++ z=out ++ ([y] ++ z):=List.append_assoc _ _ _
 constructor
 ·
  refine Ev.step (fun k=>by rw [spec_l4Pack.l1]) ?_
  rw [rd_nd,hw,hy]
  refine Ev.pos h5 (Ev.pos c1 (Ev.pos c2 (Ev.neg hs (Ev.pos c4 (Ev.here rfl (Ev.bind z1 (Ev.pos c7 ?_)))))))
  rw [ea]
  exact Ev.here rfl (Ev.bind e1 (Ev.pos c5 g2))
 ·
  refine Ev.step (fun k=>by rw [impl_tree_bytesOf.l0]) ?_
  rw [rd_nd,hw,hrd]
  refine Ev.pos h5 (Ev.pos c1 (Ev.pos c2 (Ev.pos hn (Ev.bind (a:=[y] ++ z) ?_ (Ev.pos c6 (Ev.here rfl (Ev.bind e2 (Ev.pos c5 (Ev.pos c3 g3)))))))))
  unfold impl_headOf.f
  rw [hy]
  exact Ev.neg hs (Ev.here rfl (Ev.bind z2 (Ev.pos c8 (Ev.now _))))
theorem pk_end (L:List S49)(A:List Int)(n:S49)(hn:n.f0=12)(next i:Nat)(last:Int)(out:List Int)(h5:¬ (i:Int) < n.f4)(ho:out.length≤10000000) :
  Ev (fun k=>spec_l4Pack.l1 k L (next:Int) out last (i:Int) n.f0 n.f1 n.f2 n.f3 n.f4) (out ++ [0],(next:Int))∧Ev (fun k=>impl_tree_bytesOf.l0 k out (next:Int) last n.f4 (i:Int) L A n.f0 n.f1 n.f2 n.f3 n.f4) (out ++ [0]):=by
 have c4:out.length < 140737488355328:=by omega
 constructor
 ·
  refine Ev.step (fun k=>by rw [spec_l4Pack.l1]) ?_
  exact Ev.neg h5 (Ev.pos c4 (Ev.now _))
 ·
  refine Ev.step (fun k=>by rw [impl_tree_bytesOf.l0]) ?_
  exact Ev.neg h5 (Ev.pos hn (Ev.pos c4 (Ev.now _)))
theorem pk_struct (L:List S49)(hL:L.length≤1500)(A:List Int)(hA:AllNoted L A)(d:Nat)(n:S49)(hn:n.f0=12)
  (ih:∀ p v:Nat,cF L d p=some v→∃ B:List Int,Ev (fun k=>spec_l4Pack.f k L (p:Int)) (B,(v:Int))∧Ev (fun k=>impl_tree_bytesOf.f k L A (p:Int)) B∧B.length + 20≤400 * (v - p)) :
  ∀ (f next i:Nat) (last:Int) (v:Nat) (out:List Int),next≤L.length→i + 1≤next→cLoop L n (cF L d) f next last i=some v→out.length + 400 * (L.length - next)≤1000000→0≤last→last≤1000 →
   ∃ B:List Int,B.length≤400 * (v - next)∧Ev (fun k=>spec_l4Pack.l1 k L (next:Int) out last (i:Int) n.f0 n.f1 n.f2 n.f3 n.f4) (out ++ B ++ [0],(v:Int))∧Ev (fun k=>impl_tree_bytesOf.l0 k out (next:Int) last n.f4 (i:Int) L A n.f0 n.f1 n.f2 n.f3 n.f4) (out ++ B ++ [0]):=by
 intro f
 induction f with
 | zero=>intro next i last v out _ _ h;simp [cLoop] at h
 | succ f ihf =>
  intro next i last v out h3 h4 h ho l0 l1
  unfold cLoop at h
  by_cases h5:(i:Int) < n.f4
  case neg =>
   rw [if_neg h5] at h
   injection h with h
   subst h
   have:=pk_end L A n hn next i last out h5 (by omega)
   exact⟨[],Nat.zero_le _,by rw [List.append_nil];exact this.1,by rw [List.append_nil];exact this.2⟩
  rw [if_pos h5] at h
  by_cases h6:next < L.length
  case neg=>rw [if_neg h6] at h;cases h
  rw [if_pos h6] at h
  by_cases h7:partB n last (nd L next)=true
  case neg=>rw [if_neg h7] at h;cases h
  rw [if_pos h7] at h
  unfold partB at h7
  rw [if_neg (by omega),if_pos hn] at h7
  have h7:=of_decide_eq_true h7
  cases hx:cF L d next with
  | none=>rw [hx] at h;cases h
  | some x =>
   rw [hx] at h
   have hb:=cF_bound L d next x hx
   obtain⟨b,e1,e2,e3⟩:=ih next x hx
   have hrd:=noted_rd hA h6 hx
   have hAl:=hA.1
   have hv:=cLoop_bound L n (cF L d) (fun q y=>cF_bound L d q y) f x _ _ v hb.2 h
   clear ih
   by_cases hs:wrap64 ((nd L next).f1 - last)≤15
   ·
    generalize hy:wrap64 ((wrap64 (16 * (wrap64 ((nd L next).f1 - last)))) + (nd L next).f0) % 256=y
    have hlen:=len_a1b out b y
    obtain⟨B,g1,g2,g3⟩:=ihf x (i + 1) (nd L next).f1 v (out ++ [y] ++ b) hb.2 (by omega) h (by rw [hlen];omega) (by omega) (by omega)
    have:=pk_short L hL A hAl n hn next i x last y out b _ _ h5 h6 (by omega) hrd hs hy e1 e2 (by omega) g2 g3
    have ea:out ++ [y] ++ b ++ B=out ++ ([y] ++ b ++ B):=by simp only [List.append_assoc]
    rw [ea] at this
    refine⟨[y] ++ b ++ B,?_,this.1,this.2⟩
    rw [List.length_append,List.length_append,List.length_singleton];omega
   ·
    obtain⟨z,z1,z2,z3,_⟩:=ZigPut_ev (nd L next).f1 (by omega) (by omega)
    generalize hy:(nd L next).f0 % 256=y
    have hlen:=len_azb out z b y
    obtain⟨B,g1,g2,g3⟩:=ihf x (i + 1) (nd L next).f1 v (out ++ ([y] ++ z) ++ b) hb.2 (by omega) h (by rw [hlen];omega) (by omega) (by omega)
    have:=pk_long L hL A hAl n hn next i x last y out b z _ _ h5 h6 (by omega) hrd hs hy z1 z2 e1 e2 (by omega) g2 g3
    have ea:out ++ ([y] ++ z) ++ b ++ B=out ++ ([y] ++ z ++ b ++ B):=by simp only [List.append_assoc]
    rw [ea] at this
    refine⟨[y] ++ z ++ b ++ B,?_,this.1,this.2⟩
    rw [List.length_append,List.length_append,List.length_append,List.length_singleton];omega
theorem pk_item (L:List S49)(hL:L.length≤1500)(A:List Int)(hAl:A.length=L.length)(n:S49)(hn:n.f0≠12)(next i x:Nat)(last:Int)(out b:List Int)(R2:List Int × Int)(R3:List Int)
  (h5:(i:Int) < n.f4) (h6:next < L.length) (hi:i≤3000) (hrd:rd A (next:Int)=(x:Int))
  (e1:Ev (fun k=>spec_l4Pack.f k L (next:Int)) (b,(x:Int))) (e2:Ev (fun k=>impl_tree_bytesOf.f k L A (next:Int)) b) (ho:out.length + b.length≤10000000)
  (g2:Ev (fun k=>spec_l4Pack.l0 k L (x:Int) (out ++ b) ((i + 1:Nat):Int) n.f0 n.f1 n.f2 n.f3 n.f4) R2) (g3:Ev (fun k=>impl_tree_bytesOf.l0 k (out ++ b) (x:Int) (nd L next).f1 n.f4 ((i + 1:Nat):Int) L A n.f0 n.f1 n.f2 n.f3 n.f4) R3) :
  Ev (fun k=>spec_l4Pack.l0 k L (next:Int) out (i:Int) n.f0 n.f1 n.f2 n.f3 n.f4) R2∧Ev (fun k=>impl_tree_bytesOf.l0 k out (next:Int) last n.f4 (i:Int) L A n.f0 n.f1 n.f2 n.f3 n.f4) R3:=by
 have hw:wrap64 ((i:Int) + 1)=((i + 1:Nat):Int):=by rw [wrap64_id (by omega) (by omega)];push_cast;rfl
 have c1:(0:Int)≤(next:Int):=by omega
 have c2:(next:Int) < (L.length:Int):=by omega
 have c3:(next:Int) < (A.length:Int):=by omega
 have c5:out.length + b.length < 140737488355328:=by omega
 constructor
 ·
  refine Ev.step (fun k=>by rw [spec_l4Pack.l0]) ?_
  rw [hw]
  exact Ev.pos h5 (Ev.bind e1 (Ev.pos c5 g2))
 ·
  refine Ev.step (fun k=>by rw [impl_tree_bytesOf.l0]) ?_
  rw [rd_nd,hw,hrd]
  exact Ev.pos h5 (Ev.pos c1 (Ev.pos c2 (Ev.neg hn (Ev.bind e2 (Ev.pos c5 (Ev.pos c3 g3))))))
theorem pk_list (L:List S49)(hL:L.length≤1500)(A:List Int)(hA:AllNoted L A)(d:Nat)(n:S49)(hn:n.f0≠12)
  (ih:∀ p v:Nat,cF L d p=some v→∃ B:List Int,Ev (fun k=>spec_l4Pack.f k L (p:Int)) (B,(v:Int))∧Ev (fun k=>impl_tree_bytesOf.f k L A (p:Int)) B∧B.length + 20≤400 * (v - p)) :
  ∀ (f next i:Nat) (last:Int) (v:Nat) (out:List Int),next≤L.length→i + 1≤next→cLoop L n (cF L d) f next last i=some v→out.length + 400 * (L.length - next)≤1000000 →
   ∃ B:List Int,B.length≤400 * (v - next)∧Ev (fun k=>spec_l4Pack.l0 k L (next:Int) out (i:Int) n.f0 n.f1 n.f2 n.f3 n.f4) (out ++ B,(v:Int))∧Ev (fun k=>impl_tree_bytesOf.l0 k out (next:Int) last n.f4 (i:Int) L A n.f0 n.f1 n.f2 n.f3 n.f4) (out ++ B):=by
 intro f
 induction f with
 | zero=>intro next i last v out _ _ h;simp [cLoop] at h
 | succ f ihf =>
  intro next i last v out h3 h4 h ho
  unfold cLoop at h
  by_cases h5:(i:Int) < n.f4
  case neg =>
   rw [if_neg h5] at h
   injection h with h
   subst h
   refine⟨[],Nat.zero_le _,?_,?_⟩
   ·
    rw [List.append_nil]
    refine Ev.step (fun k=>by rw [spec_l4Pack.l0]) ?_
    exact Ev.neg h5 (Ev.now _)
   ·
    rw [List.append_nil]
    refine Ev.step (fun k=>by rw [impl_tree_bytesOf.l0]) ?_
    exact Ev.neg h5 (Ev.neg hn (Ev.now _))
  rw [if_pos h5] at h
  by_cases h6:next < L.length
  case neg=>rw [if_neg h6] at h;cases h
  rw [if_pos h6] at h
  by_cases h7:partB n last (nd L next)=true
  case neg=>rw [if_neg h7] at h;cases h
  rw [if_pos h7] at h
  cases hx:cF L d next with
  | none=>rw [hx] at h;cases h
  | some x =>
   rw [hx] at h
   have hb:=cF_bound L d next x hx
   obtain⟨b,e1,e2,e3⟩:=ih next x hx
   have hrd:=noted_rd hA h6 hx
   have hAl:=hA.1
   have hv:=cLoop_bound L n (cF L d) (fun q y=>cF_bound L d q y) f x _ _ v hb.2 h
   clear ih
   have hlen:(out ++ b).length=out.length + b.length:=List.length_append
   obtain⟨B,g1,g2,g3⟩:=ihf x (i + 1) (nd L next).f1 v (out ++ b) hb.2 (by omega) h (by rw [hlen];omega)
   have:=pk_item L hL A hAl n hn next i x last out b _ _ h5 h6 (by omega) hrd e1 e2 (by omega) g2 g3
   rw [List.append_assoc] at this
   refine⟨b ++ B,?_,this.1,this.2⟩
   rw [List.length_append];omega
def NumsOk (L:List S49):Prop:=∀ q:Nat,-9223372036854775808≤(nd L q).f2∧(nd L q).f2≤9223372036854775807
theorem pack_both (L:List S49)(hL:L.length≤1500)(hW:NumsOk L)(A:List Int)(hA:AllNoted L A) :
  ∀ (d p v:Nat),cF L d p=some v→∃ B:List Int,Ev (fun k=>spec_l4Pack.f k L (p:Int)) (B,(v:Int))∧Ev (fun k=>impl_tree_bytesOf.f k L A (p:Int)) B∧B.length + 20≤400 * (v - p):=by
 intro d
 induction d with
 | zero=>intro p v h;simp [cF] at h
 | succ d ih =>
  intro p v h
  have hbd:=cF_bound L (d + 1) p v h
  unfold cF at h
  by_cases h1:p < L.length
  case neg=>rw [if_neg h1] at h;cases h
  rw [if_pos h1] at h
  by_cases h2:plainB (nd L p)=true
  case neg=>rw [if_neg h2] at h;cases h
  rw [if_pos h2] at h
  have hAl:=hA.1
  have hw:wrap64 ((p:Int) + 1)=((p + 1:Nat):Int):=by rw [wrap64_id (by omega) (by omega)];push_cast;rfl
  have hnum:=hW p
  have many:=plainB_many h2
  -- a node without parts
  have leaf:(nd L p).f4=0→v=p + 1:=by
   intro h0
   cases hf:L.length + 1 - p with
   | zero=>omega
   | succ f =>
    rw [hf] at h
    unfold cLoop at h
    rw [if_neg (by omega)] at h
    injection h with h
    omega
  have sgo:∀ (b:Bool) (r:List Int × Int),(((nd L p).f0=5→b=true)∧((nd L p).f0=6→b=true)∧(b=true→(nd L p).f0=5∨(nd L p).f0=6))→Ev (fun k=>spec_l4Pack.j0 k L ((p + 1:Nat):Int) [] (nd L p).f0 b (nd L p).f0 (nd L p).f1 (nd L p).f2 (nd L p).f3 (nd L p).f4) r→Ev (fun k=>spec_l4Pack.f k L (p:Int)) r:=by
   intro b r hb hr
   refine Ev.step (fun k=>by rw [spec_l4Pack.f]) ?_
   rw [rd_nd,hw]
   refine Ev.pos (by omega) (Ev.pos (by omega) (Ev.here rfl ?_))
   by_cases h5:(nd L p).f0=5
   ·
    refine Ev.pos h5 ?_
    rw [show ((nd L p).f0 == 5)=b from by rw [hb.1 h5];exact beq_iff_eq.mpr h5]
    exact hr
   ·
    refine Ev.neg h5 ?_
    rw [show ((nd L p).f0 == 6)=b from by
     by_cases h6:(nd L p).f0=6
     ·
      rw [hb.2.1 h6];exact beq_iff_eq.mpr h6
     ·
      cases b with
      | false=>exact beq_eq_false_iff_ne.mpr h6
      | true=>exact absurd (hb.2.2 rfl) (by omega)]
    exact hr
  have igo:∀ (b:Bool) (r:List Int),(((nd L p).f0=5→b=true)∧((nd L p).f0=6→b=true)∧(b=true→(nd L p).f0=5∨(nd L p).f0=6))→Ev (fun k=>impl_tree_bytesOf.j0 k (p:Int) [] (nd L p).f0 b L A (nd L p).f0 (nd L p).f1 (nd L p).f2 (nd L p).f3 (nd L p).f4) r→Ev (fun k=>impl_tree_bytesOf.f k L A (p:Int)) r:=by
   intro b r hb hr
   refine Ev.step (fun k=>by rw [impl_tree_bytesOf.f]) ?_
   rw [rd_nd]
   refine Ev.pos (by omega) (Ev.pos (by omega) (Ev.here rfl ?_))
   by_cases h5:(nd L p).f0=5
   ·
    refine Ev.pos h5 ?_
    rw [show ((nd L p).f0 == 5)=b from by rw [hb.1 h5];exact beq_iff_eq.mpr h5]
    exact hr
   ·
    refine Ev.neg h5 ?_
    rw [show ((nd L p).f0 == 6)=b from by
     by_cases h6:(nd L p).f0=6
     ·
      rw [hb.2.1 h6];exact beq_iff_eq.mpr h6
     ·
      cases b with
      | false=>exact beq_eq_false_iff_ne.mpr h6
      | true=>exact absurd (hb.2.2 rfl) (by omega)]
    exact hr
  by_cases h56:(nd L p).f0=5∨(nd L p).f0=6
  ·
   obtain⟨z,z1,z2,z3,_⟩:=ZigPut_ev (nd L p).f2 hnum.1 hnum.2
   have hv:=leaf (by omega)
   refine⟨z,sgo true _ ⟨fun _=>rfl,fun _=>rfl,fun _=>h56⟩ ?_,igo true _ ⟨fun _=>rfl,fun _=>rfl,fun _=>h56⟩ ?_,by omega⟩
   ·
    rw [hv]
    exact Ev.step (fun k=>by rw [spec_l4Pack.j0]) (by exact Ev.pos rfl (Ev.bind z1 (Ev.now _)))
   ·
    exact Ev.step (fun k=>by rw [impl_tree_bytesOf.j0]) (by exact Ev.pos rfl (Ev.bind z2 (Ev.now _)))
  have no56:((nd L p).f0=5→false=true)∧((nd L p).f0=6→false=true)∧(false=true→(nd L p).f0=5∨(nd L p).f0=6):=⟨fun h=>absurd (.inl h) h56,fun h=>absurd (.inr h) h56,fun h=>absurd h (by decide)⟩
  by_cases h8:(nd L p).f0=8
  ·
   obtain⟨u,u1,u2,u3,_⟩:=UvarPut_ev ((nd L p).f3.size:Int)
   have hsz:(nd L p).f3.size≤300:=by
    have hp:=h2
    unfold plainB at hp
    rw [if_neg (by omega),if_neg (by omega),if_neg (by omega),if_pos h8] at hp
    simp only [Bool.and_eq_true,decide_eq_true_eq] at hp
    omega
   have hv:=leaf (by omega)
   have hl:=bytesOf_length (nd L p).f3
   refine⟨u ++ bytesOf (nd L p).f3,sgo false _ no56 ?_,igo false _ no56 ?_,by rw [List.length_append];omega⟩
   ·
    rw [hv]
    exact Ev.step (fun k=>by rw [spec_l4Pack.j0]) (by exact Ev.neg (by decide) (Ev.pos h8 (Ev.bind u1 (Ev.pos (by omega) (Ev.now _)))))
   ·
    exact Ev.step (fun k=>by rw [impl_tree_bytesOf.j0]) (by exact Ev.neg (by decide) (Ev.pos h8 (Ev.bind u2 (Ev.pos (by omega) (Ev.now _)))))
  have ij1:∀ (out r:List Int),Ev (fun k=>impl_tree_bytesOf.l0 k out ((p + 1:Nat):Int) 0 (nd L p).f4 0 L A (nd L p).f0 (nd L p).f1 (nd L p).f2 (nd L p).f3 (nd L p).f4) r→Ev (fun k=>impl_tree_bytesOf.j1 k (p:Int) out L A (nd L p).f0 (nd L p).f1 (nd L p).f2 (nd L p).f3 (nd L p).f4) r:=by
   intro out r h
   refine Ev.step (fun k=>by rw [impl_tree_bytesOf.j1]) ?_
   rw [hw];exact h
  by_cases h9:(nd L p).f0=9
  ·
   have body:∀ out:List Int,out.length≤20→∃ B:List Int,B.length≤400 * (v - (p + 1))∧Ev (fun k=>spec_l4Pack.l0 k L ((p + 1:Nat):Int) out ((0:Nat):Int) (nd L p).f0 (nd L p).f1 (nd L p).f2 (nd L p).f3 (nd L p).f4) (out ++ B,(v:Int))∧Ev (fun k=>impl_tree_bytesOf.l0 k out ((p + 1:Nat):Int) 0 (nd L p).f4 ((0:Nat):Int) L A (nd L p).f0 (nd L p).f1 (nd L p).f2 (nd L p).f3 (nd L p).f4) (out ++ B) :=
    fun out ho=>pk_list L hL A hA d (nd L p) (by omega) ih (L.length + 1 - p) (p + 1) 0 0 v out (by omega) (by omega) h (by omega)
   by_cases h14:(nd L p).f4≤14
   ·
    obtain⟨B,g1,g2,g3⟩:=body [wrap64 ((wrap64 (16 * (nd L p).f4)) + (nd L p).f2) % 256] (by simp)
    refine⟨[wrap64 ((wrap64 (16 * (nd L p).f4)) + (nd L p).f2) % 256] ++ B,sgo false _ no56 ?_,igo false _ no56 ?_,by rw [List.length_append,List.length_singleton];omega⟩
    ·
     refine Ev.step (fun k=>by rw [spec_l4Pack.j0]) ?_
     refine Ev.neg (by decide) (Ev.neg h8 (Ev.pos h9 (Ev.pos h14 (Ev.pos (by simp) ?_))))
     refine Ev.step (fun k=>by rw [spec_l4Pack.j1]) ?_
     exact g2
    ·
     refine Ev.step (fun k=>by rw [impl_tree_bytesOf.j0]) ?_
     exact Ev.neg (by decide) (Ev.neg h8 (Ev.pos h9 (Ev.pos h14 (Ev.pos (by simp) (ij1 _ _ g3)))))
   ·
    obtain⟨u,u1,u2,u3,_⟩:=UvarPut_ev (nd L p).f4
    obtain⟨B,g1,g2,g3⟩:=body ([wrap64 (240 + (nd L p).f2) % 256] ++ u) (by rw [List.length_append,List.length_singleton];omega)
    refine⟨([wrap64 (240 + (nd L p).f2) % 256] ++ u) ++ B,sgo false _ no56 ?_,igo false _ no56 ?_,by rw [List.length_append,List.length_append,List.length_singleton];omega⟩
    ·
     refine Ev.step (fun k=>by rw [spec_l4Pack.j0]) ?_
     refine Ev.neg (by decide) (Ev.neg h8 (Ev.pos h9 (Ev.neg h14 (Ev.pos (by simp) (Ev.here rfl (Ev.bind u1 (Ev.pos (by simp;omega) ?_)))))))
     refine Ev.step (fun k=>by rw [spec_l4Pack.j1]) ?_
     exact g2
    ·
     refine Ev.step (fun k=>by rw [impl_tree_bytesOf.j0]) ?_
     exact Ev.neg (by decide) (Ev.neg h8 (Ev.pos h9 (Ev.neg h14 (Ev.here rfl (Ev.bind u2 (Ev.pos (by simp;omega) (ij1 _ _ g3)))))))
  by_cases h12:(nd L p).f0=12
  ·
   obtain⟨B,g1,g2,g3⟩:=pk_struct L hL A hA d (nd L p) h12 ih (L.length + 1 - p) (p + 1) 0 0 v [] (by omega) (by omega) h (by rw [List.length_nil];omega) (by omega) (by omega)
   refine⟨[] ++ B ++ [0],sgo false _ no56 ?_,igo false _ no56 ?_,?_⟩
   ·
    refine Ev.step (fun k=>by rw [spec_l4Pack.j0]) ?_
    exact Ev.neg (by decide) (Ev.neg h8 (Ev.neg h9 (Ev.pos h12 g2)))
   ·
    refine Ev.step (fun k=>by rw [impl_tree_bytesOf.j0]) ?_
    exact Ev.neg (by decide) (Ev.neg h8 (Ev.neg h9 (ij1 _ _ g3)))
   ·
    rw [List.length_append,List.length_append,List.length_nil,List.length_singleton];omega
  ·
   have h40:(nd L p).f4=0:=by omega
   have hv:=leaf h40
   refine⟨[],sgo false _ no56 ?_,igo false _ no56 ?_,by rw [List.length_nil];omega⟩
   ·
    rw [hv]
    refine Ev.step (fun k=>by rw [spec_l4Pack.j0]) ?_
    exact Ev.neg (by decide) (Ev.neg h8 (Ev.neg h9 (Ev.neg h12 (Ev.now _))))
   ·
    refine Ev.step (fun k=>by rw [impl_tree_bytesOf.j0]) ?_
    refine Ev.neg (by decide) (Ev.neg h8 (Ev.neg h9 (ij1 _ _ ?_)))
    refine Ev.step (fun k=>by rw [impl_tree_bytesOf.l0]) ?_
    exact Ev.neg (by omega) (Ev.neg h12 (Ev.now _))
theorem TreePack_both (L:List S49)(hW:NumsOk L):∃ r:List Int × Bool,Ev (fun k=>spec_TreePack.f k L) r∧Ev (fun k=>impl_TreePack.f k L) r∧r.1.length≤600000∧r.2=treeB L:=by
 have ht:=impl_treeOf_ev L
 have hk:=spec_TreeOk_ev L
 unfold spec_TreePack.f impl_TreePack.f
 cases hb:treeB L with
 | false =>
  rw [hb] at ht hk
  rw [if_neg (by decide)] at ht
  exact⟨([],false),Ev.bind hk (Ev.neg (by decide) (Ev.now _)),Ev.bind ht (Ev.neg (by decide) (Ev.now _)),by simp,rfl⟩
 | true =>
  have hl:=treeB_len hb
  have hA:=afterR_noted hb
  have hc:=treeB_cF hb
  rw [hb] at ht hk
  rw [if_pos rfl] at ht
  obtain⟨B,e1,e2,e3⟩:=pack_both L hl.2 hW _ hA 12 0 L.length hc
  exact⟨(B,true),Ev.bind hk (Ev.pos rfl (Ev.bind e1 (Ev.now _))),Ev.bind ht (Ev.pos rfl (Ev.bind e2 (Ev.now _))),by dsimp only;omega,rfl⟩
theorem chsB_at (l:List S58):∀ d i:Nat,chsB l d i=true→∀ j,i≤j→j < i + d→chB (rd_T58 l (j:Int)) (j:Int)=true:=by
 intro d
 induction d with
 | zero=>intro i _ j h1 h2;omega
 | succ d ih =>
  intro i h j h1 h2
  unfold chsB at h
  rw [Bool.and_eq_true] at h
  by_cases e:j=i
  ·
   subst e;exact h.1
  ·
   exact ih (i + 1) h.2 j (by omega) (by omega)
theorem metaG_at (L:List S54)(n:Nat)(R:Int):∀ (d i:Nat) (acc:Int),metaG L n R d i acc=true→∀ j,i≤j→j < i + d→grB n (rd_T54 L (j:Int))=true:=by
 intro d
 induction d with
 | zero=>intro i _ _ j h1 h2;omega
 | succ d ih =>
  intro i acc h j h1 h2
  unfold metaG at h
  rw [Bool.and_eq_true] at h
  by_cases e:j=i
  ·
   subst e;exact h.1
  ·
   exact ih (i + 1) _ h.2 j (by omega) (by omega)
theorem metaB_parts {s:List S84}{R:Int}{L:List S54}(h:metaB s R L=true):schOk s=true∧L.length≤40∧∀ g ∈ L,g.f1.length=(leaves s).length∧∀ x ∈ g.f1,ChOk s x∧x.f0≤20:=by
 unfold metaB at h
 simp only [Bool.and_eq_true,decide_eq_true_eq] at h
 obtain⟨hk,hL,hR,hG⟩:=h
 refine⟨hk,by omega,fun g hg=>?_⟩
 obtain⟨j,hj,rfl⟩:=List.getElem_of_mem hg
 have e:rd_T54 L (j:Int)=L[j]:=getD_eq (by simpa using hj)
 have hgr:=metaG_at L _ R L.length 0 0 hG j (by omega) (by omega)
 rw [e] at hgr
 unfold grB at hgr
 simp only [Bool.and_eq_true,decide_eq_true_eq] at hgr
 obtain⟨_,hn,hc⟩:=hgr
 refine⟨by omega,fun x hx=>?_⟩
 obtain⟨i,hi,rfl⟩:=List.getElem_of_mem hx
 have e2:rd_T58 L[j].f1 (i:Int)=L[j].f1[i]:=getD_eq (by simpa using hi)
 have hcc:=chsB_at L[j].f1 L[j].f1.length 0 hc i (by omega) (by omega)
 rw [e2] at hcc
 unfold chB at hcc
 simp only [Bool.and_eq_true,decide_eq_true_eq] at hcc
 obtain⟨c0,c1,c2,c3,c4,c5,c6⟩:=hcc
 have hll:=leaves_length s
 obtain⟨_,h20,_,_⟩:=schOk_parts hk
 exact⟨⟨by omega,by omega,by omega,by omega,by omega⟩,by omega⟩
def sizeN (a:Int)(x:S58):Int:=wrap64 (a + x.f4)
def grN (s:List S84)(g:S54):List S49 :=
 [(⟨12,0,0,(⟨#[]⟩:ByteArray),3⟩:S49),⟨9,1,12,(⟨#[]⟩:ByteArray),(g.f1.length:Int)⟩] ++ (g.f1.flatMap (chN s) ++ [(⟨6,2,g.f1.foldl sizeN 0,(⟨#[]⟩:ByteArray),0⟩:S49),⟨6,3,g.f0,(⟨#[]⟩:ByteArray),0⟩])
def metaN (s:List S84)(R:Int)(L:List S54):List S49 :=
 [(⟨12,0,0,(⟨#[]⟩:ByteArray),4⟩:S49),⟨5,1,1,(⟨#[]⟩:ByteArray),0⟩] ++ (schN s ++ ([(⟨6,3,R,(⟨#[]⟩:ByteArray),0⟩:S49),⟨9,4,if L.length=0 then 0 else 12,(⟨#[]⟩:ByteArray),(L.length:Int)⟩] ++ L.flatMap (grN s)))
theorem schN_len (s:List S84)(h:s.length≤20):(schN s).length≤101:=by
 have:=flat_le_ (colN s) 5 (List.range s.length) (fun i _=>colN_len s i)
 rw [List.length_range] at this
 unfold schN;rw [List.length_append,List.length_singleton];omega
theorem grN_len {s:List S84}{g:S54}(hl:g.f1.length≤20)(h:∀ x ∈ g.f1,ChOk s x):(grN s g).length≤804:=by
 have:=flat_le_ (chN s) 40 g.f1 (fun x hx=>chN_len (h x hx))
 unfold grN;simp only [List.length_append,List.length_cons,List.length_nil];omega
def metaR (s:List S84)(R:Int)(L:List S54):List S49 × Bool:=if metaB s R L=true then (if treeB (metaN s R L)=true then (metaN s R L,true) else ([],false)) else ([],false)
theorem spec_groups_loop (s:List S84)(hs:ColsOk s)(h20:s.length≤20)(R:Int)(L:List S54)(hL:L.length≤40)(hg:∀ g ∈ L,g.f1.length=(leaves s).length∧∀ x ∈ g.f1,ChOk s x∧x.f0≤20)(out:List S49)(ho:out.length≤200)(N:List S49)(eN:out ++ L.flatMap (grN s)=N) :
  Ev (fun k=>spec_MetaTree.l0 k ([]:List S49) out 0 s R L) (if treeB N=true then (N,true) else ([],false)):=by
 have hll:=leaves_length s
 refine flat_loop (fun k out i=>spec_MetaTree.l0 k ([]:List S49) out i s R L) (grN s) 804 L (fun g h=>grN_len (by have:=(hg g h).1;omega) (fun x hx=>((hg g h).2 x hx).1)) _ out (fun i q hi hq hgl hr=>?_) ?_
 ·
  have e:rd_T54 L (i:Int)=L[i]:=getD_eq (by simpa using hi)
  have h1:804 * i≤804 * 40:=Nat.mul_le_mul_left _ (by omega)
  obtain⟨hn,hx⟩:=hg L[i] (List.getElem_mem _)
  refine Ev.step (fun k=>by rw [spec_MetaTree.l0]) ?_
  rw [e]
  unfold grN at hr
  generalize L[i]=g at *
  refine Ev.pos (by omega) (Ev.pos (by omega) (Ev.here rfl (Ev.pos (by simp;omega) ?_)))
  refine flat2_loop (fun k out a j=>spec_MetaTree.l1 k ([]:List S49) out (i:Int) a j s R L g.f0 g.f1) (chN s) sizeN 40 g.f1 (fun x h=>chN_len (hx x h).1) _ _ 0 (fun j q2 a hj hq2 hcl hr2=>?_) ?_
  ·
   have e2:rd_T58 g.f1 (j:Int)=g.f1[j]:=getD_eq (by simpa using hj)
   have h2:40 * j≤40 * 20:=Nat.mul_le_mul_left _ (by omega)
   simp only [List.length_append,List.length_cons,List.length_nil] at hq2
   refine Ev.step (fun k=>by rw [spec_MetaTree.l1]) ?_
   rw [e2,wrap64_id (x:=(j:Int) + 1) (by omega) (by omega)]
   exact Ev.pos (by omega) (Ev.pos (by omega) (Ev.bind (spec_l18Nodes_ev s hs g.f1[j] (hx _ (List.getElem_mem _)).1) (Ev.pos (by omega) hr2)))
  ·
   have h3:=flat_le_ (chN s) 40 g.f1 (fun x h=>chN_len (hx x h).1)
   refine Ev.step (fun k=>by rw [spec_MetaTree.l1]) ?_
   rw [wrap64_id (x:=(i:Int) + 1) (by omega) (by omega)]
   refine Ev.neg (by omega) (Ev.here rfl (Ev.here rfl (Ev.here rfl (Ev.pos (by simp only [List.length_append,List.length_cons,List.length_nil];omega) ?_))))
   simp only [List.append_assoc] at hr ⊢
   exact hr
 ·
  refine Ev.step (fun k=>by rw [spec_MetaTree.l0]) ?_
  rw [eN]
  refine Ev.neg (by omega) (Ev.bind (spec_TreeOk_ev N) ?_)
  cases treeB N with
  | true=>exact Ev.pos rfl (Ev.now _)
  | false=>exact Ev.neg (by decide) (Ev.now _)
theorem spec_MetaTree_ev (s:List S84)(hs:ColsOk s)(R:Int)(L:List S54)(hm:MetaShort L):Ev (fun k=>spec_MetaTree.f k s R L) (metaR s R L):=by
 unfold spec_MetaTree.f metaR
 refine Ev.here rfl (Ev.bind (spec_MetaOk_ev s hs R L hm) ?_)
 cases hB:metaB s R L with
 | false=>exact Ev.neg (by decide) (Ev.now _)
 | true =>
  obtain⟨hk,hL,hg⟩:=metaB_parts hB
  obtain⟨_,h20,_,_⟩:=schOk_parts hk
  have hsl:=schN_len s (by omega)
  rw [if_pos rfl]
  refine Ev.pos rfl (Ev.here rfl (Ev.here rfl (Ev.bind (spec_l5Nodes_ev s (by omega)) (Ev.pos (by simp;omega) (Ev.here rfl (Ev.here rfl (Ev.pos (by simp;omega) (Ev.here rfl ?_))))))))
  by_cases h0:L.length=0
  ·
   refine Ev.neg (by omega) (Ev.step (fun k=>by rw [spec_MetaTree.j0]) (Ev.pos (by simp;omega) ?_))
   exact spec_groups_loop s hs (by omega) R L hL hg _ (by simp;omega) _ (by unfold metaN;rw [if_pos h0];simp)
  ·
   refine Ev.pos (by omega) (Ev.step (fun k=>by rw [spec_MetaTree.j0]) (Ev.pos (by simp;omega) ?_))
   exact spec_groups_loop s hs (by omega) R L hL hg _ (by simp;omega) _ (by unfold metaN;rw [if_neg h0];simp)
theorem impl_TreeOk_ev (L:List S49):Ev (fun k=>impl_TreeOk.f k L) (treeB L):=by
 unfold impl_TreeOk.f
 cases h:treeB L with
 | true=>exact Ev.bind (impl_treeOf_ev L) (by rw [if_pos h];exact Ev.now _)
 | false=>exact Ev.bind (impl_treeOf_ev L) (by rw [if_neg (by rw [h];decide)];exact Ev.now _)
theorem impl_MetaTree_ev (s:List S84)(hs:ColsOk s)(R:Int)(L:List S54)(hm:MetaShort L):Ev (fun k=>impl_MetaTree.f k s R L) (metaR s R L):=by
 unfold impl_MetaTree.f metaR
 refine Ev.bind (impl_MetaOk_ev s hs R L hm) ?_
 cases hB:metaB s R L with
 | false=>exact Ev.neg (by decide) (Ev.now _)
 | true =>
  obtain⟨hk,hL,hg⟩:=metaB_parts hB
  obtain⟨h2,h20,_,_⟩:=schOk_parts hk
  have hsl:=schN_len s (by omega)
  have hll:=leaves_length s
  have hlv:leaves s=lvs s s.length:=by unfold leaves;rw [if_pos hk]
  have hlp:=lvs_pos hk
  rw [← hlv] at hlp
  rw [if_pos rfl]
  refine Ev.pos rfl ?_
  refine map_loop (fun k out i=>impl_MetaTree.l0 k out L (L.length:Int) i s R L) (grN s) L _ [] (fun i out hi ho hr=>?_) ?_
  ·
   have e:rd_T54 L (i:Int)=L[i]:=getD_eq (by simpa using hi)
   obtain⟨hn,hx⟩:=hg L[i] (List.getElem_mem _)
   simp only [List.length_nil] at ho
   refine Ev.step (fun k=>by rw [impl_MetaTree.l0]) ?_
   rw [e]
   generalize L[i]=g at *
   refine Ev.pos (by omega) (Ev.pos (by omega) (Ev.pos (by omega) ?_))
   refine flat2_loop (fun k o a j=>impl_MetaTree.l1 k out o a L (L.length:Int) (i:Int) g.f1 (g.f1.length:Int) j s R L g.f0 g.f1) (fun x=>[chN s x]) sizeN 1 g.f1 (fun _ _=>Nat.le_refl _) _ [] 0 (fun j q2 a hj hq2 hcl hr2=>?_) ?_
   ·
    have e2:rd_T58 g.f1 (j:Int)=g.f1[j]:=getD_eq (by simpa using hj)
    have h:=hx _ (List.getElem_mem hj)
    simp only [List.length_nil] at hq2
    refine Ev.step (fun k=>by rw [impl_MetaTree.l1]) ?_
    rw [e2,wrap64_id (x:=(j:Int) + 1) (by omega) (by omega)]
    exact Ev.pos (by omega) (Ev.pos (by omega) (Ev.pos (by omega) (Ev.bind (impl_chunkNodes_ev s hs g.f1[j] h.1 (by omega)) (Ev.pos (by omega) hr2))))
   ·
    rw [List.nil_append,flatMap_single_]
    have h3:=flat_le_ (chN s) 40 g.f1 (fun x h=>chN_len (hx x h).1)
    have b1:=listNode_ev 1 12 40 (g.f1.map (chN s)) (by simp;omega) (fun y hy=>by obtain⟨v,hv,rfl⟩:=List.mem_map.1 hy;exact chN_len (hx v hv).1) (by simp;omega)
    rw [List.length_map,if_neg (by omega),List.flatMap_map] at b1
    refine Ev.step (fun k=>by rw [impl_MetaTree.l1]) ?_
    rw [wrap64_id (x:=(i:Int) + 1) (by omega) (by omega)]
    refine Ev.neg (by omega) (Ev.bind b1 (Ev.here rfl (Ev.here rfl (Ev.bind (Ev.cast (structNode_ev 0 900 _ (by simp) (by simp;simp at h3;omega) (by simp)) (?_:_=grN s g)) (Ev.pos (by omega) hr)))))
    unfold grN;simp
  ·
   rw [List.nil_append]
   refine Ev.step (fun k=>by rw [impl_MetaTree.l0]) ?_
   have b1:=listNode_ev 4 12 804 (L.map (grN s)) (by simp;omega) (fun y hy=>by obtain⟨v,hv,rfl⟩:=List.mem_map.1 hy;exact grN_len (by have:=(hg v hv).1;omega) (fun x hx=>((hg v hv).2 x hx).1)) (by simp;omega)
   rw [List.length_map,List.flatMap_map] at b1
   have h4:=flat_le_ (grN s) 804 L (fun g h=>grN_len (by have:=(hg g h).1;omega) (fun x hx=>((hg g h).2 x hx).1))
   refine Ev.neg (by omega) (Ev.here rfl (Ev.bind (impl_schemaNodes_ev s (by omega) (by omega)) (Ev.here rfl (Ev.bind b1 (Ev.bind (Ev.cast (structNode_ev 0 40000 _ (by simp) (by simp;simp at h4;omega) (by simp)) (?_:_=metaN s R L)) (Ev.bind (impl_TreeOk_ev (metaN s R L)) ?_))))))
   ·
    unfold metaN;simp
   ·
    cases treeB (metaN s R L) with
    | true=>exact Ev.pos rfl (Ev.now _)
    | false=>exact Ev.neg (by decide) (Ev.now _)
theorem marks_bound {α:Type}(B:Nat)(M:Nat→List α→Int→Int→Option (Int × List α))(P:α→Prop)
  (hM:∀ (xs:List α) (c:Int) (i:Nat) (h:i < xs.length),P xs[i]→xs.length≤1048576→0≤c→c + B * (xs.length - i:Nat)≤4000000000000000000→∃ c' y,c≤c'∧c'≤c + B∧∀ r,Ev (fun k=>M k (xs.set i y) c' (i + 1:Nat)) r→Ev (fun k=>M k xs c (i:Int)) r)
  (h0:∀ (xs:List α) (c:Int),Ev (fun k=>M k xs c (xs.length:Int)) (c,xs)) (xs:List α) (hP:∀ x ∈ xs,P x) (hl:xs.length≤1048576) (c:Int) (hc:0≤c) (hb:c + B * xs.length≤4000000000000000000) :
  ∃ c' ys,c≤c'∧c'≤c + B * xs.length∧Ev (fun k=>M k xs c 0) (c',ys):=by
 have key:∀ (d i:Nat) (xs:List α) (c:Int),i + d=xs.length→(∀ j (h:j < xs.length),i≤j→P xs[j])→xs.length≤1048576→0≤c→c + B * d≤4000000000000000000→∃ c' ys,c≤c'∧c'≤c + B * d∧Ev (fun k=>M k xs c (i:Int)) (c',ys):=by
  intro d
  induction d with
  | zero =>
   intro i xs c hi _ _ _ _
   obtain rfl:i=xs.length:=by omega
   exact⟨c,xs,by omega,by simp,h0 xs c⟩
  | succ d ih =>
   intro i xs c hi hp hl hc hb
   have hil:i < xs.length:=by omega
   have e:(B:Int) * ((d + 1:Nat):Int)=B * d + B:=by push_cast;rw [Int.mul_add,Int.mul_one]
   have en:xs.length - i=d + 1:=by omega
   obtain⟨c1,y,g1,g2,g3⟩:=hM xs c i hil (hp i hil (by omega)) hl hc (by rw [en];exact hb)
   obtain⟨c',ys,a1,a2,a3⟩:=ih (i + 1) (xs.set i y) c1 (by simp;omega) (fun j hj hij=>by
    rw [List.getElem_set_ne (by omega)];exact hp j (by simpa using hj) (by omega)) (by simpa using hl) (by omega) (by omega)
   exact⟨c',ys,by omega,by omega,g3 _ a3⟩
 obtain⟨c',ys,a1,a2,a3⟩:=key xs.length 0 xs c (by omega) (fun j hj _=>hP _ (List.getElem_mem hj)) hl hc hb
 exact⟨c',ys,a1,a2,a3⟩
theorem markChunkS_ex (l:List S58)(hl:l.length≤1048576)(hs:∀ x ∈ l,x.f5.length≤1048576)(c:Int)(hc:0≤c)(hb:c + 1048581 * l.length≤4000000000000000000):∃ c' ys,c≤c'∧c'≤c + 1048581 * l.length∧Ev (fun k=>laws_markChunkS.f k l c) (c',ys):=by
 unfold laws_markChunkS.f
 refine marks_bound 1048581 (fun k xs c i=>laws_markChunkS.l0 k xs c i) (fun x=>x.f5.length≤1048576) (fun xs c i hi hp hx h0 hb=>?_) (fun xs c=>Ev.step (fun k=>by rw [laws_markChunkS.l0]) (by exact Ev.neg (by omega) (Ev.now _))) l hs hl c hc hb
 have e:rd_T58 xs (i:Int)=xs[i]:=getD_eq (by simpa using hi)
 have hb2:c + 1048581≤4000000000000000000:=by
  have:1≤xs.length - i:=by omega
  have:(1048581:Int) * 1≤1048581 * ((xs.length - i:Nat):Int):=Int.mul_le_mul_of_nonneg_left (by omega) (by omega)
  omega
 obtain⟨m,ys,hm,h1,_⟩:=markIntS_evm xs[i].f5 (c + 1 + 1 + 1 + 1 + 1) (by omega) (by omega)
 refine⟨m,⟨c,c + 1,c + 1 + 1,c + 1 + 1 + 1,c + 1 + 1 + 1 + 1,ys⟩,by omega,by omega,fun r hr=>?_⟩
 refine Ev.step (fun k=>by rw [laws_markChunkS.l0]) ?_
 refine Ev.pos (by omega) (Ev.pos (by omega) ?_)
 rw [e,wrap64_id (x:=c + 1) (by omega) (by omega),wrap64_id (x:=c + 1 + 1) (by omega) (by omega),wrap64_id (x:=c + 1 + 1 + 1) (by omega) (by omega),wrap64_id (x:=c + 1 + 1 + 1 + 1) (by omega) (by omega),wrap64_id (x:=c + 1 + 1 + 1 + 1 + 1) (by omega) (by omega),wrap64_id (x:=(i:Int) + 1) (by omega) (by omega)]
 exact Ev.bind h1 hr
theorem markGroupMetaS_ex (l:List S54)(h:MetaShort l)(c:Int)(hc:0≤c)(hc2:c≤10000000):∃ c' ys,c≤c'∧Ev (fun k=>laws_markGroupMetaS.f k l c) (c',ys):=by
 unfold laws_markGroupMetaS.f
 obtain⟨hl,hs⟩:=h
 obtain⟨c',ys,a1,_,a3⟩:=marks_bound 1099516870657 (fun k xs c i=>laws_markGroupMetaS.l0 k xs c i) (fun x=>x.f1.length≤1048576∧∀ y ∈ x.f1,y.f5.length≤1048576) (fun xs c i hi hp hx h0 hb=>by
  have e:rd_T54 xs (i:Int)=xs[i]:=getD_eq (by simpa using hi)
  have hb2:c + 1099516870657≤4000000000000000000:=by
   have:1≤xs.length - i:=by omega
   have:(1099516870657:Int) * 1≤1099516870657 * ((xs.length - i:Nat):Int):=Int.mul_le_mul_of_nonneg_left (by omega) (by omega)
   omega
  obtain⟨m,ys,g1,g2,g3⟩:=markChunkS_ex xs[i].f1 hp.1 hp.2 (c + 1) (by omega) (by have:=hp.1;omega)
  refine⟨m,⟨c,ys⟩,by omega,by have:=hp.1;omega,fun r hr=>?_⟩
  refine Ev.step (fun k=>by rw [laws_markGroupMetaS.l0]) ?_
  refine Ev.pos (by omega) (Ev.pos (by omega) ?_)
  rw [e,wrap64_id (x:=c + 1) (by omega) (by omega),wrap64_id (x:=(i:Int) + 1) (by omega) (by omega)]
  exact Ev.bind g3 hr) (fun xs c=>Ev.step (fun k=>by rw [laws_markGroupMetaS.l0]) (by exact Ev.neg (by omega) (Ev.now _))) l hs hl c hc (by omega)
 exact⟨c',ys,a1,a3⟩
theorem markMeta_ex (s:List S84)(hs:s.length≤1048576)(R:Int)(L:List S54)(h:MetaShort L):∃ c ys,0≤c∧Ev (fun k=>laws_markMeta.f k s R L 1) (c,ys):=by
 obtain⟨m1,y1,p1,k1,_⟩:=markColS_evm s 1 (by omega) (by omega)
 obtain⟨m2,y2,p2,k2⟩:=markGroupMetaS_ex L h m1 (by omega) (by omega)
 unfold laws_markMeta.f
 exact⟨m2,y1,by omega,Ev.bind k1 (Ev.bind k2 (Ev.now _))⟩
def in64 (x:Int):Prop:=-9223372036854775808≤x∧x≤9223372036854775807
theorem in64_lit {x:Int}(h:(Lit.int .i64 x).wf=true):in64 x:=i64_of h
def Fine (l:List S49):Prop:=∀ n ∈ l,in64 n.f2
theorem fine_nil:Fine []:=fun _ h=>by simp at h
theorem fine_cons {n:S49}{l:List S49}(h:in64 n.f2)(k:Fine l):Fine (n :: l):=fun m hm=>by
 rcases List.mem_cons.1 hm with rfl | e
 ·
  exact h
 ·
  exact k m e
theorem fine_app {a b:List S49}(h:Fine a)(k:Fine b):Fine (a ++ b):=fun m hm=>(List.mem_append.1 hm).elim (h m) (k m)
theorem fine_flat {α:Type}{g:α→List S49}{T:List α}(h:∀ x ∈ T,Fine (g x)):Fine (T.flatMap g):=fun m hm=>by
 obtain⟨x,hx,hm⟩:=List.mem_flatMap.1 hm
 exact h x hx m hm
theorem fine_map {α:Type}{g:α→S49}{T:List α}(h:∀ x ∈ T,in64 (g x).f2):Fine (T.map g):=fun m hm=>by
 obtain⟨x,hx,rfl⟩:=List.mem_map.1 hm
 exact h x hx
def ColsFine (s:List S84):Prop:=∀ i:Int,in64 (rd_T84 s i).f1∧in64 (rd_T84 s i).f2∧in64 (rd_T84 s i).f3
theorem colsFine_of (l:List S75)(hw:∀ y ∈ l,w75 y):ColsFine (l.map cvCol):=by
 intro i
 have e:rd_T84 (l.map cvCol) i=(l.map cvCol).getD i.toNat z84:=rfl
 rw [e]
 by_cases hi:i.toNat < l.length
 ·
  rw [getD_eq (by simpa using hi),List.getElem_map]
  obtain⟨a,b,c,d⟩:=hw (l[i.toNat]) (List.getElem_mem _)
  exact⟨in64_lit b,in64_lit c,in64_lit d⟩
 ·
  rw [List.getD_eq_getElem?_getD,List.getElem?_eq_none (by simp;omega)]
  exact⟨⟨by decide,by decide⟩,⟨by decide,by decide⟩,⟨by decide,by decide⟩⟩
def ChFine (x:S58):Prop:=in64 x.f1∧in64 x.f2∧in64 x.f3∧in64 x.f4∧∀ v ∈ x.f5,in64 v
def GrFine (g:S54):Prop:=in64 g.f0∧∀ x ∈ g.f1,ChFine x
theorem grFine_of (l:List S79)(hw:∀ y ∈ l,w79 y):∀ g ∈ l.map cvGroup,GrFine g:=by
 intro g hg
 obtain⟨y,hy,rfl⟩:=List.mem_map.1 hg
 obtain⟨h0,_,h1⟩:=hw y hy
 refine⟨in64_lit h0,fun x hx=>?_⟩
 obtain⟨z,hz,rfl⟩:=List.mem_map.1 hx
 obtain⟨a,b,c,d,e,_,f⟩:=h1 z hz
 exact⟨in64_lit b,in64_lit c,in64_lit d,in64_lit e,fun v hv=>in64_lit (f v hv)⟩
theorem k64 {x:Int}(h0:-9223372036854775808≤x:=by first | (dsimp only;omega) | omega)(h1:x≤9223372036854775807:=by first | (dsimp only;omega) | omega):in64 x:=⟨h0,h1⟩
theorem colN_fine {s:List S84}(h:ColsFine s)(i:Nat):Fine (colN s i):=by
 have hi:=h (i:Int)
 unfold colN
 refine fine_app (fine_app (fine_app (fine_app (fine_cons k64 fine_nil) ?_) ?_) (fine_cons k64 fine_nil)) ?_
 ·
  split
  ·
   exact fine_nil
  ·
   exact fine_cons hi.1 fine_nil
 ·
  split
  ·
   exact fine_nil
  ·
   exact fine_cons hi.2.1 fine_nil
 ·
  split
  ·
   exact fine_cons hi.2.2 fine_nil
  ·
   exact fine_nil
theorem chN_fine {s:List S84}(h:ColsFine s){x:S58}(hx:ChFine x):Fine (chN s x):=by
 obtain⟨h1,h2,h3,h4,h5⟩:=hx
 unfold chN
 refine fine_app (fine_cons k64 (fine_cons h1 (fine_cons k64 (fine_cons (h _).1 (fine_cons k64 fine_nil))))) (fine_app (fine_map h5) (fine_cons k64 (fine_app (fine_map fun _ _=>k64) (fine_app (fine_cons k64 (fine_cons h3 (fine_cons h4 (fine_cons h4 (fine_cons h1 fine_nil))))) ?_))))
 split
 ·
  exact fine_nil
 ·
  exact fine_cons h2 fine_nil
theorem size_in64 (l:List S58)(a:Int)(h:in64 a):in64 (l.foldl sizeN a):=by
 induction l generalizing a with
 | nil=>exact h
 | cons x l ih=>exact ih _ ⟨wrap64_lo _,wrap64_hi _⟩
theorem metaN_fine {s:List S84}(h:ColsFine s){R:Int}(hR:in64 R){L:List S54}(hL:∀ g ∈ L,GrFine g):Fine (metaN s R L):=by
 unfold metaN schN
 refine fine_app (fine_cons k64 (fine_cons k64 fine_nil)) (fine_app (fine_app (fine_cons k64 fine_nil) (fine_flat fun i _=>colN_fine h i)) (fine_app (fine_cons hR (fine_cons ?_ fine_nil)) (fine_flat fun g hg=>?_)))
 ·
  simp only;split
  ·
   exact k64
  ·
   exact k64
 ·
  obtain⟨h0,h1⟩:=hL g hg
  unfold grN
  exact fine_app (fine_cons k64 (fine_cons k64 fine_nil)) (fine_app (fine_flat fun x hx=>chN_fine h (h1 x hx)) (fine_cons (size_in64 _ _ k64) (fine_cons h0 fine_nil)))
theorem fine_nums {L:List S49}(h:Fine L):NumsOk L:=by
 intro q
 by_cases hq:q < L.length
 ·
  rw [show nd L q=L[q] from getD_eq hq];exact h _ (List.getElem_mem hq)
 ·
  have:nd L q=z49:=by unfold nd;rw [List.getD_eq_getElem?_getD,List.getElem?_eq_none (by omega)];rfl
  rw [this];exact⟨by decide,by decide⟩
theorem metaR_fine {s:List S84}(h:ColsFine s){R:Int}(hR:in64 R){L:List S54}(hL:∀ g ∈ L,GrFine g):Fine (metaR s R L).1:=by
 unfold metaR
 split
 ·
  split
  ·
   exact metaN_fine h hR hL
  ·
   exact fine_nil
 ·
  exact fine_nil
theorem MetaPack_both (s:List S84)(hs:ColsOk s)(hf:ColsFine s)(R:Int)(hR:in64 R)(L:List S54)(hm:MetaShort L)(hL:∀ g ∈ L,GrFine g) :
  ∃ r:List Int × Bool,Ev (fun k=>spec_MetaPack.f k s R L) r∧Ev (fun k=>impl_MetaPack.f k s R L) r∧r.1.length≤600000:=by
 have es:=spec_MetaTree_ev s hs R L hm
 have ei:=impl_MetaTree_ev s hs R L hm
 obtain⟨p,ps,pi,pl,_⟩:=TreePack_both (metaR s R L).1 (fine_nums (metaR_fine hf hR hL))
 unfold spec_MetaPack.f impl_MetaPack.f
 cases hb:(metaR s R L).2 with
 | false=>exact⟨([],false),Ev.bind es (Ev.neg (by rw [hb];decide) (Ev.now _)),Ev.bind ei (Ev.neg (by rw [hb];decide) (Ev.now _)),by simp⟩
 | true=>exact⟨p,Ev.bind es (Ev.pos hb (Ev.bind ps (Ev.now _))),Ev.bind ei (Ev.pos hb (Ev.bind pi (Ev.now _))),pl⟩
theorem FnExactMetaPack:∀ (x0:S25),(w25 x0)→∃ k,laws_FnExactMetaPack.f k x0.f0 x0.f1 x0.f2=some true:=by
 intro x hx
 refine Ev.rounds ?_
 unfold laws_FnExactMetaPack.f
 have w0:=hx.1
 have w2:=hx.2.2
 obtain⟨r1,s1,c1,l1⟩:=szColS_ev x.f0 w0.1 w0.2 1048576 (by omega) (by omega)
 by_cases n1:r1 < 0
 ·
  refine Ev.bind (a:=-1) ?_ (Ev.pos (by decide) (Ev.now _))
  unfold laws_szMeta.f
  exact Ev.bind s1 (Ev.pos n1 (Ev.now _))
 obtain⟨r2,s2,c2,l2⟩:=szGroupMetaS_ok x.f2 w2.1 w2.2 r1 (by omega) (by omega)
 by_cases n2:r2 < 0
 ·
  refine Ev.bind (a:=-1) ?_ (Ev.pos (by decide) (Ev.now _))
  unfold laws_szMeta.f
  exact Ev.bind s1 (Ev.neg n1 (Ev.bind s2 (Ev.pos n2 (Ev.now _))))
 refine Ev.bind (a:=r2) ?_ (Ev.neg n2 ?_)
 ·
  unfold laws_szMeta.f
  exact Ev.bind s1 (Ev.neg n1 (Ev.bind s2 (Ev.neg n2 (Ev.now _))))
 have g2:=l2 (by omega)
 have t:Ev (fun k=>laws_toMeta.f k x.f0 x.f1 x.f2) (x.f0.map cvCol,x.f1,x.f2.map cvGroup):=by
  unfold laws_toMeta.f
  exact Ev.bind (toColS_ev x.f0 (by omega)) (Ev.bind (toGroupMetaS_ev x.f2 g2.1 g2.2) (Ev.now _))
 have hs:=colsOk_of x.f0 (by omega) w0.2
 have hm:=metaShort_of x.f2 g2.1 g2.2
 obtain⟨res,es,ei,hr⟩:=MetaPack_both (x.f0.map cvCol) hs (colsFine_of x.f0 w0.2) x.f1 (in64_lit hx.2.1) (x.f2.map cvGroup) hm (grFine_of x.f2 w2.2)
 have q:Ev (fun k=>laws_eqMeta.f k (x.f0.map cvCol) x.f1 (x.f2.map cvGroup) (x.f0.map cvCol) x.f1 (x.f2.map cvGroup)) true:=by
  unfold laws_eqMeta.f
  exact Ev.bind (eqColS_ev (x.f0.map cvCol) (by simp;omega)) (Ev.pos rfl (Ev.pos rfl (Ev.bind (eqGroupMetaS_ev _ hm) (Ev.pos rfl (Ev.now _)))))
 obtain⟨mk,my,mp,km⟩:=markMeta_ex (x.f0.map cvCol) (by simp;omega) x.f1 (x.f2.map cvGroup) hm
 generalize x.f0.map cvCol=C at *
 generalize x.f2.map cvGroup=G at *
 have q3:=eqByteS_ev res.1 (by omega)
 obtain⟨m3,y3,p3,k3,k4⟩:=markByteS_ev res.1 1 (by omega) (by omega)
 repeat' (first
  | with_reducible exact Ev.now _
  | with_reducible refine Ev.bind t ?_ | with_reducible refine Ev.bind es ?_ | with_reducible refine Ev.bind ei ?_
  | with_reducible refine Ev.bind q ?_ | with_reducible refine Ev.bind q3 ?_
  | with_reducible refine Ev.bind km ?_ | with_reducible refine Ev.bind k3 ?_ | with_reducible refine Ev.bind k4 ?_
  | refine Ev.pos (by first | rfl | omega) ?_
  | refine Ev.neg (by first | omega | decide | simp) ?_
  | refine Ev.step (fun k=>by rw [laws_FnExactMetaPack.j0]) ?_
  | refine Ev.step (fun k=>by rw [laws_FnExactMetaPack.j1]) ?_
  | refine Ev.step (fun k=>by rw [laws_FnExactMetaPack.j2]) ?_)
end Go.Proofs.Ytjdapaocdkcgdaa.Pure
