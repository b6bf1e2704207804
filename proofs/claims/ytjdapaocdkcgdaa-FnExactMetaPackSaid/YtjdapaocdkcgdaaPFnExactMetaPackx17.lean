/- The machine's side of FnExactMetaPack: each Go function, and what its call comes to. No condition. -/
import Derived.Test.YtjdapaocdkcgdaaPFnExactMetaPackx0
import Derived.Test.YtjdapaocdkcgdaaPFnExactMetaPackx11
import Derived.Test.YtjdapaocdkcgdaaPFnExactMetaPackx16
namespace Go.Proofs.Ytjdapaocdkcgdaa.PFnExactMetaPack
open Go.RowKit Go.Proofs.YtjdapaocdkcgdaaW.PrintWords Go.Proofs.YtjdapaocdkcgdaaW.PrintLast Go.Proofs.YtjdapaocdkcgdaaW.PrintMore Go.Proofs.YtjdapaocdkcgdaaW.PrintMore2
attribute [local go_sem] max2_int min2_int max_two min_two max_three min_three max_four min_four
set_option linter.unusedVariables false
set_option linter.unusedSimpArgs false
set_option maxHeartbeats 8000000
set_option maxRecDepth 100000

/-- A state of type 113 at block g of W; what its slices lead to came in by w0. -/
theorem keep_later {w W W':World}{g:Nat}(h:KeepBut w W g none)(k:KeepBut w W g none→KeepBut w W' g none:=by (intro hb_;repeat (first | (with_reducible first | exact hb_ | apply KeepBut.set_ | apply keep_drewN | apply keep_drew | apply keep_alloc | refine keep_far ?_ (Aside0.out (by with_reducible assumption)) _) | exact hb_))):KeepBut w W' g none:=k h
theorem kept_later {w W W':World}{S:Nat→Prop}(h:Kept w W S)(k:Kept w W S→Kept w W' S:=by (intro hb_;repeat (first | (with_reducible first | exact hb_ | apply Kept.alloc | apply Kept.drewN | apply Kept.drew | refine Kept.setCell ?_ (.inl (.inr rfl)) _ | refine Kept.setCell ?_ (.inr (Aside0.out (by with_reducible assumption))) _) | exact hb_))):Kept w W' S:=k h
def IsS113 (w0 W:World)(g:Nat)(f0:List (S49))(f1:List Int):Prop:=∃ A0 c0,∃ A1 c1,W.heap[g]?=some (.cells #[.slice A0 f0.length c0,.slice A1 f1.length c1] 113 (0,0))∧w0.heap.size≤g∧Kd.C k49 w0 A0 f0.length f0∧Kd.C (Kd.int .i64) w0 A1 f1.length f1
theorem IsS113.grown {w0 W:World}{g:Nat}{f0:List (S49)}{f1:List Int}{W1:World}{row:Option Nat}(h:IsS113 w0 W g f0 f1)(hw:W.grownBy W1 row)(hne:some g≠row):IsS113 w0 W1 g f0 f1:=by
 obtain⟨A0,c0,A1,c1,hb,hg,hr0,hr1⟩:=h
 exact⟨A0,c0,A1,c1,blk_grown hb hw hne,hg,hr0,hr1⟩
theorem IsS113.below {w0 W:World}{g:Nat}{f0:List (S49)}{f1:List Int}{W1:World}(h:IsS113 w0 W g f0 f1)(hw:Below W.heap.size W W1):IsS113 w0 W1 g f0 f1:=h.grown (grown_of_below hw none) (by simp)
theorem IsS113.alloc {w0 W:World}{g:Nat}{f0:List (S49)}{f1:List Int}(h:IsS113 w0 W g f0 f1)(o:Obj):IsS113 w0 (W.alloc o) g f0 f1:=h.below (below_alloc (Below.refl _ _) o)
theorem IsS113.drewN {w0 W:World}{g:Nat}{f0:List (S49)}{f1:List Int}(h:IsS113 w0 W g f0 f1)(m:Nat):IsS113 w0 (W.drewN m) g f0 f1:=h
theorem IsS113.drew {w0 W:World}{g:Nat}{f0:List (S49)}{f1:List Int}(h:IsS113 w0 W g f0 f1):IsS113 w0 W.drew g f0 f1:=h
theorem IsS113.at_ {w0 W:World}{g:Nat}{f0:List (S49)}{f1:List Int}{w':World}{m:Nat}(hq:W.drewN m=w')(h:IsS113 w0 W g f0 f1):IsS113 w0 w' g f0 f1:=by subst hq;exact IsS113.drewN h m
theorem IsS113.apart {w0 W:World}{g:Nat}{f0:List (S49)}{f1:List Int}{α:Type}{d:Kd α}{e:Nat}{base:Nat}{ok:Nat→Prop}{v:Value}{xs:List α}(h:IsS113 w0 W g f0 f1)(ho:d.R e W base ok v xs)(ht:∀ q,q ∈ e :: d.E→q≠113):d.R e W base (fun k=>ok k∧k≠g) v xs:=by
 obtain⟨A0,c0,A1,c1,hb,hg,hr0,hr1⟩:=h
 exact Kd.R_types ho hb ht
theorem IsS113.own_ne {w0 W:World}{g:Nat}{f0:List (S49)}{f1:List Int}{α:Type}{d:Kd α}{e:Nat}{base:Nat}{ok:Nat→Prop}{v:Value}{xs:List α}(h:IsS113 w0 W g f0 f1)(ho:d.R e W base ok v xs)(ht:e≠113):some g≠v.ownBlock:=by
 obtain⟨A0,c0,A1,c1,hb,hg,hr0,hr1⟩:=h
 exact Kd.R_ne ho hb ht
theorem IsS113.lt {w0 W:World}{g:Nat}{f0:List (S49)}{f1:List Int}(h:IsS113 w0 W g f0 f1):g < W.heap.size:=by
 obtain⟨A0,c0,A1,c1,hb,hg,hr0,hr1⟩:=h
 exact blk_lt hb
theorem IsS113.ge {w0 W:World}{g:Nat}{f0:List (S49)}{f1:List Int}(h:IsS113 w0 W g f0 f1):w0.heap.size≤g:=by
 obtain⟨A0,c0,A1,c1,hb,hg,hr0,hr1⟩:=h
 exact hg
theorem IsS113.far {w0 W:World}{g:Nat}{f0:List (S49)}{f1:List Int}{p:Addr}(h:IsS113 w0 W g f0 f1)(hne:g≠p.block)(u:Value):IsS113 w0 (W.setCell p u) g f0 f1:=by
 obtain⟨A0,c0,A1,c1,hb,hg,hr0,hr1⟩:=h
 exact⟨A0,c0,A1,c1,blk_far hb hne u,hg,hr0,hr1⟩
theorem IsS113.l {w0 W W':World}{g:Nat}{f0 f0':List (S49)}{f1 f1':List Int}(h:Aside0 (IsS113 w0 W g f0 f1))(k:IsS113 w0 W g f0 f1→IsS113 w0 W' g f0' f1':=by (intro hb_;repeat (first | (with_reducible first | exact hb_ | apply IsS113.alloc | apply IsS113.drewN | apply IsS113.drew | refine IsS113.far ?_ (Aside0.out (by with_reducible assumption)) _) | exact hb_))):IsS113 w0 W' g f0' f1':=k h.out
theorem IsS113.be {w0 W W' w2:World}{g:Nat}{f0 f0':List (S49)}{f1 f1':List Int}(h:Aside0 (IsS113 w0 W g f0 f1))(hb:Below W'.heap.size W' w2)(k:IsS113 w0 W g f0 f1→IsS113 w0 W' g f0' f1':=by (intro hb_;repeat (first | (with_reducible first | exact hb_ | apply IsS113.alloc | apply IsS113.drewN | apply IsS113.drew | refine IsS113.far ?_ (Aside0.out (by with_reducible assumption)) _) | exact hb_))):Aside0 (IsS113 w0 w2 g f0' f1'):=⟨IsS113.below (k h.out) hb⟩
section
variable {P:Program} {ops:Array Oper} {rest:List Oper} {o:Oper} {a:Act} {Q:Exit→Act→World→Prop}
theorem IsS113.bv {w w0 W0 W1 W2 W:World}{g:Nat}{f0 f0':List (S49)}{f1 f1':List Int}(N:Tmp)(hd:o.dst=some N)(cs:Array Value)(t:TypeId)(hI:Aside0 (IsS113 w0 W0 g f0 f1))(hK:Aside0 (KeepBut w W1 g none))(hB:Aside0 (Below w0.heap.size w0 W2))(hW:Aside0 (w0.heap.size≤w.heap.size))
 (h:∀ g' w1,Aside0 (w1.heap[g']?=some (.cells cs t (0,0)))→Aside0 (w.heap.size≤g')→Aside0 (w0.heap.size≤g')→Aside0 (g≠g')→Aside0 (g'≠g)→Aside0 (IsS113 w0 w1 g f0' f1')→Aside0 (KeepBut w w1 g none)→Aside0 (Below w0.heap.size w0 w1)→g'=W.heap.size→Below W.heap.size W w1→wpList P ops Q rest (a.put o.dst (.pointer (some ⟨g',0,none⟩))) w1)
 (hgd:o.guard=none:=by rfl)
 (hrun:(execOp a.eval o).run P W=.ok (.value (.pointer (some ⟨W.heap.size,0,none⟩))) (W.alloc (.cells cs t (0,0))):=by first | (go_simp;done) | (go_simp;rfl))
 (kI:IsS113 w0 W0 g f0 f1→IsS113 w0 W g f0' f1':=by (intro hb_;repeat (first | (with_reducible first | exact hb_ | apply IsS113.alloc | apply IsS113.drewN | apply IsS113.drew | refine IsS113.far ?_ (Aside0.out (by with_reducible assumption)) _) | exact hb_))) (kK:KeepBut w W1 g none→KeepBut w W g none:=by (exact fun h_=>keep_later h_)) (kB:Below w0.heap.size w0 W2→Below w0.heap.size w0 W:=by (exact fun h_=>below_later h_)):wpList P ops Q (o :: rest) a W :=
 box_event hgd hd hrun fun g' hg w1 hbox hb=>by
  have h1:=kI hI.out
  have h2:=kK hK.out
  have h3:=kB hB.out
  have h4:w.heap.size≤g':=by rw [hg];exact keep_size h2
  have h5:g≠g':=by rw [hg];exact Nat.ne_of_lt (IsS113.lt h1)
  exact h g' w1 ⟨hbox⟩ ⟨h4⟩ ⟨Nat.le_trans hW.out h4⟩ ⟨h5⟩ ⟨h5.symm⟩ ⟨IsS113.below h1 hb⟩ ⟨KeepBut.trans h2 (KeepBut.of_below hb g none) (.inl rfl)⟩ ⟨below_step h3 hb⟩ hg hb
end
theorem IsS113.gr {α:Type}{d:Kd α}{e base:Nat}{ok:Nat→Prop}{v:Value}{xs:List α}{w0 W W' w2:World}{g:Nat}{f0 f0':List (S49)}{f1 f1':List Int}(h:Aside0 (IsS113 w0 W g f0 f1))(hg:W'.grownBy w2 v.ownBlock)(hr:Aside0 (d.R e W base ok v xs))(ht:e≠113:=by decide)(k:IsS113 w0 W g f0 f1→IsS113 w0 W' g f0' f1':=by (intro hb_;repeat (first | (with_reducible first | exact hb_ | apply IsS113.alloc | apply IsS113.drewN | apply IsS113.drew | refine IsS113.far ?_ (Aside0.out (by with_reducible assumption)) _) | exact hb_))):Aside0 (IsS113 w0 w2 g f0' f1'):=⟨IsS113.grown (k h.out) hg (IsS113.own_ne h.out hr.out ht)⟩
theorem cellS113_0 {W:World}{g:Nat}{A0:Option Addr}{c0:Nat}{A1:Option Addr}{c1:Nat}{f0:List (S49)}{f1:List Int}(h:W.heap[g]?=some (.cells #[.slice A0 f0.length c0,.slice A1 f1.length c1] 113 (0,0))):W.cell? ⟨g,0,none⟩=some (.slice A0 f0.length c0):=(blk_cell h 0).trans rfl
theorem cellS113_1 {W:World}{g:Nat}{A0:Option Addr}{c0:Nat}{A1:Option Addr}{c1:Nat}{f0:List (S49)}{f1:List Int}(h:W.heap[g]?=some (.cells #[.slice A0 f0.length c0,.slice A1 f1.length c1] 113 (0,0))):W.cell? ⟨g,1,none⟩=some (.slice A1 f1.length c1):=(blk_cell h 1).trans rfl
/-! ### impl_treeOf: function 63 -/
/-- A state whose second field's row lies in the block ahead of its own. -/
def TsS113 (w0 W:World)(g:Nat)(f0:List (S49))(f1:List Int):Prop:=∃ A0 c0,W.heap[g]?=some (.cells #[.slice A0 f0.length c0,.slice (some ⟨g - 1,0,none⟩) f1.length f1.length] 113 (0,0))∧(w0.heap.size≤g∧W.heap[g - 1]?=some (.cells (nums .i64 f1).toArray 3 (0,0))∧w0.heap.size≤g - 1∧1≤g∧f1.length≤9223372036854775807)∧Kd.C k49 w0 A0 f0.length f0
section
variable {w0 W:World} {g:Nat} {f0:List (S49)} {f1:List Int}
theorem TsS113.step {W1:World}(h:TsS113 w0 W g f0 f1)(h1:W1.heap[g]?=W.heap[g]?)(h2:W1.heap[g - 1]?=W.heap[g - 1]?):TsS113 w0 W1 g f0 f1:=by
 obtain⟨A0,c0,a,⟨b,c,d,e⟩,f⟩:=h
 exact⟨A0,c0,h1.trans a,⟨b,h2.trans c,d,e⟩,f⟩
theorem TsS113.lt (h:TsS113 w0 W g f0 f1):g < W.heap.size:=by
 obtain⟨A0,c0,a,_⟩:=h
 exact blk_lt a
theorem TsS113.ge (h:TsS113 w0 W g f0 f1):w0.heap.size≤g:=by
 obtain⟨_,_,_,⟨b,_⟩,_⟩:=h
 exact b
theorem TsS113.ge1 (h:TsS113 w0 W g f0 f1):w0.heap.size≤g - 1:=by
 obtain⟨_,_,_,⟨_,_,d,_⟩,_⟩:=h
 exact d
theorem TsS113.below {W1:World}(h:TsS113 w0 W g f0 f1)(hw:Below W.heap.size W W1):TsS113 w0 W1 g f0 f1 :=
  h.step (hw.block g h.lt) (hw.block (g - 1) (by have:=h.lt;omega))
theorem TsS113.alloc (h:TsS113 w0 W g f0 f1)(o:Obj):TsS113 w0 (W.alloc o) g f0 f1:=h.below (below_alloc (Below.refl _ _) o)
theorem TsS113.drewN (h:TsS113 w0 W g f0 f1)(m:Nat):TsS113 w0 (W.drewN m) g f0 f1:=h
theorem TsS113.drew (h:TsS113 w0 W g f0 f1):TsS113 w0 W.drew g f0 f1:=h
theorem TsS113.at_ {w':World}{m:Nat}(hq:W.drewN m=w')(h:TsS113 w0 W g f0 f1):TsS113 w0 w' g f0 f1:=by subst hq;exact TsS113.drewN h m
theorem TsS113.far {p:Addr}(h:TsS113 w0 W g f0 f1)(hne:g≠p.block)(hne1:g - 1≠p.block)(u:Value):TsS113 w0 (W.setCell p u) g f0 f1 :=
  h.step (Below.heap_setCell W p u g hne) (Below.heap_setCell W p u (g - 1) hne1)
theorem TsS113.acell (h:TsS113 w0 W g f0 f1){i:Int}(h0:0≤i)(h1:i < (f1.length:Int)):W.cell? ⟨g - 1,i.toNat,none⟩=some (.int .i64 (rd f1 i)):=by
 obtain⟨_,_,_,⟨_,c,_,_⟩,_⟩:=h
 refine (blk_cell c i.toNat).trans ?_
 have e:i.toNat < f1.length:=by omega
 simp [nums,rd,e]
theorem TsS113.afree (h:TsS113 w0 W g f0 f1)(j:Nat):W.frozen? ⟨g - 1,j,none⟩=false:=by
 obtain⟨_,_,_,⟨_,c,_,_⟩,_⟩:=h
 exact blk_frozen c j
theorem TsS113.set_1 (h:TsS113 w0 W g f0 f1)(i:Nat)(x:Int):TsS113 w0 (W.setCell ⟨g - 1,i,none⟩ (.int .i64 x)) g f0 (f1.set i x):=by
 have hlt:=h.lt
 obtain⟨A0,c0,a,⟨b,c,d,e⟩,f⟩:=h
 refine⟨A0,c0,?_,⟨b,?_,d,e.1,by rw [List.length_set];exact e.2⟩,f⟩
 · rw [List.length_set];exact (Below.heap_setCell W _ _ g (by show g≠g - 1;omega)).trans a
 have h2:=blk_set c i (.int .i64 x)
 have e2:((nums .i64 f1).toArray.setIfInBounds i (.int .i64 x))=(nums .i64 (f1.set i x)).toArray:=by simp [nums,List.map_set]
 rw [← e2];exact h2
theorem cellT113_0 {A0:Option Addr}{c0:Nat}(h:W.heap[g]?=some (.cells #[.slice A0 f0.length c0,.slice (some ⟨g - 1,0,none⟩) f1.length f1.length] 113 (0,0))):W.cell? ⟨g,0,none⟩=some (.slice A0 f0.length c0):=(blk_cell h 0).trans rfl
theorem cellT113_1 {A0:Option Addr}{c0:Nat}(h:W.heap[g]?=some (.cells #[.slice A0 f0.length c0,.slice (some ⟨g - 1,0,none⟩) f1.length f1.length] 113 (0,0))):W.cell? ⟨g,1,none⟩=some (.slice (some ⟨g - 1,0,none⟩) f1.length f1.length):=(blk_cell h 1).trans rfl
end
theorem arr_ne {g n b:Nat}(h:g < n)(k:n≤b):g - 1≠b:=by omega
theorem arr_neS {g n b:Nat}(h:g < n)(k:n≤b):some b≠some (g - 1):=by intro e;injection e with e;omega
theorem keep_allocR {w W:World}{g:Nat}{row:Option Nat}(h:KeepBut w W g row)(o:Obj):KeepBut w (W.alloc o) g row:=⟨Nat.le_trans h.1 (by simp),fun i hi h1 h2=>((below_alloc (Below.refl W.heap.size W) o).block i (Nat.lt_of_lt_of_le hi h.1)).trans (h.2 i hi h1 h2)⟩
theorem keep_setR {w W:World}{g r:Nat}(h:KeepBut w W g (some r))(j:Nat)(u:Value):KeepBut w (W.setCell ⟨r,j,none⟩ u) g (some r):=⟨Nat.le_trans h.1 (by simp),fun i hi h1 h2=>(Below.heap_setCell W _ u i (fun e=>h2 (by rw [e]))).trans (h.2 i hi h1 h2)⟩
theorem tsl {w0 W W':World}{g:Nat}{f0 f0':List (S49)}{f1 f1':List Int}(h:Aside0 (TsS113 w0 W g f0 f1))(k:TsS113 w0 W g f0 f1→TsS113 w0 W' g f0' f1':=by (intro hb_;repeat (first | (with_reducible first | exact hb_ | apply TsS113.alloc | apply TsS113.drewN | apply TsS113.drew | apply TsS113.set_1 | refine TsS113.far ?_ (Aside0.out (by with_reducible assumption)) (arr_ne (Aside0.out (by with_reducible assumption)) (Aside0.out (by with_reducible assumption))) _) | exact hb_))):TsS113 w0 W' g f0' f1':=k h.out
theorem krl {w W W':World}{g:Nat}{row:Option Nat}(h:Aside0 (KeepBut w W g row))(k:KeepBut w W g row→KeepBut w W' g row:=by (intro hb_;repeat (first | (with_reducible first | exact hb_ | apply KeepBut.set_ | apply keep_setR | apply keep_drewN | apply keep_drew | apply keep_allocR | refine keep_far ?_ (Aside0.out (by with_reducible assumption)) _) | exact hb_))):KeepBut w W' g row:=k h.out
theorem btl {w0 W W1 W':World}{g:Nat}{f0:List (S49)}{f1:List Int}(h:Aside0 (Below w0.heap.size w0 W))(hI:Aside0 (TsS113 w0 W1 g f0 f1))(k:w0.heap.size≤g→w0.heap.size≤g - 1→Below w0.heap.size w0 W→Below w0.heap.size w0 W':=by (intro hg_ hg1_ hb_;repeat (first | (with_reducible first | exact hb_ | apply below_alloc | apply pw_below_drewN | apply below_drew1 | refine below_set ?_ hg_ | refine below_set ?_ hg1_ | refine below_set ?_ (Aside0.out (by with_reducible assumption))) | exact hb_))):Below w0.heap.size w0 W':=k (TsS113.ge hI.out) (TsS113.ge1 hI.out) h.out
/-! ### impl_tree_measure: function 79 -/
mutual
def impl_tree_measure.j0:Nat→Int→Int→Bool→List (S49)→List Int→Option (Int × List Int)
  | 0,_,_,_,_,_=>none
  | k + 1,x1,x2,aD,aA,aC=>if aD=true then (some ((-1),aC)) else (if 0≤x1 then (if x1 < (aA.length:Int) then (impl_tree_measure.l0 k x1 x2 (wrap64 (x1 + 1)) 0 ((rd_T49 aA x1).f4) 0 aA aC ((rd_T49 aA x1).f0) ((rd_T49 aA x1).f1) ((rd_T49 aA x1).f2) ((rd_T49 aA x1).f3) ((rd_T49 aA x1).f4)) else (none)) else (none))
def impl_tree_measure.l0:Nat→Int→Int→Int→Int→Int→Int→List (S49)→List Int→Int→Int→Int→ByteArray→Int→Option (Int × List Int)
  | 0,_,_,_,_,_,_,_,_,_,_,_,_,_=>none
  | k + 1,x1,x2,x8,x9,aJ,aK,aA,aE,aC,aG,aD,aH,aI=>if aK < aJ then (if x8 ≥ (aA.length:Int) then (some ((-1),aE)) else (if 0≤x8 then (if x8 < (aA.length:Int) then (if aC=9 then (if ((rd_T49 aA x8).f0)=aD then (impl_tree_measure.j2 k x1 x2 x8 x9 aJ aK (((rd_T49 aA x8).f1) != 0) aA aE aC aG aD aH aI ((rd_T49 aA x8).f0) ((rd_T49 aA x8).f1) ((rd_T49 aA x8).f2) ((rd_T49 aA x8).f3) ((rd_T49 aA x8).f4)) else (impl_tree_measure.j2 k x1 x2 x8 x9 aJ aK true aA aE aC aG aD aH aI ((rd_T49 aA x8).f0) ((rd_T49 aA x8).f1) ((rd_T49 aA x8).f2) ((rd_T49 aA x8).f3) ((rd_T49 aA x8).f4))) else (impl_tree_measure.j2 k x1 x2 x8 x9 aJ aK false aA aE aC aG aD aH aI ((rd_T49 aA x8).f0) ((rd_T49 aA x8).f1) ((rd_T49 aA x8).f2) ((rd_T49 aA x8).f3) ((rd_T49 aA x8).f4))) else (none)) else (none))) else (if 0≤x1 then (if x1 < (aE.length:Int) then (some (x8,aE.set (x1:Int).toNat x8)) else (none)) else (none))
def impl_tree_measure.j2:Nat→Int→Int→Int→Int→Int→Int→Bool→List (S49)→List Int→Int→Int→Int→ByteArray→Int→Int→Int→Int→ByteArray→Int→Option (Int × List Int)
  | 0,_,_,_,_,_,_,_,_,_,_,_,_,_,_,_,_,_,_,_=>none
  | k + 1,x1,x2,x8,x9,aU,aV,aW,aQ,aN,aA,aD,aE,aG,aH,aI,aC,aJ,aK,aM=>if aW=true then (some ((-1),aN)) else (if aA=12 then ((impl_within.f aC (wrap64 (x9 + 1)) 1000).bind fun aT=>(impl_tree_measure.j3 k x1 x2 x8 aU aV (!aT) aQ aN aA aD aE aG aH aI aC aJ aK aM)) else (impl_tree_measure.j3 k x1 x2 x8 aU aV false aQ aN aA aD aE aG aH aI aC aJ aK aM))
def impl_tree_measure.j3:Nat→Int→Int→Int→Int→Int→Bool→List (S49)→List Int→Int→Int→Int→ByteArray→Int→Int→Int→Int→ByteArray→Int→Option (Int × List Int)
  | 0,_,_,_,_,_,_,_,_,_,_,_,_,_,_,_,_,_,_=>none
  | k + 1,x1,x2,x8,aU,aV,aW,aJ,aK,aC,aD,aE,aG,aH,aM,aI,aN,aQ,aT=>if aW=true then (some ((-1),aK)) else ((impl_tree_measure.f k aJ aK x8 (wrap64 (x2 + 1))).bind fun aA=>(if aA.1 < 0 then (some ((-1),aA.2)) else (impl_tree_measure.l0 k x1 x2 aA.1 aI aU (wrap64 (aV + 1)) aJ aA.2 aC aD aE aG aH)))
def impl_tree_measure.f:Nat→List (S49)→List Int→Int→Int→Option (Int × List Int)
  | 0,_,_,_,_=>none
  | k + 1,s0_0,s0_1,a1,a2=>if a1 ≥ (s0_0.length:Int) then (impl_tree_measure.j0 k a1 a2 true s0_0 s0_1) else (if a2 > 12 then (impl_tree_measure.j0 k a1 a2 true s0_0 s0_1) else (if 0≤a1 then (if a1 < (s0_0.length:Int) then ((impl_nodeOk.f k ((rd_T49 s0_0 a1).f0) ((rd_T49 s0_0 a1).f1) ((rd_T49 s0_0 a1).f2) ((rd_T49 s0_0 a1).f3) ((rd_T49 s0_0 a1).f4)).bind fun aA=>(impl_tree_measure.j0 k a1 a2 (!aA) s0_0 s0_1)) else (none)) else (none)))
end
theorem impl_tree_measure.calls (k:Nat):∀ (g:Nat) (s0_0:List (S49)) (s0_1:List Int) (a1:Int) (a2:Int) (r1:Int) (r2:List Int) (w0 w:World) (hI:TsS113 w0 w g s0_0 s0_1) (hB:Below w0.heap.size w0 w) (h:impl_tree_measure.f k s0_0 s0_1 a1 a2=some (r1,r2)),
    Calls Try.prog 79 #[.pointer (some ⟨g,0,none⟩),.int .i64 a1,.int .i64 a2] w fun e w'=>e=.returned (.int .i64 r1)∧TsS113 w0 w' g s0_0 r2∧Below w0.heap.size w0 w'∧KeepBut w w' g (some (g - 1)):=by
 induction k using Nat.strongRecOn with
 | _ k ih =>
 intro g s0_0 s0_1 a1 a2 r1 r2 w0 w hI hB h
 cases k with
 | zero=>exact absurd h (by simp [impl_tree_measure.f])
 | succ k =>
 simp only [impl_tree_measure.f] at h
 have hu49:=Try.underlying49
 have HI0:=am hI
 have HLT:=am hI.lt
 have HK:=am (KeepBut.refl w g (some (g - 1)))
 have HL:=am hB.size
 clear hI
 have HW0:=am hB.size
 have HB:=am hB
 clear hB
 have H:(if a1 ≥ (s0_0.length:Int) then (impl_tree_measure.j0 k a1 a2 true s0_0 s0_1) else (if a2 > 12 then (impl_tree_measure.j0 k a1 a2 true s0_0 s0_1) else (if 0≤a1 then (if a1 < (s0_0.length:Int) then ((impl_nodeOk.f k ((rd_T49 s0_0 a1).f0) ((rd_T49 s0_0 a1).f1) ((rd_T49 s0_0 a1).f2) ((rd_T49 s0_0 a1).f3) ((rd_T49 s0_0 a1).f4)).bind fun dE=>(impl_tree_measure.j0 k a1 a2 (!dE) s0_0 s0_1)) else (none)) else (none))))=some (r1,r2):=h
 clear h
 have dX:=am H
 clear H
 go_enter Try.func79,Try.ntmps79
 go_upto_region 1 with (fail)
 go_cut [32] (fun v32 wc=>∃ (kq:Nat) (cM:Bool),v32=.bool cM∧Aside0 (impl_tree_measure.j0 kq a1 a2 cM s0_0 s0_1=some (r1,r2))∧Aside0 (kq≤k)∧Aside0 (TsS113 w0 wc g s0_0 s0_1)∧Aside0 (KeepBut w wc g (some (g - 1)))∧Aside0 (Below w0.heap.size w0 wc))
 case first =>
  have H:=dX.out
  clear dX
  replace H:=ige H;obtain⟨cN,H⟩ | ⟨cN,H⟩:=H
  · (first | rw [cN] | (simp only [i64_w,i32_w];rw [cN]) | skip)
    have H':=am H;clear H
    obtain⟨ASz6_0,cSz6_0,HGz6,hgz6,HSz6_0⟩:=HI0.out
    have dY:=cellT113_0 HGz6
    have dZ:=cellT113_1 HGz6
    have d2:=blk_frozen HGz6 1
    clear HGz6 hgz6
    go_wp2
    go_meet
    case rel=>exact⟨_,(true),sr,H',⟨by first | omega | exact Nat.le_refl _⟩,⟨(tsl HI0)⟩,⟨(krl HK)⟩,⟨(btl HB HI0)⟩⟩
  (first | rw [cN] | (simp only [i64_w,i32_w];rw [cN]) | skip)
  replace H:=igt H;obtain⟨d3,H⟩ | ⟨d3,H⟩:=H
  · have H':=am H;clear H
    obtain⟨ASz8_0,cSz8_0,HGz8,hgz8,HSz8_0⟩:=HI0.out
    have d4:=cellT113_0 HGz8
    have d5:=cellT113_1 HGz8
    have d6:=blk_frozen HGz8 1
    clear HGz8 hgz8
    go_wp2
    go_meet
    case rel=>exact⟨_,(true),sr,H',⟨by first | omega | exact Nat.le_refl _⟩,⟨(tsl HI0)⟩,⟨(krl HK)⟩,⟨(btl HB HI0)⟩⟩
  replace H:=if_dd H;obtain⟨fS,eB,H⟩:=H
  replace H:=bnd H;obtain⟨dE,fT,H⟩:=H
  have H':=am H;clear H
  obtain⟨ASz12_0,cSz12_0,HGz12,hgz12,HSz12_0⟩:=HI0.out
  have dO:=cellT113_0 HGz12
  have dP:=cellT113_1 HGz12
  have dQ:=blk_frozen HGz12 1
  clear HGz12 hgz12
  have dF:0≤(a1:Int):=dcd
  have dG:a1 < (s0_0.length:Int):=dcd
  obtain⟨eC,d7,bQ,bR,bS,bT,bU⟩:=at_T49 HSz12_0 a1 dF dG
  cases d7
  replace bQ:=pw_cell_below HB.out bQ
  replace bR:=pw_cell_below HB.out bR
  replace bS:=pw_cell_below HB.out bS
  replace bT:=pw_cell_below HB.out bT
  replace bU:=pw_cell_below HB.out bU
  replace dF:=eq_true dF
  replace dG:=eq_true dG
  go_wp2_with (first | (go_at_call 96;(with_reducible refine (impl_nodeOk.calls fT.out).mono ?_);rintro e fX ⟨rfl,hb⟩;replace HK:=am (KeepBut.trans (krl HK) (KeepBut.of_below hb g (some (g - 1))) (.inl rfl));replace HB:=am (below_step (btl HB HI0) hb);replace HI0:=am (TsS113.below (tsl HI0) hb);clear hb))
  go_meet
  case rel=>exact⟨_,(!dE),sr,H',⟨by first | omega | exact Nat.le_refl _⟩,⟨(tsl HI0)⟩,⟨(krl HK)⟩,⟨(btl HB HI0)⟩⟩
 clear dX
 try clear c1
 obtain⟨kq,cM,rfl,HA,cW,HI0,HK,HB⟩:=hcut
 cases kq with
 | zero=>exact absurd HA.out (by simp [impl_tree_measure.j0])
 | succ kj3=>?_
 have H:=HA.out
 clear HA
 simp only [impl_tree_measure.j0] at H
 replace H:=ibt H;obtain⟨rfl,H⟩ | ⟨rfl,H⟩:=H
 · replace H:=sj2 H;obtain⟨rfl,rfl⟩:=H
   go_wp2
   go_ret
   exact fin_ ⟨(tsl HI0),(btl HB HI0),(krl HK)⟩
 replace H:=if_dd H;obtain⟨cO,cP,H⟩:=H
 have H':=am H;clear H
 obtain⟨ASz17_0,cSz17_0,HGz17,hgz17,HSz17_0⟩:=HI0.out
 have a8:=cellT113_0 HGz17
 have a9:=cellT113_1 HGz17
 have bA:=blk_frozen HGz17 1
 clear HGz17 hgz17
 have cI:0≤(a1:Int):=dcd
 have cJ:a1 < (s0_0.length:Int):=dcd
 obtain⟨eD,d8,aK,aM,aN,aQ,aT⟩:=at_T49 HSz17_0 a1 cI cJ
 cases d8
 replace aK:=pw_cell_below HB.out aK
 replace aM:=pw_cell_below HB.out aM
 replace aN:=pw_cell_below HB.out aN
 replace aQ:=pw_cell_below HB.out aQ
 replace aT:=pw_cell_below HB.out aT
 replace cI:=eq_true cI
 replace cJ:=eq_true cJ
 go_wp2_with (first | ((with_reducible refine gd 7 rfl ?_);refine bx_ 7 #[.int .i64 0,.int .i64 0,.int .i64 0,.string ⟨#[]⟩,.int .i64 0] 49 ?_;intro aJ hg fY hbox hb;have aC:=am hbox;have bV:=am ((by rw [hg];exact (keep_size (w:=w) (g:=g) (row:=some (g - 1)) (krl HK)):w.heap.size≤aJ));have dA:=am ((Nat.le_trans HW0.out (by rw [hg];exact (keep_size (w:=w) (g:=g) (row:=some (g - 1)) (krl HK)):w.heap.size≤aJ):w0.heap.size≤aJ));have bW:=am ((by rw [hg];exact Nat.ne_of_lt (TsS113.lt (show TsS113 w0 _ g s0_0 s0_1 from (tsl HI0))):g≠aJ));have aG:=am ((by rw [hg];exact Nat.ne_of_gt (TsS113.lt (show TsS113 w0 _ g s0_0 s0_1 from (tsl HI0))):aJ≠g));replace HK:=am (KeepBut.trans (krl HK) (KeepBut.of_below hb g (some (g - 1))) (.inl rfl));replace HB:=am (below_step (btl HB HI0) hb);replace HI0:=am (TsS113.below (tsl HI0) hb);clear hb hbox hg;obtain⟨eE,eF⟩:=nbo aG;obtain⟨bB,bC,bD,bE,bF,bG,bH,bI,bJ,bK⟩:=cl5 aC))
 go_loopg [8,9,44] kj3 (fun kq v8 v9 v44 w'=>∃ (aA:Int) (cX:Int) (a7:Int) (aD:List Int),v8=.int .i64 aA∧v9=.int .i64 cX∧v44=.int .i64 a7∧Aside0 (impl_tree_measure.l0 kq a1 a2 aA cX ((rd_T49 s0_0 a1).f4) a7 s0_0 aD ((rd_T49 s0_0 a1).f0) ((rd_T49 s0_0 a1).f1) ((rd_T49 s0_0 a1).f2) ((rd_T49 s0_0 a1).f3) ((rd_T49 s0_0 a1).f4)=some (r1,r2))∧Aside0 (kq≤kj3)∧Aside0 (w'.heap[aJ]?=some (.cells #[.int .i64 ((rd_T49 s0_0 a1).f0),.int .i64 ((rd_T49 s0_0 a1).f1),.int .i64 ((rd_T49 s0_0 a1).f2),.string ((rd_T49 s0_0 a1).f3),.int .i64 ((rd_T49 s0_0 a1).f4)] 49 (0,0)))∧Aside0 (TsS113 w0 w' g s0_0 aD)∧Aside0 (KeepBut w w' g (some (g - 1)))∧Aside0 (Below w0.heap.size w0 w'))
 case atStart=>exact⟨(wrap64 (a1 + 1)),(0),(0),(s0_1),sr,sr,sr,H',⟨Nat.le_refl _⟩,⟨kL aC⟩,⟨(tsl HI0)⟩,⟨(krl HK)⟩,⟨(btl HB HI0)⟩⟩
 clear H'
 try clear c1 eG cO cP a8 a9 bB bC bD bE bF bA bG bH bI bJ bK aK aM aN aQ aT cI cJ
 obtain⟨aA,cX,a7,aD,rfl,rfl,rfl,HA,cY,aC,HI0,HK,HB⟩:=hrel
 cases gk with
 | zero=>exact absurd HA.out (by simp [impl_tree_measure.l0])
 | succ k2=>?_
 have H:=HA.out
 clear HA
 simp only [impl_tree_measure.l0] at H
 replace H:=idc H;obtain⟨cQ,H⟩ | ⟨cQ,H⟩:=H
 rotate_left
 · replace H:=if_dd H;obtain⟨eH,eI,H⟩:=H
   replace H:=sj2 H;obtain⟨rfl,rfl⟩:=H
   obtain⟨ASz73_0,cSz73_0,HGz73,hgz73,HSz73_0⟩:=HI0.out
   have dR:=cellT113_0 HGz73
   have dS:=cellT113_1 HGz73
   have dT:=blk_frozen HGz73 1
   clear HGz73 hgz73
   have pa72:0≤(a1:Int):=dcd
   have qa72:a1 < (aD.length:Int):=dcd
   have hxa72:=TsS113.acell (tsl HI0) pa72 qa72
   have hfa72:=TsS113.afree (tsl HI0) (a1:Int).toNat
   replace pa72:=eq_true pa72
   replace qa72:=eq_true qa72
   go_wp2
   go_ret
   exact fin_ ⟨(tsl HI0),(btl HB HI0),(krl HK)⟩
 replace H:=ige H;obtain⟨cR,H⟩ | ⟨cR,H⟩:=H
 · replace H:=sj2 H;obtain⟨rfl,rfl⟩:=H
   obtain⟨ASz23_0,cSz23_0,HGz23,hgz23,HSz23_0⟩:=HI0.out
   have dU:=cellT113_0 HGz23
   have dV:=cellT113_1 HGz23
   have dW:=blk_frozen HGz23 1
   clear HGz23 hgz23
   go_wp2
   go_ret
   exact fin_ ⟨(tsl HI0),(btl HB HI0),(krl HK)⟩
 replace H:=if_dd H;obtain⟨dB,dC,H⟩:=H
 have dH:=am H
 clear H
 obtain⟨ASz27_0,cSz27_0,HGz27,hgz27,HSz27_0⟩:=HI0.out
 have bX:=cellT113_0 HGz27
 have bY:=cellT113_1 HGz27
 have bZ:=blk_frozen HGz27 1
 clear HGz27 hgz27
 have cS:0≤(aA:Int):=dcd
 have cT:aA < (s0_0.length:Int):=dcd
 obtain⟨eJ,d9,aW,aX,aY,aZ,a6⟩:=at_T49 HSz27_0 aA cS cT
 cases d9
 replace aW:=pw_cell_below HB.out aW
 replace aX:=pw_cell_below HB.out aX
 replace aY:=pw_cell_below HB.out aY
 replace aZ:=pw_cell_below HB.out aZ
 replace a6:=pw_cell_below HB.out a6
 replace cS:=eq_true cS
 replace cT:=eq_true cT
 go_upto_region 11 with (first | ((with_reducible refine gd 10 rfl ?_);refine bx_ 10 #[.int .i64 0,.int .i64 0,.int .i64 0,.string ⟨#[]⟩,.int .i64 0] 49 ?_;intro aU hg fZ hbox hb;have aE:=am hbox;have b6:=am ((by rw [hg];exact (keep_size (w:=w) (g:=g) (row:=some (g - 1)) (krl HK)):w.heap.size≤aU));have dD:=am ((Nat.le_trans HW0.out (by rw [hg];exact (keep_size (w:=w) (g:=g) (row:=some (g - 1)) (krl HK)):w.heap.size≤aU):w0.heap.size≤aU));obtain⟨aI,aV⟩:=nbp (nbl aC hg);have b7:=am ((by rw [hg];exact Nat.ne_of_lt (TsS113.lt (show TsS113 w0 _ g s0_0 aD from (tsl HI0))):g≠aU));have aH:=am ((by rw [hg];exact Nat.ne_of_gt (TsS113.lt (show TsS113 w0 _ g s0_0 aD from (tsl HI0))):aU≠g));replace aC:=bkb aC hb;replace HK:=am (KeepBut.trans (krl HK) (KeepBut.of_below hb g (some (g - 1))) (.inl rfl));replace HB:=am (below_step (btl HB HI0) hb);replace HI0:=am (TsS113.below (tsl HI0) hb);clear hb hbox hg;obtain⟨eK,eL⟩:=nbo aV;obtain⟨eM,eN⟩:=nbo aH;obtain⟨b8,b9,cA,cB,cC,cD,cE,cF,cG,cH⟩:=cl5 aE))
 (try simp only [Act.put,List.setIfInBounds_toArray,List.set_cons_zero,List.set_cons_succ])
 go_cut [74] (fun v74 wc=>∃ (kq:Nat) (bO:Bool),v74=.bool bO∧Aside0 (impl_tree_measure.j2 kq a1 a2 aA cX ((rd_T49 s0_0 a1).f4) a7 bO s0_0 aD ((rd_T49 s0_0 a1).f0) ((rd_T49 s0_0 a1).f1) ((rd_T49 s0_0 a1).f2) ((rd_T49 s0_0 a1).f3) ((rd_T49 s0_0 a1).f4) ((rd_T49 s0_0 aA).f0) ((rd_T49 s0_0 aA).f1) ((rd_T49 s0_0 aA).f2) ((rd_T49 s0_0 aA).f3) ((rd_T49 s0_0 aA).f4)=some (r1,r2))∧Aside0 (kq≤k2)∧Aside0 (wc.heap[aJ]?=some (.cells #[.int .i64 ((rd_T49 s0_0 a1).f0),.int .i64 ((rd_T49 s0_0 a1).f1),.int .i64 ((rd_T49 s0_0 a1).f2),.string ((rd_T49 s0_0 a1).f3),.int .i64 ((rd_T49 s0_0 a1).f4)] 49 (0,0)))∧Aside0 (wc.heap[aU]?=some (.cells #[.int .i64 ((rd_T49 s0_0 aA).f0),.int .i64 ((rd_T49 s0_0 aA).f1),.int .i64 ((rd_T49 s0_0 aA).f2),.string ((rd_T49 s0_0 aA).f3),.int .i64 ((rd_T49 s0_0 aA).f4)] 49 (0,0)))∧Aside0 (TsS113 w0 wc g s0_0 aD)∧Aside0 (KeepBut w wc g (some (g - 1)))∧Aside0 (Below w0.heap.size w0 wc))
 case first =>
  have H:=dH.out
  clear dH
  replace H:=ieq H;obtain⟨bM,cU,H⟩ | ⟨f7,bM,cU,H⟩:=H
  rotate_left
  · (first | rw [bM] | rw [cU] | (simp only [i64_w,i32_w];rw [bM]) | skip)
    have H':=am H;clear H
    obtain⟨eO,eP⟩:=nbo aI
    obtain⟨eQ,eR⟩:=nbo aG
    obtain⟨_,_,_,_,_,_,_,_,_,_⟩:=cl5 aC
    go_wp2
    go_meet
    case rel=>exact⟨_,(false),sr,H',⟨by have:=cW.out;have:=cY.out;first | omega | exact Nat.le_refl _⟩,⟨kL aC⟩,⟨kL aE⟩,⟨(tsl HI0)⟩,⟨(krl HK)⟩,⟨(btl HB HI0)⟩⟩
  (first | rw [bM] | rw [cU] | (simp only [i64_w,i32_w];rw [bM]) | skip)
  replace H:=ieq H;obtain⟨dL,dM,H⟩ | ⟨f9,dL,dM,H⟩:=H
  rotate_left
  · have H':=am H;clear H
    obtain⟨eS,eT⟩:=nbo aI
    obtain⟨eU,eV⟩:=nbo aG
    obtain⟨_,_,_,_,_,_,_,_,_,_⟩:=cl5 aC
    obtain⟨eW,eX⟩:=nbo aH
    obtain⟨_,_,_,_,_,_,_,_,_,_⟩:=cl5 aE
    go_wp2
    go_meet
    case rel=>exact⟨_,(true),sr,H',⟨by have:=cW.out;have:=cY.out;first | omega | exact Nat.le_refl _⟩,⟨kL aC⟩,⟨kL aE⟩,⟨(tsl HI0)⟩,⟨(krl HK)⟩,⟨(btl HB HI0)⟩⟩
  have H':=am H;clear H
  obtain⟨eY,eZ⟩:=nbo aI
  obtain⟨e5,e6⟩:=nbo aG
  obtain⟨_,_,_,_,_,_,_,_,_,_⟩:=cl5 aC
  obtain⟨e7,e8⟩:=nbo aH
  obtain⟨_,_,_,_,_,_,_,_,_,_⟩:=cl5 aE
  go_wp2
  go_meet
  case rel=>exact⟨_,((((rd_T49 s0_0 aA).f1) != 0)),sr,H',⟨by have:=cW.out;have:=cY.out;first | omega | exact Nat.le_refl _⟩,⟨kL aC⟩,⟨kL aE⟩,⟨(tsl HI0)⟩,⟨(krl HK)⟩,⟨(btl HB HI0)⟩⟩
 clear dH
 try clear c1 eG cO cP fU cQ fV cR dB dC a8 a9 bB bC bD bE bF bX bY b8 b9 cA cB cC bA bG bH bI bJ bK bZ cD cE cF cG cH aK aM aN aQ aT aW aX aY aZ a6 cI cS cJ cT
 obtain⟨kq,bO,rfl,HA,cK,aC,aE,HI0,HK,HB⟩:=hcut
 cases kq with
 | zero=>exact absurd HA.out (by simp [impl_tree_measure.j2])
 | succ kj25=>?_
 have H:=HA.out
 clear HA
 simp only [impl_tree_measure.j2] at H
 replace H:=ibt H;obtain⟨rfl,H⟩ | ⟨rfl,H⟩:=H
 · replace H:=sj2 H;obtain⟨rfl,rfl⟩:=H
   go_wp2
   go_ret
   exact fin_ ⟨(tsl HI0),(btl HB HI0),(krl HK)⟩
 have dI:=am H
 clear H
 go_upto_region 13 with (fail)
 go_cut [85] (fun v85 wc=>∃ (kq:Nat) (bP:Bool),v85=.bool bP∧Aside0 (impl_tree_measure.j3 kq a1 a2 aA ((rd_T49 s0_0 a1).f4) a7 bP s0_0 aD ((rd_T49 s0_0 a1).f0) ((rd_T49 s0_0 a1).f1) ((rd_T49 s0_0 a1).f2) ((rd_T49 s0_0 a1).f3) ((rd_T49 s0_0 a1).f4) ((rd_T49 s0_0 aA).f0) ((rd_T49 s0_0 aA).f1) ((rd_T49 s0_0 aA).f2) ((rd_T49 s0_0 aA).f3) ((rd_T49 s0_0 aA).f4)=some (r1,r2))∧Aside0 (kq≤kj25)∧Aside0 (wc.heap[aJ]?=some (.cells #[.int .i64 ((rd_T49 s0_0 a1).f0),.int .i64 ((rd_T49 s0_0 a1).f1),.int .i64 ((rd_T49 s0_0 a1).f2),.string ((rd_T49 s0_0 a1).f3),.int .i64 ((rd_T49 s0_0 a1).f4)] 49 (0,0)))∧Aside0 (wc.heap[aU]?=some (.cells #[.int .i64 ((rd_T49 s0_0 aA).f0),.int .i64 ((rd_T49 s0_0 aA).f1),.int .i64 ((rd_T49 s0_0 aA).f2),.string ((rd_T49 s0_0 aA).f3),.int .i64 ((rd_T49 s0_0 aA).f4)] 49 (0,0)))∧Aside0 (TsS113 w0 wc g s0_0 aD)∧Aside0 (KeepBut w wc g (some (g - 1)))∧Aside0 (Below w0.heap.size w0 wc))
 case first =>
  have H:=dI.out
  clear dI
  replace H:=ieq H;obtain⟨bN,cV,H⟩ | ⟨gA,bN,cV,H⟩:=H
  rotate_left
  · (first | rw [bN] | rw [cV] | (simp only [i64_w,i32_w];rw [bN]) | skip)
    have H':=am H;clear H
    obtain⟨e9,fA⟩:=nbo aI
    obtain⟨fB,fC⟩:=nbo aG
    obtain⟨_,_,_,_,_,_,_,_,_,_⟩:=cl5 aC
    go_wp2
    go_meet
    case rel=>exact⟨_,(false),sr,H',⟨by have:=cW.out;have:=cY.out;have:=cK.out;first | omega | exact Nat.le_refl _⟩,⟨kL aC⟩,⟨kL aE⟩,⟨(tsl HI0)⟩,⟨(krl HK)⟩,⟨(btl HB HI0)⟩⟩
  (first | rw [bN] | rw [cV] | (simp only [i64_w,i32_w];rw [bN]) | skip)
  replace H:=bnd H;obtain⟨eA,fW,H⟩:=H
  have H':=am H;clear H
  obtain⟨fD,fE⟩:=nbo aI
  obtain⟨fF,fG⟩:=nbo aG
  obtain⟨_,_,_,_,_,_,_,_,_,_⟩:=cl5 aC
  obtain⟨fH,fI⟩:=nbo aH
  obtain⟨_,_,_,_,_,_,_,_,_,_⟩:=cl5 aE
  go_wp2_with (first | (go_at_call 57;(with_reducible refine (impl_within.calls fW.out).mono ?_);rintro e w' ⟨rfl,⟨nd,rfl⟩⟩))
  go_meet
  case rel=>exact⟨_,(!eA),sr,H',⟨by have:=cW.out;have:=cY.out;have:=cK.out;first | omega | exact Nat.le_refl _⟩,⟨kL aC⟩,⟨kL aE⟩,⟨(tsl HI0)⟩,⟨(krl HK)⟩,⟨(btl HB HI0)⟩⟩
 clear dI
 try clear c1 eG cO cP fU cQ fV cR dB dC gB a8 a9 bB bC bD bE bF bX bY b8 b9 cA cB cC bA bG bH bI bJ bK bZ cD cE cF cG cH aK aM aN aQ aT aW aX aY aZ a6 cI cS cJ cT
 obtain⟨kq,bP,rfl,HA,cZ,aC,aE,HI0,HK,HB⟩:=hcut
 cases kq with
 | zero=>exact absurd HA.out (by simp [impl_tree_measure.j3])
 | succ kj47=>?_
 have H:=HA.out
 clear HA
 simp only [impl_tree_measure.j3] at H
 replace H:=ibt H;obtain⟨rfl,H⟩ | ⟨rfl,H⟩:=H
 · replace H:=sj2 H;obtain⟨rfl,rfl⟩:=H
   go_wp2
   go_ret
   exact fin_ ⟨(tsl HI0),(btl HB HI0),(krl HK)⟩
 replace H:=bnd2 H;obtain⟨dJ,dK,fJ,H⟩:=H;dsimp only at H
 replace H:=idc H;obtain⟨dN,H⟩ | ⟨dN,H⟩:=H
 · replace H:=sj2 H;obtain⟨rfl,rfl⟩:=H
   obtain⟨fK,fL⟩:=nbo aV
   obtain⟨fM,fN⟩:=nbo aH
   obtain⟨_,_,_,_,_,_,_,_,_,_⟩:=cl5 aE
   go_wp2_with (first | ((with_reducible refine gc 79 rfl ?_);refine gl_ (some 92) Try.func79 #[.pointer (some ⟨g,0,none⟩),.int .i64 aA,.int .i64 (wrap64 (a2 + 1))] rfl ?_;(with_reducible refine (ih kj47 (by have:=cW.out;have:=cY.out;have:=cK.out;have:=cZ.out;omega) g s0_0 aD aA (wrap64 (a2 + 1)) dJ dK w0 _ ?side1 ?side2 fJ.out).mono ?_);(case side1=>repeat (first | (with_reducible first | exact HI0.out | apply TsS113.alloc | apply TsS113.drewN | apply TsS113.drew | apply TsS113.set_1 | refine TsS113.far ?_ bW.out (arr_ne HLT.out bV.out) _ | refine TsS113.far ?_ b7.out (arr_ne HLT.out b6.out) _) | exact HI0.out));(case side2=>repeat (first | (with_reducible first | exact HB.out | apply below_alloc | apply pw_below_drewN | apply below_drew1 | refine below_set ?_ (TsS113.ge HI0.out) | refine below_set ?_ (TsS113.ge1 HI0.out) | refine below_set ?_ dA.out | refine below_set ?_ dD.out) | exact HB.out));rintro e gC ⟨rfl,hi,hb,hk⟩;refine⟨_,rfl,?_⟩;replace aC:=am (KeepBut.blk hk (g':=aJ) (o:=.cells #[.int .i64 ((rd_T49 s0_0 a1).f0),.int .i64 ((rd_T49 s0_0 a1).f1),.int .i64 ((rd_T49 s0_0 a1).f2),.string ((rd_T49 s0_0 a1).f3),.int .i64 ((rd_T49 s0_0 a1).f4)] 49 (0,0)) (blk_later aC.out) aG.out (arr_neS HLT.out bV.out));replace aE:=am (KeepBut.blk hk (g':=aU) (o:=.cells #[.int .i64 ((rd_T49 s0_0 aA).f0),.int .i64 ((rd_T49 s0_0 aA).f1),.int .i64 ((rd_T49 s0_0 aA).f2),.string ((rd_T49 s0_0 aA).f3),.int .i64 ((rd_T49 s0_0 aA).f4)] 49 (0,0)) (blk_later aE.out) aH.out (arr_neS HLT.out b6.out));replace HK:=am (KeepBut.trans (krl HK) hk (.inl rfl));replace HB:=am hb;replace HI0:=am hi;clear hb hk hi))
   go_ret
   exact fin_ ⟨(tsl HI0),(btl HB HI0),(krl HK)⟩
 have H':=am H;clear H
 obtain⟨fO,fP⟩:=nbo aV
 obtain⟨fQ,fR⟩:=nbo aH
 obtain⟨_,_,_,_,_,_,_,_,_,_⟩:=cl5 aE
 go_wp2_with (first | ((with_reducible refine gc 79 rfl ?_);refine gl_ (some 92) Try.func79 #[.pointer (some ⟨g,0,none⟩),.int .i64 aA,.int .i64 (wrap64 (a2 + 1))] rfl ?_;(with_reducible refine (ih kj47 (by have:=cW.out;have:=cY.out;have:=cK.out;have:=cZ.out;omega) g s0_0 aD aA (wrap64 (a2 + 1)) dJ dK w0 _ ?side1 ?side2 fJ.out).mono ?_);(case side1=>repeat (first | (with_reducible first | exact HI0.out | apply TsS113.alloc | apply TsS113.drewN | apply TsS113.drew | apply TsS113.set_1 | refine TsS113.far ?_ bW.out (arr_ne HLT.out bV.out) _ | refine TsS113.far ?_ b7.out (arr_ne HLT.out b6.out) _) | exact HI0.out));(case side2=>repeat (first | (with_reducible first | exact HB.out | apply below_alloc | apply pw_below_drewN | apply below_drew1 | refine below_set ?_ (TsS113.ge HI0.out) | refine below_set ?_ (TsS113.ge1 HI0.out) | refine below_set ?_ dA.out | refine below_set ?_ dD.out) | exact HB.out));rintro e gD ⟨rfl,hi,hb,hk⟩;refine⟨_,rfl,?_⟩;replace aC:=am (KeepBut.blk hk (g':=aJ) (o:=.cells #[.int .i64 ((rd_T49 s0_0 a1).f0),.int .i64 ((rd_T49 s0_0 a1).f1),.int .i64 ((rd_T49 s0_0 a1).f2),.string ((rd_T49 s0_0 a1).f3),.int .i64 ((rd_T49 s0_0 a1).f4)] 49 (0,0)) (blk_later aC.out) aG.out (arr_neS HLT.out bV.out));replace aE:=am (KeepBut.blk hk (g':=aU) (o:=.cells #[.int .i64 ((rd_T49 s0_0 aA).f0),.int .i64 ((rd_T49 s0_0 aA).f1),.int .i64 ((rd_T49 s0_0 aA).f2),.string ((rd_T49 s0_0 aA).f3),.int .i64 ((rd_T49 s0_0 aA).f4)] 49 (0,0)) (blk_later aE.out) aH.out (arr_neS HLT.out b6.out));replace HK:=am (KeepBut.trans (krl HK) hk (.inl rfl));replace HB:=am hb;replace HI0:=am hi;clear hb hk hi))
 go_roundg kj47
 case measure=>have:=cW.out;have:=cY.out;have:=cK.out;have:=cZ.out;omega
 case rel=>exact⟨(dJ),(((rd_T49 s0_0 aA).f1)),(wrap64 (a7 + 1)),(dK),sr,sr,sr,H',⟨by have:=cW.out;have:=cY.out;have:=cK.out;have:=cZ.out;omega⟩,⟨kL aC⟩,⟨(tsl HI0)⟩,⟨(krl HK)⟩,⟨(btl HB HI0)⟩⟩
section
variable {P:Program} {ops:Array Oper} {rest:List Oper} {o:Oper} {a:Act} {Q:Exit→Act→World→Prop}
/-- 'make([]int, n)', and where the row lies. -/
theorem make_ints {W : World} (hgd : o.guard = none) {N : Tmp} (_hd : o.dst = some N) (t e : TypeId) (x y : Operand) (ho : o.op = .makeSlice t x y) (n : Nat) (hx : a.eval x = .int .i64 n) (hy : a.eval y = .int .i64 n)
    (ht:P.underlying t=some (.slice e)) (hinfo:(P.info? e).map (fun i=>(i.zero,i.size,i.bytes))=some (some (.int .i64 0),1,8)) (hl:n≤1048576)
    (h:∀ b,b=W.heap.size→∀ w1,w1.heap[b]?=some (.cells (nums .i64 (List.replicate n 0)).toArray e (0,0))→Below W.heap.size W w1→w1.heap.size=b + 1→wpList P ops Q rest (a.put o.dst (.slice (some ⟨b,0,none⟩) n n)) w1):wpList P ops Q (o :: rest) a W:=by
 obtain⟨i0,hi,hzz⟩:=Option.map_eq_some_iff.1 hinfo
 simp only [Prod.mk.injEq] at hzz
 obtain⟨hz0,hz1,hz2⟩:=hzz
 have hr:=run_make (P:=P) W t e i0 (.int .i64 0) ht hi hz0 .i64 .i64 (n:Int) (n:Int) (by omega) (by omega) (by rw [hz2];omega) (by omega)
 simp only [Int.toNat_natCast] at hr
 have hm:madeCells (Value.int .i64 0).cells (n * i0.size)=(nums .i64 (List.replicate n 0)).toArray:=by
   rw [hz1,Nat.mul_one]
   apply Array.ext'
   simp [madeCells,nums,Value.cells]
   apply List.ext_getElem?
   intro j
   by_cases hj:j < n <;> simp [hj,Nat.mod_one]
 rw [hm] at hr
 refine Kd.event_run hgd ?_ (h _ rfl _ (blk_new W _) (below_alloc (Below.refl _ _) _) (by simp))
 simp [execOp,ho,hx,hy,hr]
end
def impl_treeOf.f (k:Nat)(l0:List (S49)):Option (List Int × Bool) :=
  (impl_within.f (l0.length:Int) 1 1500).bind fun t=>if t=true then (if (rd_T49 l0 0).f0=12 then (if (rd_T49 l0 0).f1=0 then ((impl_tree_measure.f k l0 (List.replicate l0.length 0) 0 1).bind fun m=>if m.1=(l0.length:Int) then some (m.2,true) else some ([],false)) else some ([],false)) else some ([],false)) else some ([],false)
/-- What treeOf leaves. -/
def TreeP (l0:List (S49))(a:List Int)(ok:Bool)(w:World)(p:Value)(w':World):Prop :=
  Below w.heap.size w w'∧(ok=false→p=.pointer none)∧(ok=true→∃ g wz,p=.pointer (some ⟨g,0,none⟩)∧IsS113 wz w' g l0 a∧Below wz.heap.size wz w'∧w.heap.size≤wz.heap.size)
theorem TsS113.told {w0 W:World}{g:Nat}{f0:List (S49)}{f1:List Int}(h:TsS113 w0 W g f0 f1)(hB:Below w0.heap.size w0 W):∃ wz,IsS113 wz W g f0 f1∧Below wz.heap.size wz W∧w0.heap.size≤wz.heap.size:=by
 have hlt:=h.lt
 obtain⟨A0,c0,a,⟨b,c,d,e⟩,f⟩:=h
 have hz:(W.heap.extract 0 g).size=g:=by simp;omega
 have hk:∀ k,k < g→(W.heap.extract 0 g)[k]?=W.heap[k]?:=fun k hk=>by
   rw [Array.getElem?_extract];simp;omega
 refine⟨{ W with heap:=W.heap.extract 0 g },⟨A0,c0,some ⟨g - 1,0,none⟩,f1.length,a,Nat.le_of_eq hz,?_,?_⟩,?_,?_⟩
 · exact Kd.C_below f ⟨hB.os,hB.tape,hB.output,by show _≤(W.heap.extract 0 g).size;omega,fun k hk2=>(hk k (by omega)).trans (hB.block k hk2)⟩
 · refine⟨rfl,e.2,fun _=>⟨_,rfl,fun j p hj=>⟨[.int .i64 p],rfl,rfl,fun i u hu=>?_⟩⟩⟩
   have hi:i=0:=by have:=(List.getElem?_eq_some_iff.1 hu).1;simp at this;omega
   subst hi
   have hu2:u=.int .i64 p:=by simpa using hu.symm
   subst hu2
   have h3:((⟨g - 1,0,none⟩:Addr).add (j * (Kd.int .i64).sz + 0))=⟨g - 1,j,none⟩:=by
     show Addr.add _ (j * 1 + 0)=_
     rw [add_plain];simp
   rw [h3]
   refine (blk_cell (w:={ W with heap:=W.heap.extract 0 g }) ((hk (g - 1) (by omega)).trans c) j).trans ?_
   simp [nums,hj]
 · exact⟨rfl,rfl,rfl,by show (W.heap.extract 0 g).size≤_;omega,fun k hk2=>(hk k (by rw [← hz];exact hk2)).symm⟩
 show _≤(W.heap.extract 0 g).size;omega
theorem TreeOf_told {w w1 w2 w3 : World} {b g c0 : Nat} {ad : Addr} {l0 : List (S49)} {n : Nat} (hn : n ≤ 1048576) (hb : b = w.heap.size) (hs : w1.heap.size = b + 1) (hg : g = w1.heap.size)
    (h2:w2.heap[g]?=some (.cells #[.slice (some ad) l0.length c0,.slice (some ⟨b,0,none⟩) n n] 113 (0,0))) (ha:w2.heap[b]?=some (.cells (nums .i64 (List.replicate n 0)).toArray 3 (0,0)))
    (hc:Kd.C k49 w (some ad) l0.length l0) (h3:Below w2.heap.size w2 w3):TsS113 w w3 g l0 (List.replicate n 0):=by
 have e:g - 1=b:=by omega
 have hlt:=blk_lt h2
 refine⟨some ad,c0,?_,⟨by omega,?_,by omega,by omega,by rw [List.length_replicate];omega⟩,hc⟩
 rotate_left
 · rw [e];exact (h3.block b (by omega)).trans ha
 rw [e,List.length_replicate];exact (h3.block g hlt).trans h2
theorem impl_treeOf.calls {k : Nat} {A0 : Option Addr} {c0 : Nat} {l0 : List (S49)} {r : List Int} {ok : Bool} {w : World} (hr0 : Kd.C k49 w A0 l0.length l0) (aH : l0.length ≤ c0) (h : impl_treeOf.f k l0 = some (r, ok)) :
    Calls Try.prog 63 #[.slice A0 l0.length c0] w fun e w'=>∃ p,e=.returned (.tuple #[p,.bool ok])∧TreeP l0 r ok w p w':=by
 have hu:=Try.underlying49
 unfold impl_treeOf.f at h
 obtain⟨t,ht,h⟩:=Option.bind_eq_some_iff.mp h
 have HT:=am ht
 clear ht
 have hlen:0≤(l0.length:Int):=by omega
 cases t with
 | false =>
  rw [if_neg (by decide)] at h
  obtain⟨rfl,rfl⟩:[]=r∧false=ok:=by simpa using h
  clear h
  have HC:=am hr0
  clear hr0
  go_enter Try.func63,Try.ntmps63
  go_wp2_with (go_at_call 57;refine (impl_within.calls HT.out).mono ?_;rintro e w' ⟨rfl,⟨nd,rfl⟩⟩)
  go_ret2
  exact⟨_,rfl,⟨pw_below_drewN (Below.refl _ _) _,fun _=>rfl,fun h=>by cases h⟩⟩
 | true =>
  rw [if_pos rfl] at h
  have hn:1≤l0.length∧l0.length≤1500:=by
    have h1:=HT.out
    unfold impl_within.f at h1
    split at h1
    · have h2:=of_decide_eq_true (Option.some.inj h1);omega
    · cases h1
  have hn0:(0:Int) < (l0.length:Int):=by omega
  obtain⟨ad,e0,x0,x1,x2,x3,x4⟩:=at_T49 hr0 0 (by omega) hn0
  cases e0
  have ea:ad.add ((0:Int).toNat * 5)=ad:=by simp [Addr.add]
  rw [ea] at x0 x1 x2 x3 x4
  clear ea
  have HL1:=am hn.1
  have HL2:=am hn.2
  have q0:((0:Int) < (l0.length:Int))=True:=eq_true hn0
  have q1:(0 < l0.length)=True:=eq_true hn.1
  have HC:=am hr0
  have X0:=am x0
  have X1:=am x1
  have X2:=am x2
  have X3:=am x3
  have X4:=am x4
  clear x0 x1 x2 x3 x4 hr0 hn hn0 hlen
  obtain⟨d0,hd0⟩:∃ z,z=(rd_T49 l0 0).f0:=⟨_,rfl⟩
  obtain⟨d1,hd1⟩:∃ z,z=(rd_T49 l0 0).f1:=⟨_,rfl⟩
  rw [← hd0,← hd1] at h
  rw [← hd0] at X0
  rw [← hd1] at X1
  clear hd0 hd1
  by_cases c0':d0=12
  rotate_left
  · rw [if_neg c0'] at h
    obtain⟨rfl,rfl⟩:[]=r∧false=ok:=by simpa using h
    clear h
    have c0a:(d0 == 12)=false:=beq_eq_false_iff_ne.mpr c0'
    have c0b:(d0 != 12)=true:=bne_iff_ne.mpr c0'
    clear c0'
    go_enter Try.func63,Try.ntmps63
    go_wp2_with (first | (go_at_call 57;refine (impl_within.calls HT.out).mono ?_;rintro e w' ⟨rfl,⟨nd,rfl⟩⟩) | ((with_reducible refine gd 13 rfl ?_);refine make_ints rfl (N:=13) rfl 56 3 _ _ rfl l0.length rfl rfl Try.underlying56 info3 (by have:=HL2.out;omega) ?_;intro b hb w1 hg1 aD hs1;have HG1:=am hg1;have HB1:=am (show Below w.heap.size w w1 from (pw_below_drewN (Below.refl _ _) nd).trans (aD.mono (by simp)));have HbE:=am (show b=w.heap.size from hb);have HS1:=am hs1;clear hb hg1 aD hs1) | ((with_reducible refine gd 15 rfl ?_);refine bx_ 15 #[.slice (some ad) l0.length c0,.slice (some ⟨b,0,none⟩) l0.length l0.length] 113 ?_;intro g hgE w2 hg2 aA;have HGE:=am hgE;have HG2:=am hg2;have HB2:=am (HB1.out.trans (aA.mono HB1.out.size));have aG:=am (grown_of_below aA none);have aE:=am (show w2.heap[b]?=_ from (aA.block b (by have:=HS1.out;omega)).trans HG1.out);have y0:=pw_cell_below HB2.out X0.out;have y1:=pw_cell_below HB2.out X1.out;have y2:=pw_cell_below HB2.out X2.out;have y3:=pw_cell_below HB2.out X3.out;have y4:=pw_cell_below HB2.out X4.out;clear hgE hg2 aA) | ((with_reducible refine gd 5 rfl ?_);refine bx_ 5 #[.int .i64 0,.int .i64 0,.int .i64 0,.string ⟨#[]⟩,.int .i64 0] 49 ?_;intro gb hbE w3 hg3 aC;have HBE:=am hbE;have HG3:=am hg3;have HB3:=am (HB2.out.trans (aC.mono HB2.out.size));have HI3:=am (TreeOf_told (w:=w) (by have:=HL2.out;omega) HbE.out HS1.out HGE.out HG2.out aE.out HC.out aC);have HN3:=am (show g≠gb from by have:=blk_lt HG2.out;have:=HBE.out;omega);have HM3:=am (show g - 1≠gb from by have:=blk_lt HG2.out;have:=HBE.out;omega);have HP3:=am (show w.heap.size≤gb from by have:=HB2.out.size;have:=HBE.out;omega);have z0:w3.cell? ⟨gb,0,none⟩=some (.int .i64 0):=(blk_cell HG3.out 0).trans rfl;have z1:w3.cell? ⟨gb,1,none⟩=some (.int .i64 0):=(blk_cell HG3.out 1).trans rfl;have z2:w3.cell? ⟨gb,2,none⟩=some (.int .i64 0):=(blk_cell HG3.out 2).trans rfl;have z3:w3.cell? ⟨gb,3,none⟩=some (.string ⟨#[]⟩):=(blk_cell HG3.out 3).trans rfl;have z4:w3.cell? ⟨gb,4,none⟩=some (.int .i64 0):=(blk_cell HG3.out 4).trans rfl;have f0:=blk_frozen HG3.out 0;have f1:=blk_frozen HG3.out 1;have f2:=blk_frozen HG3.out 2;have f3:=blk_frozen HG3.out 3;have f4:=blk_frozen HG3.out 4;clear hbE hg3 aC) | (go_at_call 79;(with_reducible refine (impl_tree_measure.calls k g l0 (List.replicate l0.length 0) 0 1 _ m2 w _ ?side1 ?side2 HM.out).mono ?_);(case side1=>repeat (first | (with_reducible first | exact HI3.out | apply TsS113.alloc | apply TsS113.drewN | apply TsS113.drew | refine TsS113.far ?_ HN3.out HM3.out _) | exact HI3.out));(case side2=>exact bL HB3);rintro e w4 ⟨rfl,hi,hb,hk⟩;have HT4:=am hi;have HB4:=am hb;clear hi hb hk))
    go_ret2
    exact⟨_,rfl,bL HB3,fun _=>rfl,fun h=>by cases h⟩
  subst c0'
  rw [if_pos rfl] at h
  by_cases c1':d1=0
  rotate_left
  · rw [if_neg c1'] at h
    obtain⟨rfl,rfl⟩:[]=r∧false=ok:=by simpa using h
    clear h
    have c1a:(d1 == 0)=false:=beq_eq_false_iff_ne.mpr c1'
    have c1b:(d1 != 0)=true:=bne_iff_ne.mpr c1'
    clear c1'
    go_enter Try.func63,Try.ntmps63
    go_wp2_with (first | (go_at_call 57;refine (impl_within.calls HT.out).mono ?_;rintro e w' ⟨rfl,⟨nd,rfl⟩⟩) | ((with_reducible refine gd 13 rfl ?_);refine make_ints rfl (N:=13) rfl 56 3 _ _ rfl l0.length rfl rfl Try.underlying56 info3 (by have:=HL2.out;omega) ?_;intro b hb w1 hg1 aD hs1;have HG1:=am hg1;have HB1:=am (show Below w.heap.size w w1 from (pw_below_drewN (Below.refl _ _) nd).trans (aD.mono (by simp)));have HbE:=am (show b=w.heap.size from hb);have HS1:=am hs1;clear hb hg1 aD hs1) | ((with_reducible refine gd 15 rfl ?_);refine bx_ 15 #[.slice (some ad) l0.length c0,.slice (some ⟨b,0,none⟩) l0.length l0.length] 113 ?_;intro g hgE w2 hg2 aA;have HGE:=am hgE;have HG2:=am hg2;have HB2:=am (HB1.out.trans (aA.mono HB1.out.size));have aG:=am (grown_of_below aA none);have aE:=am (show w2.heap[b]?=_ from (aA.block b (by have:=HS1.out;omega)).trans HG1.out);have y0:=pw_cell_below HB2.out X0.out;have y1:=pw_cell_below HB2.out X1.out;have y2:=pw_cell_below HB2.out X2.out;have y3:=pw_cell_below HB2.out X3.out;have y4:=pw_cell_below HB2.out X4.out;clear hgE hg2 aA) | ((with_reducible refine gd 5 rfl ?_);refine bx_ 5 #[.int .i64 0,.int .i64 0,.int .i64 0,.string ⟨#[]⟩,.int .i64 0] 49 ?_;intro gb hbE w3 hg3 aC;have HBE:=am hbE;have HG3:=am hg3;have HB3:=am (HB2.out.trans (aC.mono HB2.out.size));have HI3:=am (TreeOf_told (w:=w) (by have:=HL2.out;omega) HbE.out HS1.out HGE.out HG2.out aE.out HC.out aC);have HN3:=am (show g≠gb from by have:=blk_lt HG2.out;have:=HBE.out;omega);have HM3:=am (show g - 1≠gb from by have:=blk_lt HG2.out;have:=HBE.out;omega);have HP3:=am (show w.heap.size≤gb from by have:=HB2.out.size;have:=HBE.out;omega);have z0:w3.cell? ⟨gb,0,none⟩=some (.int .i64 0):=(blk_cell HG3.out 0).trans rfl;have z1:w3.cell? ⟨gb,1,none⟩=some (.int .i64 0):=(blk_cell HG3.out 1).trans rfl;have z2:w3.cell? ⟨gb,2,none⟩=some (.int .i64 0):=(blk_cell HG3.out 2).trans rfl;have z3:w3.cell? ⟨gb,3,none⟩=some (.string ⟨#[]⟩):=(blk_cell HG3.out 3).trans rfl;have z4:w3.cell? ⟨gb,4,none⟩=some (.int .i64 0):=(blk_cell HG3.out 4).trans rfl;have f0:=blk_frozen HG3.out 0;have f1:=blk_frozen HG3.out 1;have f2:=blk_frozen HG3.out 2;have f3:=blk_frozen HG3.out 3;have f4:=blk_frozen HG3.out 4;clear hbE hg3 aC) | (go_at_call 79;(with_reducible refine (impl_tree_measure.calls k g l0 (List.replicate l0.length 0) 0 1 _ m2 w _ ?side1 ?side2 HM.out).mono ?_);(case side1=>repeat (first | (with_reducible first | exact HI3.out | apply TsS113.alloc | apply TsS113.drewN | apply TsS113.drew | refine TsS113.far ?_ HN3.out HM3.out _) | exact HI3.out));(case side2=>exact bL HB3);rintro e w4 ⟨rfl,hi,hb,hk⟩;have HT4:=am hi;have HB4:=am hb;clear hi hb hk))
    go_ret2
    exact⟨_,rfl,bL HB3,fun _=>rfl,fun h=>by cases h⟩
  subst c1'
  rw [if_pos rfl] at h
  obtain⟨⟨m1,m2⟩,hm,h⟩:=Option.bind_eq_some_iff.mp h
  have HM:=am hm
  clear hm
  dsimp only at h
  by_cases c2':m1=(l0.length:Int)
  · rw [if_pos c2'] at h
    obtain⟨rfl,rfl⟩:m2=r∧true=ok:=by simpa using h
    clear h
    subst c2'
    go_enter Try.func63,Try.ntmps63
    go_wp2_with (first | (go_at_call 57;refine (impl_within.calls HT.out).mono ?_;rintro e w' ⟨rfl,⟨nd,rfl⟩⟩) | ((with_reducible refine gd 13 rfl ?_);refine make_ints rfl (N:=13) rfl 56 3 _ _ rfl l0.length rfl rfl Try.underlying56 info3 (by have:=HL2.out;omega) ?_;intro b hb w1 hg1 aD hs1;have HG1:=am hg1;have HB1:=am (show Below w.heap.size w w1 from (pw_below_drewN (Below.refl _ _) nd).trans (aD.mono (by simp)));have HbE:=am (show b=w.heap.size from hb);have HS1:=am hs1;clear hb hg1 aD hs1) | ((with_reducible refine gd 15 rfl ?_);refine bx_ 15 #[.slice (some ad) l0.length c0,.slice (some ⟨b,0,none⟩) l0.length l0.length] 113 ?_;intro g hgE w2 hg2 aA;have HGE:=am hgE;have HG2:=am hg2;have HB2:=am (HB1.out.trans (aA.mono HB1.out.size));have aG:=am (grown_of_below aA none);have aE:=am (show w2.heap[b]?=_ from (aA.block b (by have:=HS1.out;omega)).trans HG1.out);have y0:=pw_cell_below HB2.out X0.out;have y1:=pw_cell_below HB2.out X1.out;have y2:=pw_cell_below HB2.out X2.out;have y3:=pw_cell_below HB2.out X3.out;have y4:=pw_cell_below HB2.out X4.out;clear hgE hg2 aA) | ((with_reducible refine gd 5 rfl ?_);refine bx_ 5 #[.int .i64 0,.int .i64 0,.int .i64 0,.string ⟨#[]⟩,.int .i64 0] 49 ?_;intro gb hbE w3 hg3 aC;have HBE:=am hbE;have HG3:=am hg3;have HB3:=am (HB2.out.trans (aC.mono HB2.out.size));have HI3:=am (TreeOf_told (w:=w) (by have:=HL2.out;omega) HbE.out HS1.out HGE.out HG2.out aE.out HC.out aC);have HN3:=am (show g≠gb from by have:=blk_lt HG2.out;have:=HBE.out;omega);have HM3:=am (show g - 1≠gb from by have:=blk_lt HG2.out;have:=HBE.out;omega);have HP3:=am (show w.heap.size≤gb from by have:=HB2.out.size;have:=HBE.out;omega);have z0:w3.cell? ⟨gb,0,none⟩=some (.int .i64 0):=(blk_cell HG3.out 0).trans rfl;have z1:w3.cell? ⟨gb,1,none⟩=some (.int .i64 0):=(blk_cell HG3.out 1).trans rfl;have z2:w3.cell? ⟨gb,2,none⟩=some (.int .i64 0):=(blk_cell HG3.out 2).trans rfl;have z3:w3.cell? ⟨gb,3,none⟩=some (.string ⟨#[]⟩):=(blk_cell HG3.out 3).trans rfl;have z4:w3.cell? ⟨gb,4,none⟩=some (.int .i64 0):=(blk_cell HG3.out 4).trans rfl;have f0:=blk_frozen HG3.out 0;have f1:=blk_frozen HG3.out 1;have f2:=blk_frozen HG3.out 2;have f3:=blk_frozen HG3.out 3;have f4:=blk_frozen HG3.out 4;clear hbE hg3 aC) | (go_at_call 79;(with_reducible refine (impl_tree_measure.calls k g l0 (List.replicate l0.length 0) 0 1 _ m2 w _ ?side1 ?side2 HM.out).mono ?_);(case side1=>repeat (first | (with_reducible first | exact HI3.out | apply TsS113.alloc | apply TsS113.drewN | apply TsS113.drew | refine TsS113.far ?_ HN3.out HM3.out _) | exact HI3.out));(case side2=>exact bL HB3);rintro e w4 ⟨rfl,hi,hb,hk⟩;have HT4:=am hi;have HB4:=am hb;clear hi hb hk))
    go_ret2
    obtain⟨wz,z1,z2,z3⟩:=HT4.out.told HB4.out
    exact⟨_,rfl,HB4.out,(fun h=>by cases h),fun _=>⟨_,wz,rfl,z1,z2,z3⟩⟩
  rw [if_neg c2'] at h
  obtain⟨rfl,rfl⟩:[]=r∧false=ok:=by simpa using h
  clear h
  have c2a:(m1 == (l0.length:Int))=false:=beq_eq_false_iff_ne.mpr c2'
  have c2b:(m1 != (l0.length:Int))=true:=bne_iff_ne.mpr c2'
  clear c2'
  go_enter Try.func63,Try.ntmps63
  go_wp2_with (first | (go_at_call 57;refine (impl_within.calls HT.out).mono ?_;rintro e w' ⟨rfl,⟨nd,rfl⟩⟩) | ((with_reducible refine gd 13 rfl ?_);refine make_ints rfl (N:=13) rfl 56 3 _ _ rfl l0.length rfl rfl Try.underlying56 info3 (by have:=HL2.out;omega) ?_;intro b hb w1 hg1 aD hs1;have HG1:=am hg1;have HB1:=am (show Below w.heap.size w w1 from (pw_below_drewN (Below.refl _ _) nd).trans (aD.mono (by simp)));have HbE:=am (show b=w.heap.size from hb);have HS1:=am hs1;clear hb hg1 aD hs1) | ((with_reducible refine gd 15 rfl ?_);refine bx_ 15 #[.slice (some ad) l0.length c0,.slice (some ⟨b,0,none⟩) l0.length l0.length] 113 ?_;intro g hgE w2 hg2 aA;have HGE:=am hgE;have HG2:=am hg2;have HB2:=am (HB1.out.trans (aA.mono HB1.out.size));have aG:=am (grown_of_below aA none);have aE:=am (show w2.heap[b]?=_ from (aA.block b (by have:=HS1.out;omega)).trans HG1.out);have y0:=pw_cell_below HB2.out X0.out;have y1:=pw_cell_below HB2.out X1.out;have y2:=pw_cell_below HB2.out X2.out;have y3:=pw_cell_below HB2.out X3.out;have y4:=pw_cell_below HB2.out X4.out;clear hgE hg2 aA) | ((with_reducible refine gd 5 rfl ?_);refine bx_ 5 #[.int .i64 0,.int .i64 0,.int .i64 0,.string ⟨#[]⟩,.int .i64 0] 49 ?_;intro gb hbE w3 hg3 aC;have HBE:=am hbE;have HG3:=am hg3;have HB3:=am (HB2.out.trans (aC.mono HB2.out.size));have HI3:=am (TreeOf_told (w:=w) (by have:=HL2.out;omega) HbE.out HS1.out HGE.out HG2.out aE.out HC.out aC);have HN3:=am (show g≠gb from by have:=blk_lt HG2.out;have:=HBE.out;omega);have HM3:=am (show g - 1≠gb from by have:=blk_lt HG2.out;have:=HBE.out;omega);have HP3:=am (show w.heap.size≤gb from by have:=HB2.out.size;have:=HBE.out;omega);have z0:w3.cell? ⟨gb,0,none⟩=some (.int .i64 0):=(blk_cell HG3.out 0).trans rfl;have z1:w3.cell? ⟨gb,1,none⟩=some (.int .i64 0):=(blk_cell HG3.out 1).trans rfl;have z2:w3.cell? ⟨gb,2,none⟩=some (.int .i64 0):=(blk_cell HG3.out 2).trans rfl;have z3:w3.cell? ⟨gb,3,none⟩=some (.string ⟨#[]⟩):=(blk_cell HG3.out 3).trans rfl;have z4:w3.cell? ⟨gb,4,none⟩=some (.int .i64 0):=(blk_cell HG3.out 4).trans rfl;have f0:=blk_frozen HG3.out 0;have f1:=blk_frozen HG3.out 1;have f2:=blk_frozen HG3.out 2;have f3:=blk_frozen HG3.out 3;have f4:=blk_frozen HG3.out 4;clear hbE hg3 aC) | (go_at_call 79;(with_reducible refine (impl_tree_measure.calls k g l0 (List.replicate l0.length 0) 0 1 _ m2 w _ ?side1 ?side2 HM.out).mono ?_);(case side1=>repeat (first | (with_reducible first | exact HI3.out | apply TsS113.alloc | apply TsS113.drewN | apply TsS113.drew | refine TsS113.far ?_ HN3.out HM3.out _) | exact HI3.out));(case side2=>exact bL HB3);rintro e w4 ⟨rfl,hi,hb,hk⟩;have HT4:=am hi;have HB4:=am hb;clear hi hb hk))
  go_ret2
  exact⟨_,rfl,HB4.out,fun _=>rfl,fun h=>by cases h⟩
theorem below_via {B:Nat}{w w1 w2 wz:World}(h:Below B w w1)(h1:Below wz.heap.size wz w1)(h2:Below wz.heap.size wz w2)(hz:B≤wz.heap.size)(hw:w.heap.size≤wz.heap.size):Below B w w2 :=
  ⟨h2.os.trans (h1.os.symm.trans h.os),h2.tape.trans (h1.tape.symm.trans h.tape),h2.output.trans (h1.output.symm.trans h.output),Nat.le_trans hw h2.size,fun k hk=>(h2.block k (by omega)).trans ((h1.block k (by omega)).symm.trans (h.block k hk))⟩

/-! ### impl_TreeOk: function 36 -/
def impl_TreeOk.f (k:Nat)(l0:List (S49)):Option Bool:=(impl_treeOf.f k l0).bind fun t=>some t.2
theorem impl_TreeOk.calls {k : Nat} {A0 : Option Addr} {c0 : Nat} {l0 : List (S49)} {r : Bool} {w : World} (hr0 : Kd.C k49 w A0 l0.length l0) (aA : l0.length ≤ c0) (h : impl_TreeOk.f k l0 = some r) :
    Calls Try.prog 36 #[.slice A0 l0.length c0] w fun e w'=>e=.returned (.bool r)∧Below w.heap.size w w':=by
 unfold impl_TreeOk.f at h
 obtain⟨⟨t1,t2⟩,ht,h⟩:=Option.bind_eq_some_iff.mp h
 have HT:=am ht
 clear ht
 dsimp only at h
 obtain rfl:=Option.some.inj h
 go_enter Try.func36,Try.ntmps36
 go_wp2_with (go_at_call 63;refine (impl_treeOf.calls hr0 aA HT.out).mono ?_;rintro e w1 ⟨p,rfl,hp⟩;obtain⟨hb,_,_⟩:=hp;have HB:=am hb;clear hb)
 go_ret
 exact⟨rfl,HB.out⟩
end Go.Proofs.Ytjdapaocdkcgdaa.PFnExactMetaPack
