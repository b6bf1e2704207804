/- The machine's side of FnExactMetaPack: each Go function, and what its call comes to. No condition. -/
import Derived.Test.YtjdapaocdkcgdaaVFnExactMetaPack
import Derived.Test.YtjdapaocdkcgdaaProg
import Derived.Below
import Derived.Deep.Draws
import Derived.Deep.AppendLies
import Derived.Maps.AppendAt
import Derived.OwnWalk
import Derived.Laws.BytesArg
import Derived.Laws.MakeOwn
import Derived.Laws.OwnMore
import Derived.Deep.OwnRows
import Derived.Tactics
import Derived.Lib.ConvBytes
import Derived.Laws.Slices
import Derived.WalkKit
import Derived.KernelRfl
import Derived.RowKit3
import Derived.Deep.LoopGhost
import Derived.Deep.QuietTactic
import Derived.BigQuiet
import Derived.WideLaws
import Derived.Deep.DeepCutAuto
import Derived.Deep.CutBlock
import Derived.Deep.RegionHeld3
import Derived.Laws.Rows
import Derived.Lib.AppendStr
import Derived.ArgAppend
import Derived.Laws.IdiomCopy
import Derived.OrdersHeld
import Derived.Laws.BitsLemmas
import Derived.RowKit
namespace Go.Proofs.Ytjdapaocdkcgdaa.PFnExactMetaPack
open Go.RowKit Go.Proofs.YtjdapaocdkcgdaaW.PrintWords Go.Proofs.YtjdapaocdkcgdaaW.PrintLast Go.Proofs.YtjdapaocdkcgdaaW.PrintMore Go.Proofs.YtjdapaocdkcgdaaW.PrintMore2
theorem bnd2 {A0 A1 β:Type}{x:Option (A0 × A1)}{f:A0 × A1→Option β}{r:β}(h:x.bind f=some r):∃ a0 a1,Aside0 (x=some (a0,a1))∧f (a0,a1)=some r:=by
 obtain⟨⟨a0,a1⟩,h1,h2⟩:=Option.bind_eq_some_iff.mp h
 exact⟨a0,a1,⟨h1⟩,h2⟩
theorem bnd3 {A0 A1 A2 β:Type}{x:Option (A0 × A1 × A2)}{f:A0 × A1 × A2→Option β}{r:β}(h:x.bind f=some r):∃ a0 a1 a2,Aside0 (x=some (a0,a1,a2))∧f (a0,a1,a2)=some r:=by
 obtain⟨⟨a0,a1,a2⟩,h1,h2⟩:=Option.bind_eq_some_iff.mp h
 exact⟨a0,a1,a2,⟨h1⟩,h2⟩
theorem bnd4 {A0 A1 A2 A3 β:Type}{x:Option (A0 × A1 × A2 × A3)}{f:A0 × A1 × A2 × A3→Option β}{r:β}(h:x.bind f=some r):∃ a0 a1 a2 a3,Aside0 (x=some (a0,a1,a2,a3))∧f (a0,a1,a2,a3)=some r:=by
 obtain⟨⟨a0,a1,a2,a3⟩,h1,h2⟩:=Option.bind_eq_some_iff.mp h
 exact⟨a0,a1,a2,a3,⟨h1⟩,h2⟩
theorem bnd5 {A0 A1 A2 A3 A4 β:Type}{x:Option (A0 × A1 × A2 × A3 × A4)}{f:A0 × A1 × A2 × A3 × A4→Option β}{r:β}(h:x.bind f=some r):∃ a0 a1 a2 a3 a4,Aside0 (x=some (a0,a1,a2,a3,a4))∧f (a0,a1,a2,a3,a4)=some r:=by
 obtain⟨⟨a0,a1,a2,a3,a4⟩,h1,h2⟩:=Option.bind_eq_some_iff.mp h
 exact⟨a0,a1,a2,a3,a4,⟨h1⟩,h2⟩
theorem bnd6 {A0 A1 A2 A3 A4 A5 β:Type}{x:Option (A0 × A1 × A2 × A3 × A4 × A5)}{f:A0 × A1 × A2 × A3 × A4 × A5→Option β}{r:β}(h:x.bind f=some r):∃ a0 a1 a2 a3 a4 a5,Aside0 (x=some (a0,a1,a2,a3,a4,a5))∧f (a0,a1,a2,a3,a4,a5)=some r:=by
 obtain⟨⟨a0,a1,a2,a3,a4,a5⟩,h1,h2⟩:=Option.bind_eq_some_iff.mp h
 exact⟨a0,a1,a2,a3,a4,a5,⟨h1⟩,h2⟩
theorem sj2 {A0 A1:Type}{a0 b0:A0}{a1 b1:A1}(h:some (a0,a1)=some (b0,b1)):a0=b0∧a1=b1:=by simpa only [Option.some.injEq,Prod.mk.injEq] using h
theorem sj3 {A0 A1 A2:Type}{a0 b0:A0}{a1 b1:A1}{a2 b2:A2}(h:some (a0,a1,a2)=some (b0,b1,b2)):a0=b0∧a1=b1∧a2=b2:=by simpa only [Option.some.injEq,Prod.mk.injEq] using h
theorem sj4 {A0 A1 A2 A3:Type}{a0 b0:A0}{a1 b1:A1}{a2 b2:A2}{a3 b3:A3}(h:some (a0,a1,a2,a3)=some (b0,b1,b2,b3)):a0=b0∧a1=b1∧a2=b2∧a3=b3:=by simpa only [Option.some.injEq,Prod.mk.injEq] using h
theorem sj5 {A0 A1 A2 A3 A4:Type}{a0 b0:A0}{a1 b1:A1}{a2 b2:A2}{a3 b3:A3}{a4 b4:A4}(h:some (a0,a1,a2,a3,a4)=some (b0,b1,b2,b3,b4)):a0=b0∧a1=b1∧a2=b2∧a3=b3∧a4=b4:=by simpa only [Option.some.injEq,Prod.mk.injEq] using h
theorem sj6 {A0 A1 A2 A3 A4 A5:Type}{a0 b0:A0}{a1 b1:A1}{a2 b2:A2}{a3 b3:A3}{a4 b4:A4}{a5 b5:A5}(h:some (a0,a1,a2,a3,a4,a5)=some (b0,b1,b2,b3,b4,b5)):a0=b0∧a1=b1∧a2=b2∧a3=b3∧a4=b4∧a5=b5:=by simpa only [Option.some.injEq,Prod.mk.injEq] using h
theorem if_dd {β:Type}{P0 P1:Prop}[Decidable P0][Decidable P1]{a:Option β}{r:β}(h:(if P0 then (if P1 then a else none) else none)=some r):decide P0=true∧decide P1=true∧a=some r:=by
 obtain⟨c0,h⟩:=ifd h
 obtain⟨c1,h⟩:=ifd h
 exact⟨c0,c1,h⟩
theorem if_ddd {β:Type}{P0 P1 P2:Prop}[Decidable P0][Decidable P1][Decidable P2]{a:Option β}{r:β}(h:(if P0 then (if P1 then (if P2 then a else none) else none) else none)=some r):decide P0=true∧decide P1=true∧decide P2=true∧a=some r:=by
 obtain⟨c0,h⟩:=ifd h
 obtain⟨c1,h⟩:=ifd h
 obtain⟨c2,h⟩:=ifd h
 exact⟨c0,c1,c2,h⟩
theorem if_dddd {β:Type}{P0 P1 P2 P3:Prop}[Decidable P0][Decidable P1][Decidable P2][Decidable P3]{a:Option β}{r:β}(h:(if P0 then (if P1 then (if P2 then (if P3 then a else none) else none) else none) else none)=some r):decide P0=true∧decide P1=true∧decide P2=true∧decide P3=true∧a=some r:=by
 obtain⟨c0,h⟩:=ifd h
 obtain⟨c1,h⟩:=ifd h
 obtain⟨c2,h⟩:=ifd h
 obtain⟨c3,h⟩:=ifd h
 exact⟨c0,c1,c2,c3,h⟩
theorem if_dddds {β:Type}{P0 P1 P2 P3 P4:Prop}[Decidable P0][Decidable P1][Decidable P2][Decidable P3][Decidable P4]{a:Option β}{r:β}(h:(if P0 then (if P1 then (if P2 then (if P3 then (if P4 then a else none) else none) else none) else none) else none)=some r):decide P0=true∧decide P1=true∧decide P2=true∧decide P3=true∧P4∧a=some r:=by
 obtain⟨c0,h⟩:=ifd h
 obtain⟨c1,h⟩:=ifd h
 obtain⟨c2,h⟩:=ifd h
 obtain⟨c3,h⟩:=ifd h
 obtain⟨c4,h⟩:=ifs h
 exact⟨c0,c1,c2,c3,c4,h⟩
theorem if_ddds {β:Type}{P0 P1 P2 P3:Prop}[Decidable P0][Decidable P1][Decidable P2][Decidable P3]{a:Option β}{r:β}(h:(if P0 then (if P1 then (if P2 then (if P3 then a else none) else none) else none) else none)=some r):decide P0=true∧decide P1=true∧decide P2=true∧P3∧a=some r:=by
 obtain⟨c0,h⟩:=ifd h
 obtain⟨c1,h⟩:=ifd h
 obtain⟨c2,h⟩:=ifd h
 obtain⟨c3,h⟩:=ifs h
 exact⟨c0,c1,c2,c3,h⟩
theorem if_dds {β:Type}{P0 P1 P2:Prop}[Decidable P0][Decidable P1][Decidable P2]{a:Option β}{r:β}(h:(if P0 then (if P1 then (if P2 then a else none) else none) else none)=some r):decide P0=true∧decide P1=true∧P2∧a=some r:=by
 obtain⟨c0,h⟩:=ifd h
 obtain⟨c1,h⟩:=ifd h
 obtain⟨c2,h⟩:=ifs h
 exact⟨c0,c1,c2,h⟩
theorem if_ds {β:Type}{P0 P1:Prop}[Decidable P0][Decidable P1]{a:Option β}{r:β}(h:(if P0 then (if P1 then a else none) else none)=some r):decide P0=true∧P1∧a=some r:=by
 obtain⟨c0,h⟩:=ifd h
 obtain⟨c1,h⟩:=ifs h
 exact⟨c0,c1,h⟩
attribute [local go_sem] max2_int min2_int max_two min_two max_three min_three max_four min_four
set_option linter.unusedVariables false
set_option linter.unusedSimpArgs false



/-- A row inside an element whose own elements' rows are apart from each other. -/
def Kd.sliceS {α:Type}(e:Nat)(d:Kd α):Kd (List α) where
  sz:=1
  E:=e :: d.E
  K:=fun w xs cs=>∃ A c,cs=[.slice A xs.length c]∧xs.length≤c∧d.C w A xs.length xs
  M:=fun w base ok xs cs=>∃ v,cs=[v]∧Kd.S d e w base ok v xs
  K_len:=by
    rintro w x cs ⟨A,c,rfl,_⟩
    rfl
  K_one:=by
    rintro w x cs ⟨A,c,rfl,_⟩ u hu
    rw [List.mem_singleton.1 hu]
    rfl
  K_below:=by
    rintro w w1 x cs hb ⟨A,c,rfl,hl,hr⟩
    exact⟨A,c,rfl,hl,Kd.C_below hr hb⟩
  K_of_M:=by
    rintro w base ok x cs ⟨v,rfl,h⟩
    obtain⟨A,c,rfl,hl,hr⟩:=Kd.S_reads h
    exact⟨A,c,rfl,hl,hr⟩
  M_mono:=by
    rintro w base ok ok' x cs hok ⟨v,rfl,h⟩
    exact⟨v,rfl,Kd.S_mono h hok⟩
  M_bound:=by
    rintro w base ok x cs ⟨v,rfl,h⟩
    exact⟨v,rfl,Kd.S_bound h⟩
  M_move:=by
    rintro w w1 base ok x cs hm ⟨v,rfl,h⟩
    exact⟨v,rfl,Kd.S_move h hm⟩
  M_lower:=by
    rintro w base base' ok x cs hb ⟨v,rfl,h⟩
    exact⟨v,rfl,Kd.S_lower h hb⟩
def errW:Option Int→Value
  | none=>.nilIface
  | some c=>.iface 0 (.int .i64 c)
theorem errW_none:errW none=.nilIface:=rfl
theorem errW_some (c:Int):errW (some c)=.iface 0 (.int .i64 c):=rfl

theorem info3:(Try.prog.info? 3).map (fun i=>(i.zero,i.size,i.bytes))=some (some (.int .i64 0),1,8):=by kernel_rfl
theorem info5:(Try.prog.info? 5).map (fun i=>(i.zero,i.size,i.bytes))=some (some (.int .u8 0),1,1):=by kernel_rfl
theorem info9:(Try.prog.info? 9).map (fun i=>(i.zero,i.size,i.bytes))=some (some (.string ⟨#[]⟩),1,16):=by kernel_rfl
theorem info27:(Try.prog.info? 27).map (fun i=>(i.zero,i.size,i.bytes))=some (some (.slice none 0 0),1,24):=by kernel_rfl
theorem info49:(Try.prog.info? 49).map (fun i=>(i.zero,i.size,i.bytes))=some (some (.agg #[(.int .i64 0),(.int .i64 0),(.int .i64 0),(.string ⟨#[]⟩),(.int .i64 0)]),5,48):=by kernel_rfl
theorem info58:(Try.prog.info? 58).map (fun i=>(i.zero,i.size,i.bytes))=some (some (.agg #[(.int .i64 0),(.int .i64 0),(.int .i64 0),(.int .i64 0),(.int .i64 0),(.slice none 0 0)]),6,64):=by kernel_rfl
theorem info84:(Try.prog.info? 84).map (fun i=>(i.zero,i.size,i.bytes))=some (some (.agg #[(.string ⟨#[]⟩),(.int .i64 0),(.int .i64 0),(.int .i64 0)]),4,40):=by kernel_rfl
-- the values' own types
/-! #### struct type 75 -/
structure S75 where
  f0:ByteArray
  f1:Int
  f2:Int
  f3:Int
def z75:S75:=⟨(⟨#[]⟩:ByteArray),(0:Int),(0:Int),(0:Int)⟩
def k75:Kd S75:=Kd.iso (Kd.pair Kd.string (Kd.pair (Kd.int .i64) (Kd.pair (Kd.int .i64) (Kd.int .i64)))) (fun x:S75=>(x.f0,x.f1,x.f2,x.f3))
theorem k75_open {w:World}{x:S75}{cs:List Value}(h:k75.K w x cs):cs=[.string x.f0,.int .i64 x.f1,.int .i64 x.f2,.int .i64 x.f3]:=by
 obtain⟨_,_,rfl,rfl,⟨_,_,rfl,rfl,⟨_,_,rfl,rfl,rfl⟩⟩⟩:=h
 exact rfl
def rd_T75 (xs:List S75)(i:Int):S75:=xs.getD i.toNat z75
theorem at_T75 {w:World}{A:Option Addr}{n:Nat}{xs:List S75}(h:Kd.C k75 w A n xs)(i:Int)(h0:0≤i)(h1:i < n):∃ ad , A=some ad∧w.cell? (ad.add (i.toNat * 4))=some (.string (rd_T75 xs i).f0)∧w.cell? ⟨(ad.add (i.toNat * 4)).block,(ad.add (i.toNat * 4)).off + 1,none⟩=some (.int .i64 (rd_T75 xs i).f1)∧w.cell? ⟨(ad.add (i.toNat * 4)).block,(ad.add (i.toNat * 4)).off + 2,none⟩=some (.int .i64 (rd_T75 xs i).f2)∧w.cell? ⟨(ad.add (i.toNat * 4)).block,(ad.add (i.toNat * 4)).off + 3,none⟩=some (.int .i64 (rd_T75 xs i).f3):=by
 obtain⟨ad,c,e,_,hK,aA⟩:=Kd.C_get h z75 i h0 h1
 have hc:∀ j u,c[j]?=some u→w.cell? (ad.add (i.toNat * 4 + j))=some u:=aA
 obtain rfl:=k75_open hK
 exact⟨ad,e,hc 0 _ rfl,by rw [← add_field _ _ 1 (by omega)];exact hc 1 _ rfl,by rw [← add_field _ _ 2 (by omega)];exact hc 2 _ rfl,by rw [← add_field _ _ 3 (by omega)];exact hc 3 _ rfl⟩
theorem at_T75b {w w':World}{A:Option Addr}{n:Nat}{xs:List S75}(HB:Aside0 (Below w.heap.size w w'))(h:Aside0 (Kd.C k75 w A n xs))(i:Int)(h0:0≤i:=by exact dcd)(h1:i < n:=by exact dcd):(0≤i)=True∧(i < n)=True∧∃ ad,A=some ad∧w'.cell? (ad.add (i.toNat * 4))=some (.string (rd_T75 xs i).f0)∧w'.cell? ⟨(ad.add (i.toNat * 4)).block,(ad.add (i.toNat * 4)).off + 1,none⟩=some (.int .i64 (rd_T75 xs i).f1)∧w'.cell? ⟨(ad.add (i.toNat * 4)).block,(ad.add (i.toNat * 4)).off + 2,none⟩=some (.int .i64 (rd_T75 xs i).f2)∧w'.cell? ⟨(ad.add (i.toNat * 4)).block,(ad.add (i.toNat * 4)).off + 3,none⟩=some (.int .i64 (rd_T75 xs i).f3):=by
 obtain⟨ad,e,e0,e1,e2,e3⟩:=at_T75 h.out i h0 h1
 exact⟨eq_true h0,eq_true h1,ad,e,crd HB e0,crd HB e1,crd HB e2,crd HB e3⟩
/-! #### struct type 119 -/
structure S119 where
  f0:Int
  f1:Int
  f2:Int
  f3:Int
  f4:Int
  f5:(List Int)
def z119:S119:=⟨(0:Int),(0:Int),(0:Int),(0:Int),(0:Int),([]:List Int)⟩
def k119:Kd S119:=Kd.iso (Kd.pair (Kd.int .i64) (Kd.pair (Kd.int .i64) (Kd.pair (Kd.int .i64) (Kd.pair (Kd.int .i64) (Kd.pair (Kd.int .i64) (Kd.slice 3 (Kd.int .i64))))))) (fun x:S119=>(x.f0,x.f1,x.f2,x.f3,x.f4,x.f5))
theorem k119_open {w:World}{x:S119}{cs:List Value}(h:k119.K w x cs):∃ A5 c5,cs=[.int .i64 x.f0,.int .i64 x.f1,.int .i64 x.f2,.int .i64 x.f3,.int .i64 x.f4,.slice A5 x.f5.length c5]∧x.f5.length≤c5∧(Kd.int .i64).C w A5 x.f5.length x.f5:=by
 obtain⟨_,_,rfl,rfl,⟨_,_,rfl,rfl,⟨_,_,rfl,rfl,⟨_,_,rfl,rfl,⟨_,_,rfl,rfl,⟨A5,c5,rfl,l5,g5⟩⟩⟩⟩⟩⟩:=h
 exact⟨A5,c5,rfl,l5,g5⟩
def rd_T119 (xs:List S119)(i:Int):S119:=xs.getD i.toNat z119
theorem at_T119 {w:World}{A:Option Addr}{n:Nat}{xs:List S119}(h:Kd.C k119 w A n xs)(i:Int)(h0:0≤i)(h1:i < n):∃ ad A5 c5,A=some ad∧w.cell? (ad.add (i.toNat * 6))=some (.int .i64 (rd_T119 xs i).f0)∧w.cell? ⟨(ad.add (i.toNat * 6)).block,(ad.add (i.toNat * 6)).off + 1,none⟩=some (.int .i64 (rd_T119 xs i).f1)∧w.cell? ⟨(ad.add (i.toNat * 6)).block,(ad.add (i.toNat * 6)).off + 2,none⟩=some (.int .i64 (rd_T119 xs i).f2)∧w.cell? ⟨(ad.add (i.toNat * 6)).block,(ad.add (i.toNat * 6)).off + 3,none⟩=some (.int .i64 (rd_T119 xs i).f3)∧w.cell? ⟨(ad.add (i.toNat * 6)).block,(ad.add (i.toNat * 6)).off + 4,none⟩=some (.int .i64 (rd_T119 xs i).f4)∧w.cell? ⟨(ad.add (i.toNat * 6)).block,(ad.add (i.toNat * 6)).off + 5,none⟩=some (.slice A5 (rd_T119 xs i).f5.length c5)∧(rd_T119 xs i).f5.length≤c5∧(Kd.int .i64).C w A5 (rd_T119 xs i).f5.length (rd_T119 xs i).f5:=by
 obtain⟨ad,c,e,_,hK,aA⟩:=Kd.C_get h z119 i h0 h1
 have hc:∀ j u,c[j]?=some u→w.cell? (ad.add (i.toNat * 6 + j))=some u:=aA
 obtain⟨A5,c5,rfl,l5,g5⟩:=k119_open hK
 exact⟨ad,A5,c5,e,hc 0 _ rfl,by rw [← add_field _ _ 1 (by omega)];exact hc 1 _ rfl,by rw [← add_field _ _ 2 (by omega)];exact hc 2 _ rfl,by rw [← add_field _ _ 3 (by omega)];exact hc 3 _ rfl,by rw [← add_field _ _ 4 (by omega)];exact hc 4 _ rfl,by rw [← add_field _ _ 5 (by omega)];exact hc 5 _ rfl,l5,g5⟩
/-! #### struct type 79 -/
structure S79 where
  f0:Int
  f1:(List S119)
def z79:S79:=⟨(0:Int),([]:List S119)⟩
def k79:Kd S79:=Kd.iso (Kd.pair (Kd.int .i64) (Kd.slice 119 k119)) (fun x:S79=>(x.f0,x.f1))
theorem k79_open {w:World}{x:S79}{cs:List Value}(h:k79.K w x cs):∃ A1 c1,cs=[.int .i64 x.f0,.slice A1 x.f1.length c1]∧x.f1.length≤c1∧k119.C w A1 x.f1.length x.f1:=by
 obtain⟨_,_,rfl,rfl,⟨A1,c1,rfl,l1,g1⟩⟩:=h
 exact⟨A1,c1,rfl,l1,g1⟩
def rd_T79 (xs:List S79)(i:Int):S79:=xs.getD i.toNat z79
theorem at_T79 {w:World}{A:Option Addr}{n:Nat}{xs:List S79}(h:Kd.C k79 w A n xs)(i:Int)(h0:0≤i)(h1:i < n):∃ ad A1 c1,A=some ad∧w.cell? (ad.add (i.toNat * 2))=some (.int .i64 (rd_T79 xs i).f0)∧w.cell? ⟨(ad.add (i.toNat * 2)).block,(ad.add (i.toNat * 2)).off + 1,none⟩=some (.slice A1 (rd_T79 xs i).f1.length c1)∧(rd_T79 xs i).f1.length≤c1∧k119.C w A1 (rd_T79 xs i).f1.length (rd_T79 xs i).f1:=by
 obtain⟨ad,c,e,_,hK,aA⟩:=Kd.C_get h z79 i h0 h1
 have hc:∀ j u,c[j]?=some u→w.cell? (ad.add (i.toNat * 2 + j))=some u:=aA
 obtain⟨A1,c1,rfl,l1,g1⟩:=k79_open hK
 exact⟨ad,A1,c1,e,hc 0 _ rfl,by rw [← add_field _ _ 1 (by omega)];exact hc 1 _ rfl,l1,g1⟩
/-! #### struct type 84 -/
structure S84 where
  f0:ByteArray
  f1:Int
  f2:Int
  f3:Int
def z84:S84:=⟨(⟨#[]⟩:ByteArray),(0:Int),(0:Int),(0:Int)⟩
def k84:Kd S84:=Kd.iso (Kd.pair Kd.string (Kd.pair (Kd.int .i64) (Kd.pair (Kd.int .i64) (Kd.int .i64)))) (fun x:S84=>(x.f0,x.f1,x.f2,x.f3))
theorem k84_open {w:World}{x:S84}{cs:List Value}(h:k84.K w x cs):cs=[.string x.f0,.int .i64 x.f1,.int .i64 x.f2,.int .i64 x.f3]:=by
 obtain⟨_,_,rfl,rfl,⟨_,_,rfl,rfl,⟨_,_,rfl,rfl,rfl⟩⟩⟩:=h
 exact rfl
theorem k84_openM {w:World}{base:Nat}{ok:Nat→Prop}{x:S84}{cs:List Value}(h:k84.M w base ok x cs):cs=[.string x.f0,.int .i64 x.f1,.int .i64 x.f2,.int .i64 x.f3]:=by
 obtain⟨_,_,rfl,rfl,⟨_,_,rfl,rfl,⟨_,_,rfl,rfl,rfl⟩⟩⟩:=h
 exact rfl
theorem k84_mkM (w:World)(base:Nat)(ok:Nat→Prop)(x:S84) :k84.M w base ok x [.string x.f0,.int .i64 x.f1,.int .i64 x.f2,.int .i64 x.f3]:=⟨[.string x.f0],[.int .i64 x.f1,.int .i64 x.f2,.int .i64 x.f3],rfl,rfl,⟨[.int .i64 x.f1],[.int .i64 x.f2,.int .i64 x.f3],rfl,rfl,⟨[.int .i64 x.f2],[.int .i64 x.f3],rfl,rfl,rfl⟩⟩⟩
def rd_T84 (xs:List S84)(i:Int):S84:=xs.getD i.toNat z84
theorem at_T84 {w:World}{A:Option Addr}{n:Nat}{xs:List S84}(h:Kd.C k84 w A n xs)(i:Int)(h0:0≤i)(h1:i < n):∃ ad , A=some ad∧w.cell? (ad.add (i.toNat * 4))=some (.string (rd_T84 xs i).f0)∧w.cell? ⟨(ad.add (i.toNat * 4)).block,(ad.add (i.toNat * 4)).off + 1,none⟩=some (.int .i64 (rd_T84 xs i).f1)∧w.cell? ⟨(ad.add (i.toNat * 4)).block,(ad.add (i.toNat * 4)).off + 2,none⟩=some (.int .i64 (rd_T84 xs i).f2)∧w.cell? ⟨(ad.add (i.toNat * 4)).block,(ad.add (i.toNat * 4)).off + 3,none⟩=some (.int .i64 (rd_T84 xs i).f3):=by
 obtain⟨ad,c,e,_,hK,aA⟩:=Kd.C_get h z84 i h0 h1
 have hc:∀ j u,c[j]?=some u→w.cell? (ad.add (i.toNat * 4 + j))=some u:=aA
 obtain rfl:=k84_open hK
 exact⟨ad,e,hc 0 _ rfl,by rw [← add_field _ _ 1 (by omega)];exact hc 1 _ rfl,by rw [← add_field _ _ 2 (by omega)];exact hc 2 _ rfl,by rw [← add_field _ _ 3 (by omega)];exact hc 3 _ rfl⟩
theorem at_T84b {w w':World}{A:Option Addr}{n:Nat}{xs:List S84}(HB:Aside0 (Below w.heap.size w w'))(h:Aside0 (Kd.C k84 w A n xs))(i:Int)(h0:0≤i:=by exact dcd)(h1:i < n:=by exact dcd):(0≤i)=True∧(i < n)=True∧∃ ad,A=some ad∧w'.cell? (ad.add (i.toNat * 4))=some (.string (rd_T84 xs i).f0)∧w'.cell? ⟨(ad.add (i.toNat * 4)).block,(ad.add (i.toNat * 4)).off + 1,none⟩=some (.int .i64 (rd_T84 xs i).f1)∧w'.cell? ⟨(ad.add (i.toNat * 4)).block,(ad.add (i.toNat * 4)).off + 2,none⟩=some (.int .i64 (rd_T84 xs i).f2)∧w'.cell? ⟨(ad.add (i.toNat * 4)).block,(ad.add (i.toNat * 4)).off + 3,none⟩=some (.int .i64 (rd_T84 xs i).f3):=by
 obtain⟨ad,e,e0,e1,e2,e3⟩:=at_T84 h.out i h0 h1
 exact⟨eq_true h0,eq_true h1,ad,e,crd HB e0,crd HB e1,crd HB e2,crd HB e3⟩
/-! #### struct type 58 -/
structure S58 where
  f0:Int
  f1:Int
  f2:Int
  f3:Int
  f4:Int
  f5:(List Int)
def z58:S58:=⟨(0:Int),(0:Int),(0:Int),(0:Int),(0:Int),([]:List Int)⟩
def k58:Kd S58:=Kd.iso (Kd.pair (Kd.int .i64) (Kd.pair (Kd.int .i64) (Kd.pair (Kd.int .i64) (Kd.pair (Kd.int .i64) (Kd.pair (Kd.int .i64) (Kd.slice 3 (Kd.int .i64))))))) (fun x:S58=>(x.f0,x.f1,x.f2,x.f3,x.f4,x.f5))
theorem k58_open {w:World}{x:S58}{cs:List Value}(h:k58.K w x cs):∃ A5 c5,cs=[.int .i64 x.f0,.int .i64 x.f1,.int .i64 x.f2,.int .i64 x.f3,.int .i64 x.f4,.slice A5 x.f5.length c5]∧x.f5.length≤c5∧(Kd.int .i64).C w A5 x.f5.length x.f5:=by
 obtain⟨_,_,rfl,rfl,⟨_,_,rfl,rfl,⟨_,_,rfl,rfl,⟨_,_,rfl,rfl,⟨_,_,rfl,rfl,⟨A5,c5,rfl,l5,g5⟩⟩⟩⟩⟩⟩:=h
 exact⟨A5,c5,rfl,l5,g5⟩
theorem k58_openM {w:World}{base:Nat}{ok:Nat→Prop}{x:S58}{cs:List Value}(h:k58.M w base ok x cs):∃ v5,cs=[.int .i64 x.f0,.int .i64 x.f1,.int .i64 x.f2,.int .i64 x.f3,.int .i64 x.f4,v5]∧(Kd.int .i64).R 3 w base ok v5 x.f5:=by
 obtain⟨_,_,rfl,rfl,⟨_,_,rfl,rfl,⟨_,_,rfl,rfl,⟨_,_,rfl,rfl,⟨_,_,rfl,rfl,⟨v5,rfl,g5⟩⟩⟩⟩⟩⟩:=h
 exact⟨v5,rfl,g5⟩
theorem k58_mkM (w:World)(base:Nat)(ok:Nat→Prop)(x:S58){v5:Value}(g5:(Kd.int .i64).R 3 w base ok v5 x.f5):k58.M w base ok x [.int .i64 x.f0,.int .i64 x.f1,.int .i64 x.f2,.int .i64 x.f3,.int .i64 x.f4,v5]:=⟨[.int .i64 x.f0],[.int .i64 x.f1,.int .i64 x.f2,.int .i64 x.f3,.int .i64 x.f4,v5],rfl,rfl,⟨[.int .i64 x.f1],[.int .i64 x.f2,.int .i64 x.f3,.int .i64 x.f4,v5],rfl,rfl,⟨[.int .i64 x.f2],[.int .i64 x.f3,.int .i64 x.f4,v5],rfl,rfl,⟨[.int .i64 x.f3],[.int .i64 x.f4,v5],rfl,rfl,⟨[.int .i64 x.f4],[v5],rfl,rfl,⟨v5,rfl,g5⟩⟩⟩⟩⟩⟩
def rd_T58 (xs:List S58)(i:Int):S58:=xs.getD i.toNat z58
theorem at_T58 {w:World}{A:Option Addr}{n:Nat}{xs:List S58}(h:Kd.C k58 w A n xs)(i:Int)(h0:0≤i)(h1:i < n):∃ ad A5 c5,A=some ad∧w.cell? (ad.add (i.toNat * 6))=some (.int .i64 (rd_T58 xs i).f0)∧w.cell? ⟨(ad.add (i.toNat * 6)).block,(ad.add (i.toNat * 6)).off + 1,none⟩=some (.int .i64 (rd_T58 xs i).f1)∧w.cell? ⟨(ad.add (i.toNat * 6)).block,(ad.add (i.toNat * 6)).off + 2,none⟩=some (.int .i64 (rd_T58 xs i).f2)∧w.cell? ⟨(ad.add (i.toNat * 6)).block,(ad.add (i.toNat * 6)).off + 3,none⟩=some (.int .i64 (rd_T58 xs i).f3)∧w.cell? ⟨(ad.add (i.toNat * 6)).block,(ad.add (i.toNat * 6)).off + 4,none⟩=some (.int .i64 (rd_T58 xs i).f4)∧w.cell? ⟨(ad.add (i.toNat * 6)).block,(ad.add (i.toNat * 6)).off + 5,none⟩=some (.slice A5 (rd_T58 xs i).f5.length c5)∧(rd_T58 xs i).f5.length≤c5∧(Kd.int .i64).C w A5 (rd_T58 xs i).f5.length (rd_T58 xs i).f5:=by
 obtain⟨ad,c,e,_,hK,aA⟩:=Kd.C_get h z58 i h0 h1
 have hc:∀ j u,c[j]?=some u→w.cell? (ad.add (i.toNat * 6 + j))=some u:=aA
 obtain⟨A5,c5,rfl,l5,g5⟩:=k58_open hK
 exact⟨ad,A5,c5,e,hc 0 _ rfl,by rw [← add_field _ _ 1 (by omega)];exact hc 1 _ rfl,by rw [← add_field _ _ 2 (by omega)];exact hc 2 _ rfl,by rw [← add_field _ _ 3 (by omega)];exact hc 3 _ rfl,by rw [← add_field _ _ 4 (by omega)];exact hc 4 _ rfl,by rw [← add_field _ _ 5 (by omega)];exact hc 5 _ rfl,l5,g5⟩
/-! #### struct type 54 -/
structure S54 where
  f0:Int
  f1:(List S58)
def z54:S54:=⟨(0:Int),([]:List S58)⟩
def k54:Kd S54:=Kd.iso (Kd.pair (Kd.int .i64) (Kd.sliceS 58 k58)) (fun x:S54=>(x.f0,x.f1))
theorem k54_open {w:World}{x:S54}{cs:List Value}(h:k54.K w x cs):∃ A1 c1,cs=[.int .i64 x.f0,.slice A1 x.f1.length c1]∧x.f1.length≤c1∧k58.C w A1 x.f1.length x.f1:=by
 obtain⟨_,_,rfl,rfl,⟨A1,c1,rfl,l1,g1⟩⟩:=h
 exact⟨A1,c1,rfl,l1,g1⟩
theorem k54_openM {w:World}{base:Nat}{ok:Nat→Prop}{x:S54}{cs:List Value}(h:k54.M w base ok x cs):∃ v1,cs=[.int .i64 x.f0,v1]∧Kd.S k58 58 w base ok v1 x.f1:=by
 obtain⟨_,_,rfl,rfl,⟨v1,rfl,g1⟩⟩:=h
 exact⟨v1,rfl,g1⟩
theorem k54_mkM (w:World)(base:Nat)(ok:Nat→Prop)(x:S54){v1:Value}(g1:Kd.S k58 58 w base ok v1 x.f1):k54.M w base ok x [.int .i64 x.f0,v1]:=⟨[.int .i64 x.f0],[v1],rfl,rfl,⟨v1,rfl,g1⟩⟩
def rd_T54 (xs:List S54)(i:Int):S54:=xs.getD i.toNat z54
theorem at_T54 {w:World}{A:Option Addr}{n:Nat}{xs:List S54}(h:Kd.C k54 w A n xs)(i:Int)(h0:0≤i)(h1:i < n):∃ ad A1 c1,A=some ad∧w.cell? (ad.add (i.toNat * 2))=some (.int .i64 (rd_T54 xs i).f0)∧w.cell? ⟨(ad.add (i.toNat * 2)).block,(ad.add (i.toNat * 2)).off + 1,none⟩=some (.slice A1 (rd_T54 xs i).f1.length c1)∧(rd_T54 xs i).f1.length≤c1∧k58.C w A1 (rd_T54 xs i).f1.length (rd_T54 xs i).f1:=by
 obtain⟨ad,c,e,_,hK,aA⟩:=Kd.C_get h z54 i h0 h1
 have hc:∀ j u,c[j]?=some u→w.cell? (ad.add (i.toNat * 2 + j))=some u:=aA
 obtain⟨A1,c1,rfl,l1,g1⟩:=k54_open hK
 exact⟨ad,A1,c1,e,hc 0 _ rfl,by rw [← add_field _ _ 1 (by omega)];exact hc 1 _ rfl,l1,g1⟩
/-! #### struct type 49 -/
structure S49 where
  f0:Int
  f1:Int
  f2:Int
  f3:ByteArray
  f4:Int
def z49:S49:=⟨(0:Int),(0:Int),(0:Int),(⟨#[]⟩:ByteArray),(0:Int)⟩
def k49:Kd S49:=Kd.iso (Kd.pair (Kd.int .i64) (Kd.pair (Kd.int .i64) (Kd.pair (Kd.int .i64) (Kd.pair Kd.string (Kd.int .i64))))) (fun x:S49=>(x.f0,x.f1,x.f2,x.f3,x.f4))
theorem k49_open {w:World}{x:S49}{cs:List Value}(h:k49.K w x cs):cs=[.int .i64 x.f0,.int .i64 x.f1,.int .i64 x.f2,.string x.f3,.int .i64 x.f4]:=by
 obtain⟨_,_,rfl,rfl,⟨_,_,rfl,rfl,⟨_,_,rfl,rfl,⟨_,_,rfl,rfl,rfl⟩⟩⟩⟩:=h
 exact rfl
theorem k49_openM {w:World}{base:Nat}{ok:Nat→Prop}{x:S49}{cs:List Value}(h:k49.M w base ok x cs):cs=[.int .i64 x.f0,.int .i64 x.f1,.int .i64 x.f2,.string x.f3,.int .i64 x.f4]:=by
 obtain⟨_,_,rfl,rfl,⟨_,_,rfl,rfl,⟨_,_,rfl,rfl,⟨_,_,rfl,rfl,rfl⟩⟩⟩⟩:=h
 exact rfl
theorem k49_mkM (w:World)(base:Nat)(ok:Nat→Prop)(x:S49) :k49.M w base ok x [.int .i64 x.f0,.int .i64 x.f1,.int .i64 x.f2,.string x.f3,.int .i64 x.f4]:=⟨[.int .i64 x.f0],[.int .i64 x.f1,.int .i64 x.f2,.string x.f3,.int .i64 x.f4],rfl,rfl,⟨[.int .i64 x.f1],[.int .i64 x.f2,.string x.f3,.int .i64 x.f4],rfl,rfl,⟨[.int .i64 x.f2],[.string x.f3,.int .i64 x.f4],rfl,rfl,⟨[.string x.f3],[.int .i64 x.f4],rfl,rfl,rfl⟩⟩⟩⟩
def rd_T49 (xs:List S49)(i:Int):S49:=xs.getD i.toNat z49
theorem at_T49 {w:World}{A:Option Addr}{n:Nat}{xs:List S49}(h:Kd.C k49 w A n xs)(i:Int)(h0:0≤i)(h1:i < n):∃ ad , A=some ad∧w.cell? (ad.add (i.toNat * 5))=some (.int .i64 (rd_T49 xs i).f0)∧w.cell? ⟨(ad.add (i.toNat * 5)).block,(ad.add (i.toNat * 5)).off + 1,none⟩=some (.int .i64 (rd_T49 xs i).f1)∧w.cell? ⟨(ad.add (i.toNat * 5)).block,(ad.add (i.toNat * 5)).off + 2,none⟩=some (.int .i64 (rd_T49 xs i).f2)∧w.cell? ⟨(ad.add (i.toNat * 5)).block,(ad.add (i.toNat * 5)).off + 3,none⟩=some (.string (rd_T49 xs i).f3)∧w.cell? ⟨(ad.add (i.toNat * 5)).block,(ad.add (i.toNat * 5)).off + 4,none⟩=some (.int .i64 (rd_T49 xs i).f4):=by
 obtain⟨ad,c,e,_,hK,aA⟩:=Kd.C_get h z49 i h0 h1
 have hc:∀ j u,c[j]?=some u→w.cell? (ad.add (i.toNat * 5 + j))=some u:=aA
 obtain rfl:=k49_open hK
 exact⟨ad,e,hc 0 _ rfl,by rw [← add_field _ _ 1 (by omega)];exact hc 1 _ rfl,by rw [← add_field _ _ 2 (by omega)];exact hc 2 _ rfl,by rw [← add_field _ _ 3 (by omega)];exact hc 3 _ rfl,by rw [← add_field _ _ 4 (by omega)];exact hc 4 _ rfl⟩
theorem at_T49b {w w':World}{A:Option Addr}{n:Nat}{xs:List S49}(HB:Aside0 (Below w.heap.size w w'))(h:Aside0 (Kd.C k49 w A n xs))(i:Int)(h0:0≤i:=by exact dcd)(h1:i < n:=by exact dcd):(0≤i)=True∧(i < n)=True∧∃ ad,A=some ad∧w'.cell? (ad.add (i.toNat * 5))=some (.int .i64 (rd_T49 xs i).f0)∧w'.cell? ⟨(ad.add (i.toNat * 5)).block,(ad.add (i.toNat * 5)).off + 1,none⟩=some (.int .i64 (rd_T49 xs i).f1)∧w'.cell? ⟨(ad.add (i.toNat * 5)).block,(ad.add (i.toNat * 5)).off + 2,none⟩=some (.int .i64 (rd_T49 xs i).f2)∧w'.cell? ⟨(ad.add (i.toNat * 5)).block,(ad.add (i.toNat * 5)).off + 3,none⟩=some (.string (rd_T49 xs i).f3)∧w'.cell? ⟨(ad.add (i.toNat * 5)).block,(ad.add (i.toNat * 5)).off + 4,none⟩=some (.int .i64 (rd_T49 xs i).f4):=by
 obtain⟨ad,e,e0,e1,e2,e3,e4⟩:=at_T49 h.out i h0 h1
 exact⟨eq_true h0,eq_true h1,ad,e,crd HB e0,crd HB e1,crd HB e2,crd HB e3,crd HB e4⟩
def rd_L15 (xs:List (List S49))(i:Int):(List S49):=xs.getD i.toNat ([]:List S49)
theorem at_L15 {w:World}{A:Option Addr}{n:Nat}{xs:List (List S49)}(h:Kd.C (Kd.slice 49 k49) w A n xs)(i:Int)(h0:0≤i)(h1:i < n):∃ ad A0 c0,A=some ad∧w.cell? (ad.add i.toNat)=some (.slice A0 (rd_L15 xs i).length c0)∧(rd_L15 xs i).length≤c0∧k49.C w A0 (rd_L15 xs i).length (rd_L15 xs i):=by
 obtain⟨ad,c,e,_,hK,aA⟩:=Kd.C_get h ([]:List S49) i h0 h1
 have hc:∀ j u,c[j]?=some u→w.cell? (ad.add (i.toNat * 1 + j))=some u:=aA
 obtain⟨A0,c0,rfl,l0,g0⟩:=hK
 exact⟨ad,A0,c0,e,by have hq:=hc 0 _ rfl;rwa [Nat.mul_one,Nat.add_zero] at hq,l0,g0⟩
end Go.Proofs.Ytjdapaocdkcgdaa.PFnExactMetaPack
