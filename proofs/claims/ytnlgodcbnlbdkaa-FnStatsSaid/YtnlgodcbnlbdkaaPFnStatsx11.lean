/- The machine's side of FnStats: each Go function, and what its call comes to. No condition. -/
import Derived.Test.YtnlgodcbnlbdkaaPFnStatsx0
import Derived.Test.YtnlgodcbnlbdkaaPFnStatsx1
import Derived.Test.YtnlgodcbnlbdkaaPFnStatsx3
import Derived.Test.YtnlgodcbnlbdkaaPFnStatsx5
import Derived.Test.YtnlgodcbnlbdkaaPFnStatsx10
namespace Go.Proofs.Ytnlgodcbnlbdkaa.PFnStats
open Go.RowKit Go.Proofs.YtnlgodcbnlbdkaaW.PrintWords Go.Proofs.YtnlgodcbnlbdkaaW.PrintLast Go.Proofs.YtnlgodcbnlbdkaaW.PrintMore Go.Proofs.YtnlgodcbnlbdkaaW.PrintMore2
attribute [local go_sem] max2_int min2_int max_two min_two max_three min_three max_four min_four
set_option linter.unusedVariables false
set_option linter.unusedSimpArgs false
set_option maxHeartbeats 8000000
set_option maxRecDepth 100000

attribute [local go_sem high] eqA30
/-! ### impl_StatsOf: function 6 -/
mutual
def impl_StatsOf.j0 : Nat → List (S36) → Bool → Int → Int → Int → Option (Int × Bool × Int × ByteArray × Int × ByteArray × Bool)
  | 0, _, _, _, _, _ => none
  | k + 1, x1, x17, x536000, x536001, x536002 => if x17 = true then (some (0, false, 0, (⟨#[]⟩ : ByteArray), 0, (⟨#[]⟩ : ByteArray), false)) else (impl_StatsOf.l0 k x1 (x1.length : Int) 0 x536000 x536001 x536002 0 false 0 (⟨#[]⟩ : ByteArray) 0 (⟨#[]⟩ : ByteArray))
def impl_StatsOf.l0 : Nat → List (S36) → Int → Int → Int → Int → Int → Int → Bool → Int → ByteArray → Int → ByteArray → Option (Int × Bool × Int × ByteArray × Int × ByteArray × Bool)
  | 0, _, _, _, _, _, _, _, _, _, _, _, _ => none
  | k + 1, x20, x21, x22, x536000, x536001, x536002, x540000, x540001, x540002, x540003, x540004, x540005 => if x22 < x21 then (if 0 ≤ x22 then (if x22 < (x20.length : Int) then (if ((rd_T36 x20 x22).f1) = x536002 then (if x540001 = true then ((impl_ValLess.f k x536000 ((rd_T36 x20 x22).f2.f0) ((rd_T36 x20 x22).f2.f1) x540002 x540003).bind fun t542 => (impl_StatsOf.j2 k x20 x21 x22 t542 x536000 x536001 x536002 x540000 x540001 x540002 x540003 x540004 x540005 ((rd_T36 x20 x22).f0) ((rd_T36 x20 x22).f1) ((rd_T36 x20 x22).f2.f0) ((rd_T36 x20 x22).f2.f1))) else (impl_StatsOf.j2 k x20 x21 x22 true x536000 x536001 x536002 x540000 x540001 x540002 x540003 x540004 x540005 ((rd_T36 x20 x22).f0) ((rd_T36 x20 x22).f1) ((rd_T36 x20 x22).f2.f0) ((rd_T36 x20 x22).f2.f1))) else (impl_StatsOf.l0 k x20 x21 (wrap64 (x22 + 1)) x536000 x536001 x536002 (wrap64 (x540000 + 1)) x540001 x540002 x540003 x540004 x540005)) else (none)) else (none)) else (some (x540000, x540001, x540002, x540003, x540004, x540005, true))
def impl_StatsOf.j2 : Nat → List (S36) → Int → Int → Bool → Int → Int → Int → Int → Bool → Int → ByteArray → Int → ByteArray → Int → Int → Int → ByteArray → Option (Int × Bool × Int × ByteArray × Int × ByteArray × Bool)
  | 0, _, _, _, _, _, _, _, _, _, _, _, _, _, _, _, _, _ => none
  | k + 1, x20, x21, x22, x46, x536000, x536001, x536002, x540000, x540001, x540002, x540003, x540004, x540005, x542000, x542001, x542002, x542003 => if x46 = true then (if x540001 = true then ((impl_ValLess.f k x536000 x540004 x540005 x542002 x542003).bind fun t543 => (if t543 = true then (impl_StatsOf.l0 k x20 x21 (wrap64 (x22 + 1)) x536000 x536001 x536002 x540000 true x542002 x542003 x542002 x542003) else (impl_StatsOf.l0 k x20 x21 (wrap64 (x22 + 1)) x536000 x536001 x536002 x540000 true x542002 x542003 x540004 x540005))) else (impl_StatsOf.l0 k x20 x21 (wrap64 (x22 + 1)) x536000 x536001 x536002 x540000 true x542002 x542003 x542002 x542003)) else (if x540001 = true then ((impl_ValLess.f k x536000 x540004 x540005 x542002 x542003).bind fun t544 => (if t544 = true then (impl_StatsOf.l0 k x20 x21 (wrap64 (x22 + 1)) x536000 x536001 x536002 x540000 true x540002 x540003 x542002 x542003) else (impl_StatsOf.l0 k x20 x21 (wrap64 (x22 + 1)) x536000 x536001 x536002 x540000 true x540002 x540003 x540004 x540005))) else (impl_StatsOf.l0 k x20 x21 (wrap64 (x22 + 1)) x536000 x536001 x536002 x540000 true x540002 x540003 x542002 x542003))
end
def impl_StatsOf.f (k : Nat) (a0_0 : Int) (a0_1 : Int) (a0_2 : Int) (l1 : List (S36)) : Option (Int × Bool × Int × ByteArray × Int × ByteArray × Bool) := (impl_LeafOk.f a0_0 a0_1 a0_2).bind fun t537 => (if t537 = true then ((impl_triplesRight.f k a0_0 a0_1 a0_2 l1).bind fun t538 => (impl_StatsOf.j0 k l1 (!t538) a0_0 a0_1 a0_2)) else (impl_StatsOf.j0 k l1 true a0_0 a0_1 a0_2))
theorem impl_StatsOf.calls {k : Nat} {a0_0 a0_1 a0_2 : Int} {A1 : Option Addr} {c1 : Nat} {l1 : List (S36)} {r1 : Int} {r2 : Bool} {r3 : Int} {r4 : ByteArray} {r5 : Int} {r6 : ByteArray} {r7 : Bool} {w : World} (hr1 : Kd.C k36 w A1 l1.length l1) (hc1 : l1.length ≤ c1) (h : impl_StatsOf.f k a0_0 a0_1 a0_2 l1 = some (r1, r2, r3, r4, r5, r6, r7)) :
    Calls Try.prog 6 #[.agg #[.int .i64 a0_0, .int .i64 a0_1, .int .i64 a0_2], .slice A1 l1.length c1] w fun e w' => e = .returned (.tuple #[.agg #[.int .i64 r1, .bool r2, .int .i64 r3, .string r4, .int .i64 r5, .string r6], .bool r7]) ∧ Below w.heap.size w w' := by
 have hu25 := Try.underlying25
 have hu32 := Try.underlying32
 have hu36 := Try.underlying36
 have hu30 := Try.underlying30
 have HR1 := am hr1
 have HC1 := am hc1
 clear hr1 hc1
 have HB := am (Below.refl w.heap.size w)
 have H := h; clear h; unfold impl_StatsOf.f at H
 have HC3 := am H
 clear H
 go_enter Try.func6, Try.ntmps6
 go_upto_region 1 with (first | ((with_reducible refine gd 2 rfl ?_); refine bxw 2 rfl #[.int .i64 a0_0, .int .i64 a0_1, .int .i64 a0_2] 25 HB ?_; clear HB; intro gb535 w4 BK535 GW535 GE535 HB) | ((with_reducible refine gd 4 rfl ?_); refine bxv 4 rfl #[.int .i64 0, .bool false, .int .i64 0, .string ⟨#[]⟩, .int .i64 0, .string ⟨#[]⟩] 32 HB ?_; clear HB; intro gb536 w5 BK536 GW536 GE536 HB hg hb; obtain ⟨NB535_536, NB536_535⟩ := nbp (nbl BK535 hg); replace BK535 := bkb BK535 hb; clear hg hb))
 (try simp only [Act.put, List.setIfInBounds_toArray, List.set_cons_zero, List.set_cons_succ])
 go_cut [17] (fun v17 wc => ∃ (kq : Nat) (x17_2 : Bool), v17 = .bool x17_2 ∧ Aside0 (impl_StatsOf.j0 kq l1 x17_2 a0_0 a0_1 a0_2 = some (r1, r2, r3, r4, r5, r6, r7)) ∧ Aside0 (kq ≤ k) ∧ Aside0 (wc.heap[gb535]? = some (.cells #[.int .i64 a0_0, .int .i64 a0_1, .int .i64 a0_2] 25 (0, 0))) ∧ Aside0 (wc.heap[gb536]? = some (.cells #[.int .i64 0, .bool false, .int .i64 0, .string ⟨#[]⟩, .int .i64 0, .string ⟨#[]⟩] 32 (0, 0))) ∧ Aside0 (Below w.heap.size w wc))
 case first =>
  have H := HC3.out
  clear HC3
  replace H := bnd H; obtain ⟨t537, A6, H⟩ := H
  replace H := ibt H; obtain ⟨rfl, H⟩ | ⟨rfl, H⟩ := H
  rotate_left
  · have H' := am H; clear H
    obtain ⟨hnb14, hnc14⟩ := nbo NB535_536
    obtain ⟨_, _, _, _, _, _⟩ := cl3 BK535
    go_wp2_with (first | ((with_reducible refine gc 14 rfl ?_); refine gc1 (some 10) Try.func14 rfl (impl_LeafOk.calls A6.out) ?_; rintro w16 hb; replace BK535 := bkb BK535 hb; replace BK536 := bkb BK536 hb; replace HB := bst HB hb; clear hb))
    go_meet
    case rel => exact ⟨_, (true), sr, H', ⟨by first | omega | exact Nat.le_refl _⟩, ⟨kL BK535⟩, ⟨kL BK536⟩, ⟨bL HB⟩⟩
  replace H := bnd H; obtain ⟨t538, A8, H⟩ := H
  have H' := am H; clear H
  obtain ⟨hnb9, hnc9⟩ := nbo NB535_536
  obtain ⟨_, _, _, _, _, _⟩ := cl3 BK535
  go_wp2_with (first | ((with_reducible refine gc 14 rfl ?_); refine gc1 (some 10) Try.func14 rfl (impl_LeafOk.calls A6.out) ?_; rintro w11 hb; replace BK535 := bkb BK535 hb; replace BK536 := bkb BK536 hb; replace HB := bst HB hb; clear hb; obtain ⟨_, _, _, _, _, _⟩ := cl3 BK535) | (go_at_call 15; (with_reducible refine (impl_triplesRight.calls ?side1 ?side2 A8.out).mono ?_); (case side1 => repeat (first | exact (Kd.C_below HR1.out HB.out) | (with_reducible refine Kd.C_alloc ?_ _) | (with_reducible refine Kd.C_drewN ?_ _) | (with_reducible refine Kd.C_drew ?_))); (case side2 => exact HC1.out); rintro e w13 ⟨rfl, hb⟩; replace BK535 := bkb BK535 hb; replace BK536 := bkb BK536 hb; replace HB := bst HB hb; clear hb))
  go_meet
  case rel => exact ⟨_, (!t538), sr, H', ⟨by first | omega | exact Nat.le_refl _⟩, ⟨kL BK535⟩, ⟨kL BK536⟩, ⟨bL HB⟩⟩
 clear HC3
 try clear c1
 obtain ⟨kq, x17_2, rfl, HA, HJ2, BK535, BK536, HB⟩ := hcut
 cases kq with
 | zero => exact absurd HA.out (by simp [impl_StatsOf.j0])
 | succ kj2 => ?_
 have H := HA.out
 clear HA
 simp only [impl_StatsOf.j0] at H
 replace H := ibt H; obtain ⟨rfl, H⟩ | ⟨rfl, H⟩ := H
 · replace H := sj7 H; obtain ⟨rfl, rfl, rfl, rfl, rfl, rfl, rfl⟩ := H
   obtain ⟨hnb18, hnc18⟩ := nbo NB536_535
   obtain ⟨_, _, _, _, _, _, _, _, _, _, _, _⟩ := cl6 BK536
   go_wp2
   refine bodyPost_ret (results_ct rfl _ _ gb536 32 #[.int .i64 0, .bool false, .int .i64 0, .string ⟨#[]⟩, .int .i64 0, .string ⟨#[]⟩] (0, 0) _ rfl (kL BK536) Try.underlying32 rfl (by kernel_rfl)) rfl ?_
   exact fin_ (bL HB)
 have H' := am H; clear H
 go_wp2_with (first | ((with_reducible refine gd 6 rfl ?_); refine bxv 6 rfl #[.int .i64 0, .bool false, .int .i64 0, .string ⟨#[]⟩, .int .i64 0, .string ⟨#[]⟩] 32 HB ?_; clear HB; intro gb539 w20 BK539 GW539 GE539 HB hg hb; obtain ⟨NB535_539, NB539_535⟩ := nbp (nbl BK535 hg); obtain ⟨NB536_539, NB539_536⟩ := nbp (nbl BK536 hg); replace BK535 := bkb BK535 hb; replace BK536 := bkb BK536 hb; clear hg hb; obtain ⟨hnb21, hnc21⟩ := nbo NB539_535; obtain ⟨hnb22, hnc22⟩ := nbo NB539_536; obtain ⟨hcz23_0, hcz23_1, hcz23_2, hcz23_3, hcz23_4, hcz23_5, hfz23_0, hfz23_1, hfz23_2, hfz23_3, hfz23_4, hfz23_5⟩ := cl6 BK539))
 go_loopg [22] kj2 (fun kq v22 w' => ∃ (x22_2 : Int) (x540000_2 : Int) (x540001_2 : Bool) (x540002_2 : Int) (x540003_2 : ByteArray) (x540004_2 : Int) (x540005_2 : ByteArray), v22 = .int .i64 x22_2 ∧ Aside0 (impl_StatsOf.l0 kq l1 (l1.length : Int) x22_2 a0_0 a0_1 a0_2 x540000_2 x540001_2 x540002_2 x540003_2 x540004_2 x540005_2 = some (r1, r2, r3, r4, r5, r6, r7)) ∧ Aside0 (kq ≤ kj2) ∧ Aside0 (w'.heap[gb535]? = some (.cells #[.int .i64 a0_0, .int .i64 a0_1, .int .i64 a0_2] 25 (0, 0))) ∧ Aside0 (w'.heap[gb536]? = some (.cells #[.int .i64 0, .bool false, .int .i64 0, .string ⟨#[]⟩, .int .i64 0, .string ⟨#[]⟩] 32 (0, 0))) ∧ Aside0 (w'.heap[gb539]? = some (.cells #[.int .i64 x540000_2, .bool x540001_2, .int .i64 x540002_2, .string x540003_2, .int .i64 x540004_2, .string x540005_2] 32 (0, 0))) ∧ Aside0 (Below w.heap.size w w'))
 case atStart => exact ⟨(0), (0), (false), (0), ((⟨#[]⟩ : ByteArray)), (0), ((⟨#[]⟩ : ByteArray)), sr, H', ⟨Nat.le_refl _⟩, ⟨kL BK535⟩, ⟨kL BK536⟩, ⟨kL BK539⟩, ⟨bL HB⟩⟩
 clear H'
 try clear c1 c17 hcz23_0 hcz23_1 hcz23_2 hcz23_3 hcz23_4 hcz23_5 hfz23_0 hfz23_1 hfz23_2 hfz23_3 hfz23_4 hfz23_5
 obtain ⟨x22_2, x540000_2, x540001_2, x540002_2, x540003_2, x540004_2, x540005_2, rfl, HA, HK2, BK535, BK536, BK539, HB⟩ := hrel
 cases gk with
 | zero => exact absurd HA.out (by simp [impl_StatsOf.l0])
 | succ k2 => ?_
 have H := HA.out
 clear HA
 simp only [impl_StatsOf.l0] at H
 replace H := idc H; obtain ⟨c24b0, H⟩ | ⟨c24b0, H⟩ := H
 rotate_left
 · replace H := sj7 H; obtain ⟨rfl, rfl, rfl, rfl, rfl, rfl, rfl⟩ := H
   obtain ⟨hnb130, hnc130⟩ := nbo NB539_535
   obtain ⟨hnb131, hnc131⟩ := nbo NB539_536
   obtain ⟨_, _, _, _, _, _, _, _, _, _, _, _⟩ := cl6 BK539
   obtain ⟨hnb133, hnc133⟩ := nbo NB536_535
   obtain ⟨_, _, _, _, _, _, _, _, _, _, _, _⟩ := cl6 BK536
   go_wp2
   refine bodyPost_ret (results_ct rfl _ _ gb536 32 #[.int .i64 x540000_2, .bool x540001_2, .int .i64 x540002_2, .string x540003_2, .int .i64 x540004_2, .string x540005_2] (0, 0) _ rfl (kL BK536) Try.underlying32 rfl (by kernel_rfl)) rfl ?_
   exact fin_ (bL HB)
 replace H := if_dd H; obtain ⟨c25b0, c26b0, H⟩ := H
 replace H := ieq H; obtain ⟨c27b0, c27b1, H⟩ | ⟨c27, c27b0, c27b1, H⟩ := H
 rotate_left
 · have H' := am H; clear H
   obtain ⟨p540, q540, ad540, e540, hx540_0, hx540_1, hx540_2, hx540_3⟩ := at_T36b HB HR1 x22_2; cases e540
   go_wp2_with (first | ((with_reducible refine gd 8 rfl ?_); refine bxv 8 rfl #[.int .i64 0, .int .i64 0, .int .i64 0, .string ⟨#[]⟩] 36 HB ?_; clear HB; intro gb541 w120 BK541 GW541 GE541 HB hg hb; obtain ⟨NB535_541, NB541_535⟩ := nbp (nbl BK535 hg); obtain ⟨NB536_541, NB541_536⟩ := nbp (nbl BK536 hg); obtain ⟨NB539_541, NB541_539⟩ := nbp (nbl BK539 hg); replace BK535 := bkb BK535 hb; replace BK536 := bkb BK536 hb; replace BK539 := bkb BK539 hb; clear hg hb; obtain ⟨hnb121, hnc121⟩ := nbo NB541_535; obtain ⟨hnb122, hnc122⟩ := nbo NB541_536; obtain ⟨hnb123, hnc123⟩ := nbo NB541_539; obtain ⟨_, _, _, _, _, _, _, _⟩ := cl4 BK541; obtain ⟨hnb125, hnc125⟩ := nbo NB535_536; obtain ⟨hnb126, hnc126⟩ := nbo NB535_539; obtain ⟨_, _, _, _, _, _⟩ := cl3 BK535; obtain ⟨hnb128, hnc128⟩ := nbo NB539_536; obtain ⟨_, _, _, _, _, _, _, _, _, _, _, _⟩ := cl6 BK539))
   go_roundg k2
   case measure => have := HJ2.out; have := HK2.out; omega
   case rel => exact ⟨(wrap64 (x22_2 + 1)), (wrap64 (x540000_2 + 1)), (x540001_2), (x540002_2), (x540003_2), (x540004_2), (x540005_2), sr, H', ⟨by have := HJ2.out; have := HK2.out; omega⟩, ⟨kL BK535⟩, ⟨kL BK536⟩, ⟨kL BK539⟩, ⟨bL HB⟩⟩
 have HC28 := am H
 clear H
 obtain ⟨p540, q540, ad540, e540, hx540_0, hx540_1, hx540_2, hx540_3⟩ := at_T36b HB HR1 x22_2; cases e540
 go_upto_region 9 with (first | ((with_reducible refine gd 8 rfl ?_); refine bxv 8 rfl #[.int .i64 0, .int .i64 0, .int .i64 0, .string ⟨#[]⟩] 36 HB ?_; clear HB; intro gb541 w29 BK541 GW541 GE541 HB hg hb; obtain ⟨NB535_541, NB541_535⟩ := nbp (nbl BK535 hg); obtain ⟨NB536_541, NB541_536⟩ := nbp (nbl BK536 hg); obtain ⟨NB539_541, NB541_539⟩ := nbp (nbl BK539 hg); replace BK535 := bkb BK535 hb; replace BK536 := bkb BK536 hb; replace BK539 := bkb BK539 hb; clear hg hb; obtain ⟨hnb30, hnc30⟩ := nbo NB541_535; obtain ⟨hnb31, hnc31⟩ := nbo NB541_536; obtain ⟨hnb32, hnc32⟩ := nbo NB541_539; obtain ⟨hcz33_0, hcz33_1, hcz33_2, hcz33_3, hfz33_0, hfz33_1, hfz33_2, hfz33_3⟩ := cl4 BK541; obtain ⟨hnb34, hnc34⟩ := nbo NB535_536; obtain ⟨hnb35, hnc35⟩ := nbo NB535_539; obtain ⟨hcz36_0, hcz36_1, hcz36_2, hfz36_0, hfz36_1, hfz36_2⟩ := cl3 BK535))
 (try simp only [Act.put, List.setIfInBounds_toArray, List.set_cons_zero, List.set_cons_succ])
 go_cut [46] (fun v46 wc => ∃ (kq : Nat) (x46_27 : Bool), v46 = .bool x46_27 ∧ Aside0 (impl_StatsOf.j2 kq l1 (l1.length : Int) x22_2 x46_27 a0_0 a0_1 a0_2 x540000_2 x540001_2 x540002_2 x540003_2 x540004_2 x540005_2 ((rd_T36 l1 x22_2).f0) ((rd_T36 l1 x22_2).f1) ((rd_T36 l1 x22_2).f2.f0) ((rd_T36 l1 x22_2).f2.f1) = some (r1, r2, r3, r4, r5, r6, r7)) ∧ Aside0 (kq ≤ k2) ∧ Aside0 (wc.heap[gb535]? = some (.cells #[.int .i64 a0_0, .int .i64 a0_1, .int .i64 a0_2] 25 (0, 0))) ∧ Aside0 (wc.heap[gb536]? = some (.cells #[.int .i64 0, .bool false, .int .i64 0, .string ⟨#[]⟩, .int .i64 0, .string ⟨#[]⟩] 32 (0, 0))) ∧ Aside0 (wc.heap[gb539]? = some (.cells #[.int .i64 x540000_2, .bool x540001_2, .int .i64 x540002_2, .string x540003_2, .int .i64 x540004_2, .string x540005_2] 32 (0, 0))) ∧ Aside0 (wc.heap[gb541]? = some (.cells #[.int .i64 ((rd_T36 l1 x22_2).f0), .int .i64 ((rd_T36 l1 x22_2).f1), .int .i64 ((rd_T36 l1 x22_2).f2.f0), .string ((rd_T36 l1 x22_2).f2.f1)] 36 (0, 0))) ∧ Aside0 (Below w.heap.size w wc))
 case first =>
  have H := HC28.out
  clear HC28
  replace H := ibt H; obtain ⟨rfl, H⟩ | ⟨rfl, H⟩ := H
  rotate_left
  · have H' := am H; clear H
    obtain ⟨hnb49, hnc49⟩ := nbo NB539_535
    obtain ⟨hnb50, hnc50⟩ := nbo NB539_536
    obtain ⟨hnb51, hnc51⟩ := nbo NB539_541
    obtain ⟨_, _, _, _, _, _, _, _, _, _, _, _⟩ := cl6 BK539
    go_wp2
    go_meet
    case rel => exact ⟨_, (true), sr, H', ⟨by have := HJ2.out; have := HK2.out; first | omega | exact Nat.le_refl _⟩, ⟨kL BK535⟩, ⟨kL BK536⟩, ⟨kL BK539⟩, ⟨kL BK541⟩, ⟨bL HB⟩⟩
  replace H := bnd H; obtain ⟨t542, A38, H⟩ := H
  have H' := am H; clear H
  obtain ⟨hnb39, hnc39⟩ := nbo NB539_535
  obtain ⟨hnb40, hnc40⟩ := nbo NB539_536
  obtain ⟨hnb41, hnc41⟩ := nbo NB539_541
  obtain ⟨_, _, _, _, _, _, _, _, _, _, _, _⟩ := cl6 BK539
  obtain ⟨hnb43, hnc43⟩ := nbo NB535_536
  obtain ⟨hnb44, hnc44⟩ := nbo NB535_541
  obtain ⟨_, _, _, _, _, _⟩ := cl3 BK535
  obtain ⟨hnb46, hnc46⟩ := nbo NB541_536
  obtain ⟨_, _, _, _, _, _, _, _⟩ := cl4 BK541
  go_wp2_with (first | (go_at_call 8; (with_reducible refine (impl_ValLess.calls A38.out).mono ?_); rintro e w48 ⟨rfl, hb⟩; replace BK535 := bkb BK535 hb; replace BK536 := bkb BK536 hb; replace BK539 := bkb BK539 hb; replace BK541 := am (blk_below (g := gb541) (o := .cells #[.int .i64 ((rd_T36 l1 x22_2).f0), .int .i64 ((rd_T36 l1 x22_2).f1), .int .i64 ((rd_T36 l1 x22_2).f2.f0), .string ((rd_T36 l1 x22_2).f2.f1)] 36 (0, 0)) (blk_later BK541.out) hb); replace HB := bst HB hb; clear hb))
  go_meet
  case rel => exact ⟨_, (t542), sr, H', ⟨by have := HJ2.out; have := HK2.out; first | omega | exact Nat.le_refl _⟩, ⟨kL BK535⟩, ⟨kL BK536⟩, ⟨kL BK539⟩, ⟨kL BK541⟩, ⟨bL HB⟩⟩
 clear HC28
 try clear c1 c17 c24 c24b0 c25b0 c26b0 c27 c27b0 c27b1 hcz23_0 hcz23_1 hcz23_2 hcz23_3 hcz23_4 hcz23_5 hcz33_0 hcz33_1 hcz33_2 hcz33_3 hcz36_0 hcz36_1 hcz36_2 hfz23_0 hfz23_1 hfz23_2 hfz23_3 hfz23_4 hfz23_5 hfz33_0 hfz33_1 hfz33_2 hfz33_3 hfz36_0 hfz36_1 hfz36_2 hx540_0 hx540_1 hx540_2 hx540_3 p540 q540
 obtain ⟨kq, x46_27, rfl, HA, HJ27, BK535, BK536, BK539, BK541, HB⟩ := hcut
 cases kq with
 | zero => exact absurd HA.out (by simp [impl_StatsOf.j2])
 | succ kj27 => ?_
 have H := HA.out
 clear HA
 simp only [impl_StatsOf.j2] at H
 replace H := ibt H; obtain ⟨rfl, H⟩ | ⟨rfl, H⟩ := H
 rotate_left
 · replace H := ibt H; obtain ⟨rfl, H⟩ | ⟨rfl, H⟩ := H
   rotate_left
   · have H' := am H; clear H
     obtain ⟨hnb113, hnc113⟩ := nbo NB539_535
     obtain ⟨hnb114, hnc114⟩ := nbo NB539_536
     obtain ⟨hnb115, hnc115⟩ := nbo NB539_541
     obtain ⟨_, _, _, _, _, _, _, _, _, _, _, _⟩ := cl6 BK539
     obtain ⟨hnb117, hnc117⟩ := nbo NB541_535
     obtain ⟨hnb118, hnc118⟩ := nbo NB541_536
     obtain ⟨_, _, _, _, _, _, _, _⟩ := cl4 BK541
     go_wp2
     go_roundg kj27
     case measure => have := HJ2.out; have := HK2.out; have := HJ27.out; omega
     case rel => exact ⟨(wrap64 (x22_2 + 1)), (x540000_2), (true), (x540002_2), (x540003_2), (((rd_T36 l1 x22_2).f2.f0)), (((rd_T36 l1 x22_2).f2.f1)), sr, H', ⟨by have := HJ2.out; have := HK2.out; have := HJ27.out; omega⟩, ⟨kL BK535⟩, ⟨kL BK536⟩, ⟨kL BK539⟩, ⟨bL HB⟩⟩
   replace H := bnd H; obtain ⟨t544, A88, H⟩ := H
   replace H := ibt H; obtain ⟨rfl, H⟩ | ⟨rfl, H⟩ := H
   rotate_left
   · have H' := am H; clear H
     obtain ⟨hnb102, hnc102⟩ := nbo NB539_535
     obtain ⟨hnb103, hnc103⟩ := nbo NB539_536
     obtain ⟨hnb104, hnc104⟩ := nbo NB539_541
     obtain ⟨_, _, _, _, _, _, _, _, _, _, _, _⟩ := cl6 BK539
     obtain ⟨hnb106, hnc106⟩ := nbo NB535_536
     obtain ⟨hnb107, hnc107⟩ := nbo NB535_541
     obtain ⟨_, _, _, _, _, _⟩ := cl3 BK535
     obtain ⟨hnb109, hnc109⟩ := nbo NB541_536
     obtain ⟨_, _, _, _, _, _, _, _⟩ := cl4 BK541
     go_wp2_with (first | (go_at_call 8; (with_reducible refine (impl_ValLess.calls A88.out).mono ?_); rintro e w111 ⟨rfl, hb⟩; replace BK535 := bkb BK535 hb; replace BK536 := bkb BK536 hb; replace BK539 := bkb BK539 hb; replace BK541 := bkb BK541 hb; replace HB := bst HB hb; clear hb; obtain ⟨_, _, _, _, _, _, _, _, _, _, _, _⟩ := cl6 BK539))
     go_roundg kj27
     case measure => have := HJ2.out; have := HK2.out; have := HJ27.out; omega
     case rel => exact ⟨(wrap64 (x22_2 + 1)), (x540000_2), (true), (x540002_2), (x540003_2), (x540004_2), (x540005_2), sr, H', ⟨by have := HJ2.out; have := HK2.out; have := HJ27.out; omega⟩, ⟨kL BK535⟩, ⟨kL BK536⟩, ⟨kL BK539⟩, ⟨bL HB⟩⟩
   have H' := am H; clear H
   obtain ⟨hnb90, hnc90⟩ := nbo NB539_535
   obtain ⟨hnb91, hnc91⟩ := nbo NB539_536
   obtain ⟨hnb92, hnc92⟩ := nbo NB539_541
   obtain ⟨_, _, _, _, _, _, _, _, _, _, _, _⟩ := cl6 BK539
   obtain ⟨hnb94, hnc94⟩ := nbo NB535_536
   obtain ⟨hnb95, hnc95⟩ := nbo NB535_541
   obtain ⟨_, _, _, _, _, _⟩ := cl3 BK535
   obtain ⟨hnb97, hnc97⟩ := nbo NB541_536
   obtain ⟨_, _, _, _, _, _, _, _⟩ := cl4 BK541
   go_wp2_with (first | (go_at_call 8; (with_reducible refine (impl_ValLess.calls A88.out).mono ?_); rintro e w99 ⟨rfl, hb⟩; replace BK535 := bkb BK535 hb; replace BK536 := bkb BK536 hb; replace BK539 := bkb BK539 hb; replace BK541 := bkb BK541 hb; replace HB := bst HB hb; clear hb; obtain ⟨_, _, _, _, _, _, _, _⟩ := cl4 BK541; obtain ⟨_, _, _, _, _, _, _, _, _, _, _, _⟩ := cl6 BK539))
   go_roundg kj27
   case measure => have := HJ2.out; have := HK2.out; have := HJ27.out; omega
   case rel => exact ⟨(wrap64 (x22_2 + 1)), (x540000_2), (true), (x540002_2), (x540003_2), (((rd_T36 l1 x22_2).f2.f0)), (((rd_T36 l1 x22_2).f2.f1)), sr, H', ⟨by have := HJ2.out; have := HK2.out; have := HJ27.out; omega⟩, ⟨kL BK535⟩, ⟨kL BK536⟩, ⟨kL BK539⟩, ⟨bL HB⟩⟩
 replace H := ibt H; obtain ⟨rfl, H⟩ | ⟨rfl, H⟩ := H
 rotate_left
 · have H' := am H; clear H
   obtain ⟨hnb80, hnc80⟩ := nbo NB541_535
   obtain ⟨hnb81, hnc81⟩ := nbo NB541_536
   obtain ⟨hnb82, hnc82⟩ := nbo NB541_539
   obtain ⟨_, _, _, _, _, _, _, _⟩ := cl4 BK541
   obtain ⟨hnb84, hnc84⟩ := nbo NB539_535
   obtain ⟨hnb85, hnc85⟩ := nbo NB539_536
   obtain ⟨_, _, _, _, _, _, _, _, _, _, _, _⟩ := cl6 BK539
   go_wp2
   go_roundg kj27
   case measure => have := HJ2.out; have := HK2.out; have := HJ27.out; omega
   case rel => exact ⟨(wrap64 (x22_2 + 1)), (x540000_2), (true), (((rd_T36 l1 x22_2).f2.f0)), (((rd_T36 l1 x22_2).f2.f1)), (((rd_T36 l1 x22_2).f2.f0)), (((rd_T36 l1 x22_2).f2.f1)), sr, H', ⟨by have := HJ2.out; have := HK2.out; have := HJ27.out; omega⟩, ⟨kL BK535⟩, ⟨kL BK536⟩, ⟨kL BK539⟩, ⟨bL HB⟩⟩
 replace H := bnd H; obtain ⟨t543, A55, H⟩ := H
 replace H := ibt H; obtain ⟨rfl, H⟩ | ⟨rfl, H⟩ := H
 rotate_left
 · have H' := am H; clear H
   obtain ⟨hnb69, hnc69⟩ := nbo NB541_535
   obtain ⟨hnb70, hnc70⟩ := nbo NB541_536
   obtain ⟨hnb71, hnc71⟩ := nbo NB541_539
   obtain ⟨_, _, _, _, _, _, _, _⟩ := cl4 BK541
   obtain ⟨hnb73, hnc73⟩ := nbo NB539_535
   obtain ⟨hnb74, hnc74⟩ := nbo NB539_536
   obtain ⟨_, _, _, _, _, _, _, _, _, _, _, _⟩ := cl6 BK539
   obtain ⟨hnb76, hnc76⟩ := nbo NB535_536
   obtain ⟨_, _, _, _, _, _⟩ := cl3 BK535
   go_wp2_with (first | (go_at_call 8; (with_reducible refine (impl_ValLess.calls A55.out).mono ?_); rintro e w78 ⟨rfl, hb⟩; replace BK535 := bkb BK535 hb; replace BK536 := bkb BK536 hb; replace BK539 := am (blk_below (g := gb539) (o := .cells #[.int .i64 x540000_2, .bool true, .int .i64 ((rd_T36 l1 x22_2).f2.f0), .string ((rd_T36 l1 x22_2).f2.f1), .int .i64 x540004_2, .string x540005_2] 32 (0, 0)) (blk_later BK539.out) hb); replace BK541 := bkb BK541 hb; replace HB := bst HB hb; clear hb; obtain ⟨_, _, _, _, _, _, _, _, _, _, _, _⟩ := cl6 BK539))
   go_roundg kj27
   case measure => have := HJ2.out; have := HK2.out; have := HJ27.out; omega
   case rel => exact ⟨(wrap64 (x22_2 + 1)), (x540000_2), (true), (((rd_T36 l1 x22_2).f2.f0)), (((rd_T36 l1 x22_2).f2.f1)), (x540004_2), (x540005_2), sr, H', ⟨by have := HJ2.out; have := HK2.out; have := HJ27.out; omega⟩, ⟨kL BK535⟩, ⟨kL BK536⟩, ⟨kL BK539⟩, ⟨bL HB⟩⟩
 have H' := am H; clear H
 obtain ⟨hnb57, hnc57⟩ := nbo NB541_535
 obtain ⟨hnb58, hnc58⟩ := nbo NB541_536
 obtain ⟨hnb59, hnc59⟩ := nbo NB541_539
 obtain ⟨_, _, _, _, _, _, _, _⟩ := cl4 BK541
 obtain ⟨hnb61, hnc61⟩ := nbo NB539_535
 obtain ⟨hnb62, hnc62⟩ := nbo NB539_536
 obtain ⟨_, _, _, _, _, _, _, _, _, _, _, _⟩ := cl6 BK539
 obtain ⟨hnb64, hnc64⟩ := nbo NB535_536
 obtain ⟨_, _, _, _, _, _⟩ := cl3 BK535
 go_wp2_with (first | (go_at_call 8; (with_reducible refine (impl_ValLess.calls A55.out).mono ?_); rintro e w66 ⟨rfl, hb⟩; replace BK535 := bkb BK535 hb; replace BK536 := bkb BK536 hb; replace BK539 := am (blk_below (g := gb539) (o := .cells #[.int .i64 x540000_2, .bool true, .int .i64 ((rd_T36 l1 x22_2).f2.f0), .string ((rd_T36 l1 x22_2).f2.f1), .int .i64 x540004_2, .string x540005_2] 32 (0, 0)) (blk_later BK539.out) hb); replace BK541 := bkb BK541 hb; replace HB := bst HB hb; clear hb; obtain ⟨_, _, _, _, _, _, _, _⟩ := cl4 BK541; obtain ⟨_, _, _, _, _, _, _, _, _, _, _, _⟩ := cl6 BK539))
 go_roundg kj27
 case measure => have := HJ2.out; have := HK2.out; have := HJ27.out; omega
 case rel => exact ⟨(wrap64 (x22_2 + 1)), (x540000_2), (true), (((rd_T36 l1 x22_2).f2.f0)), (((rd_T36 l1 x22_2).f2.f1)), (((rd_T36 l1 x22_2).f2.f0)), (((rd_T36 l1 x22_2).f2.f1)), sr, H', ⟨by have := HJ2.out; have := HK2.out; have := HJ27.out; omega⟩, ⟨kL BK535⟩, ⟨kL BK536⟩, ⟨kL BK539⟩, ⟨bL HB⟩⟩
/-! ### spec_LeafOk: function 33 -/
def spec_LeafOk.f (a0_0 : Int) (a0_1 : Int) (a0_2 : Int) : Option (Bool) := (spec_l5Type.f a0_0).bind fun t546 => (if t546 = true then ((spec_l1In.f a0_1 0 6).bind fun t547 => (if t547 = true then ((spec_l1In.f a0_2 a0_1 6).bind fun t548 => (some t548)) else (some false))) else (some false))
theorem spec_LeafOk.calls {a0_0 a0_1 a0_2 : Int} {r : Bool} {w : World} (h : spec_LeafOk.f a0_0 a0_1 a0_2 = some r) :
    Calls Try.prog 33 #[.agg #[.int .i64 a0_0, .int .i64 a0_1, .int .i64 a0_2]] w fun e w' => e = .returned (.bool r) ∧ Below w.heap.size w w' := by
 have hu25 := Try.underlying25
 have HB := am (Below.refl w.heap.size w)
 have H := h; clear h; unfold spec_LeafOk.f at H
 replace H := bnd H; obtain ⟨t546, A2, H⟩ := H
 replace H := ibt H; obtain ⟨rfl, H⟩ | ⟨rfl, H⟩ := H
 rotate_left
 · obtain rfl := Option.some.inj H
   go_enter Try.func33, Try.ntmps33
   go_wp2_with (first | ((with_reducible refine gd 1 rfl ?_); refine bxw 1 rfl #[.int .i64 a0_0, .int .i64 a0_1, .int .i64 a0_2] 25 HB ?_; clear HB; intro gb545 w11 BK545 GW545 GE545 HB; obtain ⟨_, _, _, _, _, _⟩ := cl3 BK545) | ((with_reducible refine gc 57 rfl ?_); refine gc1 (some 5) Try.func57 rfl (spec_l5Type.calls A2.out) ?_; rintro w' ⟨nd, rfl⟩))
   go_ret
   exact fin_ (bL HB)
 replace H := bnd H; obtain ⟨t547, A4, H⟩ := H
 replace H := ibt H; obtain ⟨rfl, H⟩ | ⟨rfl, H⟩ := H
 rotate_left
 · obtain rfl := Option.some.inj H
   go_enter Try.func33, Try.ntmps33
   go_wp2_with (first | ((with_reducible refine gd 1 rfl ?_); refine bxw 1 rfl #[.int .i64 a0_0, .int .i64 a0_1, .int .i64 a0_2] 25 HB ?_; clear HB; intro gb545 w9 BK545 GW545 GE545 HB; obtain ⟨_, _, _, _, _, _⟩ := cl3 BK545) | ((with_reducible refine gc 57 rfl ?_); refine gc1 (some 5) Try.func57 rfl (spec_l5Type.calls A2.out) ?_; rintro w' ⟨nd, rfl⟩) | (go_at_call 55; (with_reducible refine (spec_l1In.calls A4.out).mono ?_); rintro e w' ⟨rfl, ⟨nd, rfl⟩⟩))
   go_ret
   exact fin_ (bL HB)
 replace H := bnd H; obtain ⟨t548, A6, H⟩ := H
 obtain rfl := Option.some.inj H
 go_enter Try.func33, Try.ntmps33
 go_wp2_with (first | ((with_reducible refine gd 1 rfl ?_); refine bxw 1 rfl #[.int .i64 a0_0, .int .i64 a0_1, .int .i64 a0_2] 25 HB ?_; clear HB; intro gb545 w7 BK545 GW545 GE545 HB; obtain ⟨_, _, _, _, _, _⟩ := cl3 BK545) | ((with_reducible refine gc 57 rfl ?_); refine gc1 (some 5) Try.func57 rfl (spec_l5Type.calls A2.out) ?_; rintro w' ⟨nd, rfl⟩) | (go_at_call 55; (with_reducible refine (spec_l1In.calls A4.out).mono ?_); rintro e w' ⟨rfl, ⟨nd, rfl⟩⟩) | (go_at_call 55; (with_reducible refine (spec_l1In.calls A6.out).mono ?_); rintro e w' ⟨rfl, ⟨nd, rfl⟩⟩))
 go_ret
 exact fin_ (bL HB)
/-! ### spec_l15Right: function 34 -/
def spec_l15Right.j0 : Nat → Bool → Int → Int → Int → Int → Int → Int → ByteArray → Int → ByteArray → Option (Bool)
  | 0, _, _, _, _, _, _, _, _, _, _ => none
  | k + 1, x20, x550000, x550001, x550002, x551000, x551001, x551002, x551003, x552000, x552001 => if x20 = true then (some false) else (if x551001 < x550002 then (some (x551002 == x552000 && (x551003.toList == x552001.toList))) else ((spec_ValOk.f k x550000 x551002 x551003).bind fun t554 => (some t554)))
def spec_l15Right.f (k : Nat) (a0_0 : Int) (a0_1 : Int) (a0_2 : Int) (a1_0 : Int) (a1_1 : Int) (a1_2 : Int) (a1_3 : ByteArray) : Option (Bool) := (spec_l1In.f a1_0 0 a0_1).bind fun t552 => (if t552 = true then ((spec_l1In.f a1_1 0 a0_2).bind fun t553 => (spec_l15Right.j0 k (!t553) a0_0 a0_1 a0_2 a1_0 a1_1 a1_2 a1_3 0 (⟨#[]⟩ : ByteArray))) else (spec_l15Right.j0 k true a0_0 a0_1 a0_2 a1_0 a1_1 a1_2 a1_3 0 (⟨#[]⟩ : ByteArray)))
theorem spec_l15Right.calls {k : Nat} {a0_0 a0_1 a0_2 a1_0 a1_1 a1_2 : Int} {a1_3 : ByteArray} {r : Bool} {w : World} (h : spec_l15Right.f k a0_0 a0_1 a0_2 a1_0 a1_1 a1_2 a1_3 = some r) :
    Calls Try.prog 34 #[.agg #[.int .i64 a0_0, .int .i64 a0_1, .int .i64 a0_2], .agg #[.int .i64 a1_0, .int .i64 a1_1, .int .i64 a1_2, .string a1_3]] w fun e w' => e = .returned (.bool r) ∧ Below w.heap.size w w' := by
 have hu25 := Try.underlying25
 have hu36 := Try.underlying36
 have hu30 := Try.underlying30
 have HB := am (Below.refl w.heap.size w)
 have H := h; clear h; unfold spec_l15Right.f at H
 have HC3 := am H
 clear H
 go_enter Try.func34, Try.ntmps34
 go_upto_region 2 with (first | ((with_reducible refine gd 2 rfl ?_); refine bxw 2 rfl #[.int .i64 a0_0, .int .i64 a0_1, .int .i64 a0_2] 25 HB ?_; clear HB; intro gb549 w4 BK549 GW549 GE549 HB) | ((with_reducible refine gd 3 rfl ?_); refine bxv 3 rfl #[.int .i64 a1_0, .int .i64 a1_1, .int .i64 a1_2, .string a1_3] 36 HB ?_; clear HB; intro gb550 w5 BK550 GW550 GE550 HB hg hb; obtain ⟨NB549_550, NB550_549⟩ := nbp (nbl BK549 hg); replace BK549 := bkb BK549 hb; clear hg hb) | ((with_reducible refine gd 5 rfl ?_); refine bxv 5 rfl #[.int .i64 0, .string ⟨#[]⟩] 30 HB ?_; clear HB; intro gb551 w6 BK551 GW551 GE551 HB hg hb; obtain ⟨NB549_551, NB551_549⟩ := nbp (nbl BK549 hg); obtain ⟨NB550_551, NB551_550⟩ := nbp (nbl BK550 hg); replace BK549 := bkb BK549 hb; replace BK550 := bkb BK550 hb; clear hg hb; obtain ⟨hnb7, hnc7⟩ := nbo NB551_549; obtain ⟨hnb8, hnc8⟩ := nbo NB551_550; obtain ⟨hcz9_0, hcz9_1, hfz9_0, hfz9_1⟩ := cl2 BK551))
 (try simp only [Act.put, List.setIfInBounds_toArray, List.set_cons_zero, List.set_cons_succ])
 go_cut [20] (fun v20 wc => ∃ (kq : Nat) (x20_2 : Bool), v20 = .bool x20_2 ∧ Aside0 (spec_l15Right.j0 kq x20_2 a0_0 a0_1 a0_2 a1_0 a1_1 a1_2 a1_3 0 (⟨#[]⟩ : ByteArray) = some r) ∧ Aside0 (kq ≤ k) ∧ Aside0 (wc.heap[gb549]? = some (.cells #[.int .i64 a0_0, .int .i64 a0_1, .int .i64 a0_2] 25 (0, 0))) ∧ Aside0 (wc.heap[gb550]? = some (.cells #[.int .i64 a1_0, .int .i64 a1_1, .int .i64 a1_2, .string a1_3] 36 (0, 0))) ∧ Aside0 (wc.heap[gb551]? = some (.cells #[.int .i64 0, .string ⟨#[]⟩] 30 (0, 0))) ∧ Aside0 (Below w.heap.size w wc))
 case first =>
  have H := HC3.out
  clear HC3
  replace H := bnd H; obtain ⟨t552, A10, H⟩ := H
  replace H := ibt H; obtain ⟨rfl, H⟩ | ⟨rfl, H⟩ := H
  rotate_left
  · have H' := am H; clear H
    obtain ⟨hnb18, hnc18⟩ := nbo NB550_549
    obtain ⟨hnb19, hnc19⟩ := nbo NB550_551
    obtain ⟨_, _, _, _, _, _, _, _⟩ := cl4 BK550
    obtain ⟨hnb21, hnc21⟩ := nbo NB549_551
    obtain ⟨_, _, _, _, _, _⟩ := cl3 BK549
    go_wp2_with (first | ((with_reducible refine gc 55 rfl ?_); refine gc1 (some 11) Try.func55 rfl (spec_l1In.calls A10.out) ?_; rintro w' ⟨nd, rfl⟩))
    go_meet
    case rel => exact ⟨_, (true), sr, H', ⟨by first | omega | exact Nat.le_refl _⟩, ⟨kL BK549⟩, ⟨kL BK550⟩, ⟨kL BK551⟩, ⟨bL HB⟩⟩
  replace H := bnd H; obtain ⟨t553, A12, H⟩ := H
  have H' := am H; clear H
  obtain ⟨hnb13, hnc13⟩ := nbo NB550_549
  obtain ⟨hnb14, hnc14⟩ := nbo NB550_551
  obtain ⟨_, _, _, _, _, _, _, _⟩ := cl4 BK550
  obtain ⟨hnb16, hnc16⟩ := nbo NB549_551
  obtain ⟨_, _, _, _, _, _⟩ := cl3 BK549
  go_wp2_with (first | ((with_reducible refine gc 55 rfl ?_); refine gc1 (some 11) Try.func55 rfl (spec_l1In.calls A10.out) ?_; rintro w' ⟨nd, rfl⟩) | (go_at_call 55; (with_reducible refine (spec_l1In.calls A12.out).mono ?_); rintro e w' ⟨rfl, ⟨nd, rfl⟩⟩))
  go_meet
  case rel => exact ⟨_, (!t553), sr, H', ⟨by first | omega | exact Nat.le_refl _⟩, ⟨kL BK549⟩, ⟨kL BK550⟩, ⟨kL BK551⟩, ⟨bL HB⟩⟩
 clear HC3
 try clear hcz9_0 hcz9_1 hfz9_0 hfz9_1
 obtain ⟨kq, x20_2, rfl, HA, HJ2, BK549, BK550, BK551, HB⟩ := hcut
 cases kq with
 | zero => exact absurd HA.out (by simp [spec_l15Right.j0])
 | succ kj2 => ?_
 have H := HA.out
 clear HA
 simp only [spec_l15Right.j0] at H
 replace H := ibt H; obtain ⟨rfl, H⟩ | ⟨rfl, H⟩ := H
 · obtain rfl := Option.some.inj H
   go_wp2
   go_ret
   exact fin_ (bL HB)
 replace H := idc H; obtain ⟨c24b0, H⟩ | ⟨c24b0, H⟩ := H
 · obtain rfl := Option.some.inj H
   obtain ⟨hnb25, hnc25⟩ := nbo NB550_549
   obtain ⟨hnb26, hnc26⟩ := nbo NB550_551
   obtain ⟨_, _, _, _, _, _, _, _⟩ := cl4 BK550
   obtain ⟨hnb28, hnc28⟩ := nbo NB549_551
   obtain ⟨_, _, _, _, _, _⟩ := cl3 BK549
   obtain ⟨_, _, _, _⟩ := cl2 BK551
   go_wp2
   go_ret
   exact fin_ (bL HB)
 replace H := bnd H; obtain ⟨t554, A31, H⟩ := H
 obtain rfl := Option.some.inj H
 obtain ⟨hnb32, hnc32⟩ := nbo NB550_549
 obtain ⟨hnb33, hnc33⟩ := nbo NB550_551
 obtain ⟨_, _, _, _, _, _, _, _⟩ := cl4 BK550
 obtain ⟨hnb35, hnc35⟩ := nbo NB549_551
 obtain ⟨_, _, _, _, _, _⟩ := cl3 BK549
 go_wp2_with (first | ((with_reducible refine gc 35 rfl ?_); refine gc1 (some 34) Try.func35 rfl (spec_ValOk.calls A31.out) ?_; rintro w37 hb; replace BK549 := bkb BK549 hb; replace BK550 := bkb BK550 hb; replace BK551 := bkb BK551 hb; replace HB := bst HB hb; clear hb))
 go_ret
 exact fin_ (bL HB)
/-! ### spec_l15All: function 16 -/
mutual
def spec_l15All.j0 : Nat → List (S36) → Bool → Int → Int → Int → Option (Bool)
  | 0, _, _, _, _, _ => none
  | k + 1, x1, x13, x556000, x556001, x556002 => if x13 = true then (some false) else (spec_l15All.l0 k x1 0 x556000 x556001 x556002)
def spec_l15All.l0 : Nat → List (S36) → Int → Int → Int → Int → Option (Bool)
  | 0, _, _, _, _, _ => none
  | k + 1, x1, x5, x556000, x556001, x556002 => if x5 < (x1.length : Int) then (if 0 ≤ x5 then ((spec_l15Right.f k x556000 x556001 x556002 ((rd_T36 x1 x5).f0) ((rd_T36 x1 x5).f1) ((rd_T36 x1 x5).f2.f0) ((rd_T36 x1 x5).f2.f1)).bind fun t558 => (if t558 = true then (spec_l15All.l0 k x1 (wrap64 (x5 + 1)) x556000 x556001 x556002) else (some false))) else (none)) else (some true)
end
def spec_l15All.f (k : Nat) (a0_0 : Int) (a0_1 : Int) (a0_2 : Int) (l1 : List (S36)) : Option (Bool) := (spec_LeafOk.f a0_0 a0_1 a0_2).bind fun t556 => (if t556 = true then (spec_l15All.j0 k l1 (decide ((l1.length : Int) > 2000)) a0_0 a0_1 a0_2) else (spec_l15All.j0 k l1 true a0_0 a0_1 a0_2))
theorem spec_l15All.calls {k : Nat} {a0_0 a0_1 a0_2 : Int} {A1 : Option Addr} {c1 : Nat} {l1 : List (S36)} {r : Bool} {w : World} (hr1 : Kd.C k36 w A1 l1.length l1) (hc1 : l1.length ≤ c1) (h : spec_l15All.f k a0_0 a0_1 a0_2 l1 = some r) :
    Calls Try.prog 16 #[.agg #[.int .i64 a0_0, .int .i64 a0_1, .int .i64 a0_2], .slice A1 l1.length c1] w fun e w' => e = .returned (.bool r) ∧ Below w.heap.size w w' := by
 have hu25 := Try.underlying25
 have hu36 := Try.underlying36
 have HR1 := am hr1
 have HC1 := am hc1
 clear hr1 hc1
 have HB := am (Below.refl w.heap.size w)
 have H := h; clear h; unfold spec_l15All.f at H
 have HC3 := am H
 clear H
 go_enter Try.func16, Try.ntmps16
 go_upto_region 1 with (first | ((with_reducible refine gd 2 rfl ?_); (try refine gg ?_; dsimp only); refine bxw 2 rfl #[.int .i64 a0_0, .int .i64 a0_1, .int .i64 a0_2] 25 HB ?_; clear HB; intro gb555 w4 BK555 GW555 GE555 HB))
 (try simp only [Act.put, List.setIfInBounds_toArray, List.set_cons_zero, List.set_cons_succ])
 go_cut [13] (fun v13 wc => ∃ (kq : Nat) (x13_2 : Bool), v13 = .bool x13_2 ∧ Aside0 (spec_l15All.j0 kq l1 x13_2 a0_0 a0_1 a0_2 = some r) ∧ Aside0 (kq ≤ k) ∧ Aside0 (wc.heap[gb555]? = some (.cells #[.int .i64 a0_0, .int .i64 a0_1, .int .i64 a0_2] 25 (0, 0))) ∧ Aside0 (Below w.heap.size w wc))
 case first =>
  have H := HC3.out
  clear HC3
  replace H := bnd H; obtain ⟨t556, A5, H⟩ := H
  replace H := ibt H; obtain ⟨rfl, H⟩ | ⟨rfl, H⟩ := H
  rotate_left
  · have H' := am H; clear H
    obtain ⟨_, _, _, _, _, _⟩ := cl3 BK555
    go_wp2_with (first | ((with_reducible refine gc 33 rfl ?_); refine gc1 (some 7) Try.func33 rfl (spec_LeafOk.calls A5.out) ?_; rintro w10 hb; replace BK555 := bkb BK555 hb; replace HB := bst HB hb; clear hb))
    go_meet
    case rel => exact ⟨_, (true), sr, H', ⟨by first | omega | exact Nat.le_refl _⟩, ⟨kL BK555⟩, ⟨bL HB⟩⟩
  have H' := am H; clear H
  obtain ⟨_, _, _, _, _, _⟩ := cl3 BK555
  go_wp2_with (first | ((with_reducible refine gc 33 rfl ?_); refine gc1 (some 7) Try.func33 rfl (spec_LeafOk.calls A5.out) ?_; rintro w8 hb; replace BK555 := bkb BK555 hb; replace HB := bst HB hb; clear hb))
  go_meet
  case rel => exact ⟨_, (decide ((l1.length : Int) > 2000)), sr, H', ⟨by first | omega | exact Nat.le_refl _⟩, ⟨kL BK555⟩, ⟨bL HB⟩⟩
 clear HC3
 try clear c1
 obtain ⟨kq, x13_2, rfl, HA, HJ2, BK555, HB⟩ := hcut
 cases kq with
 | zero => exact absurd HA.out (by simp [spec_l15All.j0])
 | succ kj2 => ?_
 have H := HA.out
 clear HA
 simp only [spec_l15All.j0] at H
 replace H := ibt H; obtain ⟨rfl, H⟩ | ⟨rfl, H⟩ := H
 · obtain rfl := Option.some.inj H
   go_wp2
   go_ret
   exact fin_ (bL HB)
 have H' := am H; clear H
 go_wp2
 go_loopg [5] kj2 (fun kq v5 w' => ∃ (x5_2 : Int), v5 = .int .i64 x5_2 ∧ Aside0 (spec_l15All.l0 kq l1 x5_2 a0_0 a0_1 a0_2 = some r) ∧ Aside0 (kq ≤ kj2) ∧ Aside0 (w'.heap[gb555]? = some (.cells #[.int .i64 a0_0, .int .i64 a0_1, .int .i64 a0_2] 25 (0, 0))) ∧ Aside0 (Below w.heap.size w w'))
 case atStart => exact ⟨(0), sr, H', ⟨Nat.le_refl _⟩, ⟨kL BK555⟩, ⟨bL HB⟩⟩
 clear H'
 try clear c1 c11
 obtain ⟨x5_2, rfl, HA, HK2, BK555, HB⟩ := hrel
 cases gk with
 | zero => exact absurd HA.out (by simp [spec_l15All.l0])
 | succ k2 => ?_
 have H := HA.out
 clear HA
 simp only [spec_l15All.l0] at H
 replace H := idc H; obtain ⟨c12b0, H⟩ | ⟨c12b0, H⟩ := H
 rotate_left
 · obtain rfl := Option.some.inj H
   go_wp2
   go_ret
   exact fin_ (bL HB)
 replace H := ifd H; obtain ⟨c13b0, H⟩ := H
 replace H := bnd H; obtain ⟨t558, A14, H⟩ := H
 replace H := ibt H; obtain ⟨rfl, H⟩ | ⟨rfl, H⟩ := H
 rotate_left
 · obtain rfl := Option.some.inj H
   try go_wp2
   replace BK555 := bdr BK555
   replace HB := bld HB
   have p557 : 0 ≤ (x5_2 : Int) := dcd
   have q557 : x5_2 < (l1.length : Int) := dcd
   obtain ⟨ad557, e557, hx557_0, hx557_1, hx557_2, hx557_3⟩ := at_T36 HR1.out x5_2 p557 q557
   have hw557_3 := hx557_3
   have hw557_2 := hx557_2
   have hw557_1 := hx557_1
   have hw557_0 := hx557_0
   cases e557
   replace hx557_0 := crd HB hx557_0
   replace hx557_1 := crd HB hx557_1
   replace hx557_2 := crd HB hx557_2
   replace hx557_3 := crd HB hx557_3
   replace p557 := eq_true p557
   replace q557 := eq_true q557
   refine start_ (n := 7) (S := fun w' => w'.cell? ⟨gb555, 0, none⟩ = some (.int .i64 a0_0) ∧ w'.cell? ⟨gb555, 1, none⟩ = some (.int .i64 a0_1) ∧ w'.cell? ⟨gb555, 2, none⟩ = some (.int .i64 a0_2) ∧ w'.cell? (ad557.add ((x5_2).toNat * 4)) = some (.int .i64 ((rd_T36 l1 x5_2).f0)) ∧ w'.cell? ⟨(ad557.add ((x5_2).toNat * 4)).block, (ad557.add ((x5_2).toNat * 4)).off + 1, none⟩ = some (.int .i64 ((rd_T36 l1 x5_2).f1)) ∧ w'.cell? ⟨(ad557.add ((x5_2).toNat * 4)).block, (ad557.add ((x5_2).toNat * 4)).off + 2, none⟩ = some (.int .i64 ((rd_T36 l1 x5_2).f2.f0)) ∧ w'.cell? ⟨(ad557.add ((x5_2).toNat * 4)).block, (ad557.add ((x5_2).toNat * 4)).off + 3, none⟩ = some (.string ((rd_T36 l1 x5_2).f2.f1))) (ds := []) #[false, false, false, false, false, false, false] (by kernel_rfl) rfl rfl ⟨bcl BK555 0, bcl BK555 1, bcl BK555 2, crd HB hw557_0, crd HB hw557_1, crd HB hw557_2, crd HB hw557_3⟩ (fun hHeld => ?_)
   generalize wr.drew = w18 at BK555 HB hx557_0 hx557_1 hx557_2 hx557_3 hHeld ⊢
   refine pure_ (i := 1) (N := some 21) (v := ?_) (a' := ?_) #[false, true, false, false, false, false, false] rfl rfl (by kernel_rfl) (fun _ _ _ h => h) (Or.inl ⟨by rfl, ?_⟩) ?_ ?_
   rotate_left
   · intro w'
     go_simp
     with_reducible rfl
   rotate_left
   · simp only [Act.put, List.setIfInBounds_toArray, List.set_cons_zero, List.set_cons_succ, i64_w, i32_w]
     rfl
   refine pure_ (i := 2) (N := some 22) (v := ?_) (a' := ?_) #[false, true, true, false, false, false, false] rfl rfl (by kernel_rfl) (fun _ _ _ h => h) (Or.inl ⟨by rfl, ?_⟩) ?_ ?_
   rotate_left
   · intro w'
     go_simp
     with_reducible rfl
   rotate_left
   · simp only [Act.put, List.setIfInBounds_toArray, List.set_cons_zero, List.set_cons_succ, i64_w, i32_w]
     rfl
   refine pure_ (i := 3) (N := some 23) (v := ?_) (a' := ?_) #[false, true, true, true, false, false, false] rfl rfl (by kernel_rfl) (fun _ _ _ h => h) (Or.inl ⟨by rfl, ?_⟩) ?_ ?_
   rotate_left
   · intro w'
     go_simp
     with_reducible rfl
   rotate_left
   · simp only [Act.put, List.setIfInBounds_toArray, List.set_cons_zero, List.set_cons_succ, i64_w, i32_w]
     rfl
   refine take_ (i := 0) (N := some 20) (v := ?_) (a' := ?_) #[true, true, true, true, false, false, false] rfl rfl (by kernel_rfl) (fun _ _ _ h => h) (Or.inl ⟨by rfl, ?_⟩) hHeld ?_ ?_
   rotate_left
   · rintro w' ⟨s0, s1, s2, s3, s4, s5, s6⟩
     go_simp
     with_reducible rfl
   rotate_left
   · simp only [Act.put, List.setIfInBounds_toArray, List.set_cons_zero, List.set_cons_succ, i64_w, i32_w]
     rfl
   refine take_ (i := 4) (N := some 24) (v := ?_) (a' := ?_) #[true, true, true, true, true, false, false] rfl rfl (by kernel_rfl) (fun _ _ _ h => h) (Or.inl ⟨by rfl, ?_⟩) hHeld ?_ ?_
   rotate_left
   · rintro w' ⟨s0, s1, s2, s3, s4, s5, s6⟩
     go_simp
     with_reducible rfl
   rotate_left
   · simp only [Act.put, List.setIfInBounds_toArray, List.set_cons_zero, List.set_cons_succ, i64_w, i32_w]
     rfl
   refine one_ (i := 5) (N := some 25) #[true, true, true, true, true, true, false] rfl rfl (by kernel_rfl) (by decide) (fun K hK => ?_)
   refine gs_ Try.func34 #[.agg #[.int .i64 a0_0, .int .i64 a0_1, .int .i64 a0_2], .agg #[.int .i64 ((rd_T36 l1 x5_2).f0), .int .i64 ((rd_T36 l1 x5_2).f1), .int .i64 ((rd_T36 l1 x5_2).f2.f0), .string ((rd_T36 l1 x5_2).f2.f1)]] rfl ?_
   with_reducible refine (spec_l15Right.calls A14.out).mono ?_
   rintro e w19 ⟨rfl, hb⟩
   refine ⟨_, rfl, ?_⟩
   replace BK555 := bkb BK555 hb
   replace HB := bst HB hb
   (try clear hb)
   (try clear hb2)
   (try clear hk)
   (try clear hi)
   refine hK.out _ _ ⟨bcl BK555 0, bcl BK555 1, bcl BK555 2, crd HB hw557_0, crd HB hw557_1, crd HB hw557_2, crd HB hw557_3⟩ (fun hHeld => ?_)
   clear hK K
   refine no_ (some 25) ?_
   refine pure_ (i := 6) (N := some 26) (v := ?_) (a' := ?_) #[true, true, true, true, true, true, true] rfl rfl (by kernel_rfl) (fun _ _ _ h => h) (Or.inl ⟨by rfl, ?_⟩) ?_ ?_
   rotate_left
   · intro w'
     go_simp
     with_reducible rfl
   rotate_left
   · simp only [Act.put, List.setIfInBounds_toArray, List.set_cons_zero, List.set_cons_succ, i64_w, i32_w]
     rfl
   refine done_ (by kernel_rfl) ?_
   try go_wp2
   go_ret
   exact fin_ (bL HB)
 have H' := am H; clear H
 try go_wp2
 replace BK555 := bdr BK555
 replace HB := bld HB
 have p557 : 0 ≤ (x5_2 : Int) := dcd
 have q557 : x5_2 < (l1.length : Int) := dcd
 obtain ⟨ad557, e557, hx557_0, hx557_1, hx557_2, hx557_3⟩ := at_T36 HR1.out x5_2 p557 q557
 have hw557_3 := hx557_3
 have hw557_2 := hx557_2
 have hw557_1 := hx557_1
 have hw557_0 := hx557_0
 cases e557
 replace hx557_0 := crd HB hx557_0
 replace hx557_1 := crd HB hx557_1
 replace hx557_2 := crd HB hx557_2
 replace hx557_3 := crd HB hx557_3
 replace p557 := eq_true p557
 replace q557 := eq_true q557
 refine start_ (n := 7) (S := fun w' => w'.cell? ⟨gb555, 0, none⟩ = some (.int .i64 a0_0) ∧ w'.cell? ⟨gb555, 1, none⟩ = some (.int .i64 a0_1) ∧ w'.cell? ⟨gb555, 2, none⟩ = some (.int .i64 a0_2) ∧ w'.cell? (ad557.add ((x5_2).toNat * 4)) = some (.int .i64 ((rd_T36 l1 x5_2).f0)) ∧ w'.cell? ⟨(ad557.add ((x5_2).toNat * 4)).block, (ad557.add ((x5_2).toNat * 4)).off + 1, none⟩ = some (.int .i64 ((rd_T36 l1 x5_2).f1)) ∧ w'.cell? ⟨(ad557.add ((x5_2).toNat * 4)).block, (ad557.add ((x5_2).toNat * 4)).off + 2, none⟩ = some (.int .i64 ((rd_T36 l1 x5_2).f2.f0)) ∧ w'.cell? ⟨(ad557.add ((x5_2).toNat * 4)).block, (ad557.add ((x5_2).toNat * 4)).off + 3, none⟩ = some (.string ((rd_T36 l1 x5_2).f2.f1))) (ds := []) #[false, false, false, false, false, false, false] (by kernel_rfl) rfl rfl ⟨bcl BK555 0, bcl BK555 1, bcl BK555 2, crd HB hw557_0, crd HB hw557_1, crd HB hw557_2, crd HB hw557_3⟩ (fun hHeld => ?_)
 generalize wr.drew = w16 at BK555 HB hx557_0 hx557_1 hx557_2 hx557_3 hHeld ⊢
 refine pure_ (i := 1) (N := some 21) (v := ?_) (a' := ?_) #[false, true, false, false, false, false, false] rfl rfl (by kernel_rfl) (fun _ _ _ h => h) (Or.inl ⟨by rfl, ?_⟩) ?_ ?_
 rotate_left
 · intro w'
   go_simp
   with_reducible rfl
 rotate_left
 · simp only [Act.put, List.setIfInBounds_toArray, List.set_cons_zero, List.set_cons_succ, i64_w, i32_w]
   rfl
 refine pure_ (i := 2) (N := some 22) (v := ?_) (a' := ?_) #[false, true, true, false, false, false, false] rfl rfl (by kernel_rfl) (fun _ _ _ h => h) (Or.inl ⟨by rfl, ?_⟩) ?_ ?_
 rotate_left
 · intro w'
   go_simp
   with_reducible rfl
 rotate_left
 · simp only [Act.put, List.setIfInBounds_toArray, List.set_cons_zero, List.set_cons_succ, i64_w, i32_w]
   rfl
 refine pure_ (i := 3) (N := some 23) (v := ?_) (a' := ?_) #[false, true, true, true, false, false, false] rfl rfl (by kernel_rfl) (fun _ _ _ h => h) (Or.inl ⟨by rfl, ?_⟩) ?_ ?_
 rotate_left
 · intro w'
   go_simp
   with_reducible rfl
 rotate_left
 · simp only [Act.put, List.setIfInBounds_toArray, List.set_cons_zero, List.set_cons_succ, i64_w, i32_w]
   rfl
 refine take_ (i := 0) (N := some 20) (v := ?_) (a' := ?_) #[true, true, true, true, false, false, false] rfl rfl (by kernel_rfl) (fun _ _ _ h => h) (Or.inl ⟨by rfl, ?_⟩) hHeld ?_ ?_
 rotate_left
 · rintro w' ⟨s0, s1, s2, s3, s4, s5, s6⟩
   go_simp
   with_reducible rfl
 rotate_left
 · simp only [Act.put, List.setIfInBounds_toArray, List.set_cons_zero, List.set_cons_succ, i64_w, i32_w]
   rfl
 refine take_ (i := 4) (N := some 24) (v := ?_) (a' := ?_) #[true, true, true, true, true, false, false] rfl rfl (by kernel_rfl) (fun _ _ _ h => h) (Or.inl ⟨by rfl, ?_⟩) hHeld ?_ ?_
 rotate_left
 · rintro w' ⟨s0, s1, s2, s3, s4, s5, s6⟩
   go_simp
   with_reducible rfl
 rotate_left
 · simp only [Act.put, List.setIfInBounds_toArray, List.set_cons_zero, List.set_cons_succ, i64_w, i32_w]
   rfl
 refine one_ (i := 5) (N := some 25) #[true, true, true, true, true, true, false] rfl rfl (by kernel_rfl) (by decide) (fun K hK => ?_)
 refine gs_ Try.func34 #[.agg #[.int .i64 a0_0, .int .i64 a0_1, .int .i64 a0_2], .agg #[.int .i64 ((rd_T36 l1 x5_2).f0), .int .i64 ((rd_T36 l1 x5_2).f1), .int .i64 ((rd_T36 l1 x5_2).f2.f0), .string ((rd_T36 l1 x5_2).f2.f1)]] rfl ?_
 with_reducible refine (spec_l15Right.calls A14.out).mono ?_
 rintro e w17 ⟨rfl, hb⟩
 refine ⟨_, rfl, ?_⟩
 replace BK555 := bkb BK555 hb
 replace HB := bst HB hb
 (try clear hb)
 (try clear hb2)
 (try clear hk)
 (try clear hi)
 refine hK.out _ _ ⟨bcl BK555 0, bcl BK555 1, bcl BK555 2, crd HB hw557_0, crd HB hw557_1, crd HB hw557_2, crd HB hw557_3⟩ (fun hHeld => ?_)
 clear hK K
 refine no_ (some 25) ?_
 refine pure_ (i := 6) (N := some 26) (v := ?_) (a' := ?_) #[true, true, true, true, true, true, true] rfl rfl (by kernel_rfl) (fun _ _ _ h => h) (Or.inl ⟨by rfl, ?_⟩) ?_ ?_
 rotate_left
 · intro w'
   go_simp
   with_reducible rfl
 rotate_left
 · simp only [Act.put, List.setIfInBounds_toArray, List.set_cons_zero, List.set_cons_succ, i64_w, i32_w]
   rfl
 refine done_ (by kernel_rfl) ?_
 try go_wp2
 go_roundg k2
 case measure => have := HJ2.out; have := HK2.out; omega
 case rel => exact ⟨(wrap64 (x5_2 + 1)), sr, H', ⟨by have := HJ2.out; have := HK2.out; omega⟩, ⟨kL BK555⟩, ⟨bL HB⟩⟩
end Go.Proofs.Ytnlgodcbnlbdkaa.PFnStats
