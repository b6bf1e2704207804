/- The machine's side of FnStats: each Go function, and what its call comes to. No condition. -/
import Derived.Test.YtnlgodcbnlbdkaaPFnStatsx0
import Derived.Test.YtnlgodcbnlbdkaaPFnStatsx10
import Derived.Test.YtnlgodcbnlbdkaaPFnStatsx12
import Derived.Test.YtnlgodcbnlbdkaaPFnStatsx16
import Derived.Test.YtnlgodcbnlbdkaaPFnStatsx17
import Derived.Test.YtnlgodcbnlbdkaaPFnStatsx18
namespace Go.Proofs.Ytnlgodcbnlbdkaa.PFnStats
open Go.RowKit Go.Proofs.YtnlgodcbnlbdkaaW.PrintWords Go.Proofs.YtnlgodcbnlbdkaaW.PrintLast Go.Proofs.YtnlgodcbnlbdkaaW.PrintMore Go.Proofs.YtnlgodcbnlbdkaaW.PrintMore2
attribute [local go_sem] max2_int min2_int max_two min_two max_three min_three max_four min_four
set_option linter.unusedVariables false
set_option linter.unusedSimpArgs false
set_option maxHeartbeats 8000000
set_option maxRecDepth 100000

/-! ### impl_tree_stats: function 23 -/
mutual
def impl_tree_stats.j0 : Nat → Int → Int → Bool → List (S76) → List Int → Int → Int → Int → Option (Int × Bool × Int × ByteArray × Int × ByteArray × Bool)
  | 0, _, _, _, _, _, _, _, _ => none
  | k + 1, x2, x8, x31, x1000, x1001, x795000, x795001, x795002 => if x31 = true then (some (0, false, 0, (⟨#[]⟩ : ByteArray), 0, (⟨#[]⟩ : ByteArray), false)) else ((impl_tree_find.f k x1000 x1001 x2 5).bind fun t800 => (if t800 ≥ 0 then (impl_tree_stats.j1 k x2 true x1000 x1001 x795000 x795001 x795002 x8 false 0 (⟨#[]⟩ : ByteArray) 0 (⟨#[]⟩ : ByteArray)) else ((impl_tree_find.f k x1000 x1001 x2 6).bind fun t801 => (impl_tree_stats.j1 k x2 (decide (t801 ≥ 0)) x1000 x1001 x795000 x795001 x795002 x8 false 0 (⟨#[]⟩ : ByteArray) 0 (⟨#[]⟩ : ByteArray)))))
def impl_tree_stats.j1 : Nat → Int → Bool → List (S76) → List Int → Int → Int → Int → Int → Bool → Int → ByteArray → Int → ByteArray → Option (Int × Bool × Int × ByteArray × Int × ByteArray × Bool)
  | 0, _, _, _, _, _, _, _, _, _, _, _, _, _ => none
  | k + 1, x2, x44, x1000, x1001, x795000, x795001, x795002, x800000, x800001, x800002, x800003, x800004, x800005 => if x44 = true then ((impl_tree_part.f k x1000 x1001 x2 5 8).bind fun bt802 => ((impl_tree_part.f k x1000 x1001 x2 6 8).bind fun bt809 => ((impl_valueOf.f k x795000 bt802.2.2.2.1).bind fun bt816 => ((impl_valueOf.f k x795000 bt809.2.2.2.1).bind fun bt820 => (if bt802.2.2.2.2.2 = true then (if bt809.2.2.2.2.2 = true then (if bt816.2.2 = true then (impl_tree_stats.j2 k (!bt820.2.2) x795000 x795001 x795002 x800000 x800001 x800002 x800003 x800004 x800005 bt816.1 bt816.2.1 bt820.1 bt820.2.1) else (impl_tree_stats.j2 k true x795000 x795001 x795002 x800000 x800001 x800002 x800003 x800004 x800005 bt816.1 bt816.2.1 bt820.1 bt820.2.1)) else (impl_tree_stats.j2 k true x795000 x795001 x795002 x800000 x800001 x800002 x800003 x800004 x800005 bt816.1 bt816.2.1 bt820.1 bt820.2.1)) else (impl_tree_stats.j2 k true x795000 x795001 x795002 x800000 x800001 x800002 x800003 x800004 x800005 bt816.1 bt816.2.1 bt820.1 bt820.2.1)))))) else ((impl_statsOk.f k x795000 x795001 x795002 x800000 x800001 x800002 x800003 x800004 x800005).bind fun t825 => (if t825 = true then (some (x800000, x800001, x800002, x800003, x800004, x800005, true)) else (some (0, false, 0, (⟨#[]⟩ : ByteArray), 0, (⟨#[]⟩ : ByteArray), false))))
def impl_tree_stats.j2 : Nat → Bool → Int → Int → Int → Int → Bool → Int → ByteArray → Int → ByteArray → Int → ByteArray → Int → ByteArray → Option (Int × Bool × Int × ByteArray × Int × ByteArray × Bool)
  | 0, _, _, _, _, _, _, _, _, _, _, _, _, _, _ => none
  | k + 1, x86, x795000, x795001, x795002, x800000, x800001, x800002, x800003, x800004, x800005, x820000, x820001, x824000, x824001 => if x86 = true then (some (0, false, 0, (⟨#[]⟩ : ByteArray), 0, (⟨#[]⟩ : ByteArray), false)) else ((impl_statsOk.f k x795000 x795001 x795002 x800000 true x824000 x824001 x820000 x820001).bind fun t824 => (if t824 = true then (some (x800000, true, x824000, x824001, x820000, x820001, true)) else (some (0, false, 0, (⟨#[]⟩ : ByteArray), 0, (⟨#[]⟩ : ByteArray), false))))
end
def impl_tree_stats.f (k : Nat) (s0_0 : List (S76)) (s0_1 : List Int) (a1_0 : Int) (a1_1 : Int) (a1_2 : Int) (a2 : Int) : Option (Int × Bool × Int × ByteArray × Int × ByteArray × Bool) := (impl_tree_num.f k s0_0 s0_1 a2 3).bind fun bt796 => (if bt796.2 = true then ((impl_LeafOk.f a1_0 a1_1 a1_2).bind fun t798 => (impl_tree_stats.j0 k a2 bt796.1 (!t798) s0_0 s0_1 a1_0 a1_1 a1_2)) else (impl_tree_stats.j0 k a2 bt796.1 true s0_0 s0_1 a1_0 a1_1 a1_2))
def impl_tree_stats.T12 : Bool × List (List Nat × List Nat) := (true, [([], []), ([], []), ([], []), ([2], [2]), ([0, 2, 3], []), ([4, 0, 3, 0, 2, 3], [0, 4]), ([0, 1, 2, 3, 4, 5], []), ([6, 1, 5, 0, 1, 2, 3, 4, 5], [1, 6])])
def impl_tree_stats.B12 : List Nat := [0, 0, 0, 4, 13, 29, 63, 127]
theorem impl_tree_stats.tab12 : rtab .any (opsOf Try.f23 12) = impl_tree_stats.T12 := by kernel_rfl
theorem impl_tree_stats.bits12 : waitsOk impl_tree_stats.T12.2 impl_tree_stats.B12 = true := by kernel_rfl
theorem impl_tree_stats.calls {k g : Nat} {s0_0 : List (S76)} {s0_1 : List Int} {a1_0 a1_1 a1_2 a2 r1 : Int} {r2 : Bool} {r3 : Int} {r4 : ByteArray} {r5 : Int} {r6 : ByteArray} {r7 : Bool} {w0 w : World} (hI : IsS83 w0 w g s0_0 s0_1) (hB : Below w0.heap.size w0 w) (h : impl_tree_stats.f k s0_0 s0_1 a1_0 a1_1 a1_2 a2 = some (r1, r2, r3, r4, r5, r6, r7)) :
    Calls Try.prog 23 #[.pointer (some ⟨g, 0, none⟩), .agg #[.int .i64 a1_0, .int .i64 a1_1, .int .i64 a1_2], .int .i64 a2] w fun e w' => e = .returned (.tuple #[.agg #[.int .i64 r1, .bool r2, .int .i64 r3, .string r4, .int .i64 r5, .string r6], .bool r7]) ∧ IsS83 w0 w' g s0_0 s0_1 ∧ Below w0.heap.size w0 w' ∧ KeepBut w w' g none := by
 have hu25 := Try.underlying25
 have hu32 := Try.underlying32
 have hu76 := Try.underlying76
 have hu30 := Try.underlying30
 have HI0 := am hI
 have HGE0 := am (IsS83.ge hI)
 have HK := am (KeepBut.refl w g none)
 have HL := am hB.size
 clear hI
 have HW0 := am hB.size
 have HB := am hB
 clear hB
 have H := h; clear h; unfold impl_tree_stats.f at H
 replace H := bnd2 H; obtain ⟨t796, t797, A4, H⟩ := H; dsimp only at H
 have HC5 := am H
 clear H
 go_enter Try.func23, Try.ntmps23
 go_upto_region 2 with (first | ((with_reducible refine gd 4 rfl ?_); refine IsS83.bx 4 rfl #[.int .i64 a1_0, .int .i64 a1_1, .int .i64 a1_2] 25 HI0 HK HB HW0 ?_; clear HI0 HK HB; intro gb794 w6 BK794 GW794 GE794 NB0_794 NB794_0 HI0 HK HB) | ((with_reducible refine gd 6 rfl ?_); refine IsS83.bv 6 rfl #[.int .i64 0, .bool false, .int .i64 0, .string ⟨#[]⟩, .int .i64 0, .string ⟨#[]⟩] 32 HI0 HK HB HW0 ?_; clear HI0 HK HB; intro gb795 w7 BK795 GW795 GE795 NB0_795 NB795_0 HI0 HK HB hg hb; obtain ⟨NB794_795, NB795_794⟩ := nbp (nbl BK794 hg); replace BK794 := bkb BK794 hb; clear hg hb) | ((with_reducible refine gc 43 rfl ?_); refine gcs (some 22) Try.func43 rfl (impl_tree_num.calls (IsS83.l HI0) (bL HB) A4.out) HK ?_; clear HK HB HI0; intro w8 HI0 HB HK hk; replace BK794 := kbk hk BK794 NB794_0; replace BK795 := kbo (.cells #[.int .i64 0, .bool false, .int .i64 0, .string ⟨#[]⟩, .int .i64 0, .string ⟨#[]⟩] 32 (0, 0)) hk BK795 NB795_0; clear hk))
 (try simp only [Act.put, List.setIfInBounds_toArray, List.set_cons_zero, List.set_cons_succ])
 go_cut [31] (fun v31 wc => ∃ (kq : Nat) (x31_4 : Bool), v31 = .bool x31_4 ∧ Aside0 (impl_tree_stats.j0 kq a2 t796 x31_4 s0_0 s0_1 a1_0 a1_1 a1_2 = some (r1, r2, r3, r4, r5, r6, r7)) ∧ Aside0 (kq ≤ k) ∧ Aside0 (wc.heap[gb794]? = some (.cells #[.int .i64 a1_0, .int .i64 a1_1, .int .i64 a1_2] 25 (0, 0))) ∧ Aside0 (wc.heap[gb795]? = some (.cells #[.int .i64 0, .bool false, .int .i64 0, .string ⟨#[]⟩, .int .i64 0, .string ⟨#[]⟩] 32 (0, 0))) ∧ Aside0 (IsS83 w0 wc g s0_0 s0_1) ∧ Aside0 (KeepBut w wc g none) ∧ Aside0 (Below w0.heap.size w0 wc))
 case first =>
  have H := HC5.out
  clear HC5
  replace H := ibt H; obtain ⟨rfl, H⟩ | ⟨rfl, H⟩ := H
  rotate_left
  · have H' := am H; clear H
    go_wp2
    go_meet
    case rel => exact ⟨_, (true), sr, H', ⟨by first | omega | exact Nat.le_refl _⟩, ⟨kL BK794⟩, ⟨kL BK795⟩, ⟨IsS83.l HI0⟩, ⟨pL HK⟩, ⟨bL HB⟩⟩
  replace H := bnd H; obtain ⟨t798, A10, H⟩ := H
  have H' := am H; clear H
  obtain ⟨hnb11, hnc11⟩ := nbo NB794_795
  obtain ⟨hnb12, hnc12⟩ := nbo NB794_0
  obtain ⟨_, _, _, _, _, _⟩ := cl3 BK794
  go_wp2_with (first | (go_at_call 14; (with_reducible refine (impl_LeafOk.calls A10.out).mono ?_); rintro e w14 ⟨rfl, hb⟩; replace BK794 := bkb BK794 hb; replace BK795 := bkb BK795 hb; replace HK := kbe HK hb; replace HB := bst HB hb; replace HI0 := IsS83.be HI0 hb; clear hb))
  go_meet
  case rel => exact ⟨_, (!t798), sr, H', ⟨by first | omega | exact Nat.le_refl _⟩, ⟨kL BK794⟩, ⟨kL BK795⟩, ⟨IsS83.l HI0⟩, ⟨pL HK⟩, ⟨bL HB⟩⟩
 clear HC5
 obtain ⟨kq, x31_4, rfl, HA, HJ4, BK794, BK795, HI0, HK, HB⟩ := hcut
 cases kq with
 | zero => exact absurd HA.out (by simp [impl_tree_stats.j0])
 | succ kj4 => ?_
 have H := HA.out
 clear HA
 simp only [impl_tree_stats.j0] at H
 replace H := ibt H; obtain ⟨rfl, H⟩ | ⟨rfl, H⟩ := H
 · replace H := sj7 H; obtain ⟨rfl, rfl, rfl, rfl, rfl, rfl, rfl⟩ := H
   obtain ⟨hnb16, hnc16⟩ := nbo NB795_794
   obtain ⟨hnb17, hnc17⟩ := nbo NB795_0
   obtain ⟨_, _, _, _, _, _, _, _, _, _, _, _⟩ := cl6 BK795
   go_wp2
   refine bodyPost_ret (results_ct rfl _ _ gb795 32 #[.int .i64 0, .bool false, .int .i64 0, .string ⟨#[]⟩, .int .i64 0, .string ⟨#[]⟩] (0, 0) _ rfl (kL BK795) Try.underlying32 rfl (by kernel_rfl)) rfl ?_
   exact fin_ ⟨IsS83.l HI0, bL HB, pL HK⟩
 have HC19 := am H
 clear H
 go_upto_region 5 with (first | ((with_reducible refine gd 10 rfl ?_); refine IsS83.bv 10 rfl #[.int .i64 0, .bool false, .int .i64 0, .string ⟨#[]⟩, .int .i64 0, .string ⟨#[]⟩] 32 HI0 HK HB HW0 ?_; clear HI0 HK HB; intro gb799 w20 BK799 GW799 GE799 NB0_799 NB799_0 HI0 HK HB hg hb; obtain ⟨NB794_799, NB799_794⟩ := nbp (nbl BK794 hg); obtain ⟨NB795_799, NB799_795⟩ := nbp (nbl BK795 hg); replace BK794 := bkb BK794 hb; replace BK795 := bkb BK795 hb; clear hg hb; obtain ⟨hnb21, hnc21⟩ := nbo NB799_794; obtain ⟨hnb22, hnc22⟩ := nbo NB799_795; obtain ⟨hnb23, hnc23⟩ := nbo NB799_0; obtain ⟨hcz24_0, hcz24_1, hcz24_2, hcz24_3, hcz24_4, hcz24_5, hfz24_0, hfz24_1, hfz24_2, hfz24_3, hfz24_4, hfz24_5⟩ := cl6 BK799))
 (try simp only [Act.put, List.setIfInBounds_toArray, List.set_cons_zero, List.set_cons_succ])
 go_cut [44] (fun v44 wc => ∃ (kq : Nat) (x44_18 : Bool), v44 = .bool x44_18 ∧ Aside0 (impl_tree_stats.j1 kq a2 x44_18 s0_0 s0_1 a1_0 a1_1 a1_2 t796 false 0 (⟨#[]⟩ : ByteArray) 0 (⟨#[]⟩ : ByteArray) = some (r1, r2, r3, r4, r5, r6, r7)) ∧ Aside0 (kq ≤ kj4) ∧ Aside0 (wc.heap[gb794]? = some (.cells #[.int .i64 a1_0, .int .i64 a1_1, .int .i64 a1_2] 25 (0, 0))) ∧ Aside0 (wc.heap[gb795]? = some (.cells #[.int .i64 0, .bool false, .int .i64 0, .string ⟨#[]⟩, .int .i64 0, .string ⟨#[]⟩] 32 (0, 0))) ∧ Aside0 (wc.heap[gb799]? = some (.cells #[.int .i64 t796, .bool false, .int .i64 0, .string ⟨#[]⟩, .int .i64 0, .string ⟨#[]⟩] 32 (0, 0))) ∧ Aside0 (IsS83 w0 wc g s0_0 s0_1) ∧ Aside0 (KeepBut w wc g none) ∧ Aside0 (Below w0.heap.size w0 wc))
 case first =>
  have H := HC19.out
  clear HC19
  replace H := bnd H; obtain ⟨t800, A25, H⟩ := H
  replace H := ige H; obtain ⟨c26b0, H⟩ | ⟨c26b0, H⟩ := H
  · (first | rw [c26b0] | (simp only [i64_w, i32_w]; rw [c26b0]) | skip)
    have H' := am H; clear H
    go_wp2_with (first | ((with_reducible refine gc 44 rfl ?_); refine gcs (some 37) Try.func44 rfl (impl_tree_find.calls (IsS83.l HI0) (bL HB) A25.out) HK ?_; clear HK HB HI0; intro w27 HI0 HB HK hk; replace BK794 := kbk hk BK794 NB794_0; replace BK795 := kbo (.cells #[.int .i64 0, .bool false, .int .i64 0, .string ⟨#[]⟩, .int .i64 0, .string ⟨#[]⟩] 32 (0, 0)) hk BK795 NB795_0; replace BK799 := kbo (.cells #[.int .i64 t796, .bool false, .int .i64 0, .string ⟨#[]⟩, .int .i64 0, .string ⟨#[]⟩] 32 (0, 0)) hk BK799 NB799_0; clear hk))
    go_meet
    case rel => exact ⟨_, (true), sr, H', ⟨by have := HJ4.out; first | omega | exact Nat.le_refl _⟩, ⟨kL BK794⟩, ⟨kL BK795⟩, ⟨kL BK799⟩, ⟨IsS83.l HI0⟩, ⟨pL HK⟩, ⟨bL HB⟩⟩
  (first | rw [c26b0] | (simp only [i64_w, i32_w]; rw [c26b0]) | skip)
  replace H := bnd H; obtain ⟨t801, A28, H⟩ := H
  have H' := am H; clear H
  go_wp2_with (first | ((with_reducible refine gc 44 rfl ?_); refine gcs (some 37) Try.func44 rfl (impl_tree_find.calls (IsS83.l HI0) (bL HB) A25.out) HK ?_; clear HK HB HI0; intro w29 HI0 HB HK hk; replace BK794 := kbk hk BK794 NB794_0; replace BK795 := kbo (.cells #[.int .i64 0, .bool false, .int .i64 0, .string ⟨#[]⟩, .int .i64 0, .string ⟨#[]⟩] 32 (0, 0)) hk BK795 NB795_0; replace BK799 := kbo (.cells #[.int .i64 t796, .bool false, .int .i64 0, .string ⟨#[]⟩, .int .i64 0, .string ⟨#[]⟩] 32 (0, 0)) hk BK799 NB799_0; clear hk) | (go_at_call 44; (with_reducible refine (impl_tree_find.calls (w0 := w0) ?side1 ?side2 A28.out).mono ?_); (case side1 => exact IsS83.l HI0); (case side2 => exact bL HB); rintro e w30 ⟨rfl, hi, hb, hk⟩; replace BK794 := kbk hk BK794 NB794_0; replace BK795 := kbo (.cells #[.int .i64 0, .bool false, .int .i64 0, .string ⟨#[]⟩, .int .i64 0, .string ⟨#[]⟩] 32 (0, 0)) hk BK795 NB795_0; replace BK799 := kbo (.cells #[.int .i64 t796, .bool false, .int .i64 0, .string ⟨#[]⟩, .int .i64 0, .string ⟨#[]⟩] 32 (0, 0)) hk BK799 NB799_0; replace HK := ktr HK hk; replace HB := am hb; replace HI0 := am hi; clear hb hk hi))
  go_meet
  case rel => exact ⟨_, (decide (t801 ≥ 0)), sr, H', ⟨by have := HJ4.out; first | omega | exact Nat.le_refl _⟩, ⟨kL BK794⟩, ⟨kL BK795⟩, ⟨kL BK799⟩, ⟨IsS83.l HI0⟩, ⟨pL HK⟩, ⟨bL HB⟩⟩
 clear HC19
 try clear c15 hcz24_0 hcz24_1 hcz24_2 hcz24_3 hcz24_4 hcz24_5 hfz24_0 hfz24_1 hfz24_2 hfz24_3 hfz24_4 hfz24_5
 obtain ⟨kq, x44_18, rfl, HA, HJ18, BK794, BK795, BK799, HI0, HK, HB⟩ := hcut
 cases kq with
 | zero => exact absurd HA.out (by simp [impl_tree_stats.j1])
 | succ kj18 => ?_
 have H := HA.out
 clear HA
 simp only [impl_tree_stats.j1] at H
 replace H := ibt H; obtain ⟨rfl, H⟩ | ⟨rfl, H⟩ := H
 rotate_left
 · replace H := bnd H; obtain ⟨t825, A149, H⟩ := H
   replace H := ibt H; obtain ⟨rfl, H⟩ | ⟨rfl, H⟩ := H
   rotate_left
   · replace H := sj7 H; obtain ⟨rfl, rfl, rfl, rfl, rfl, rfl, rfl⟩ := H
     obtain ⟨hnb162, hnc162⟩ := nbo NB794_795
     obtain ⟨hnb163, hnc163⟩ := nbo NB794_799
     obtain ⟨hnb164, hnc164⟩ := nbo NB794_0
     obtain ⟨_, _, _, _, _, _⟩ := cl3 BK794
     obtain ⟨hnb166, hnc166⟩ := nbo NB799_795
     obtain ⟨hnb167, hnc167⟩ := nbo NB799_0
     obtain ⟨_, _, _, _, _, _, _, _, _, _, _, _⟩ := cl6 BK799
     go_wp2_with (first | ((with_reducible refine gc 20 rfl ?_); refine gc1 (some 95) Try.func20 rfl (impl_statsOk.calls A149.out) ?_; rintro w169 hb; replace BK794 := bkb BK794 hb; replace BK795 := bkb BK795 hb; replace BK799 := bkb BK799 hb; replace HK := kbe HK hb; replace HB := bst HB hb; replace HI0 := IsS83.be HI0 hb; clear hb; obtain ⟨hnb170, hnc170⟩ := nbo NB795_0; obtain ⟨_, _, _, _, _, _, _, _, _, _, _, _⟩ := cl6 BK795))
     refine bodyPost_ret (results_ct rfl _ _ gb795 32 #[.int .i64 0, .bool false, .int .i64 0, .string ⟨#[]⟩, .int .i64 0, .string ⟨#[]⟩] (0, 0) _ rfl (kL BK795) Try.underlying32 rfl (by kernel_rfl)) rfl ?_
     exact fin_ ⟨IsS83.l HI0, bL HB, pL HK⟩
   replace H := sj7 H; obtain ⟨rfl, rfl, rfl, rfl, rfl, rfl, rfl⟩ := H
   obtain ⟨hnb151, hnc151⟩ := nbo NB794_795
   obtain ⟨hnb152, hnc152⟩ := nbo NB794_799
   obtain ⟨hnb153, hnc153⟩ := nbo NB794_0
   obtain ⟨_, _, _, _, _, _⟩ := cl3 BK794
   obtain ⟨hnb155, hnc155⟩ := nbo NB799_795
   obtain ⟨hnb156, hnc156⟩ := nbo NB799_0
   obtain ⟨_, _, _, _, _, _, _, _, _, _, _, _⟩ := cl6 BK799
   go_wp2_with (first | ((with_reducible refine gc 20 rfl ?_); refine gc1 (some 95) Try.func20 rfl (impl_statsOk.calls A149.out) ?_; rintro w158 hb; replace BK794 := bkb BK794 hb; replace BK795 := bkb BK795 hb; replace BK799 := bkb BK799 hb; replace HK := kbe HK hb; replace HB := bst HB hb; replace HI0 := IsS83.be HI0 hb; clear hb; obtain ⟨_, _, _, _, _, _, _, _, _, _, _, _⟩ := cl6 BK799; obtain ⟨hnb160, hnc160⟩ := nbo NB795_0; obtain ⟨_, _, _, _, _, _, _, _, _, _, _, _⟩ := cl6 BK795))
   refine bodyPost_ret (results_ct rfl _ _ gb795 32 #[.int .i64 t796, .bool false, .int .i64 0, .string ⟨#[]⟩, .int .i64 0, .string ⟨#[]⟩] (0, 0) _ rfl (kL BK795) Try.underlying32 rfl (by kernel_rfl)) rfl ?_
   exact fin_ ⟨IsS83.l HI0, bL HB, pL HK⟩
 replace H := bnd6 H; obtain ⟨t802, t803, t804, t805, t806, t807, A32, H⟩ := H; dsimp only at H
 replace H := bnd6 H; obtain ⟨t809, t810, t811, t812, t813, t814, A33, H⟩ := H; dsimp only at H
 replace H := bnd3 H; obtain ⟨t816, t817, t818, A34, H⟩ := H; dsimp only at H
 replace H := bnd3 H; obtain ⟨t820, t821, t822, A35, H⟩ := H; dsimp only at H
 have HC36 := am H
 clear H
 go_upto_region 10 with (first | ((with_reducible refine gc 45 rfl ?_); refine gcs (some 48) Try.func45 rfl (impl_tree_part.calls (IsS83.l HI0) (bL HB) A32.out) HK ?_; clear HK HB HI0; intro w37 HI0 HB HK hk; replace BK794 := kbk hk BK794 NB794_0; replace BK795 := kbo (.cells #[.int .i64 0, .bool false, .int .i64 0, .string ⟨#[]⟩, .int .i64 0, .string ⟨#[]⟩] 32 (0, 0)) hk BK795 NB795_0; replace BK799 := kbo (.cells #[.int .i64 t796, .bool false, .int .i64 0, .string ⟨#[]⟩, .int .i64 0, .string ⟨#[]⟩] 32 (0, 0)) hk BK799 NB799_0; clear hk) | ((with_reducible refine gd 11 rfl ?_); refine IsS83.bv 11 rfl #[.int .i64 0, .int .i64 0, .int .i64 0, .string ⟨#[]⟩, .int .i64 0] 76 HI0 HK HB HW0 ?_; clear HI0 HK HB; intro gb808 w38 BK808 GW808 GE808 NB0_808 NB808_0 HI0 HK HB hg hb; obtain ⟨NB794_808, NB808_794⟩ := nbp (nbl BK794 hg); obtain ⟨NB795_808, NB808_795⟩ := nbp (nbl BK795 hg); obtain ⟨NB799_808, NB808_799⟩ := nbp (nbl BK799 hg); replace BK794 := bkb BK794 hb; replace BK795 := bkb BK795 hb; replace BK799 := bkb BK799 hb; clear hg hb; obtain ⟨hnb39, hnc39⟩ := nbo NB808_794; obtain ⟨hnb40, hnc40⟩ := nbo NB808_795; obtain ⟨hnb41, hnc41⟩ := nbo NB808_799; obtain ⟨hnb42, hnc42⟩ := nbo NB808_0; obtain ⟨hcz43_0, hcz43_1, hcz43_2, hcz43_3, hcz43_4, hfz43_0, hfz43_1, hfz43_2, hfz43_3, hfz43_4⟩ := cl5 BK808) | ((with_reducible refine gc 45 rfl ?_); refine gcs (some 54) Try.func45 rfl (impl_tree_part.calls (IsS83.l HI0) (bL HB) A33.out) HK ?_; clear HK HB HI0; intro w44 HI0 HB HK hk; replace BK794 := kbk hk BK794 NB794_0; replace BK795 := kbo (.cells #[.int .i64 0, .bool false, .int .i64 0, .string ⟨#[]⟩, .int .i64 0, .string ⟨#[]⟩] 32 (0, 0)) hk BK795 NB795_0; replace BK799 := kbo (.cells #[.int .i64 t796, .bool false, .int .i64 0, .string ⟨#[]⟩, .int .i64 0, .string ⟨#[]⟩] 32 (0, 0)) hk BK799 NB799_0; replace BK808 := kbo (.cells #[.int .i64 t802, .int .i64 t803, .int .i64 t804, .string t805, .int .i64 t806] 76 (0, 0)) hk BK808 NB808_0; clear hk) | ((with_reducible refine gd 13 rfl ?_); refine IsS83.bv 13 rfl #[.int .i64 0, .int .i64 0, .int .i64 0, .string ⟨#[]⟩, .int .i64 0] 76 HI0 HK HB HW0 ?_; clear HI0 HK HB; intro gb815 w45 BK815 GW815 GE815 NB0_815 NB815_0 HI0 HK HB hg hb; obtain ⟨NB794_815, NB815_794⟩ := nbp (nbl BK794 hg); obtain ⟨NB795_815, NB815_795⟩ := nbp (nbl BK795 hg); obtain ⟨NB799_815, NB815_799⟩ := nbp (nbl BK799 hg); obtain ⟨NB808_815, NB815_808⟩ := nbp (nbl BK808 hg); replace BK794 := bkb BK794 hb; replace BK795 := bkb BK795 hb; replace BK799 := bkb BK799 hb; replace BK808 := bkb BK808 hb; clear hg hb; obtain ⟨hnb46, hnc46⟩ := nbo NB815_794; obtain ⟨hnb47, hnc47⟩ := nbo NB815_795; obtain ⟨hnb48, hnc48⟩ := nbo NB815_799; obtain ⟨hnb49, hnc49⟩ := nbo NB815_808; obtain ⟨hnb50, hnc50⟩ := nbo NB815_0; obtain ⟨hcz51_0, hcz51_1, hcz51_2, hcz51_3, hcz51_4, hfz51_0, hfz51_1, hfz51_2, hfz51_3, hfz51_4⟩ := cl5 BK815; obtain ⟨hnb52, hnc52⟩ := nbo NB794_795; obtain ⟨hnb53, hnc53⟩ := nbo NB794_799; obtain ⟨hnb54, hnc54⟩ := nbo NB794_0; obtain ⟨hcz55_0, hcz55_1, hcz55_2, hfz55_0, hfz55_1, hfz55_2⟩ := cl3 BK794; obtain ⟨hcz56_0, hcz56_1, hcz56_2, hcz56_3, hcz56_4, hfz56_0, hfz56_1, hfz56_2, hfz56_3, hfz56_4⟩ := cl5 BK808) | ((with_reducible refine gc 46 rfl ?_); refine gc1 (some 62) Try.func46 rfl (impl_valueOf.calls A34.out) ?_; rintro w57 hb; replace BK794 := bkb BK794 hb; replace BK795 := bkb BK795 hb; replace BK799 := bkb BK799 hb; replace BK808 := bkb BK808 hb; replace BK815 := am (blk_below (g := gb815) (o := .cells #[.int .i64 t809, .int .i64 t810, .int .i64 t811, .string t812, .int .i64 t813] 76 (0, 0)) (blk_later BK815.out) hb); replace HK := kbe HK hb; replace HB := bst HB hb; replace HI0 := am (IsS83.below (show IsS83 w0 (((((w45.setCell ⟨gb815, 0, none⟩ (.int .i64 t809)).setCell ⟨gb815, 1, none⟩ (.int .i64 t810)).setCell ⟨gb815, 2, none⟩ (.int .i64 t811)).setCell ⟨gb815, 3, none⟩ (.string t812)).setCell ⟨gb815, 4, none⟩ (.int .i64 t813)) g s0_0 s0_1 from IsS83.l HI0) hb); clear hb) | ((with_reducible refine gd 15 rfl ?_); refine IsS83.bv 15 rfl #[.int .i64 0, .string ⟨#[]⟩] 30 HI0 HK HB HW0 ?_; clear HI0 HK HB; intro gb819 w58 BK819 GW819 GE819 NB0_819 NB819_0 HI0 HK HB hg hb; obtain ⟨NB794_819, NB819_794⟩ := nbp (nbl BK794 hg); obtain ⟨NB795_819, NB819_795⟩ := nbp (nbl BK795 hg); obtain ⟨NB799_819, NB819_799⟩ := nbp (nbl BK799 hg); obtain ⟨NB808_819, NB819_808⟩ := nbp (nbl BK808 hg); obtain ⟨NB815_819, NB819_815⟩ := nbp (nbl BK815 hg); replace BK794 := bkb BK794 hb; replace BK795 := bkb BK795 hb; replace BK799 := bkb BK799 hb; replace BK808 := bkb BK808 hb; replace BK815 := bkb BK815 hb; clear hg hb; obtain ⟨hnb59, hnc59⟩ := nbo NB819_794; obtain ⟨hnb60, hnc60⟩ := nbo NB819_795; obtain ⟨hnb61, hnc61⟩ := nbo NB819_799; obtain ⟨hnb62, hnc62⟩ := nbo NB819_808; obtain ⟨hnb63, hnc63⟩ := nbo NB819_815; obtain ⟨hnb64, hnc64⟩ := nbo NB819_0; obtain ⟨hcz65_0, hcz65_1, hfz65_0, hfz65_1⟩ := cl2 BK819; obtain ⟨hcz66_0, hcz66_1, hcz66_2, hfz66_0, hfz66_1, hfz66_2⟩ := cl3 BK794; obtain ⟨hcz67_0, hcz67_1, hcz67_2, hcz67_3, hcz67_4, hfz67_0, hfz67_1, hfz67_2, hfz67_3, hfz67_4⟩ := cl5 BK815) | ((with_reducible refine gc 46 rfl ?_); refine gc1 (some 70) Try.func46 rfl (impl_valueOf.calls A35.out) ?_; rintro w68 hb; replace BK794 := bkb BK794 hb; replace BK795 := bkb BK795 hb; replace BK799 := bkb BK799 hb; replace BK808 := bkb BK808 hb; replace BK815 := bkb BK815 hb; replace BK819 := am (blk_below (g := gb819) (o := .cells #[.int .i64 t816, .string t817] 30 (0, 0)) (blk_later BK819.out) hb); replace HK := kbe HK hb; replace HB := bst HB hb; replace HI0 := am (IsS83.below (show IsS83 w0 ((w58.setCell ⟨gb819, 0, none⟩ (.int .i64 t816)).setCell ⟨gb819, 1, none⟩ (.string t817)) g s0_0 s0_1 from IsS83.l HI0) hb); clear hb) | ((with_reducible refine gd 17 rfl ?_); refine IsS83.bv 17 rfl #[.int .i64 0, .string ⟨#[]⟩] 30 HI0 HK HB HW0 ?_; clear HI0 HK HB; intro gb823 w69 BK823 GW823 GE823 NB0_823 NB823_0 HI0 HK HB hg hb; obtain ⟨NB794_823, NB823_794⟩ := nbp (nbl BK794 hg); obtain ⟨NB795_823, NB823_795⟩ := nbp (nbl BK795 hg); obtain ⟨NB799_823, NB823_799⟩ := nbp (nbl BK799 hg); obtain ⟨NB808_823, NB823_808⟩ := nbp (nbl BK808 hg); obtain ⟨NB815_823, NB823_815⟩ := nbp (nbl BK815 hg); obtain ⟨NB819_823, NB823_819⟩ := nbp (nbl BK819 hg); replace BK794 := bkb BK794 hb; replace BK795 := bkb BK795 hb; replace BK799 := bkb BK799 hb; replace BK808 := bkb BK808 hb; replace BK815 := bkb BK815 hb; replace BK819 := bkb BK819 hb; clear hg hb; obtain ⟨hnb70, hnc70⟩ := nbo NB823_794; obtain ⟨hnb71, hnc71⟩ := nbo NB823_795; obtain ⟨hnb72, hnc72⟩ := nbo NB823_799; obtain ⟨hnb73, hnc73⟩ := nbo NB823_808; obtain ⟨hnb74, hnc74⟩ := nbo NB823_815; obtain ⟨hnb75, hnc75⟩ := nbo NB823_819; obtain ⟨hnb76, hnc76⟩ := nbo NB823_0; obtain ⟨hcz77_0, hcz77_1, hfz77_0, hfz77_1⟩ := cl2 BK823))
 (try simp only [Act.put, List.setIfInBounds_toArray, List.set_cons_zero, List.set_cons_succ])
 go_cut [86] (fun v86 wc => ∃ (kq : Nat) (x86_35 : Bool), v86 = .bool x86_35 ∧ Aside0 (impl_tree_stats.j2 kq x86_35 a1_0 a1_1 a1_2 t796 false 0 (⟨#[]⟩ : ByteArray) 0 (⟨#[]⟩ : ByteArray) t816 t817 t820 t821 = some (r1, r2, r3, r4, r5, r6, r7)) ∧ Aside0 (kq ≤ kj18) ∧ Aside0 (wc.heap[gb794]? = some (.cells #[.int .i64 a1_0, .int .i64 a1_1, .int .i64 a1_2] 25 (0, 0))) ∧ Aside0 (wc.heap[gb795]? = some (.cells #[.int .i64 0, .bool false, .int .i64 0, .string ⟨#[]⟩, .int .i64 0, .string ⟨#[]⟩] 32 (0, 0))) ∧ Aside0 (wc.heap[gb799]? = some (.cells #[.int .i64 t796, .bool false, .int .i64 0, .string ⟨#[]⟩, .int .i64 0, .string ⟨#[]⟩] 32 (0, 0))) ∧ Aside0 (wc.heap[gb808]? = some (.cells #[.int .i64 t802, .int .i64 t803, .int .i64 t804, .string t805, .int .i64 t806] 76 (0, 0))) ∧ Aside0 (wc.heap[gb815]? = some (.cells #[.int .i64 t809, .int .i64 t810, .int .i64 t811, .string t812, .int .i64 t813] 76 (0, 0))) ∧ Aside0 (wc.heap[gb819]? = some (.cells #[.int .i64 t816, .string t817] 30 (0, 0))) ∧ Aside0 (wc.heap[gb823]? = some (.cells #[.int .i64 t820, .string t821] 30 (0, 0))) ∧ Aside0 (IsS83 w0 wc g s0_0 s0_1) ∧ Aside0 (KeepBut w wc g none) ∧ Aside0 (Below w0.heap.size w0 wc))
 case first =>
  have H := HC36.out
  clear HC36
  replace H := ibt H; obtain ⟨rfl, H⟩ | ⟨rfl, H⟩ := H
  rotate_left
  · have H' := am H; clear H
    go_wp2
    go_meet
    case rel => exact ⟨_, (true), sr, H', ⟨by have := HJ4.out; have := HJ18.out; first | omega | exact Nat.le_refl _⟩, ⟨kL BK794⟩, ⟨kL BK795⟩, ⟨kL BK799⟩, ⟨kL BK808⟩, ⟨kL BK815⟩, ⟨kL BK819⟩, ⟨kL BK823⟩, ⟨IsS83.l HI0⟩, ⟨pL HK⟩, ⟨bL HB⟩⟩
  replace H := ibt H; obtain ⟨rfl, H⟩ | ⟨rfl, H⟩ := H
  rotate_left
  · have H' := am H; clear H
    go_wp2
    go_meet
    case rel => exact ⟨_, (true), sr, H', ⟨by have := HJ4.out; have := HJ18.out; first | omega | exact Nat.le_refl _⟩, ⟨kL BK794⟩, ⟨kL BK795⟩, ⟨kL BK799⟩, ⟨kL BK808⟩, ⟨kL BK815⟩, ⟨kL BK819⟩, ⟨kL BK823⟩, ⟨IsS83.l HI0⟩, ⟨pL HK⟩, ⟨bL HB⟩⟩
  replace H := ibt H; obtain ⟨rfl, H⟩ | ⟨rfl, H⟩ := H
  rotate_left
  · have H' := am H; clear H
    go_wp2
    go_meet
    case rel => exact ⟨_, (true), sr, H', ⟨by have := HJ4.out; have := HJ18.out; first | omega | exact Nat.le_refl _⟩, ⟨kL BK794⟩, ⟨kL BK795⟩, ⟨kL BK799⟩, ⟨kL BK808⟩, ⟨kL BK815⟩, ⟨kL BK819⟩, ⟨kL BK823⟩, ⟨IsS83.l HI0⟩, ⟨pL HK⟩, ⟨bL HB⟩⟩
  have H' := am H; clear H
  go_wp2
  go_meet
  case rel => exact ⟨_, (!t822), sr, H', ⟨by have := HJ4.out; have := HJ18.out; first | omega | exact Nat.le_refl _⟩, ⟨kL BK794⟩, ⟨kL BK795⟩, ⟨kL BK799⟩, ⟨kL BK808⟩, ⟨kL BK815⟩, ⟨kL BK819⟩, ⟨kL BK823⟩, ⟨IsS83.l HI0⟩, ⟨pL HK⟩, ⟨bL HB⟩⟩
 clear HC36
 try clear c15 c31 hcz24_0 hcz24_1 hcz24_2 hcz24_3 hcz24_4 hcz24_5 hcz43_0 hcz43_1 hcz43_2 hcz43_3 hcz43_4 hcz51_0 hcz51_1 hcz51_2 hcz51_3 hcz51_4 hcz55_0 hcz55_1 hcz55_2 hcz56_0 hcz56_1 hcz56_2 hcz56_3 hcz56_4 hcz65_0 hcz65_1 hcz66_0 hcz66_1 hcz66_2 hcz67_0 hcz67_1 hcz67_2 hcz67_3 hcz67_4 hcz77_0 hcz77_1 hfz24_0 hfz24_1 hfz24_2 hfz24_3 hfz24_4 hfz24_5 hfz43_0 hfz43_1 hfz43_2 hfz43_3 hfz43_4 hfz51_0 hfz51_1 hfz51_2 hfz51_3 hfz51_4 hfz55_0 hfz55_1 hfz55_2 hfz56_0 hfz56_1 hfz56_2 hfz56_3 hfz56_4 hfz65_0 hfz65_1 hfz66_0 hfz66_1 hfz66_2 hfz67_0 hfz67_1 hfz67_2 hfz67_3 hfz67_4 hfz77_0 hfz77_1
 obtain ⟨kq, x86_35, rfl, HA, HJ35, BK794, BK795, BK799, BK808, BK815, BK819, BK823, HI0, HK, HB⟩ := hcut
 cases kq with
 | zero => exact absurd HA.out (by simp [impl_tree_stats.j2])
 | succ kj35 => ?_
 have H := HA.out
 clear HA
 simp only [impl_tree_stats.j2] at H
 replace H := ibt H; obtain ⟨rfl, H⟩ | ⟨rfl, H⟩ := H
 · replace H := sj7 H; obtain ⟨rfl, rfl, rfl, rfl, rfl, rfl, rfl⟩ := H
   obtain ⟨hnb82, hnc82⟩ := nbo NB795_794
   obtain ⟨hnb83, hnc83⟩ := nbo NB795_799
   obtain ⟨hnb84, hnc84⟩ := nbo NB795_808
   obtain ⟨hnb85, hnc85⟩ := nbo NB795_815
   obtain ⟨hnb86, hnc86⟩ := nbo NB795_819
   obtain ⟨hnb87, hnc87⟩ := nbo NB795_823
   obtain ⟨hnb88, hnc88⟩ := nbo NB795_0
   obtain ⟨_, _, _, _, _, _, _, _, _, _, _, _⟩ := cl6 BK795
   go_wp2
   refine bodyPost_ret (results_ct rfl _ _ gb795 32 #[.int .i64 0, .bool false, .int .i64 0, .string ⟨#[]⟩, .int .i64 0, .string ⟨#[]⟩] (0, 0) _ rfl (kL BK795) Try.underlying32 rfl (by kernel_rfl)) rfl ?_
   exact fin_ ⟨IsS83.l HI0, bL HB, pL HK⟩
 replace H := bnd H; obtain ⟨t824, A90, H⟩ := H
 replace H := ibt H; obtain ⟨rfl, H⟩ | ⟨rfl, H⟩ := H
 · replace H := sj7 H; obtain ⟨rfl, rfl, rfl, rfl, rfl, rfl, rfl⟩ := H
   try go_wp2
   replace BK794 := bdr BK794
   replace BK795 := bdr BK795
   replace BK799 := bdr BK799
   replace BK808 := bdr BK808
   replace BK815 := bdr BK815
   replace BK819 := bdr BK819
   replace BK823 := bdr BK823
   replace HI0 := am (IsS83.drew HI0.out)
   replace HK := am (keep_drew HK.out)
   replace HB := bld HB
   refine start_ (n := 8) (S := fun w' => w'.cell? ⟨gb819, 0, none⟩ = some (.int .i64 t816) ∧ w'.cell? ⟨gb819, 1, none⟩ = some (.string t817) ∧ w'.cell? ⟨gb823, 0, none⟩ = some (.int .i64 t820) ∧ w'.cell? ⟨gb823, 1, none⟩ = some (.string t821)) (ds := []) #[false, false, false, false, false, false, false, false] (by kernel_rfl) rfl rfl ⟨bcl BK819 0, bcl BK819 1, bcl BK823 0, bcl BK823 1⟩ (fun hHeld => ?_); refine with_tabW impl_tree_stats.tab12 impl_tree_stats.bits12 (fun HT_ HW_ => ?_)
   generalize wc.drew = w92 at BK794 BK795 BK799 BK808 BK815 BK819 BK823 HI0 HK HB hHeld ⊢
   refine pu_ 2 90 ?_; refine tk_ 0 88 hHeld ?_; refine tk_ 1 89 hHeld ?_
   refine one_ (i := 3) (N := none) #[true, true, true, true, false, false, false, false] rfl rfl (one_of HT_.out (by kernel_rfl)) (by decide) (fun K hK => ?_)
   have hs93 : w92.cell? ⟨gb799, 1, none⟩ = some (.bool false) := bcl BK799 1
   have hfs93 := blk_frozen BK799.out 1
   have hns93_0 := NB794_799.out
   have hns93_1 := NB795_799.out
   have hns93_3 := NB808_799.out
   have hns93_4 := NB815_799.out
   have hns93_5 := NB819_799.out
   have hns93_6 := NB823_799.out
   have hms93_0 := NB799_794.out
   have hms93_1 := NB799_795.out
   have hms93_3 := NB799_808.out
   have hms93_4 := NB799_815.out
   have hms93_5 := NB799_819.out
   have hms93_6 := NB799_823.out
   refine skip_ (w1 := ?_) (by rfl) rfl ?_ ?_
   rotate_left
   · go_simp
     rfl
   refine hK.out _ _ ⟨((cell_far (p := ⟨gb799, _, none⟩) NB819_799.out _).trans (hHeld.1)), ((cell_far (p := ⟨gb799, _, none⟩) NB819_799.out _).trans (hHeld.2.1)), ((cell_far (p := ⟨gb799, _, none⟩) NB823_799.out _).trans (hHeld.2.2.1)), ((cell_far (p := ⟨gb799, _, none⟩) NB823_799.out _).trans (hHeld.2.2.2))⟩ (fun hHeld => ?_)
   clear hK K
   refine pu_ 4 91 ?_
   refine one_ (i := 5) (N := none) #[true, true, true, true, true, true, false, false] rfl rfl (one_of HT_.out (by kernel_rfl)) (by decide) (fun K hK => ?_)
   have hs94 : w92.cell? ⟨gb799, 4, none⟩ = some (.int .i64 0) := bcl BK799 4
   have hfs94 := blk_frozen BK799.out 4
   have hns94_0 := NB794_799.out
   have hns94_1 := NB795_799.out
   have hns94_3 := NB808_799.out
   have hns94_4 := NB815_799.out
   have hns94_5 := NB819_799.out
   have hns94_6 := NB823_799.out
   have hms94_0 := NB799_794.out
   have hms94_1 := NB799_795.out
   have hms94_3 := NB799_808.out
   have hms94_4 := NB799_815.out
   have hms94_5 := NB799_819.out
   have hms94_6 := NB799_823.out
   have hs95 : w92.cell? ⟨gb799, 5, none⟩ = some (.string ⟨#[]⟩) := bcl BK799 5
   have hfs95 := blk_frozen BK799.out 5
   have hns95_0 := NB794_799.out
   have hns95_1 := NB795_799.out
   have hns95_3 := NB808_799.out
   have hns95_4 := NB815_799.out
   have hns95_5 := NB819_799.out
   have hns95_6 := NB823_799.out
   have hms95_0 := NB799_794.out
   have hms95_1 := NB799_795.out
   have hms95_3 := NB799_808.out
   have hms95_4 := NB799_815.out
   have hms95_5 := NB799_819.out
   have hms95_6 := NB799_823.out
   refine skip_ (w1 := ?_) (by rfl) rfl ?_ ?_
   rotate_left
   · go_simp
     rfl
   refine hK.out _ _ ⟨((cell_far (p := ⟨gb799, _, none⟩) NB819_799.out _).trans (((cell_far (p := ⟨gb799, _, none⟩) NB819_799.out _).trans (hHeld.1)))), ((cell_far (p := ⟨gb799, _, none⟩) NB819_799.out _).trans (((cell_far (p := ⟨gb799, _, none⟩) NB819_799.out _).trans (hHeld.2.1)))), ((cell_far (p := ⟨gb799, _, none⟩) NB823_799.out _).trans (((cell_far (p := ⟨gb799, _, none⟩) NB823_799.out _).trans (hHeld.2.2.1)))), ((cell_far (p := ⟨gb799, _, none⟩) NB823_799.out _).trans (((cell_far (p := ⟨gb799, _, none⟩) NB823_799.out _).trans (hHeld.2.2.2))))⟩ (fun hHeld => ?_)
   clear hK K
   refine pu_ 6 92 ?_
   refine one_ (i := 7) (N := none) #[true, true, true, true, true, true, true, true] rfl rfl (one_of HT_.out (by kernel_rfl)) (by decide) (fun K hK => ?_)
   have hs96 : w92.cell? ⟨gb799, 2, none⟩ = some (.int .i64 0) := bcl BK799 2
   have hfs96 := blk_frozen BK799.out 2
   have hns96_0 := NB794_799.out
   have hns96_1 := NB795_799.out
   have hns96_3 := NB808_799.out
   have hns96_4 := NB815_799.out
   have hns96_5 := NB819_799.out
   have hns96_6 := NB823_799.out
   have hms96_0 := NB799_794.out
   have hms96_1 := NB799_795.out
   have hms96_3 := NB799_808.out
   have hms96_4 := NB799_815.out
   have hms96_5 := NB799_819.out
   have hms96_6 := NB799_823.out
   have hs97 : w92.cell? ⟨gb799, 3, none⟩ = some (.string ⟨#[]⟩) := bcl BK799 3
   have hfs97 := blk_frozen BK799.out 3
   have hns97_0 := NB794_799.out
   have hns97_1 := NB795_799.out
   have hns97_3 := NB808_799.out
   have hns97_4 := NB815_799.out
   have hns97_5 := NB819_799.out
   have hns97_6 := NB823_799.out
   have hms97_0 := NB799_794.out
   have hms97_1 := NB799_795.out
   have hms97_3 := NB799_808.out
   have hms97_4 := NB799_815.out
   have hms97_5 := NB799_819.out
   have hms97_6 := NB799_823.out
   refine skip_ (w1 := ?_) (by rfl) rfl ?_ ?_
   rotate_left
   · go_simp
     rfl
   refine hK.out _ _ ⟨((cell_far (p := ⟨gb799, _, none⟩) NB819_799.out _).trans (((cell_far (p := ⟨gb799, _, none⟩) NB819_799.out _).trans (hHeld.1)))), ((cell_far (p := ⟨gb799, _, none⟩) NB819_799.out _).trans (((cell_far (p := ⟨gb799, _, none⟩) NB819_799.out _).trans (hHeld.2.1)))), ((cell_far (p := ⟨gb799, _, none⟩) NB823_799.out _).trans (((cell_far (p := ⟨gb799, _, none⟩) NB823_799.out _).trans (hHeld.2.2.1)))), ((cell_far (p := ⟨gb799, _, none⟩) NB823_799.out _).trans (((cell_far (p := ⟨gb799, _, none⟩) NB823_799.out _).trans (hHeld.2.2.2))))⟩ (fun hHeld => ?_)
   clear hK K
   refine done_ (done_of HT_.out (by kernel_rfl)) ?_
   obtain ⟨hnb98, hnc98⟩ := nbo NB794_795
   obtain ⟨hnb99, hnc99⟩ := nbo NB794_799
   obtain ⟨hnb100, hnc100⟩ := nbo NB794_808
   obtain ⟨hnb101, hnc101⟩ := nbo NB794_815
   obtain ⟨hnb102, hnc102⟩ := nbo NB794_819
   obtain ⟨hnb103, hnc103⟩ := nbo NB794_823
   obtain ⟨hnb104, hnc104⟩ := nbo NB794_0
   obtain ⟨_, _, _, _, _, _⟩ := cl3 BK794
   obtain ⟨hnb106, hnc106⟩ := nbo NB799_795
   obtain ⟨hnb107, hnc107⟩ := nbo NB799_808
   obtain ⟨hnb108, hnc108⟩ := nbo NB799_815
   obtain ⟨hnb109, hnc109⟩ := nbo NB799_819
   obtain ⟨hnb110, hnc110⟩ := nbo NB799_823
   obtain ⟨hnb111, hnc111⟩ := nbo NB799_0
   obtain ⟨_, _, _, _, _, _, _, _, _, _, _, _⟩ := cl6 BK799
   try go_wp2_with (first | ((with_reducible refine gc 20 rfl ?_); refine gc1 (some 95) Try.func20 rfl (impl_statsOk.calls A90.out) ?_; rintro w113 hb; replace BK794 := bkb BK794 hb; replace BK795 := bkb BK795 hb; replace BK799 := am (blk_below (g := gb799) (o := .cells #[.int .i64 t796, .bool true, .int .i64 t820, .string t821, .int .i64 t816, .string t817] 32 (0, 0)) (blk_later BK799.out) hb); replace BK808 := bkb BK808 hb; replace BK815 := bkb BK815 hb; replace BK819 := bkb BK819 hb; replace BK823 := bkb BK823 hb; replace HK := kbe HK hb; replace HB := bst HB hb; replace HI0 := am (IsS83.below (show IsS83 w0 (((((w92.setCell ⟨gb799, 1, none⟩ (.bool true)).setCell ⟨gb799, 4, none⟩ (.int .i64 t816)).setCell ⟨gb799, 5, none⟩ (.string t817)).setCell ⟨gb799, 2, none⟩ (.int .i64 t820)).setCell ⟨gb799, 3, none⟩ (.string t821)) g s0_0 s0_1 from IsS83.l HI0) hb); clear hb; obtain ⟨_, _, _, _, _, _, _, _, _, _, _, _⟩ := cl6 BK799; obtain ⟨hnb115, hnc115⟩ := nbo NB795_808; obtain ⟨hnb116, hnc116⟩ := nbo NB795_815; obtain ⟨hnb117, hnc117⟩ := nbo NB795_819; obtain ⟨hnb118, hnc118⟩ := nbo NB795_823; obtain ⟨hnb119, hnc119⟩ := nbo NB795_0; obtain ⟨_, _, _, _, _, _, _, _, _, _, _, _⟩ := cl6 BK795))
   refine bodyPost_ret (results_ct rfl _ _ gb795 32 #[.int .i64 t796, .bool true, .int .i64 t820, .string t821, .int .i64 t816, .string t817] (0, 0) _ rfl (kL BK795) Try.underlying32 rfl (by kernel_rfl)) rfl ?_
   exact fin_ ⟨IsS83.l HI0, bL HB, pL HK⟩
 replace H := sj7 H; obtain ⟨rfl, rfl, rfl, rfl, rfl, rfl, rfl⟩ := H
 try go_wp2
 replace BK794 := bdr BK794
 replace BK795 := bdr BK795
 replace BK799 := bdr BK799
 replace BK808 := bdr BK808
 replace BK815 := bdr BK815
 replace BK819 := bdr BK819
 replace BK823 := bdr BK823
 replace HI0 := am (IsS83.drew HI0.out)
 replace HK := am (keep_drew HK.out)
 replace HB := bld HB
 refine start_ (n := 8) (S := fun w' => w'.cell? ⟨gb819, 0, none⟩ = some (.int .i64 t816) ∧ w'.cell? ⟨gb819, 1, none⟩ = some (.string t817) ∧ w'.cell? ⟨gb823, 0, none⟩ = some (.int .i64 t820) ∧ w'.cell? ⟨gb823, 1, none⟩ = some (.string t821)) (ds := []) #[false, false, false, false, false, false, false, false] (by kernel_rfl) rfl rfl ⟨bcl BK819 0, bcl BK819 1, bcl BK823 0, bcl BK823 1⟩ (fun hHeld => ?_); refine with_tabW impl_tree_stats.tab12 impl_tree_stats.bits12 (fun HT_ HW_ => ?_)
 generalize wc.drew = w121 at BK794 BK795 BK799 BK808 BK815 BK819 BK823 HI0 HK HB hHeld ⊢
 refine pu_ 2 90 ?_; refine tk_ 0 88 hHeld ?_; refine tk_ 1 89 hHeld ?_
 refine one_ (i := 3) (N := none) #[true, true, true, true, false, false, false, false] rfl rfl (one_of HT_.out (by kernel_rfl)) (by decide) (fun K hK => ?_)
 have hs122 : w121.cell? ⟨gb799, 1, none⟩ = some (.bool false) := bcl BK799 1
 have hfs122 := blk_frozen BK799.out 1
 have hns122_0 := NB794_799.out
 have hns122_1 := NB795_799.out
 have hns122_3 := NB808_799.out
 have hns122_4 := NB815_799.out
 have hns122_5 := NB819_799.out
 have hns122_6 := NB823_799.out
 have hms122_0 := NB799_794.out
 have hms122_1 := NB799_795.out
 have hms122_3 := NB799_808.out
 have hms122_4 := NB799_815.out
 have hms122_5 := NB799_819.out
 have hms122_6 := NB799_823.out
 refine skip_ (w1 := ?_) (by rfl) rfl ?_ ?_
 rotate_left
 · go_simp
   rfl
 refine hK.out _ _ ⟨((cell_far (p := ⟨gb799, _, none⟩) NB819_799.out _).trans (hHeld.1)), ((cell_far (p := ⟨gb799, _, none⟩) NB819_799.out _).trans (hHeld.2.1)), ((cell_far (p := ⟨gb799, _, none⟩) NB823_799.out _).trans (hHeld.2.2.1)), ((cell_far (p := ⟨gb799, _, none⟩) NB823_799.out _).trans (hHeld.2.2.2))⟩ (fun hHeld => ?_)
 clear hK K
 refine pu_ 4 91 ?_
 refine one_ (i := 5) (N := none) #[true, true, true, true, true, true, false, false] rfl rfl (one_of HT_.out (by kernel_rfl)) (by decide) (fun K hK => ?_)
 have hs123 : w121.cell? ⟨gb799, 4, none⟩ = some (.int .i64 0) := bcl BK799 4
 have hfs123 := blk_frozen BK799.out 4
 have hns123_0 := NB794_799.out
 have hns123_1 := NB795_799.out
 have hns123_3 := NB808_799.out
 have hns123_4 := NB815_799.out
 have hns123_5 := NB819_799.out
 have hns123_6 := NB823_799.out
 have hms123_0 := NB799_794.out
 have hms123_1 := NB799_795.out
 have hms123_3 := NB799_808.out
 have hms123_4 := NB799_815.out
 have hms123_5 := NB799_819.out
 have hms123_6 := NB799_823.out
 have hs124 : w121.cell? ⟨gb799, 5, none⟩ = some (.string ⟨#[]⟩) := bcl BK799 5
 have hfs124 := blk_frozen BK799.out 5
 have hns124_0 := NB794_799.out
 have hns124_1 := NB795_799.out
 have hns124_3 := NB808_799.out
 have hns124_4 := NB815_799.out
 have hns124_5 := NB819_799.out
 have hns124_6 := NB823_799.out
 have hms124_0 := NB799_794.out
 have hms124_1 := NB799_795.out
 have hms124_3 := NB799_808.out
 have hms124_4 := NB799_815.out
 have hms124_5 := NB799_819.out
 have hms124_6 := NB799_823.out
 refine skip_ (w1 := ?_) (by rfl) rfl ?_ ?_
 rotate_left
 · go_simp
   rfl
 refine hK.out _ _ ⟨((cell_far (p := ⟨gb799, _, none⟩) NB819_799.out _).trans (((cell_far (p := ⟨gb799, _, none⟩) NB819_799.out _).trans (hHeld.1)))), ((cell_far (p := ⟨gb799, _, none⟩) NB819_799.out _).trans (((cell_far (p := ⟨gb799, _, none⟩) NB819_799.out _).trans (hHeld.2.1)))), ((cell_far (p := ⟨gb799, _, none⟩) NB823_799.out _).trans (((cell_far (p := ⟨gb799, _, none⟩) NB823_799.out _).trans (hHeld.2.2.1)))), ((cell_far (p := ⟨gb799, _, none⟩) NB823_799.out _).trans (((cell_far (p := ⟨gb799, _, none⟩) NB823_799.out _).trans (hHeld.2.2.2))))⟩ (fun hHeld => ?_)
 clear hK K
 refine pu_ 6 92 ?_
 refine one_ (i := 7) (N := none) #[true, true, true, true, true, true, true, true] rfl rfl (one_of HT_.out (by kernel_rfl)) (by decide) (fun K hK => ?_)
 have hs125 : w121.cell? ⟨gb799, 2, none⟩ = some (.int .i64 0) := bcl BK799 2
 have hfs125 := blk_frozen BK799.out 2
 have hns125_0 := NB794_799.out
 have hns125_1 := NB795_799.out
 have hns125_3 := NB808_799.out
 have hns125_4 := NB815_799.out
 have hns125_5 := NB819_799.out
 have hns125_6 := NB823_799.out
 have hms125_0 := NB799_794.out
 have hms125_1 := NB799_795.out
 have hms125_3 := NB799_808.out
 have hms125_4 := NB799_815.out
 have hms125_5 := NB799_819.out
 have hms125_6 := NB799_823.out
 have hs126 : w121.cell? ⟨gb799, 3, none⟩ = some (.string ⟨#[]⟩) := bcl BK799 3
 have hfs126 := blk_frozen BK799.out 3
 have hns126_0 := NB794_799.out
 have hns126_1 := NB795_799.out
 have hns126_3 := NB808_799.out
 have hns126_4 := NB815_799.out
 have hns126_5 := NB819_799.out
 have hns126_6 := NB823_799.out
 have hms126_0 := NB799_794.out
 have hms126_1 := NB799_795.out
 have hms126_3 := NB799_808.out
 have hms126_4 := NB799_815.out
 have hms126_5 := NB799_819.out
 have hms126_6 := NB799_823.out
 refine skip_ (w1 := ?_) (by rfl) rfl ?_ ?_
 rotate_left
 · go_simp
   rfl
 refine hK.out _ _ ⟨((cell_far (p := ⟨gb799, _, none⟩) NB819_799.out _).trans (((cell_far (p := ⟨gb799, _, none⟩) NB819_799.out _).trans (hHeld.1)))), ((cell_far (p := ⟨gb799, _, none⟩) NB819_799.out _).trans (((cell_far (p := ⟨gb799, _, none⟩) NB819_799.out _).trans (hHeld.2.1)))), ((cell_far (p := ⟨gb799, _, none⟩) NB823_799.out _).trans (((cell_far (p := ⟨gb799, _, none⟩) NB823_799.out _).trans (hHeld.2.2.1)))), ((cell_far (p := ⟨gb799, _, none⟩) NB823_799.out _).trans (((cell_far (p := ⟨gb799, _, none⟩) NB823_799.out _).trans (hHeld.2.2.2))))⟩ (fun hHeld => ?_)
 clear hK K
 refine done_ (done_of HT_.out (by kernel_rfl)) ?_
 obtain ⟨hnb127, hnc127⟩ := nbo NB794_795
 obtain ⟨hnb128, hnc128⟩ := nbo NB794_799
 obtain ⟨hnb129, hnc129⟩ := nbo NB794_808
 obtain ⟨hnb130, hnc130⟩ := nbo NB794_815
 obtain ⟨hnb131, hnc131⟩ := nbo NB794_819
 obtain ⟨hnb132, hnc132⟩ := nbo NB794_823
 obtain ⟨hnb133, hnc133⟩ := nbo NB794_0
 obtain ⟨_, _, _, _, _, _⟩ := cl3 BK794
 obtain ⟨hnb135, hnc135⟩ := nbo NB799_795
 obtain ⟨hnb136, hnc136⟩ := nbo NB799_808
 obtain ⟨hnb137, hnc137⟩ := nbo NB799_815
 obtain ⟨hnb138, hnc138⟩ := nbo NB799_819
 obtain ⟨hnb139, hnc139⟩ := nbo NB799_823
 obtain ⟨hnb140, hnc140⟩ := nbo NB799_0
 obtain ⟨_, _, _, _, _, _, _, _, _, _, _, _⟩ := cl6 BK799
 try go_wp2_with (first | ((with_reducible refine gc 20 rfl ?_); refine gc1 (some 95) Try.func20 rfl (impl_statsOk.calls A90.out) ?_; rintro w142 hb; replace BK794 := bkb BK794 hb; replace BK795 := bkb BK795 hb; replace BK799 := am (blk_below (g := gb799) (o := .cells #[.int .i64 t796, .bool true, .int .i64 t820, .string t821, .int .i64 t816, .string t817] 32 (0, 0)) (blk_later BK799.out) hb); replace BK808 := bkb BK808 hb; replace BK815 := bkb BK815 hb; replace BK819 := bkb BK819 hb; replace BK823 := bkb BK823 hb; replace HK := kbe HK hb; replace HB := bst HB hb; replace HI0 := am (IsS83.below (show IsS83 w0 (((((w121.setCell ⟨gb799, 1, none⟩ (.bool true)).setCell ⟨gb799, 4, none⟩ (.int .i64 t816)).setCell ⟨gb799, 5, none⟩ (.string t817)).setCell ⟨gb799, 2, none⟩ (.int .i64 t820)).setCell ⟨gb799, 3, none⟩ (.string t821)) g s0_0 s0_1 from IsS83.l HI0) hb); clear hb; obtain ⟨hnb143, hnc143⟩ := nbo NB795_808; obtain ⟨hnb144, hnc144⟩ := nbo NB795_815; obtain ⟨hnb145, hnc145⟩ := nbo NB795_819; obtain ⟨hnb146, hnc146⟩ := nbo NB795_823; obtain ⟨hnb147, hnc147⟩ := nbo NB795_0; obtain ⟨_, _, _, _, _, _, _, _, _, _, _, _⟩ := cl6 BK795))
 refine bodyPost_ret (results_ct rfl _ _ gb795 32 #[.int .i64 0, .bool false, .int .i64 0, .string ⟨#[]⟩, .int .i64 0, .string ⟨#[]⟩] (0, 0) _ rfl (kL BK795) Try.underlying32 rfl (by kernel_rfl)) rfl ?_
 exact fin_ ⟨IsS83.l HI0, bL HB, pL HK⟩
/-! ### impl_StatsFrom: function 10 -/
def impl_StatsFrom.f (k : Nat) (a0_0 : Int) (a0_1 : Int) (a0_2 : Int) (l1 : List (S76)) (a2 : Int) : Option (Int × Bool × Int × ByteArray × Int × ByteArray × Bool) := (impl_treeOf.f k l1).bind fun bt828 => (if bt828.2 = true then ((impl_tree_stats.f k l1 bt828.1 a0_0 a0_1 a0_2 a2).bind fun bt832 => (some (bt832.1, bt832.2.1, bt832.2.2.1, bt832.2.2.2.1, bt832.2.2.2.2.1, bt832.2.2.2.2.2.1, bt832.2.2.2.2.2.2))) else (some (0, false, 0, (⟨#[]⟩ : ByteArray), 0, (⟨#[]⟩ : ByteArray), false)))
theorem impl_StatsFrom.calls {k : Nat} {a0_0 a0_1 a0_2 : Int} {A1 : Option Addr} {c1 : Nat} {l1 : List (S76)} {a2 r1 : Int} {r2 : Bool} {r3 : Int} {r4 : ByteArray} {r5 : Int} {r6 : ByteArray} {r7 : Bool} {w : World} (hr1 : Kd.C k76 w A1 l1.length l1) (hc1 : l1.length ≤ c1) (h : impl_StatsFrom.f k a0_0 a0_1 a0_2 l1 a2 = some (r1, r2, r3, r4, r5, r6, r7)) :
    Calls Try.prog 10 #[.agg #[.int .i64 a0_0, .int .i64 a0_1, .int .i64 a0_2], .slice A1 l1.length c1, .int .i64 a2] w fun e w' => e = .returned (.tuple #[.agg #[.int .i64 r1, .bool r2, .int .i64 r3, .string r4, .int .i64 r5, .string r6], .bool r7]) ∧ Below w.heap.size w w' := by
 have hu25 := Try.underlying25
 have hu32 := Try.underlying32
 have HR1 := am hr1
 have HC1 := am hc1
 clear hr1 hc1
 have HB := am (Below.refl w.heap.size w)
 have H := h; clear h; unfold impl_StatsFrom.f at H
 replace H := bnd2 H; obtain ⟨t829, t831, A4, H⟩ := H; dsimp only at H
 replace H := ibt H; obtain ⟨rfl, H⟩ | ⟨rfl, H⟩ := H
 rotate_left
 · replace H := sj7 H; obtain ⟨rfl, rfl, rfl, rfl, rfl, rfl, rfl⟩ := H
   go_enter Try.func10, Try.ntmps10
   go_wp2_with (first | ((with_reducible refine gd 3 rfl ?_); refine bxw 3 rfl #[.int .i64 a0_0, .int .i64 a0_1, .int .i64 a0_2] 25 HB ?_; clear HB; intro gb826 w16 BK826 GW826 GE826 HB) | ((with_reducible refine gd 6 rfl ?_); refine bxv 6 rfl #[.int .i64 0, .bool false, .int .i64 0, .string ⟨#[]⟩, .int .i64 0, .string ⟨#[]⟩] 32 HB ?_; clear HB; intro gb827 w17 BK827 GW827 GE827 HB hg hb; obtain ⟨NB826_827, NB827_826⟩ := nbp (nbl BK826 hg); replace BK826 := bkb BK826 hb; clear hg hb) | ((with_reducible refine gc 22 rfl ?_); refine gl_ (some 12) Try.func22 #[.slice A1 l1.length c1] rfl ?_; (with_reducible refine (impl_treeOf.calls ?side1 ?side2 A4.out).mono ?_); (case side1 => exact C_later (Kd.C_below HR1.out HB.out)); (case side2 => exact HC1.out); rintro e w18 ⟨p_, rfl, hp_⟩; obtain ⟨hb2, hp1_, _⟩ := hp_; obtain rfl := hp1_ rfl; have hb := below_step (bL HB) hb2; clear hp1_; refine ⟨_, rfl, ?_⟩; replace BK826 := am (blk_below (blk_later BK826.out) hb2); replace BK827 := am (blk_below (g := gb827) (o := .cells #[.int .i64 0, .bool false, .int .i64 0, .string ⟨#[]⟩, .int .i64 0, .string ⟨#[]⟩] 32 (0, 0)) (blk_later BK827.out) hb2); replace HB := am hb; (try clear hb); (try clear hb2); obtain ⟨hnb19, hnc19⟩ := nbo NB827_826; obtain ⟨_, _, _, _, _, _, _, _, _, _, _, _⟩ := cl6 BK827))
   refine bodyPost_ret (results_ct rfl _ _ gb827 32 #[.int .i64 0, .bool false, .int .i64 0, .string ⟨#[]⟩, .int .i64 0, .string ⟨#[]⟩] (0, 0) _ rfl (kL BK827) Try.underlying32 rfl (by kernel_rfl)) rfl ?_
   exact fin_ (by repeat (first | (with_reducible first | exact HB.out | apply below_alloc | apply pw_below_drewN | apply below_drew1 | refine below_set ?_ (IsS83.ge HI830.out) | refine below_set ?_ GE826.out | refine below_set ?_ GE827.out) | exact HB.out))
 replace H := bnd7 H; obtain ⟨t832, t833, t834, t835, t836, t837, t838, A6, H⟩ := H; dsimp only at H
 replace H := sj7 H; obtain ⟨rfl, rfl, rfl, rfl, rfl, rfl, rfl⟩ := H
 go_enter Try.func10, Try.ntmps10
 go_wp2_with (first | ((with_reducible refine gd 3 rfl ?_); refine bxw 3 rfl #[.int .i64 a0_0, .int .i64 a0_1, .int .i64 a0_2] 25 HB ?_; clear HB; intro gb826 w7 BK826 GW826 GE826 HB) | ((with_reducible refine gd 6 rfl ?_); refine bxv 6 rfl #[.int .i64 0, .bool false, .int .i64 0, .string ⟨#[]⟩, .int .i64 0, .string ⟨#[]⟩] 32 HB ?_; clear HB; intro gb827 w8 BK827 GW827 GE827 HB hg hb; obtain ⟨NB826_827, NB827_826⟩ := nbp (nbl BK826 hg); replace BK826 := bkb BK826 hb; clear hg hb) | ((with_reducible refine gc 22 rfl ?_); refine gl_ (some 12) Try.func22 #[.slice A1 l1.length c1] rfl ?_; (with_reducible refine (impl_treeOf.calls ?side1 ?side2 A4.out).mono ?_); (case side1 => exact C_later (Kd.C_below HR1.out HB.out)); (case side2 => exact HC1.out); rintro e w9 ⟨p_, rfl, hp_⟩; obtain ⟨hb2, _, hp2_⟩ := hp_; obtain ⟨g830, wz, rfl, hi, hbz, hz⟩ := hp2_ rfl; have HZ := am hbz; have HS := am (Nat.le_trans (below_size (bL HB)) hz); have hb := below_step (bL HB) hb2; clear hp2_ hbz hz; refine ⟨_, rfl, ?_⟩; have HI830 := am hi; have NB830_826 := am (IsS83.ne_blk hi (blk_below (blk_later BK826.out) hb2) (by decide)); have NB826_830 := am (Ne.symm (IsS83.ne_blk hi (blk_below (blk_later BK826.out) hb2) (by decide))); have NB830_827 := am (IsS83.ne_blk hi (blk_below (g := gb827) (o := .cells #[.int .i64 0, .bool false, .int .i64 0, .string ⟨#[]⟩, .int .i64 0, .string ⟨#[]⟩] 32 (0, 0)) (blk_later BK827.out) hb2) (by decide)); have NB827_830 := am (Ne.symm (IsS83.ne_blk hi (blk_below (g := gb827) (o := .cells #[.int .i64 0, .bool false, .int .i64 0, .string ⟨#[]⟩, .int .i64 0, .string ⟨#[]⟩] 32 (0, 0)) (blk_later BK827.out) hb2) (by decide))); replace BK826 := am (blk_below (blk_later BK826.out) hb2); replace BK827 := am (blk_below (g := gb827) (o := .cells #[.int .i64 0, .bool false, .int .i64 0, .string ⟨#[]⟩, .int .i64 0, .string ⟨#[]⟩] 32 (0, 0)) (blk_later BK827.out) hb2); replace HB := am hb; (try clear hb); (try clear hb2); (try clear hi); obtain ⟨hnb10, hnc10⟩ := nbo NB826_827; obtain ⟨hnb11, hnc11⟩ := nbo NB826_830; obtain ⟨_, _, _, _, _, _⟩ := cl3 BK826) | ((with_reducible refine gc 23 rfl ?_); refine gl_ (some 21) Try.func23 #[.pointer (some ⟨g830, 0, none⟩), .agg #[.int .i64 a0_0, .int .i64 a0_1, .int .i64 a0_2], .int .i64 a2] rfl ?_; (with_reducible refine (impl_tree_stats.calls (w0 := wz) ?side1 ?side2 A6.out).mono ?_); (case side1 => exact IsS83.l HI830); (case side2 => exact bL HZ); rintro e w13 ⟨rfl, hi, hbz, hk⟩; have hb := below_via HB.out HZ.out hbz HS.out HS.out; replace HZ := am hbz; clear hbz; refine ⟨_, rfl, ?_⟩; replace BK826 := kbk hk BK826 NB826_830; replace BK827 := kbo (.cells #[.int .i64 0, .bool false, .int .i64 0, .string ⟨#[]⟩, .int .i64 0, .string ⟨#[]⟩] 32 (0, 0)) hk BK827 NB827_830; replace HB := am hb; replace HI830 := am hi; (try clear hb); clear hk hi; obtain ⟨hnb14, hnc14⟩ := nbo NB827_830; obtain ⟨_, _, _, _, _, _, _, _, _, _, _, _⟩ := cl6 BK827))
 refine bodyPost_ret (results_ct rfl _ _ gb827 32 #[.int .i64 t832, .bool t833, .int .i64 t834, .string t835, .int .i64 t836, .string t837] (0, 0) _ rfl (kL BK827) Try.underlying32 rfl (by kernel_rfl)) rfl ?_
 exact fin_ (by repeat (first | (with_reducible first | exact HB.out | apply below_alloc | apply pw_below_drewN | apply below_drew1 | refine below_set ?_ (IsS83.ge HI830.out) | refine below_set ?_ GE826.out | refine below_set ?_ GE827.out) | exact HB.out))
end Go.Proofs.Ytnlgodcbnlbdkaa.PFnStats
