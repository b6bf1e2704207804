/- The machine's side of FnStats: each Go function, and what its call comes to. No condition. -/
import Derived.Test.YtnlgodcbnlbdkaaPFnStatsx0
import Derived.Test.YtnlgodcbnlbdkaaPFnStatsx10
import Derived.Test.YtnlgodcbnlbdkaaPFnStatsx12
namespace Go.Proofs.Ytnlgodcbnlbdkaa.PFnStats
open Go.RowKit Go.Proofs.YtnlgodcbnlbdkaaW.PrintWords Go.Proofs.YtnlgodcbnlbdkaaW.PrintLast Go.Proofs.YtnlgodcbnlbdkaaW.PrintMore Go.Proofs.YtnlgodcbnlbdkaaW.PrintMore2
attribute [local go_sem] max2_int min2_int max_two min_two max_three min_three max_four min_four
set_option linter.unusedVariables false
set_option linter.unusedSimpArgs false
set_option maxHeartbeats 8000000
set_option maxRecDepth 100000

/-! ### impl_packed: function 72 -/
mutual
def impl_packed.l0 : Nat → Int → List Int → List Int → Int → Int → Option (List Int)
  | 0, _, _, _, _, _ => none
  | k + 1, x1, x5, x17, x18, x19 => if x19 < x18 then (if 0 ≤ x19 then (if x19 < (x17.length : Int) then (impl_packed.l1 k x1 x5 x19 (rd x17 x19) x17 x18 x19 x1 0) else (none)) else (none)) else (some x5)
def impl_packed.l1 : Nat → Int → List Int → Int → Int → List Int → Int → Int → Int → Int → Option (List Int)
  | 0, _, _, _, _, _, _, _, _, _ => none
  | k + 1, x1, x5, x6, x7, x17, x18, x19, x24, x25 => if x25 < x24 then (if 0 ≤ (wrap64 (Int.tdiv (wrap64 ((wrap64 (x6 * x1)) + x25)) 8)) then (if (wrap64 (Int.tdiv (wrap64 ((wrap64 (x6 * x1)) + x25)) 8)) < (x5.length : Int) then (if 0 ≤ x25 then (if 0 ≤ (Int.tmod (wrap64 ((wrap64 (x6 * x1)) + x25)) 8) then (impl_packed.l1 k x1 (x5.set ((wrap64 (Int.tdiv (wrap64 ((wrap64 (x6 * x1)) + x25)) 8)) : Int).toNat (Go.bits .or .u8 (rd x5 (wrap64 (Int.tdiv (wrap64 ((wrap64 (x6 * x1)) + x25)) 8))) (shl .u8 ((Go.bits .and .i64 (shr .i64 x7 x25) 1) % 256) (Int.tmod (wrap64 ((wrap64 (x6 * x1)) + x25)) 8)))) x6 x7 x17 x18 x19 x24 (wrap64 (x25 + 1))) else (none)) else (none)) else (none)) else (none)) else (impl_packed.l0 k x1 x5 x17 x18 (wrap64 (x19 + 1)))
end
def impl_packed.f (k : Nat) (l0 : List Int) (a1 : Int) : Option (List Int) := if 0 ≤ (wrap64 (Int.tdiv (wrap64 ((wrap64 ((l0.length : Int) * a1)) + 7)) 8)) then (if (wrap64 (Int.tdiv (wrap64 ((wrap64 ((l0.length : Int) * a1)) + 7)) 8) : Int).toNat ≤ 281474976710656 then (impl_packed.l0 k a1 (List.replicate (wrap64 (Int.tdiv (wrap64 ((wrap64 ((l0.length : Int) * a1)) + 7)) 8) : Int).toNat 0) l0 (l0.length : Int) 0) else (none)) else (none)
def impl_packed.T9 : Bool × List (List Nat × List Nat) := (true, [([], []), ([], []), ([1], [1]), ([0, 2], [0, 2]), ([3], [3]), ([], []), ([], []), ([5, 6], [5, 6]), ([7], [7]), ([8], [8]), ([], []), ([10], [10]), ([9, 11], [9, 11]), ([4, 12], [4, 12]), ([0, 2, 0, 1, 2, 3, 4, 5, 6, 7, 8, 9, 10, 11, 12, 13], [0, 2]), ([14, 13, 0, 1, 2, 3, 4, 5, 6, 7, 8, 9, 10, 11, 12, 13], [13, 14])])
def impl_packed.B9 : List Nat := [0, 0, 2, 7, 15, 0, 0, 96, 224, 480, 0, 1024, 4064, 8191, 16383, 32767]
theorem impl_packed.tab9 : rtab .any (opsOf Try.f72 9) = impl_packed.T9 := by kernel_rfl
theorem impl_packed.bits9 : waitsOk impl_packed.T9.2 impl_packed.B9 = true := by kernel_rfl
theorem impl_packed.calls {k : Nat} {A0 : Option Addr} {c0 : Nat} {l0 : List Int} {a1 : Int} {r : List Int} {w : World} (hr0 : Kd.C (Kd.int .i64) w A0 l0.length l0) (hc0 : l0.length ≤ c0) (h : impl_packed.f k l0 a1 = some r) :
    Calls Try.prog 72 #[.slice A0 l0.length c0, .int .i64 a1] w fun e w' => ∃ v0_ : Value, e = .returned (v0_) ∧ Kd.R (Kd.int .u8) 5 w' w.heap.size (fun _ => True) v0_ r ∧ Below w.heap.size w w' := by
 have HR0 := am hr0
 have HC0 := am hc0
 clear hr0 hc0
 have HB := am (Below.refl w.heap.size w)
 have H := h; clear h; unfold impl_packed.f at H
 obtain ⟨ji3, hji3⟩ : ∃ j_ : Int, (wrap64 (Int.tdiv (wrap64 ((wrap64 ((l0.length : Int) * a1)) + 7)) 8)) = j_ := ⟨_, rfl⟩
 replace H : (if 0 ≤ (ji3) then (if (ji3 : Int).toNat ≤ 281474976710656 then (impl_packed.l0 k a1 (List.replicate (ji3 : Int).toNat 0) l0 (l0.length : Int) 0) else (none)) else (none)) = some r := by first | (rw [hji3] at H; exact H) | (simp only [hji3] at H ⊢; exact H)
 have hji3w : (IntKind.i64.wrap (Int.tdiv (wrap64 ((wrap64 ((l0.length : Int) * a1)) + 7)) 8)) = ji3 := (i64_w _).trans hji3
 replace H := ifs H; obtain ⟨c4, H⟩ := H
 have c4b0 := eq_true c4
 have c4b1 := decide_eq_true c4
 clear c4
 replace H := ifs H; obtain ⟨c5, H⟩ := H
 have c5b0 := eq_true c5
 have c5b1 := decide_eq_true c5
 clear c5
 obtain ⟨y587, hy587⟩ : ∃ y_ : List Int, y_ = (List.replicate (ji3 : Int).toNat 0) := ⟨_, rfl⟩
 replace H : (impl_packed.l0 k a1 y587 l0 (l0.length : Int) 0) = some r := by first | (rw [hy587]; with_reducible exact H) | (rw [hy587]; exact H) | exact H
 have Ny587 := am hy587
 clear hy587
 have H' := am H; clear H
 go_enter Try.func72, Try.ntmps72
 go_wp2_with (first | ((with_reducible refine gd 16 rfl ?_); refine Kd.R_make (Kd.int .u8) _ 5 rfl (N := 16) rfl 22 _ _ rfl ji3 rfl rfl Try.underlying22 (.int .u8 0) 1 info5 rfl (by decide) (by omega) 0 (ok := fun _ => True) (okp := fun _ => True) rfl (fun _ hk => hk) trivial (dcd) (Nat.le_trans (Nat.mul_le_mul_right _ (dcd : ji3.toNat ≤ 281474976710656)) (by omega)) (Below.refl _ _) (Nat.le_refl _) ?_; intro v588 w6 ho7 hb hg_ hnew_; clear hg_ hnew_; (first | rw [← Ny587.out] at ho7 | (simp only [Int.reduceToNat] at ho7; rw [← Ny587.out] at ho7)); have HO589 := rlb ho7 HB; replace HB := bst HB hb; clear hb ho7))
 go_loopg [19] k (fun kq v19 w' => ∃ (x5_1 : List Int) (x19_1 : Int), v19 = .int .i64 x19_1 ∧ Aside0 (impl_packed.l0 kq a1 x5_1 l0 (l0.length : Int) x19_1 = some r) ∧ Aside0 (kq ≤ k) ∧ Aside0 (Kd.R (Kd.int .u8) 5 w' w.heap.size (fun _ => True) v588 x5_1) ∧ Aside0 (Below w.heap.size w w'))
 case atStart => exact ⟨(y587), (0), sr, H', ⟨Nat.le_refl _⟩, ⟨rL HO589⟩, ⟨bL HB⟩⟩
 clear H'
 try clear c4 c4b0 c4b1 c5 c5b0 c5b1
 obtain ⟨x5_1, x19_1, rfl, HA, HK1, HO_5, HB⟩ := hrel
 cases gk with
 | zero => exact absurd HA.out (by simp [impl_packed.l0])
 | succ k1 => ?_
 have H := HA.out
 clear HA
 simp only [impl_packed.l0] at H
 replace H := idc H; obtain ⟨c8b0, H⟩ | ⟨c8b0, H⟩ := H
 rotate_left
 · obtain rfl := Option.some.inj H
   go_wp2
   go_ret
   exact ⟨_, by first | rfl | (simp [errW_none, errW_some] <;> rfl) | (simp only [← hji3]; first | rfl | (simp [errW_none, errW_some] <;> rfl)) | (simp [*, errW_none, errW_some] <;> rfl), by (with_reducible repeat (first | apply Kd.R_alloc | apply Kd.R_drewN | apply Kd.R_drew)); exact HO_5.out, bL HB⟩
 replace H := if_dd H; obtain ⟨c9b0, c10b0, H⟩ := H
 have H' := am H; clear H
 have p590 : 0 ≤ (x19_1 : Int) := dcd
 have q590 : x19_1 < (l0.length : Int) := dcd
 obtain ⟨ad590, e590, hx590_0⟩ := Kd.at_int HR0.out x19_1 p590 q590
 cases e590
 replace hx590_0 := crd HB hx590_0
 replace p590 := eq_true p590
 replace q590 := eq_true q590
 go_wp2
 go_loopg [25] k1 (fun kq v25 w' => ∃ (x5_2 : List Int) (x25_2 : Int), v25 = .int .i64 x25_2 ∧ Aside0 (impl_packed.l1 kq a1 x5_2 x19_1 (rd l0 x19_1) l0 (l0.length : Int) x19_1 a1 x25_2 = some r) ∧ Aside0 (kq ≤ k1) ∧ Aside0 (Kd.R (Kd.int .u8) 5 w' w.heap.size (fun _ => True) v588 x5_2) ∧ Aside0 (Below w.heap.size w w'))
 case atStart => exact ⟨(x5_1), (0), sr, H', ⟨Nat.le_refl _⟩, ⟨rL HO_5⟩, ⟨bL HB⟩⟩
 clear H'
 try clear c4 c4b0 c4b1 c5 c5b0 c5b1 c8 c8b0 c9b0 c10b0 hx590_0 p590 q590
 obtain ⟨x5_2, x25_2, rfl, HA, HK2, HO_5, HB⟩ := hrel
 cases gk with
 | zero => exact absurd HA.out (by simp [impl_packed.l1])
 | succ k2 => ?_
 have H := HA.out
 clear HA
 simp only [impl_packed.l1] at H
 replace H := idc H; obtain ⟨c11b0, H⟩ | ⟨c11b0, H⟩ := H
 rotate_left
 · have H' := am H; clear H
   go_wp2
   go_roundg k2
   case measure => have := HK1.out; have := HK2.out; omega
   case rel => (try rw [hji19w]); exact ⟨(x5_2), (wrap64 (x19_1 + 1)), sr, H', ⟨by have := HK1.out; have := HK2.out; omega⟩, ⟨rL HO_5⟩, ⟨bL HB⟩⟩
 obtain ⟨ji12, hji12⟩ : ∃ j_ : Int, (wrap64 (Int.tdiv (wrap64 ((wrap64 (x19_1 * a1)) + x25_2)) 8)) = j_ := ⟨_, rfl⟩
 replace H : (if 0 ≤ (ji12) then (if (ji12) < (x5_2.length : Int) then (if 0 ≤ x25_2 then (if 0 ≤ (Int.tmod (wrap64 ((wrap64 (x19_1 * a1)) + x25_2)) 8) then (impl_packed.l1 k2 a1 (x5_2.set ((ji12) : Int).toNat (Go.bits .or .u8 (rd x5_2 (ji12)) (shl .u8 ((Go.bits .and .i64 (shr .i64 (rd l0 x19_1) x25_2) 1) % 256) (Int.tmod (wrap64 ((wrap64 (x19_1 * a1)) + x25_2)) 8)))) x19_1 (rd l0 x19_1) l0 (l0.length : Int) x19_1 a1 (wrap64 (x25_2 + 1))) else (none)) else (none)) else (none)) else (none)) = some r := by first | (rw [hji12] at H; exact H) | (simp only [hji12] at H ⊢; exact H)
 have hji12w : (IntKind.i64.wrap (Int.tdiv (wrap64 ((wrap64 (x19_1 * a1)) + x25_2)) 8)) = ji12 := (i64_w _).trans hji12
 replace H := if_dds H; obtain ⟨c13b0, c14b0, c15, H⟩ := H
 have c15b0 := eq_true c15
 have c15b1 := decide_eq_true c15
 clear c15
 obtain ⟨ji16, hji16⟩ : ∃ j_ : Int, (shr .i64 (rd l0 x19_1) x25_2) = j_ := ⟨_, rfl⟩
 replace H : (if 0 ≤ (Int.tmod (wrap64 ((wrap64 (x19_1 * a1)) + x25_2)) 8) then (impl_packed.l1 k2 a1 (x5_2.set ((ji12) : Int).toNat (Go.bits .or .u8 (rd x5_2 (ji12)) (shl .u8 ((Go.bits .and .i64 (ji16) 1) % 256) (Int.tmod (wrap64 ((wrap64 (x19_1 * a1)) + x25_2)) 8)))) x19_1 (rd l0 x19_1) l0 (l0.length : Int) x19_1 a1 (wrap64 (x25_2 + 1))) else (none)) = some r := by first | (rw [hji16] at H; exact H) | (simp only [hji16] at H ⊢; exact H)
 have hji16_ : ((rd l0 x19_1) / 2 ^ min x25_2.toNat 64) = ji16 := hji16
 have hji16z : x25_2 ≤ 64 → ((rd l0 x19_1) / 2 ^ x25_2.toNat) = ji16 := shr_small hji16
 obtain ⟨ji17, hji17⟩ : ∃ j_ : Int, (Int.tmod (wrap64 ((wrap64 (x19_1 * a1)) + x25_2)) 8) = j_ := ⟨_, rfl⟩
 replace H : (if 0 ≤ (ji17) then (impl_packed.l1 k2 a1 (x5_2.set ((ji12) : Int).toNat (Go.bits .or .u8 (rd x5_2 (ji12)) (shl .u8 ((Go.bits .and .i64 (ji16) 1) % 256) (ji17)))) x19_1 (rd l0 x19_1) l0 (l0.length : Int) x19_1 a1 (wrap64 (x25_2 + 1))) else (none)) = some r := by first | (rw [hji17] at H; exact H) | (simp only [hji17] at H ⊢; exact H)
 replace H := ifs H; obtain ⟨c18, H⟩ := H
 have c18b0 := eq_true c18
 have c18b1 := decide_eq_true c18
 clear c18
 obtain ⟨ji19, hji19⟩ : ∃ j_ : Int, (shl .u8 ((Go.bits .and .i64 (ji16) 1) % 256) (ji17)) = j_ := ⟨_, rfl⟩
 replace H : (impl_packed.l1 k2 a1 (x5_2.set ((ji12) : Int).toNat (Go.bits .or .u8 (rd x5_2 (ji12)) (ji19))) x19_1 (rd l0 x19_1) l0 (l0.length : Int) x19_1 a1 (wrap64 (x25_2 + 1))) = some r := by first | (rw [hji19] at H; exact H) | (simp only [hji19] at H ⊢; exact H)
 have hji19_ : (IntKind.u8.wrap (((Go.bits .and .i64 (ji16) 1) % 256) * 2 ^ min (ji17).toNat 8)) = ji19 := hji19
 have hji19w : ((((Go.bits .and .i64 (ji16) 1) % 256) * 2 ^ min (ji17).toNat 8) % 256) = ji19 := hji19
 have hji19z : (ji17) ≤ 8 → (IntKind.u8.wrap (((Go.bits .and .i64 (ji16) 1) % 256) * 2 ^ (ji17).toNat)) = ji19 := shl_small hji19
 obtain ⟨y592, hy592⟩ : ∃ y_ : List Int, y_ = (x5_2.set ((ji12) : Int).toNat (Go.bits .or .u8 (rd x5_2 (ji12)) (ji19))) := ⟨_, rfl⟩
 replace H : (impl_packed.l1 k2 a1 y592 x19_1 (rd l0 x19_1) l0 (l0.length : Int) x19_1 a1 (wrap64 (x25_2 + 1))) = some r := by first | (rw [hy592]; with_reducible exact H) | (rw [hy592]; exact H) | exact H
 have Ny592 := am hy592
 clear hy592
 have H' := am H; clear H
 try go_wp2
 replace HO_5 := rdr HO_5
 replace HB := bld HB
 obtain ⟨Ao22, co22, eo22⟩ := Kd.R_slice HO_5.out
 (first | subst eo22 | (injection eo22 with f1_ f2_ f3_; have f4_ := f1_.symm; have f5_ := f3_.symm; clear f1_ f2_ f3_; subst f4_; subst f5_))
 have p591 : 0 ≤ ((ji12) : Int) := dcd
 have q591 : (ji12) < (x5_2.length : Int) := dcd
 obtain ⟨ad591, e591, hx591_0⟩ := Kd.at_int (Kd.R_reads' HO_5.out).2.2 (ji12) p591 q591
 cases e591
 replace p591 := eq_true p591
 replace q591 := eq_true q591
 have p20 : 0 ≤ ((ji12) : Int) := dcd
 have q20 : ((ji12) : Int) < ((x5_2.length : Int) : Int) := dcd
 obtain ⟨go20, co20, eo20, gb20, gl20, cl20, HG20⟩ := Kd.R_form HO_5.out (by omega)
 (first | cases eo20 | (injection eo20 with ea_ en_ ec_; (first | subst ea_ | (injection ea_ with ea_; subst ea_)); subst ec_; clear en_))
 have GB20 := am gb20
 have GG20 := am HG20
 clear gb20 gl20 HG20
 (first | simp only [add_plain] at hx591_0 | skip)
 obtain ⟨hx20_0, hf20_0⟩ := Kd.R_celln 0 HO_5.out ((ji12) : Int) p20 q20
 replace p20 := eq_true p20
 replace q20 := eq_true q20
 have HP23 := Kd.R_putn HO_5.out ((ji12) : Int) (Go.bits .or .u8 (rd x5_2 (ji12)) (ji19))
 rw [← Ny592.out] at HP23
 have HQ23 := am HP23
 clear HP23
 refine start_ (n := 16) (S := fun w' => w'.cell? ⟨go20, ((ji12)).toNat, none⟩ = some (.int .u8 (rd x5_2 (ji12)))) (ds := [15]) #[false, false, false, false, false, false, false, false, false, false, false, false, false, false, false, false] (by kernel_rfl) rfl rfl (hx591_0) (fun hHeld => ?_); refine with_tabW impl_packed.tab9 impl_packed.bits9 (fun HT_ HW_ => ?_)
 generalize wr.drew = w21 at HO_5 HB GG20 HQ23 hf20_0 hx20_0 hx591_0 hHeld ⊢
 refine pu_ 0 33 ?_; refine pu_ 1 34 ?_; refine pu_ 2 35 ?_; refine pu_ 3 36 ?_; refine pu_ 5 38 ?_; refine pu_ 6 39 ?_; refine pu_ 7 40 ?_; refine pu_ 8 41 ?_; refine pu_ 9 42 ?_; refine pu_ 10 43 ?_; refine pu_ 11 44 ?_; refine pu_ 12 45 ?_; refine tk_ 4 37 hHeld ?_; refine pu_ 13 46 ?_; refine pu_ 14 47 ?_
 refine last_ (i := 15) (N := none) #[true, true, true, true, true, true, true, true, true, true, true, true, true, true, true, true] rfl rfl (one_of HT_.out (by kernel_rfl)) (by decide) (fun K hK => ?_)
 refine skip_ (w1 := ?_) (by rfl) rfl ?_ ?_
 rotate_left
 · go_simp
   rfl
 refine hK.out _ _ ?_
 clear hK K
 refine done_ (done_of HT_.out (by kernel_rfl)) ?_
 try go_wp2
 go_roundg k2
 case measure => have := HK1.out; have := HK2.out; omega
 case rel => (try rw [hji19w]); exact ⟨(y592), (wrap64 (x25_2 + 1)), sr, H', ⟨by have := HK1.out; have := HK2.out; omega⟩, ⟨R_later (HQ23.out)⟩, ⟨bL HB⟩⟩
/-! ### impl_numsOf: function 73 -/
def impl_numsOf.l0 : Nat → List Int → List (S30) → Int → Int → Option (List Int)
  | 0, _, _, _, _ => none
  | k + 1, x3, x7, x8, x9 => if x9 < x8 then (if 0 ≤ x9 then (if x9 < (x7.length : Int) then (if x3.length < 17592186044416 then (impl_numsOf.l0 k (x3 ++ [(rd_T30 x7 x9).f0]) x7 x8 (wrap64 (x9 + 1))) else (none)) else (none)) else (none)) else (some x3)
def impl_numsOf.f (k : Nat) (l0 : List (S30)) : Option (List Int) := impl_numsOf.l0 k (([] : List Int)) l0 (l0.length : Int) 0
theorem impl_numsOf.calls {k : Nat} {A0 : Option Addr} {c0 : Nat} {l0 : List (S30)} {r : List Int} {w : World} (hr0 : Kd.C k30 w A0 l0.length l0) (hc0 : l0.length ≤ c0) (h : impl_numsOf.f k l0 = some r) :
    Calls Try.prog 73 #[.slice A0 l0.length c0] w fun e w' => ∃ v0_ : Value, e = .returned (v0_) ∧ Kd.R (Kd.int .i64) 3 w' w.heap.size (fun _ => True) v0_ r ∧ Below w.heap.size w w' := by
 have hu30 := Try.underlying30
 have HR0 := am hr0
 have HC0 := am hc0
 clear hr0 hc0
 have HB := am (Below.refl w.heap.size w)
 have H := h; clear h; unfold impl_numsOf.f at H
 obtain ⟨y593, hy593⟩ : ∃ y_ : List Int, y_ = (([] : List Int)) := ⟨_, rfl⟩
 replace H : (impl_numsOf.l0 k y593 l0 (l0.length : Int) 0) = some r := by first | (rw [hy593]; with_reducible exact H) | (rw [hy593]; exact H) | exact H
 have Ny593 := am hy593
 clear hy593
 have H' := am H; clear H
 go_enter Try.func73, Try.ntmps73
 go_wp2_with (first | ((with_reducible refine gd 6 rfl ?_); refine Kd.R_lit (Kd.int .i64) _ 3 ?hg (N := 6) ?hd (xs := ([] : List Int)) (inner := []) (ok := fun _ => True) (okp := fun _ => True) ?hr ?hp (fun _ hk => hk) trivial (Below.refl _ _) (Nat.le_refl _) (by simp) ?_; (case hd => rfl); (case hg => rfl); (case hr => first | (go_simp; done) | (go_simp; rfl)); (case hp => exact (Reps.none _ _)); intro v594 w2 ho3 hb hg_ hnew_; clear hg_ hnew_; (first | rw [← Ny593.out] at ho3 | (simp only [Int.reduceToNat] at ho3; rw [← Ny593.out] at ho3)); have HO595 := rlb ho3 HB; replace HB := bst HB hb; clear hb ho3))
 go_loopg [3, 9] k (fun kq v3 v9 w' => ∃ (x3_1 : List Int) (x9_1 : Int), v9 = .int .i64 x9_1 ∧ Aside0 (impl_numsOf.l0 kq x3_1 l0 (l0.length : Int) x9_1 = some r) ∧ Aside0 (kq ≤ k) ∧ Aside0 (Kd.R (Kd.int .i64) 3 w' w.heap.size (fun _ => True) v3 x3_1) ∧ Aside0 (Below w.heap.size w w'))
 case atStart => exact ⟨(y593), (0), sr, H', ⟨Nat.le_refl _⟩, ⟨rL HO595⟩, ⟨bL HB⟩⟩
 clear H'
 obtain ⟨x3_1, x9_1, rfl, HA, HK1, HO_3, HB⟩ := hrel
 cases gk with
 | zero => exact absurd HA.out (by simp [impl_numsOf.l0])
 | succ k1 => ?_
 have H := HA.out
 clear HA
 simp only [impl_numsOf.l0] at H
 replace H := idc H; obtain ⟨c4b0, H⟩ | ⟨c4b0, H⟩ := H
 rotate_left
 · obtain rfl := Option.some.inj H
   go_wp2
   go_ret
   exact ⟨_, fin_ ⟨by (with_reducible repeat (first | apply Kd.R_alloc | apply Kd.R_drewN | apply Kd.R_drew)); exact HO_3.out, bL HB⟩⟩
 replace H := if_dds H; obtain ⟨c5b0, c6b0, c7, H⟩ := H
 have LMc7 := am c7
 clear c7
 obtain ⟨y598, hy598⟩ : ∃ y_ : List Int, y_ = (x3_1 ++ [(rd_T30 l0 x9_1).f0]) := ⟨_, rfl⟩
 replace H : (impl_numsOf.l0 k1 y598 l0 (l0.length : Int) (wrap64 (x9_1 + 1))) = some r := by first | (rw [hy598]; with_reducible exact H) | (rw [hy598]; exact H) | exact H
 have Ny598 := am hy598
 clear hy598
 have H' := am H; clear H
 obtain ⟨p596, q596, ad596, e596, hx596_0, hx596_1⟩ := at_T30b HB HR0 x9_1; cases e596
 go_wp2_with (first | ((with_reducible refine gd 5 rfl ?_); refine bxv 5 rfl #[.int .i64 0, .string ⟨#[]⟩] 30 HB ?_; clear HB; intro gb597 w8 BK597 GW597 GE597 HB hg hb; replace HO_3 := rbe HO_3 hb; clear hg hb; obtain ⟨_, _, _, _⟩ := cl2 BK597) | ((with_reducible refine gate_builtin (b := .append) (xs := #[.tmp 13, .tmp 16]) rfl ?_); at_builtin; refine Kd.R_append (Kd.int .i64) (w0 := w) w.heap.size rfl (.tmp 13) (.tmp 16) 71 3 (.int .i64 0) 8 rfl Try.underlying71 info3 rfl (by decide) (by omega) u3 x3_1 ((rd_T30 l0 x9_1).f0) [.int .i64 ((rd_T30 l0 x9_1).f0)] (fun _ => True) (fun _ => False) rfl (by first | (go_simp; done) | (go_simp; rfl)) ?aP (fun _ hk => hk.elim) ?aF ?aO ?aB ?aS ?aL ?_; (case aP => exact rfl); (case aB => exact (bL HB)); (case aF => exact (fun _ _ => trivial)); (case aO => exact (by (with_reducible repeat (first | apply Kd.R_alloc | apply Kd.R_drewN | apply Kd.R_drew)); exact Kd.R_mono (Kd.R_far (p := ⟨gb597, 1, none⟩) (Kd.R_far (p := ⟨gb597, 0, none⟩) (Kd.R_types HO_3.out BK597.out (by decide)) (fun _ hk => hk.2) (.int .i64 ((rd_T30 l0 x9_1).f0))) (fun _ hk => hk.2) (.string ((rd_T30 l0 x9_1).f1))) (fun _ hk => trivial))); (case aS => exact (below_size (bL HB))); (case aL => have := LMc7.out; omega); intro v599 w10 ho hb hg hat; rw [← Ny598.out] at ho; have HO600 := am ho; replace BK597 := am (blk_grown (g := gb597) (o := .cells #[.int .i64 ((rd_T30 l0 x9_1).f0), .string ((rd_T30 l0 x9_1).f1)] 30 (0, 0)) (blk_later BK597.out) hg (Kd.R_ne HO_3.out BK597.out (by decide))); replace HB := am hb; clear HO_3; clear ho hb hg hat))
 go_roundg k1
 case measure => have := HK1.out; omega
 case rel => exact ⟨(y598), (wrap64 (x9_1 + 1)), sr, H', ⟨by have := HK1.out; omega⟩, ⟨rL HO600⟩, ⟨bL HB⟩⟩
/-! ### impl_WordPut: function 74 -/
def impl_WordPut.l0 : Nat → Int → List Int → Int → Int → Option (List Int)
  | 0, _, _, _, _ => none
  | k + 1, x0, x5, x11, x12 => if x12 < x11 then (if 0 ≤ (wrap64 (8 * x12)) then (if x5.length < 140737488355328 then (impl_WordPut.l0 k x0 (x5 ++ [(shr .i64 x0 (wrap64 (8 * x12))) % 256]) x11 (wrap64 (x12 + 1))) else (none)) else (none)) else (some x5)
def impl_WordPut.f (k : Nat) (a0 : Int) (a1 : Int) : Option (List Int) := (impl_within.f a1 1 8).bind fun t601 => (if t601 = true then (impl_WordPut.l0 k a0 (([] : List Int)) a1 0) else (some ([] : List Int)))
theorem impl_WordPut.calls {k : Nat} {a0 a1 : Int} {r : List Int} {w : World} (h : impl_WordPut.f k a0 a1 = some r) :
    Calls Try.prog 74 #[.int .i64 a0, .int .i64 a1] w fun e w' => ∃ v0_ : Value, e = .returned (v0_) ∧ Kd.R (Kd.int .u8) 5 w' w.heap.size (fun _ => True) v0_ r ∧ Below w.heap.size w w' := by
 have HB := am (Below.refl w.heap.size w)
 have H := h; clear h; unfold impl_WordPut.f at H
 replace H := bnd H; obtain ⟨t601, A3, H⟩ := H
 replace H := ibt H; obtain ⟨rfl, H⟩ | ⟨rfl, H⟩ := H
 rotate_left
 · obtain rfl := Option.some.inj H
   go_enter Try.func74, Try.ntmps74
   go_wp2_with (first | ((with_reducible refine gc 31 rfl ?_); refine gc1 (some 8) Try.func31 rfl (impl_within.calls A3.out) ?_; rintro w' ⟨nd, rfl⟩))
   go_ret
   exact ⟨_, fin_ ⟨by first | exact Kd.R_nil _ _ _ _ _ | exact Kd.N_nil _ _ _ _ _ | exact Kd.V_nil _ _ _ _ _ | exact Kd.Q_nil _ _ _ _ _ | exact Kd.S_nil _ _ _ _ _, bL HB⟩⟩
 obtain ⟨y602, hy602⟩ : ∃ y_ : List Int, y_ = (([] : List Int)) := ⟨_, rfl⟩
 replace H : (impl_WordPut.l0 k a0 y602 a1 0) = some r := by first | (rw [hy602]; with_reducible exact H) | (rw [hy602]; exact H) | exact H
 have Ny602 := am hy602
 clear hy602
 have H' := am H; clear H
 go_enter Try.func74, Try.ntmps74
 go_wp2_with (first | ((with_reducible refine gc 31 rfl ?_); refine gc1 (some 8) Try.func31 rfl (impl_within.calls A3.out) ?_; rintro w' ⟨nd, rfl⟩) | ((with_reducible refine gd 10 rfl ?_); refine Kd.R_lit (Kd.int .u8) _ 5 ?hg (N := 10) ?hd (xs := ([] : List Int)) (inner := []) (ok := fun _ => True) (okp := fun _ => True) ?hr ?hp (fun _ hk => hk) trivial (Below.refl _ _) (Nat.le_refl _) (by simp) ?_; (case hd => rfl); (case hg => rfl); (case hr => first | (go_simp; done) | (go_simp; rfl)); (case hp => exact (Reps.none _ _)); intro v603 w5 ho6 hb hg_ hnew_; clear hg_ hnew_; (first | rw [← Ny602.out] at ho6 | (simp only [Int.reduceToNat] at ho6; rw [← Ny602.out] at ho6)); have HO604 := rlb ho6 HB; replace HB := bst HB hb; clear hb ho6))
 go_loopg [5, 12] k (fun kq v5 v12 w' => ∃ (x5_1 : List Int) (x12_1 : Int), v12 = .int .i64 x12_1 ∧ Aside0 (impl_WordPut.l0 kq a0 x5_1 a1 x12_1 = some r) ∧ Aside0 (kq ≤ k) ∧ Aside0 (Kd.R (Kd.int .u8) 5 w' w.heap.size (fun _ => True) v5 x5_1) ∧ Aside0 (Below w.heap.size w w'))
 case atStart => exact ⟨(y602), (0), sr, H', ⟨Nat.le_refl _⟩, ⟨rL HO604⟩, ⟨bL HB⟩⟩
 clear H'
 try clear c4
 obtain ⟨x5_1, x12_1, rfl, HA, HK1, HO_5, HB⟩ := hrel
 cases gk with
 | zero => exact absurd HA.out (by simp [impl_WordPut.l0])
 | succ k1 => ?_
 have H := HA.out
 clear HA
 simp only [impl_WordPut.l0] at H
 replace H := idc H; obtain ⟨c7b0, H⟩ | ⟨c7b0, H⟩ := H
 rotate_left
 · obtain rfl := Option.some.inj H
   go_wp2
   go_ret
   exact ⟨_, fin_ ⟨by (with_reducible repeat (first | apply Kd.R_alloc | apply Kd.R_drewN | apply Kd.R_drew)); exact HO_5.out, bL HB⟩⟩
 obtain ⟨ji8, hji8⟩ : ∃ j_ : Int, (wrap64 (8 * x12_1)) = j_ := ⟨_, rfl⟩
 replace H : (if 0 ≤ (ji8) then (if x5_1.length < 140737488355328 then (impl_WordPut.l0 k1 a0 (x5_1 ++ [(shr .i64 a0 (ji8)) % 256]) a1 (wrap64 (x12_1 + 1))) else (none)) else (none)) = some r := by first | (rw [hji8] at H; exact H) | (simp only [hji8] at H ⊢; exact H)
 have hji8w : (IntKind.i64.wrap (8 * x12_1)) = ji8 := (i64_w _).trans hji8
 replace H := ifs H; obtain ⟨c9, H⟩ := H
 have c9b0 := eq_true c9
 have c9b1 := decide_eq_true c9
 clear c9
 obtain ⟨ji10, hji10⟩ : ∃ j_ : Int, (shr .i64 a0 (ji8)) = j_ := ⟨_, rfl⟩
 replace H : (if x5_1.length < 140737488355328 then (impl_WordPut.l0 k1 a0 (x5_1 ++ [(ji10) % 256]) a1 (wrap64 (x12_1 + 1))) else (none)) = some r := by first | (rw [hji10] at H; exact H) | (simp only [hji10] at H ⊢; exact H)
 have hji10_ : (a0 / 2 ^ min (ji8).toNat 64) = ji10 := hji10
 have hji10z : (ji8) ≤ 64 → (a0 / 2 ^ (ji8).toNat) = ji10 := shr_small hji10
 replace H := ifs H; obtain ⟨c11, H⟩ := H
 have LMc11 := am c11
 clear c11
 obtain ⟨y605, hy605⟩ : ∃ y_ : List Int, y_ = (x5_1 ++ [(ji10) % 256]) := ⟨_, rfl⟩
 replace H : (impl_WordPut.l0 k1 a0 y605 a1 (wrap64 (x12_1 + 1))) = some r := by first | (rw [hy605]; with_reducible exact H) | (rw [hy605]; exact H) | exact H
 have Ny605 := am hy605
 clear hy605
 have H' := am H; clear H
 go_wp2_with (first | ((with_reducible refine gate_builtin (b := .append) (xs := #[.tmp 15, .tmp 21]) rfl ?_); at_builtin; refine Kd.R_append (Kd.int .u8) (w0 := w) w.heap.size rfl (.tmp 15) (.tmp 21) 22 5 (.int .u8 0) 1 rfl Try.underlying22 info5 rfl (by decide) (by omega) u5 x5_1 ((ji10) % 256) [.int .u8 ((ji10) % 256)] (fun _ => True) (fun _ => False) rfl rfl ?aP (fun _ hk => hk.elim) ?aF ?aO ?aB ?aS ?aL ?_; (case aP => exact rfl); (case aB => exact (bL HB)); (case aF => exact (fun _ _ => trivial)); (case aO => exact (rL HO_5)); (case aS => exact (below_size (bL HB))); (case aL => have := LMc11.out; omega); intro v606 w12 ho hb hg hat; rw [← Ny605.out] at ho; have HO607 := am ho; replace HB := am hb; clear HO_5; clear ho hb hg hat))
 go_roundg k1
 case measure => have := HK1.out; omega
 case rel => exact ⟨(y605), (wrap64 (x12_1 + 1)), sr, H', ⟨by have := HK1.out; omega⟩, ⟨rL HO607⟩, ⟨bL HB⟩⟩
/-! ### impl_wideOf: function 75 -/
def impl_wideOf.f (a0 : Int) : Option (Int) := if a0 = 1 then (some 4) else (if a0 = 2 then (some 8) else (if a0 = 5 then (some 8) else (some 0)))
theorem impl_wideOf.calls {a0 r : Int} {w : World} (h : impl_wideOf.f a0 = some r) :
    Calls Try.prog 75 #[.int .i64 a0] w fun e w' => e = .returned (.int .i64 r) ∧ Drawn0 w w' := by
 have H := h; clear h; unfold impl_wideOf.f at H
 replace H := ieq H; obtain ⟨c2b0, c2b1, H⟩ | ⟨c2, c2b0, c2b1, H⟩ := H
 · obtain rfl := Option.some.inj H
   go_enter Try.func75, Try.ntmps75
   go_wp2
   go_ret
   exact ⟨sr, drl⟩
 replace H := ieq H; obtain ⟨c3b0, c3b1, H⟩ | ⟨c3, c3b0, c3b1, H⟩ := H
 · obtain rfl := Option.some.inj H
   go_enter Try.func75, Try.ntmps75
   go_wp2
   go_ret
   exact ⟨sr, drl⟩
 replace H := ieq H; obtain ⟨c4b0, c4b1, H⟩ | ⟨c4, c4b0, c4b1, H⟩ := H
 · obtain rfl := Option.some.inj H
   go_enter Try.func75, Try.ntmps75
   go_wp2
   go_ret
   exact ⟨sr, drl⟩
 obtain rfl := Option.some.inj H
 go_enter Try.func75, Try.ntmps75
 go_wp2
 go_ret
 exact ⟨sr, drl⟩
/-! ### impl_PlainPack: function 59 -/
def impl_PlainPack.l0 : Nat → Int → List Int → List (S30) → Int → Int → Option (List Int × Bool)
  | 0, _, _, _, _, _ => none
  | k + 1, x0, x6, x19, x20, x21 => if x21 < x20 then (if 0 ≤ x21 then (if x21 < (x19.length : Int) then (if x0 = 6 then ((impl_WordPut.f k (((rd_T30 x19 x21).f1).size : Int) 4).bind fun t620 => (if x6.length + t620.length < 140737488355328 then ((some (x6 ++ t620 : List Int)).bind fun y623 => (if y623.length + ((rd_T30 x19 x21).f1).size < 140737488355328 then (impl_PlainPack.l0 k x0 (y623 ++ bytesOf ((rd_T30 x19 x21).f1)) x19 x20 (wrap64 (x21 + 1))) else (none))) else (none))) else ((impl_wideOf.f x0).bind fun t629 => ((impl_WordPut.f k ((rd_T30 x19 x21).f0) t629).bind fun t630 => (if x6.length + t630.length < 140737488355328 then (impl_PlainPack.l0 k x0 (x6 ++ t630) x19 x20 (wrap64 (x21 + 1))) else (none))))) else (none)) else (none)) else (some (x6, true))
def impl_PlainPack.f (k : Nat) (a0 : Int) (l1 : List (S30)) : Option (List Int × Bool) := (impl_valsOk.f k a0 l1).bind fun t608 => (if t608 = true then (if a0 = 0 then ((impl_numsOf.f k l1).bind fun t609 => ((impl_packed.f k t609 1).bind fun t612 => (some (t612, true)))) else (impl_PlainPack.l0 k a0 (([] : List Int)) l1 (l1.length : Int) 0)) else (some (([] : List Int), false)))
def impl_PlainPack.T10 : Bool × List (List Nat × List Nat) := (true, [([], []), ([], []), ([1], [1]), ([2], [2]), ([3], [3]), ([0, 4, 4], [0, 4]), ([], []), ([6], [6]), ([5, 7, 5], [5, 7]), ([8, 8, 0, 1, 2, 3, 4, 5, 6, 7, 8], [0, 8])])
def impl_PlainPack.B10 : List Nat := [0, 0, 2, 6, 14, 31, 0, 64, 255, 511]
theorem impl_PlainPack.tab10 : rtab .any (opsOf Try.f59 10) = impl_PlainPack.T10 := by kernel_rfl
theorem impl_PlainPack.bits10 : waitsOk impl_PlainPack.T10.2 impl_PlainPack.B10 = true := by kernel_rfl
def impl_PlainPack.T11 : Bool × List (List Nat × List Nat) := (true, [([], []), ([], []), ([1], [1]), ([], []), ([3], [3]), ([2, 4, 4], [2, 4]), ([0, 5, 5], [0, 5]), ([6, 6, 0, 1, 2, 3, 4, 5, 6], [0, 6])])
def impl_PlainPack.B11 : List Nat := [0, 0, 2, 0, 8, 30, 63, 127]
theorem impl_PlainPack.tab11 : rtab .any (opsOf Try.f59 11) = impl_PlainPack.T11 := by kernel_rfl
theorem impl_PlainPack.bits11 : waitsOk impl_PlainPack.T11.2 impl_PlainPack.B11 = true := by kernel_rfl
theorem impl_PlainPack.calls {k : Nat} {a0 : Int} {A1 : Option Addr} {c1 : Nat} {l1 : List (S30)} {r1 : List Int} {r2 : Bool} {w : World} (hr1 : Kd.C k30 w A1 l1.length l1) (hc1 : l1.length ≤ c1) (h : impl_PlainPack.f k a0 l1 = some (r1, r2)) :
    Calls Try.prog 59 #[.int .i64 a0, .slice A1 l1.length c1] w fun e w' => ∃ v0_ : Value, e = .returned (.tuple #[v0_, .bool r2]) ∧ Kd.R (Kd.int .u8) 5 w' w.heap.size (fun _ => True) v0_ r1 ∧ Below w.heap.size w w' := by
 have hu30 := Try.underlying30
 have HR1 := am hr1
 have HC1 := am hc1
 clear hr1 hc1
 have HB := am (Below.refl w.heap.size w)
 have H := h; clear h; unfold impl_PlainPack.f at H
 replace H := bnd H; obtain ⟨t608, A3, H⟩ := H
 replace H := ibt H; obtain ⟨rfl, H⟩ | ⟨rfl, H⟩ := H
 rotate_left
 · replace H := sj2 H; obtain ⟨rfl, rfl⟩ := H
   go_enter Try.func59, Try.ntmps59
   go_wp2_with (first | ((with_reducible refine gc 71 rfl ?_); refine gc1 (some 11) Try.func71 rfl (impl_valsOk.calls (C_later HR1.out) HC1.out A3.out) ?_; rintro w40 hb; replace HB := bst HB hb; clear hb))
   go_ret2
   exact ⟨_, fin_ ⟨by first | exact Kd.R_nil _ _ _ _ _ | exact Kd.N_nil _ _ _ _ _ | exact Kd.V_nil _ _ _ _ _ | exact Kd.Q_nil _ _ _ _ _ | exact Kd.S_nil _ _ _ _ _, bL HB⟩⟩
 replace H := ieq H; obtain ⟨c5b0, c5b1, H⟩ | ⟨c5, c5b0, c5b1, H⟩ := H
 · replace H := bnd H; obtain ⟨t609, A6, H⟩ := H
   replace H := bnd H; obtain ⟨t612, A7, H⟩ := H
   replace H := sj2 H; obtain ⟨rfl, rfl⟩ := H
   go_enter Try.func59, Try.ntmps59
   go_wp2_with (first | ((with_reducible refine gc 71 rfl ?_); refine gc1 (some 11) Try.func71 rfl (impl_valsOk.calls (C_later HR1.out) HC1.out A3.out) ?_; rintro w8 hb; replace HB := bst HB hb; clear hb) | ((with_reducible refine gc 73 rfl ?_); refine gl_ (some 16) Try.func73 #[.slice A1 l1.length c1] rfl ?_; (with_reducible refine (impl_numsOf.calls ?side1 ?side2 A6.out).mono ?_); (case side1 => repeat (first | exact (Kd.C_below HR1.out HB.out) | (with_reducible refine Kd.C_alloc ?_ _) | (with_reducible refine Kd.C_drewN ?_ _) | (with_reducible refine Kd.C_drew ?_))); (case side2 => exact HC1.out); rintro e w9 ⟨v610, rfl, ho0, hb⟩; refine ⟨_, rfl, ?_⟩; have HO611 := rlb ho0 HB; replace HB := bst HB hb; clear hb ho0; obtain ⟨Ao10, co10, eo10⟩ := Kd.R_slice HO611.out; subst eo10) | ((with_reducible refine gc 72 rfl ?_); refine gc2 (some 17) Try.func72 rfl (impl_packed.calls (C_later (Kd.R_reads' HO611.out).2.2) ((Kd.R_reads' HO611.out).2.1) A7.out) ?_; rintro v613 w11 ⟨ho0, hb⟩; have HO614 := rlb ho0 HB; replace HO611 := rbe HO611 hb; replace HB := bst HB hb; clear hb ho0))
   go_ret2
   exact ⟨_, fin_ ⟨by (with_reducible repeat (first | apply Kd.R_alloc | apply Kd.R_drewN | apply Kd.R_drew)); exact HO614.out, bL HB⟩⟩
 obtain ⟨y615, hy615⟩ : ∃ y_ : List Int, y_ = (([] : List Int)) := ⟨_, rfl⟩
 replace H : (impl_PlainPack.l0 k a0 y615 l1 (l1.length : Int) 0) = some (r1, r2) := by first | (rw [hy615]; with_reducible exact H) | (rw [hy615]; exact H) | exact H
 have Ny615 := am hy615
 clear hy615
 have H' := am H; clear H
 go_enter Try.func59, Try.ntmps59
 go_wp2_with (first | ((with_reducible refine gc 71 rfl ?_); refine gc1 (some 11) Try.func71 rfl (impl_valsOk.calls (C_later HR1.out) HC1.out A3.out) ?_; rintro w12 hb; replace HB := bst HB hb; clear hb) | ((with_reducible refine gd 18 rfl ?_); refine Kd.R_lit (Kd.int .u8) _ 5 ?hg (N := 18) ?hd (xs := ([] : List Int)) (inner := []) (ok := fun _ => True) (okp := fun _ => True) ?hr ?hp (fun _ hk => hk) trivial (Below.refl _ _) (Nat.le_refl _) (by simp) ?_; (case hd => rfl); (case hg => rfl); (case hr => first | (go_simp; done) | (go_simp; rfl)); (case hp => exact (Reps.none _ _)); intro v616 w13 ho14 hb hg_ hnew_; clear hg_ hnew_; (first | rw [← Ny615.out] at ho14 | (simp only [Int.reduceToNat] at ho14; rw [← Ny615.out] at ho14)); have HO617 := rlb ho14 HB; replace HB := bst HB hb; clear hb ho14))
 go_loopg [6, 21] k (fun kq v6 v21 w' => ∃ (x6_1 : List Int) (x21_1 : Int), v21 = .int .i64 x21_1 ∧ Aside0 (impl_PlainPack.l0 kq a0 x6_1 l1 (l1.length : Int) x21_1 = some (r1, r2)) ∧ Aside0 (kq ≤ k) ∧ Aside0 (Kd.R (Kd.int .u8) 5 w' w.heap.size (fun _ => True) v6 x6_1) ∧ Aside0 (Below w.heap.size w w'))
 case atStart => exact ⟨(y615), (0), sr, H', ⟨Nat.le_refl _⟩, ⟨rL HO617⟩, ⟨bL HB⟩⟩
 clear H'
 try clear c1 c4 c5 c5b0 c5b1
 obtain ⟨x6_1, x21_1, rfl, HA, HK1, HO_6, HB⟩ := hrel
 cases gk with
 | zero => exact absurd HA.out (by simp [impl_PlainPack.l0])
 | succ k1 => ?_
 have H := HA.out
 clear HA
 simp only [impl_PlainPack.l0] at H
 replace H := idc H; obtain ⟨c15b0, H⟩ | ⟨c15b0, H⟩ := H
 rotate_left
 · replace H := sj2 H; obtain ⟨rfl, rfl⟩ := H
   go_wp2
   go_ret2
   exact ⟨_, fin_ ⟨by (with_reducible repeat (first | apply Kd.R_alloc | apply Kd.R_drewN | apply Kd.R_drew)); exact HO_6.out, bL HB⟩⟩
 replace H := if_dd H; obtain ⟨c16b0, c17b0, H⟩ := H
 replace H := ieq H; obtain ⟨c18b0, c18b1, H⟩ | ⟨c18, c18b0, c18b1, H⟩ := H
 rotate_left
 · replace H := bnd H; obtain ⟨t629, A30, H⟩ := H
   replace H := bnd H; obtain ⟨t630, A31, H⟩ := H
   replace H := ifs H; obtain ⟨c32, H⟩ := H
   have LMc32 := am c32
   clear c32
   obtain ⟨y633, hy633⟩ : ∃ y_ : List Int, y_ = (x6_1 ++ t630) := ⟨_, rfl⟩
   replace H : (impl_PlainPack.l0 k1 a0 y633 l1 (l1.length : Int) (wrap64 (x21_1 + 1))) = some (r1, r2) := by first | (rw [hy633]; with_reducible exact H) | (rw [hy633]; exact H) | exact H
   have Ny633 := am hy633
   clear hy633
   have H' := am H; clear H
   obtain ⟨p618, q618, ad618, e618, hx618_0, hx618_1⟩ := at_T30b HB HR1 x21_1; cases e618
   try go_wp2_with (first | ((with_reducible refine gd 8 rfl ?_); refine bxv 8 rfl #[.int .i64 0, .string ⟨#[]⟩] 30 HB ?_; clear HB; intro gb619 w33 BK619 GW619 GE619 HB hg hb; replace HO_6 := rbe HO_6 hb; clear hg hb; obtain ⟨_, _, _, _⟩ := cl2 BK619))
   have n0_ : Aside0 (Kd.R (Kd.int .u8) 5 ((w33.setCell ⟨gb619, 0, none⟩ (.int .i64 ((rd_T30 l1 x21_1).f0))).setCell ⟨gb619, 1, none⟩ (.string ((rd_T30 l1 x21_1).f1))) w.heap.size (fun _ => True) u6 x6_1) := ⟨by (with_reducible repeat (first | apply Kd.R_alloc | apply Kd.R_drewN | apply Kd.R_drew)); exact Kd.R_mono (Kd.R_far (p := ⟨gb619, 1, none⟩) (Kd.R_far (p := ⟨gb619, 0, none⟩) (Kd.R_types HO_6.out BK619.out (by decide)) (fun _ hk => hk.2) (.int .i64 ((rd_T30 l1 x21_1).f0))) (fun _ hk => hk.2) (.string ((rd_T30 l1 x21_1).f1))) (fun _ hk => trivial)⟩
   have n1_ : Aside0 (((w33.setCell ⟨gb619, 0, none⟩ (.int .i64 ((rd_T30 l1 x21_1).f0))).setCell ⟨gb619, 1, none⟩ (.string ((rd_T30 l1 x21_1).f1))).heap[gb619]? = some (.cells #[.int .i64 ((rd_T30 l1 x21_1).f0), .string ((rd_T30 l1 x21_1).f1)] 30 (0, 0))) := ⟨blk_later BK619.out⟩
   have n2_ : Aside0 (Below w.heap.size w ((w33.setCell ⟨gb619, 0, none⟩ (.int .i64 ((rd_T30 l1 x21_1).f0))).setCell ⟨gb619, 1, none⟩ (.string ((rd_T30 l1 x21_1).f1)))) := ⟨bL HB⟩
   (try clear HO_6)
   (try clear BK619)
   (try clear HB)
   generalize ((w33.setCell ⟨gb619, 0, none⟩ (.int .i64 ((rd_T30 l1 x21_1).f0))).setCell ⟨gb619, 1, none⟩ (.string ((rd_T30 l1 x21_1).f1))) = w35 at n0_ n1_ n2_ ⊢
   have HO_6 := n0_
   have BK619 := n1_
   have HB := n2_
   clear n0_ n1_ n2_
   replace HO_6 := rdr HO_6
   replace BK619 := bdr BK619
   replace HB := bld HB
   refine start_ (n := 8) (S := fun w' => w'.cell? ⟨gb619, 0, none⟩ = some (.int .i64 ((rd_T30 l1 x21_1).f0)) ∧ w'.cell? ⟨gb619, 1, none⟩ = some (.string ((rd_T30 l1 x21_1).f1))) (ds := []) #[false, false, false, false, false, false, false, false] (by kernel_rfl) rfl rfl ⟨bcl BK619 0, bcl BK619 1⟩ (fun hHeld => ?_); refine with_tabW impl_PlainPack.tab11 impl_PlainPack.bits11 (fun HT_ HW_ => ?_)
   generalize w35.drew = w36 at HO_6 BK619 HB hHeld ⊢
   refine pu_ 0 36 ?_; refine pu_ 1 37 ?_; refine pu_ 3 39 ?_; refine tk_ 2 38 hHeld ?_
   refine on_ 4 40 (fun K hK => ?_)
   refine gs_ Try.func75 #[.int .i64 a0] rfl ?_
   with_reducible refine (impl_wideOf.calls A30.out).mono ?_
   rintro e w' ⟨rfl, ⟨nd, rfl⟩⟩
   refine ⟨_, rfl, ?_⟩
   refine hK.out _ _ ⟨bcl BK619 0, bcl BK619 1⟩ (fun hHeld => ?_)
   clear hK K
   refine no_ (some 40) ?_
   refine on_ 5 41 (fun K hK => ?_)
   refine gs_ Try.func74 #[.int .i64 ((rd_T30 l1 x21_1).f0), .int .i64 t629] rfl ?_
   with_reducible refine (impl_WordPut.calls A31.out).mono ?_
   rintro e w37 ⟨v631, rfl, ho0, hb⟩
   refine ⟨_, rfl, ?_⟩
   have HO632 := am (Kd.R_lower (Kd.R_new' ho0 (Kd.R_lt (rL HO_6))) (below_size (bL HB)))
   replace HO_6 := am (Kd.R_elder' (rL HO_6) (Kd.R_base ho0) hb)
   replace BK619 := bkb BK619 hb
   replace HB := bst HB hb
   (try clear hb)
   (try clear hb2)
   (try clear hk)
   (try clear hi)
   (try clear ho0)
   obtain ⟨Ao39, co39, eo39⟩ := Kd.R_slice HO632.out
   (first | subst eo39 | (injection eo39 with f1_ f2_ f3_; have f4_ := f1_.symm; have f5_ := f3_.symm; clear f1_ f2_ f3_; subst f4_; subst f5_))
   refine hK.out _ _ ⟨bcl BK619 0, bcl BK619 1⟩ (fun hHeld => ?_)
   clear hK K
   refine no_ (some 41) ?_
   refine on_ 6 42 (fun K hK => ?_)
   refine Kd.R_append_rows_step (Kd.int .u8) (w0 := w) w.heap.size (by rfl) (.tmp 36) (.tmp 41) 22 5 (.int .u8 0) 1 rfl Try.underlying22 info5 rfl (by decide) (by omega) u6 x6_1 t630 _ _ _ (fun k_ => some k_ ≠ (.slice Ao39 t630.length co39 : Value).ownBlock) (fun _ => False) rfl rfl ?aO ?aR (fun _ _ h => h) (fun _ h => h.elim) ?aF ?aB ?aS ?aL ?_
   (case aR => exact C_later (Kd.R_reads' HO632.out).2.2)
   (case aB => exact (bL HB))
   (case aF => exact (fun k_ hk => Kd.fresh' (Kd.R_lt (rL HO632)) k_ hk))
   (case aO => exact (by (with_reducible repeat (first | apply Kd.R_alloc | apply Kd.R_drewN | apply Kd.R_drew)); exact Kd.R_mono HO_6.out (fun _ hk => hk.2)))
   (case aS => exact (below_size (bL HB)))
   (case aL => have := LMc32.out; omega)
   intro v634 w38 ho hb hg hat
   rw [← Ny633.out] at ho
   have HO635 := am ho
   replace BK619 := bgr BK619 hg HO_6
   replace HO632 := am (Kd.R_after (ok := (fun _ => True)) (rL HO632) hg hat)
   replace HB := am hb
   clear HO_6 ho hb hg hat
   refine hK.out _ _ ⟨bcl BK619 0, bcl BK619 1⟩ (fun hHeld => ?_)
   clear hK K
   refine no_ (some 42) ?_; refine pu_ 7 6 ?_
   refine done_ (done_of HT_.out (by kernel_rfl)) ?_
   try go_wp2
   go_roundg k1
   case measure => have := HK1.out; omega
   case rel => exact ⟨(y633), (wrap64 (x21_1 + 1)), sr, H', ⟨by have := HK1.out; omega⟩, ⟨R_later (Kd.R_mono HO635.out (fun _ hk => trivial))⟩, ⟨bL HB⟩⟩
 replace H := bnd H; obtain ⟨t620, A19, H⟩ := H
 replace H := ifs H; obtain ⟨c20, H⟩ := H
 have LMc20 := am c20
 clear c20
 replace H := bsm H; obtain ⟨y623, Ny623, H⟩ := H
 replace H := ifs H; obtain ⟨c21, H⟩ := H
 have LMc21 := am c21
 clear c21
 obtain ⟨y626, hy626⟩ : ∃ y_ : List Int, y_ = (y623 ++ bytesOf ((rd_T30 l1 x21_1).f1)) := ⟨_, rfl⟩
 replace H : (impl_PlainPack.l0 k1 a0 y626 l1 (l1.length : Int) (wrap64 (x21_1 + 1))) = some (r1, r2) := by first | (rw [hy626]; with_reducible exact H) | (rw [hy626]; exact H) | exact H
 have Ny626 := am hy626
 clear hy626
 have H' := am H; clear H
 obtain ⟨p618, q618, ad618, e618, hx618_0, hx618_1⟩ := at_T30b HB HR1 x21_1; cases e618
 try go_wp2_with (first | ((with_reducible refine gd 8 rfl ?_); refine bxv 8 rfl #[.int .i64 0, .string ⟨#[]⟩] 30 HB ?_; clear HB; intro gb619 w22 BK619 GW619 GE619 HB hg hb; replace HO_6 := rbe HO_6 hb; clear hg hb; obtain ⟨_, _, _, _⟩ := cl2 BK619))
 have n0_ : Aside0 (Kd.R (Kd.int .u8) 5 ((w22.setCell ⟨gb619, 0, none⟩ (.int .i64 ((rd_T30 l1 x21_1).f0))).setCell ⟨gb619, 1, none⟩ (.string ((rd_T30 l1 x21_1).f1))) w.heap.size (fun _ => True) u6 x6_1) := ⟨by (with_reducible repeat (first | apply Kd.R_alloc | apply Kd.R_drewN | apply Kd.R_drew)); exact Kd.R_mono (Kd.R_far (p := ⟨gb619, 1, none⟩) (Kd.R_far (p := ⟨gb619, 0, none⟩) (Kd.R_types HO_6.out BK619.out (by decide)) (fun _ hk => hk.2) (.int .i64 ((rd_T30 l1 x21_1).f0))) (fun _ hk => hk.2) (.string ((rd_T30 l1 x21_1).f1))) (fun _ hk => trivial)⟩
 have n1_ : Aside0 (((w22.setCell ⟨gb619, 0, none⟩ (.int .i64 ((rd_T30 l1 x21_1).f0))).setCell ⟨gb619, 1, none⟩ (.string ((rd_T30 l1 x21_1).f1))).heap[gb619]? = some (.cells #[.int .i64 ((rd_T30 l1 x21_1).f0), .string ((rd_T30 l1 x21_1).f1)] 30 (0, 0))) := ⟨blk_later BK619.out⟩
 have n2_ : Aside0 (Below w.heap.size w ((w22.setCell ⟨gb619, 0, none⟩ (.int .i64 ((rd_T30 l1 x21_1).f0))).setCell ⟨gb619, 1, none⟩ (.string ((rd_T30 l1 x21_1).f1)))) := ⟨bL HB⟩
 (try clear HO_6)
 (try clear BK619)
 (try clear HB)
 generalize ((w22.setCell ⟨gb619, 0, none⟩ (.int .i64 ((rd_T30 l1 x21_1).f0))).setCell ⟨gb619, 1, none⟩ (.string ((rd_T30 l1 x21_1).f1))) = w24 at n0_ n1_ n2_ ⊢
 have HO_6 := n0_
 have BK619 := n1_
 have HB := n2_
 clear n0_ n1_ n2_
 replace HO_6 := rdr HO_6
 replace BK619 := bdr BK619
 replace HB := bld HB
 refine start_ (n := 10) (S := fun w' => w'.cell? ⟨gb619, 0, none⟩ = some (.int .i64 ((rd_T30 l1 x21_1).f0)) ∧ w'.cell? ⟨gb619, 1, none⟩ = some (.string ((rd_T30 l1 x21_1).f1))) (ds := []) #[false, false, false, false, false, false, false, false, false, false] (by kernel_rfl) rfl rfl ⟨bcl BK619 0, bcl BK619 1⟩ (fun hHeld => ?_); refine with_tabW impl_PlainPack.tab10 impl_PlainPack.bits10 (fun HT_ HW_ => ?_)
 generalize w24.drew = w25 at HO_6 BK619 HB hHeld ⊢
 refine pu_ 0 27 ?_; refine pu_ 1 28 ?_; refine pu_ 6 33 ?_; refine tk_ 2 29 hHeld ?_; refine pu_ 3 30 ?_; refine tk_ 7 34 hHeld ?_
 refine on_ 4 31 (fun K hK => ?_)
 refine gs_ Try.func74 #[.int .i64 (((rd_T30 l1 x21_1).f1).size : Int), .int .i64 4] rfl ?_
 with_reducible refine (impl_WordPut.calls A19.out).mono ?_
 rintro e w26 ⟨v621, rfl, ho0, hb⟩
 refine ⟨_, rfl, ?_⟩
 have HO622 := am (Kd.R_lower (Kd.R_new' ho0 (Kd.R_lt (rL HO_6))) (below_size (bL HB)))
 replace HO_6 := am (Kd.R_elder' (rL HO_6) (Kd.R_base ho0) hb)
 replace BK619 := bkb BK619 hb
 replace HB := bst HB hb
 (try clear hb)
 (try clear hb2)
 (try clear hk)
 (try clear hi)
 (try clear ho0)
 obtain ⟨Ao28, co28, eo28⟩ := Kd.R_slice HO622.out
 (first | subst eo28 | (injection eo28 with f1_ f2_ f3_; have f4_ := f1_.symm; have f5_ := f3_.symm; clear f1_ f2_ f3_; subst f4_; subst f5_))
 refine hK.out _ _ ⟨bcl BK619 0, bcl BK619 1⟩ (fun hHeld => ?_)
 clear hK K
 refine no_ (some 31) ?_
 refine on_ 5 32 (fun K hK => ?_)
 refine Kd.R_append_rows_step (Kd.int .u8) (w0 := w) w.heap.size (by rfl) (.tmp 27) (.tmp 31) 22 5 (.int .u8 0) 1 rfl Try.underlying22 info5 rfl (by decide) (by omega) u6 x6_1 t620 _ _ _ (fun k_ => some k_ ≠ (.slice Ao28 t620.length co28 : Value).ownBlock) (fun _ => False) rfl rfl ?aO ?aR (fun _ _ h => h) (fun _ h => h.elim) ?aF ?aB ?aS ?aL ?_
 (case aR => exact C_later (Kd.R_reads' HO622.out).2.2)
 (case aB => exact (bL HB))
 (case aF => exact (fun k_ hk => Kd.fresh' (Kd.R_lt (rL HO622)) k_ hk))
 (case aO => exact (by (with_reducible repeat (first | apply Kd.R_alloc | apply Kd.R_drewN | apply Kd.R_drew)); exact Kd.R_mono HO_6.out (fun _ hk => hk.2)))
 (case aS => exact (below_size (bL HB)))
 (case aL => have := LMc20.out; omega)
 intro v624 w27 ho hb hg hat
 rw [← Ny623.out] at ho
 have HO625 := am ho
 replace BK619 := bgr BK619 hg HO_6
 replace HO622 := am (Kd.R_after (ok := (fun _ => True)) (rL HO622) hg hat)
 replace HB := am hb
 clear HO_6 ho hb hg hat
 refine hK.out _ _ ⟨bcl BK619 0, bcl BK619 1⟩ (fun hHeld => ?_)
 clear hK K
 refine no_ (some 32) ?_
 refine on_ 8 35 (fun K hK => ?_)
 refine Go.Proofs.YtnlgodcbnlbdkaaW.PrintMore2.R_append_str_step (w0 := w) w.heap.size (by rfl) (.tmp 32) _ 22 9 5 rfl Try.underlying22 Try.underlying9 info5 v624 y623 ((rd_T30 l1 x21_1).f1) (fun k_ => some k_ ≠ (.slice Ao28 t620.length co28 : Value).ownBlock) rfl rfl ?aO ?aF ?aB ?aS ?aL ?_
 (case aB => exact (bL HB))
 (case aF => exact (fun k_ hk => Kd.fresh' (Kd.R_lt (rL HO622)) k_ hk))
 (case aO => exact (rL HO625))
 (case aS => exact (below_size (bL HB)))
 (case aL => have := LMc21.out; omega)
 intro v627 w29 ho hb hg hat
 rw [← Ny626.out] at ho
 have HO628 := am ho
 replace BK619 := bgr BK619 hg HO625
 replace HO622 := am (Kd.R_after (ok := (fun _ => True)) (rL HO622) hg hat)
 replace HB := am hb
 clear HO625 ho hb hg hat
 refine hK.out _ _ ⟨bcl BK619 0, bcl BK619 1⟩ (fun hHeld => ?_)
 clear hK K
 refine no_ (some 35) ?_; refine pu_ 9 6 ?_
 refine done_ (done_of HT_.out (by kernel_rfl)) ?_
 try go_wp2
 go_roundg k1
 case measure => have := HK1.out; omega
 case rel => exact ⟨(y626), (wrap64 (x21_1 + 1)), sr, H', ⟨by have := HK1.out; omega⟩, ⟨R_later (Kd.R_mono HO628.out (fun _ hk => trivial))⟩, ⟨bL HB⟩⟩
/-! ### impl_statText: function 40 -/
def impl_statText.f (k : Nat) (a0 : Int) (a1_0 : Int) (a1_1 : ByteArray) : Option (ByteArray) := if a0 = 6 then (some a1_1) else ((impl_PlainPack.f k a0 (([(⟨a1_0, a1_1⟩ : S30)] : List (S30)))).bind fun bt640 => (some (strOfNums bt640.1)))
theorem impl_statText.calls {k : Nat} {a0 a1_0 : Int} {a1_1 r : ByteArray} {w : World} (h : impl_statText.f k a0 a1_0 a1_1 = some r) :
    Calls Try.prog 40 #[.int .i64 a0, .agg #[.int .i64 a1_0, .string a1_1]] w fun e w' => e = .returned (.string r) ∧ Below w.heap.size w w' := by
 have hu30 := Try.underlying30
 have HB := am (Below.refl w.heap.size w)
 have H := h; clear h; unfold impl_statText.f at H
 replace H := ieq H; obtain ⟨c3b0, c3b1, H⟩ | ⟨c3, c3b0, c3b1, H⟩ := H
 · obtain rfl := Option.some.inj H
   go_enter Try.func40, Try.ntmps40
   go_wp2_with (first | ((with_reducible refine gd 3 rfl ?_); refine bxw 3 rfl #[.int .i64 a1_0, .string a1_1] 30 HB ?_; clear HB; intro gb636 w4 BK636 GW636 GE636 HB; obtain ⟨_, _, _, _⟩ := cl2 BK636))
   go_ret
   exact fin_ (bL HB)
 obtain ⟨y637, hy637⟩ : ∃ y_ : List (S30), y_ = (([(⟨a1_0, a1_1⟩ : S30)] : List (S30))) := ⟨_, rfl⟩
 replace H : ((impl_PlainPack.f k a0 y637).bind fun bt640 => (some (strOfNums bt640.1))) = some r := by first | (rw [hy637]; with_reducible exact H) | (rw [hy637]; exact H) | exact H
 have Ny637 := am hy637
 clear hy637
 replace H := bnd2 H; obtain ⟨t640, t641, A6, H⟩ := H; dsimp only at H
 obtain rfl := Option.some.inj H
 go_enter Try.func40, Try.ntmps40
 go_wp2_with (first | ((with_reducible refine gd 3 rfl ?_); refine bxw 3 rfl #[.int .i64 a1_0, .string a1_1] 30 HB ?_; clear HB; intro gb636 w7 BK636 GW636 GE636 HB; obtain ⟨_, _, _, _⟩ := cl2 BK636) | ((with_reducible refine gd 14 rfl ?_); refine Kd.R_lit k30 _ 30 ?hg (N := 14) ?hd (xs := ([(⟨a1_0, a1_1⟩ : S30)] : List (S30))) (inner := [.int .i64 a1_0, .string a1_1]) (ok := fun _ => True) (okp := fun _ => True) ?hr ?hp (fun _ hk => hk) trivial (Below.refl _ _) (Nat.le_refl _) (by simp) ?_; (case hd => rfl); (case hg => rfl); (case hr => first | (go_simp; done) | (go_simp; rfl)); (case hp => exact (Reps.c2 (show Kd.M k30 _ _ _ (⟨a1_0, a1_1⟩ : S30) [.int .i64 a1_0, .string a1_1] from (k30_mkM _ _ _ (⟨a1_0, a1_1⟩ : S30) )) (Reps.none _ _))); intro v638 w9 ho10 hb hg_ hnew_; clear hg_ hnew_; (first | rw [← Ny637.out] at ho10 | (simp only [Int.reduceToNat] at ho10; rw [← Ny637.out] at ho10)); have HO639 := am (Kd.R_lower (Kd.R_newB ho10 (blk_later BK636.out)) (below_size (bL HB))); replace BK636 := bkb BK636 hb; replace HB := bst HB hb; clear hb ho10; obtain ⟨Ao11, co11, eo11⟩ := Kd.R_slice HO639.out; subst eo11) | ((with_reducible refine gc 59 rfl ?_); refine gc2 (some 15) Try.func59 rfl (impl_PlainPack.calls (C_later (Kd.R_reads' HO639.out).2.2) ((Kd.R_reads' HO639.out).2.1) A6.out) ?_; rintro v642 w12 ⟨ho0, hb⟩; have HO643 := rlb ho0 HB; replace HO639 := rbe HO639 hb; replace BK636 := bkb BK636 hb; replace HB := bst HB hb; clear hb ho0; have hcv13 := own_string (P := Try.prog) Try.underlying22 Try.underlying5 Try.underlying9 (Kd.own_of_R HO643.out)))
 go_ret
 exact fin_ (bL HB)
/-! ### impl_structNode: function 41 -/
def impl_structNode.l0 : Nat → List (S76) → List (List (S76)) → Int → Int → Option ((List (S76)))
  | 0, _, _, _, _ => none
  | k + 1, x5, x13, x14, x15 => if x15 < x14 then (if 0 ≤ x15 then (if x15 < (x13.length : Int) then (if x5.length + (rd_L14 x13 x15).length < 2932031007402 then (impl_structNode.l0 k (x5 ++ (rd_L14 x13 x15)) x13 x14 (wrap64 (x15 + 1))) else (none)) else (none)) else (none)) else (some x5)
def impl_structNode.f (k : Nat) (a0 : Int) (l1 : List (List (S76))) : Option ((List (S76))) := impl_structNode.l0 k (([(⟨12, a0, 0, (⟨#[]⟩ : ByteArray), (l1.length : Int)⟩ : S76)] : List (S76))) l1 (l1.length : Int) 0
theorem impl_structNode.calls {k : Nat} {a0 : Int} {A1 : Option Addr} {c1 : Nat} {l1 : List (List (S76))} {r : List (S76)} {w : World} (hr1 : Kd.C (Kd.slice 76 k76) w A1 l1.length l1) (hc1 : l1.length ≤ c1) (h : impl_structNode.f k a0 l1 = some r) :
    Calls Try.prog 41 #[.int .i64 a0, .slice A1 l1.length c1] w fun e w' => ∃ v0_ : Value, e = .returned (v0_) ∧ Kd.R k76 76 w' w.heap.size (fun _ => True) v0_ r ∧ Below w.heap.size w w' := by
 have hu76 := Try.underlying76
 have HR1 := am hr1
 have HC1 := am hc1
 clear hr1 hc1
 have HB := am (Below.refl w.heap.size w)
 have H := h; clear h; unfold impl_structNode.f at H
 obtain ⟨y644, hy644⟩ : ∃ y_ : List (S76), y_ = (([(⟨12, a0, 0, (⟨#[]⟩ : ByteArray), (l1.length : Int)⟩ : S76)] : List (S76))) := ⟨_, rfl⟩
 replace H : (impl_structNode.l0 k y644 l1 (l1.length : Int) 0) = some r := by first | (rw [hy644]; with_reducible exact H) | (rw [hy644]; exact H) | exact H
 have Ny644 := am hy644
 clear hy644
 have H' := am H; clear H
 go_enter Try.func41, Try.ntmps41
 go_wp2_with (first | ((with_reducible refine gd 12 rfl ?_); refine Kd.R_lit k76 _ 76 ?hg (N := 12) ?hd (xs := ([(⟨12, a0, 0, (⟨#[]⟩ : ByteArray), (l1.length : Int)⟩ : S76)] : List (S76))) (inner := [.int .i64 12, .int .i64 a0, .int .i64 0, .string ⟨#[]⟩, .int .i64 (l1.length : Int)]) (ok := fun _ => True) (okp := fun _ => True) ?hr ?hp (fun _ hk => hk) trivial (Below.refl _ _) (Nat.le_refl _) (by simp) ?_; (case hd => rfl); (case hg => rfl); (case hr => first | (go_simp; done) | (go_simp; rfl)); (case hp => exact (Reps.c5 (show Kd.M k76 _ _ _ (⟨12, a0, 0, (⟨#[]⟩ : ByteArray), (l1.length : Int)⟩ : S76) [.int .i64 12, .int .i64 a0, .int .i64 0, .string ⟨#[]⟩, .int .i64 (l1.length : Int)] from (k76_mkM _ _ _ (⟨12, a0, 0, (⟨#[]⟩ : ByteArray), (l1.length : Int)⟩ : S76) )) (Reps.none _ _))); intro v645 w3 ho4 hb hg_ hnew_; clear hg_ hnew_; (first | rw [← Ny644.out] at ho4 | (simp only [Int.reduceToNat] at ho4; rw [← Ny644.out] at ho4)); have HO646 := rlb ho4 HB; replace HB := bst HB hb; clear hb ho4))
 go_loopg [5, 15] k (fun kq v5 v15 w' => ∃ (x5_1 : List (S76)) (x15_1 : Int), v15 = .int .i64 x15_1 ∧ Aside0 (impl_structNode.l0 kq x5_1 l1 (l1.length : Int) x15_1 = some r) ∧ Aside0 (kq ≤ k) ∧ Aside0 (Kd.R k76 76 w' w.heap.size (fun _ => True) v5 x5_1) ∧ Aside0 (Below w.heap.size w w'))
 case atStart => exact ⟨(y644), (0), sr, H', ⟨Nat.le_refl _⟩, ⟨rL HO646⟩, ⟨bL HB⟩⟩
 clear H'
 try clear c1
 obtain ⟨x5_1, x15_1, rfl, HA, HK1, HO_5, HB⟩ := hrel
 cases gk with
 | zero => exact absurd HA.out (by simp [impl_structNode.l0])
 | succ k1 => ?_
 have H := HA.out
 clear HA
 simp only [impl_structNode.l0] at H
 replace H := idc H; obtain ⟨c5b0, H⟩ | ⟨c5b0, H⟩ := H
 rotate_left
 · obtain rfl := Option.some.inj H
   go_wp2
   go_ret
   exact ⟨_, fin_ ⟨by (with_reducible repeat (first | apply Kd.R_alloc | apply Kd.R_drewN | apply Kd.R_drew)); exact HO_5.out, bL HB⟩⟩
 replace H := if_dds H; obtain ⟨c6b0, c7b0, c8, H⟩ := H
 have LMc8 := am c8
 clear c8
 obtain ⟨y648, hy648⟩ : ∃ y_ : List (S76), y_ = (x5_1 ++ (rd_L14 l1 x15_1)) := ⟨_, rfl⟩
 replace H : (impl_structNode.l0 k1 y648 l1 (l1.length : Int) (wrap64 (x15_1 + 1))) = some r := by first | (rw [hy648]; with_reducible exact H) | (rw [hy648]; exact H) | exact H
 have Ny648 := am hy648
 clear hy648
 have H' := am H; clear H
 have p647 : 0 ≤ (x15_1 : Int) := dcd
 have q647 : x15_1 < (l1.length : Int) := dcd
 obtain ⟨ad647, A647_0, c647_0, e647, hx647_0, hl647_0, hi647_0⟩ := at_L14 HR1.out x15_1 p647 q647
 cases e647
 replace hx647_0 := crd HB hx647_0
 have HR647_0 := am hi647_0
 have HC647_0 := am hl647_0
 clear hi647_0 hl647_0
 replace p647 := eq_true p647
 replace q647 := eq_true q647
 go_wp2_with (first | ((with_reducible refine gate_builtin (b := .append) (xs := #[.tmp 19, .tmp 20]) rfl ?_); at_builtin; refine Kd.R_append_rows k76 (w0 := w) w.heap.size rfl (.tmp 19) (.tmp 20) 38 76 (.agg #[(.int .i64 0), (.int .i64 0), (.int .i64 0), (.string ⟨#[]⟩), (.int .i64 0)]) 48 rfl Try.underlying38 info76 rfl (by decide) (by omega) u5 x5_1 (rd_L14 l1 x15_1) _ _ _ (fun _ => True) (fun _ => False) rfl rfl ?aO ?aR (fun _ _ h => h) (fun _ h => h.elim) ?aF ?aB ?aS ?aL ?_; (case aR => repeat (first | exact (Kd.C_below HR647_0.out HB.out) | (with_reducible refine Kd.C_alloc ?_ _) | (with_reducible refine Kd.C_drewN ?_ _) | (with_reducible refine Kd.C_drew ?_))); (case aB => exact (bL HB)); (case aF => exact (fun _ _ => trivial)); (case aO => exact (rL HO_5)); (case aS => exact (below_size (bL HB))); (case aL => have := LMc8.out; omega); intro v649 w9 ho hb hg hat; rw [← Ny648.out] at ho; have HO650 := am ho; replace HB := am hb; clear HO_5; clear ho hb hg hat))
 go_roundg k1
 case measure => have := HK1.out; omega
 case rel => exact ⟨(y648), (wrap64 (x15_1 + 1)), sr, H', ⟨by have := HK1.out; omega⟩, ⟨rL HO650⟩, ⟨bL HB⟩⟩
end Go.Proofs.Ytnlgodcbnlbdkaa.PFnStats
