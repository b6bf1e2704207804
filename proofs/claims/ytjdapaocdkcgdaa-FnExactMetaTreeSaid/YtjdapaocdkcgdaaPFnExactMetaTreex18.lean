/- The machine's side of FnExactMetaTree: each Go function, and what its call comes to. No condition. -/
import Derived.Test.YtjdapaocdkcgdaaPFnExactMetaTreex0
namespace Go.Proofs.Ytjdapaocdkcgdaa.PFnExactMetaTree
open Go.RowKit Go.Proofs.YtjdapaocdkcgdaaW.PrintWords Go.Proofs.YtjdapaocdkcgdaaW.PrintLast Go.Proofs.YtjdapaocdkcgdaaW.PrintMore Go.Proofs.YtjdapaocdkcgdaaW.PrintMore2
attribute [local go_sem] max2_int min2_int max_two min_two max_three min_three max_four min_four
set_option linter.unusedVariables false
set_option linter.unusedSimpArgs false
set_option maxHeartbeats 8000000
set_option maxRecDepth 100000

/-! ### laws_markText: function 42 -/
def laws_markText.l0 : Nat → Int → ByteArray → Option (ByteArray)
  | 0, _, _ => none
  | k + 1, x0, x3 => if x0 > 0 then ((some (([(wrap64 (48 + (Int.tmod x0 10))) % 256] : List Int) : List Int)).bind fun aA => (if (strOfNums aA).size + x3.size ≤ 9223372036854775807 then (laws_markText.l0 k (wrap64 (Int.tdiv x0 10)) ((strOfNums aA) ++ x3)) else (none))) else (if 1 + x3.size ≤ 9223372036854775807 then (some ((⟨#[109]⟩ : ByteArray) ++ x3)) else (none))
def laws_markText.f (k : Nat) (a0 : Int) : Option (ByteArray) := if a0 ≤ 0 then (some (⟨#[109, 48]⟩ : ByteArray)) else (laws_markText.l0 k a0 (⟨#[]⟩ : ByteArray))
theorem laws_markText.calls {k : Nat} {a0 : Int} {r : ByteArray} {w : World} (h : laws_markText.f k a0 = some r) :
    Calls Try.prog 42 #[.int .i64 a0] w fun e w' => e = .returned (.string r) ∧ Below w.heap.size w w' := by
 have HB := am (Below.refl w.heap.size w)
 have H := h; clear h; unfold laws_markText.f at H
 replace H := idc H; obtain ⟨aE, H⟩ | ⟨aE, H⟩ := H
 · cases H
   go_enter Try.func42, Try.ntmps42
   go_wp2
   go_ret
   exact fin_ (bL HB)
 have H' := am H; clear H
 go_enter Try.func42, Try.ntmps42
 go_wp2
 go_loopg [0, 3] k (fun kq v0 v3 w' => ∃ (aA : Int) (aC : ByteArray), v0 = .int .i64 aA ∧ v3 = .string aC ∧ Aside0 (laws_markText.l0 kq aA aC = some r) ∧ Aside0 (kq ≤ k) ∧ Aside0 (Below w.heap.size w w'))
 case atStart => exact ⟨(a0), ((⟨#[]⟩ : ByteArray)), sr, sr, H', ⟨Nat.le_refl _⟩, ⟨bL HB⟩⟩
 clear H'
 try clear c2 aE
 obtain ⟨aA, aC, rfl, rfl, HA, aK, HB⟩ := hrel
 cases gk with
 | zero => exact absurd HA.out (by simp [laws_markText.l0])
 | succ k1 => ?_
 have H := HA.out
 clear HA
 simp only [laws_markText.l0] at H
 replace H := igt H; obtain ⟨aJ, H⟩ | ⟨aJ, H⟩ := H
 rotate_left
 · replace H := ifs H; obtain ⟨c8, H⟩ := H
   have aM := eq_true c8
   have aN := decide_eq_true c8
   try have aQ : (9223372036854775807 < 1 + aC.size) = False := eq_false (Nat.not_lt.2 c8)
   cases H
   go_wp2
   go_ret
   exact fin_ (bL HB)
 replace H := bsm H; obtain ⟨aG, aD, H⟩ := H
 replace H := ifs H; obtain ⟨c4, H⟩ := H
 have aT := eq_true c4
 have aU := decide_eq_true c4
 try have aV : (9223372036854775807 < (strOfNums aG).size + aC.size) = False := eq_false (Nat.not_lt.2 c4)
 have H' := am H; clear H
 go_wp2_with (first | ((with_reducible refine gd 12 rfl ?_); refine Kd.R_lit (Kd.int .u8) _ 5 ?hg (N := 12) ?hd (xs := ([(wrap64 (48 + (Int.tmod aA 10))) % 256] : List Int)) (inner := [.int .u8 ((wrap64 (48 + (Int.tmod aA 10))) % 256)]) (ok := fun _ => True) (okp := fun _ => True) ?hr ?hp (fun _ hk => hk) trivial (Below.refl _ _) (Nat.le_refl _) (by simp) ?_; (case hd => rfl); (case hg => rfl); (case hr => first | (go_simp; done) | (go_simp; rfl)); (case hp => exact (Reps.one (show Kd.M (Kd.int .u8) _ _ _ ((wrap64 (48 + (Int.tmod aA 10))) % 256) [.int .u8 ((wrap64 (48 + (Int.tmod aA 10))) % 256)] from rfl) (Reps.none _ _))); intro aW w5 aH hb hg_ hnew_; clear hg_ hnew_; (first | rw [← aD.out] at aH | (simp only [Int.reduceToNat] at aH; rw [← aD.out] at aH)); have aI := rlb aH HB; replace HB := bst HB hb; clear hb aH; have hcv7 := own_string (P := Try.prog) Try.underlying40 Try.underlying5 Try.underlying9 (Kd.own_of_R aI.out)))
 go_roundg k1
 case measure => have := aK.out; omega
 case rel => exact ⟨(wrap64 (Int.tdiv aA 10)), ((strOfNums aG) ++ aC), sr, sr, H', ⟨by have := aK.out; omega⟩, ⟨bL HB⟩⟩
/-! ### laws_markColS: function 40 -/
def laws_markColS.l0 : Nat → List (S84) → Int → Int → Option (Int × (List (S84)))
  | 0, _, _, _ => none
  | k + 1, x0, x1, x5 => if x5 < (x0.length : Int) then ((laws_markText.f k x1).bind fun aE => (if 0 ≤ x5 then ((some (x0.set (x5 : Int).toNat (⟨aE, (rd_T84 x0 x5).f1, (rd_T84 x0 x5).f2, (rd_T84 x0 x5).f3⟩ : S84) : List (S84))).bind fun aA => ((some (aA.set (x5 : Int).toNat (⟨(rd_T84 aA x5).f0, wrap64 (x1 + 1), (rd_T84 aA x5).f2, (rd_T84 aA x5).f3⟩ : S84) : List (S84))).bind fun aC => ((some (aC.set (x5 : Int).toNat (⟨(rd_T84 aC x5).f0, (rd_T84 aC x5).f1, wrap64 ((wrap64 (x1 + 1)) + 1), (rd_T84 aC x5).f3⟩ : S84) : List (S84))).bind fun aD => (laws_markColS.l0 k (aD.set (x5 : Int).toNat (⟨(rd_T84 aD x5).f0, (rd_T84 aD x5).f1, (rd_T84 aD x5).f2, wrap64 ((wrap64 ((wrap64 (x1 + 1)) + 1)) + 1)⟩ : S84)) (wrap64 ((wrap64 ((wrap64 ((wrap64 (x1 + 1)) + 1)) + 1)) + 1)) (wrap64 (x5 + 1)))))) else (none))) else (some (x1, x0))
def laws_markColS.f (k : Nat) (l0 : List (S84)) (a1 : Int) : Option (Int × (List (S84))) := laws_markColS.l0 k l0 a1 0
theorem laws_markColS.calls {k : Nat} (P0_ : Nat → Prop) {u9000_ : Value} {l0 : List (S84)} {a1 r1 : Int} {r2 : List (S84)} {w0 w : World} (hB : Below w0.heap.size w0 w) (dF : Kd.R k84 84 w w0.heap.size P0_ u9000_ l0) (h : laws_markColS.f k l0 a1 = some (r1, r2)) :
    Calls Try.prog 40 #[u9000_, .int .i64 a1] w fun e w' => e = .returned (.int .i64 r1) ∧ Kd.R k84 84 w' w0.heap.size (fun k_ => (P0_ k_ ∨ w.heap.size ≤ k_)) u9000_ r2 ∧ Below w0.heap.size w0 w' ∧ Kept w w' (fun k_ => P0_ k_) := by
 have dG := am (show Kd.R k84 84 w w0.heap.size (fun k_ => (P0_ k_ ∨ w.heap.size ≤ k_)) u9000_ l0 from Kd.R_mono dF (fun k_ hk => (.inl hk)))
 have HK := am (Kept.refl w (fun k_ => P0_ k_))
 have HW0 := am hB.size
 have HB := am hB
 clear hB
 have H := h; clear h; unfold laws_markColS.f at H
 have H' := am H; clear H
 go_enter Try.func40, Try.ntmps40
 go_wp2
 go_loopg [1, 5] k (fun kq v1 v5 w' => ∃ (aC : List (S84)) (aE : Int) (aA : Int), v1 = .int .i64 aE ∧ v5 = .int .i64 aA ∧ Aside0 (laws_markColS.l0 kq aC aE aA = some (r1, r2)) ∧ Aside0 (kq ≤ k) ∧ Aside0 (Kd.R k84 84 w' w0.heap.size (fun k_ => (P0_ k_ ∨ w.heap.size ≤ k_)) u9000_ aC) ∧ Aside0 (Kept w w' (fun k_ => P0_ k_)) ∧ Aside0 (Below w0.heap.size w0 w'))
 case atStart => exact ⟨(l0), (a1), (0), sr, sr, H', ⟨Nat.le_refl _⟩, ⟨rL dG⟩, ⟨kept_later HK.out⟩, ⟨bL HB⟩⟩
 clear H'
 obtain ⟨aC, aE, aA, rfl, rfl, HA, bZ, aD, HK, HB⟩ := hrel
 cases gk with
 | zero => exact absurd HA.out (by simp [laws_markColS.l0])
 | succ k1 => ?_
 have H := HA.out
 clear HA
 simp only [laws_markColS.l0] at H
 replace H := idc H; obtain ⟨bV, H⟩ | ⟨bV, H⟩ := H
 rotate_left
 · replace H := sj2 H; obtain ⟨rfl, rfl⟩ := H
   obtain ⟨dH, dI, bW⟩ := Kd.R_slice aD.out
   subst bW
   go_wp2
   go_ret
   exact fin_ ⟨rL aD, bL HB, kept_later HK.out⟩
 replace H := bnd H; obtain ⟨bB, A4, H⟩ := H
 replace H := ifd H; obtain ⟨dJ, H⟩ := H
 replace H := bsm H; obtain ⟨aH, bQ, H⟩ := H
 replace H := bsm H; obtain ⟨aI, bR, H⟩ := H
 replace H := bsm H; obtain ⟨aG, bS, H⟩ := H
 generalize bC : ((aG.set (aA : Int).toNat (⟨(rd_T84 aG aA).f0, (rd_T84 aG aA).f1, (rd_T84 aG aA).f2, wrap64 ((wrap64 ((wrap64 (aE + 1)) + 1)) + 1)⟩ : S84)) : List (S84)) = bT at H; have bU := am bC.symm; clear bC
 have H' := am H; clear H
 obtain ⟨dK, aJ, bX⟩ := Kd.R_slice aD.out
 subst bX
 go_wp2_with (first | ((with_reducible refine gc 42 rfl ?_); refine gc1 (some 15) Try.func42 rfl (laws_markText.calls A4.out) ?_; rintro aQ hb; replace aD := rbe aD hb; replace HK := am (Kept.below (S := (fun k_ => P0_ k_)) (kept_later HK.out) hb); replace HB := bst HB hb; clear hb; have p6 : 0 ≤ (aA : Int) := dcd; have q6 : (aA : Int) < ((aC.length : Int) : Int) := dcd; obtain ⟨go6, dL, b6, b7, gl6, cl6, HG6⟩ := Kd.R_form aD.out (by omega); (first | cases b6 | (injection b6 with ea_ en_ ec_; (first | subst ea_ | (injection ea_ with ea_; subst ea_)); subst ec_; clear en_)); have GB6 := am b7; have GG6 := am HG6; clear b7 gl6 HG6; have HMgo6 := am (show (P0_ go6 ∨ w.heap.size ≤ go6) from (aD.out.1 _ rfl)); obtain ⟨ce6, hcl6, hM6, aT, aU⟩ := Kd.R_elem aD.out z84 (aA : Int) p6 q6; obtain rfl := k84_openM hM6; have b8 : aQ.cell? ⟨go6, (aA : Int).toNat * 4, none⟩ = some (.string ((rd_T84 aC aA).f0)) := aT 0 _ rfl; have b9 : aQ.cell? ⟨go6, (aA : Int).toNat * 4 + 1, none⟩ = some (.int .i64 ((rd_T84 aC aA).f1)) := aT 1 _ rfl; have cA : aQ.cell? ⟨go6, (aA : Int).toNat * 4 + 2, none⟩ = some (.int .i64 ((rd_T84 aC aA).f2)) := aT 2 _ rfl; have cB : aQ.cell? ⟨go6, (aA : Int).toNat * 4 + 3, none⟩ = some (.int .i64 ((rd_T84 aC aA).f3)) := aT 3 _ rfl; have cC : aQ.frozen? ⟨go6, (aA : Int).toNat * 4, none⟩ = false := aU 0; have cD : aQ.frozen? ⟨go6, (aA : Int).toNat * 4 + 1, none⟩ = false := aU 1; have cE : aQ.frozen? ⟨go6, (aA : Int).toNat * 4 + 2, none⟩ = false := aU 2; have cF : aQ.frozen? ⟨go6, (aA : Int).toNat * 4 + 3, none⟩ = false := aU 3; clear hcl6 aT aU hM6; replace p6 := eq_true p6; replace q6 := eq_true q6; have HX12 := am (show Kd.R k84 84 aQ w0.heap.size (fun k_ => (P0_ k_ ∨ w.heap.size ≤ k_)) (.slice (some ⟨go6, 0, none⟩) aC.length aJ) aC from (rL aD)); obtain ⟨ce12, hcl12, hM12, aV, bD⟩ := Kd.R_elem HX12.out z84 (aA : Int) (dcd) (by have h_ : (aA : Int) < ((aC.length : Int) : Int) := dcd; first | exact h_ | (have e_ := (Kd.R_reads' aD.out).1; omega) | simpa using h_); obtain rfl := k84_openM hM12; have HP12 := Kd.R_seg HX12.out (aA : Int) (dcd) (by have h_ : (aA : Int) < ((aC.length : Int) : Int) := dcd; first | exact h_ | (have e_ := (Kd.R_reads' aD.out).1; omega) | simpa using h_) (seg := [.string bB]) (j := 0) hcl12 aV (show 1 ≤ 4 from by decide) (x' := (⟨bB, (rd_T84 aC aA).f1, (rd_T84 aC aA).f2, (rd_T84 aC aA).f3⟩ : S84)) (k84_mkM _ _ _ (⟨bB, (rd_T84 aC aA).f1, (rd_T84 aC aA).f2, (rd_T84 aC aA).f3⟩ : S84) ) (fun _ hk => hk); have bH := aV 0 _ rfl; (try simp only [show (k84).sz = 4 from rfl, Nat.mul_one, Nat.add_zero] at bH); have bI := bD 0; (try simp only [show (k84).sz = 4 from rfl, Nat.mul_one, Nat.add_zero] at bI); clear hcl12 aV bD hM12) | ((with_reducible refine gate_store (t := 9) (p := 17) rfl ?_); refine st_ 9 17 (aQ.setCell ⟨go6, (aA : Int).toNat * 4, none⟩ (.string bB)) ?_; intro aK hw; have hg : aQ.grownBy aK (some go6) := (by rw [hw]; exact HP12.2); have hp_ : Kd.R k84 84 aK w0.heap.size (fun k_ => (P0_ k_ ∨ w.heap.size ≤ k_)) (.slice (some ⟨go6, 0, none⟩) aC.length aJ) aH := (by rw [hw, bQ.out]; exact HP12.1); clear HP12; replace HB := am ((by rw [hw]; exact below_set (HB.out) GB6.out : Below w0.heap.size w0 aK)); replace HK := am (Kept.of_grown (S := (fun k_ => P0_ k_)) hg (kept_later HK.out) (fun k_ e_ => (aD.out.1 k_ e_))); replace aD := am hp_; clear hg hw hp_; have p7 : 0 ≤ (aA : Int) := dcd; have q7 : (aA : Int) < ((aC.length : Int) : Int) := dcd; obtain ⟨ce7, hcl7, hM7, aW, aX⟩ := Kd.R_elem aD.out z84 (aA : Int) p7 q7; obtain rfl := k84_openM hM7; have cG : aK.cell? ⟨go6, (aA : Int).toNat * 4, none⟩ = some (.string ((rd_T84 aH aA).f0)) := aW 0 _ rfl; have cH : aK.cell? ⟨go6, (aA : Int).toNat * 4 + 1, none⟩ = some (.int .i64 ((rd_T84 aH aA).f1)) := aW 1 _ rfl; have cI : aK.cell? ⟨go6, (aA : Int).toNat * 4 + 2, none⟩ = some (.int .i64 ((rd_T84 aH aA).f2)) := aW 2 _ rfl; have cJ : aK.cell? ⟨go6, (aA : Int).toNat * 4 + 3, none⟩ = some (.int .i64 ((rd_T84 aH aA).f3)) := aW 3 _ rfl; have cK : aK.frozen? ⟨go6, (aA : Int).toNat * 4, none⟩ = false := aX 0; have cM : aK.frozen? ⟨go6, (aA : Int).toNat * 4 + 1, none⟩ = false := aX 1; have cN : aK.frozen? ⟨go6, (aA : Int).toNat * 4 + 2, none⟩ = false := aX 2; have cO : aK.frozen? ⟨go6, (aA : Int).toNat * 4 + 3, none⟩ = false := aX 3; clear hcl7 aW aX hM7; replace p7 := eq_true p7; replace q7 := eq_true q7; have HX14 := am (show Kd.R k84 84 aK w0.heap.size (fun k_ => (P0_ k_ ∨ w.heap.size ≤ k_)) (.slice (some ⟨go6, 0, none⟩) aC.length aJ) aH from (rL aD)); obtain ⟨ce14, hcl14, hM14, aY, bE⟩ := Kd.R_elem HX14.out z84 (aA : Int) (dcd) (by have h_ : (aA : Int) < ((aC.length : Int) : Int) := dcd; first | exact h_ | (have e_ := (Kd.R_reads' aD.out).1; omega) | simpa using h_); obtain rfl := k84_openM hM14; have HP14 := Kd.R_seg HX14.out (aA : Int) (dcd) (by have h_ : (aA : Int) < ((aC.length : Int) : Int) := dcd; first | exact h_ | (have e_ := (Kd.R_reads' aD.out).1; omega) | simpa using h_) (seg := [.int .i64 (wrap64 (aE + 1))]) (j := 1) hcl14 aY (show 2 ≤ 4 from by decide) (x' := (⟨(rd_T84 aH aA).f0, wrap64 (aE + 1), (rd_T84 aH aA).f2, (rd_T84 aH aA).f3⟩ : S84)) (k84_mkM _ _ _ (⟨(rd_T84 aH aA).f0, wrap64 (aE + 1), (rd_T84 aH aA).f2, (rd_T84 aH aA).f3⟩ : S84) ) (fun _ hk => hk); have bJ := aY 1 _ rfl; (try simp only [show (k84).sz = 4 from rfl, Nat.mul_one, Nat.add_zero] at bJ); have bK := bE 1; (try simp only [show (k84).sz = 4 from rfl, Nat.mul_one, Nat.add_zero] at bK); clear hcl14 aY bE hM14) | ((with_reducible refine gate_store (t := 3) (p := 24) rfl ?_); refine st_ 3 24 (aK.setCell ⟨go6, (aA : Int).toNat * 4 + 1, none⟩ (.int .i64 (wrap64 (aE + 1)))) ?_; intro aM hw; have hg : aK.grownBy aM (some go6) := (by rw [hw]; exact HP14.2); have hp_ : Kd.R k84 84 aM w0.heap.size (fun k_ => (P0_ k_ ∨ w.heap.size ≤ k_)) (.slice (some ⟨go6, 0, none⟩) aC.length aJ) aI := (by rw [hw, bR.out]; exact HP14.1); clear HP14; replace HB := am ((by rw [hw]; exact below_set (HB.out) GB6.out : Below w0.heap.size w0 aM)); replace HK := am (Kept.of_grown (S := (fun k_ => P0_ k_)) hg (kept_later HK.out) (fun k_ e_ => (aD.out.1 k_ e_))); replace aD := am hp_; clear hg hw hp_; have p8 : 0 ≤ (aA : Int) := dcd; have q8 : (aA : Int) < ((aC.length : Int) : Int) := dcd; obtain ⟨ce8, hcl8, hM8, aZ, a6⟩ := Kd.R_elem aD.out z84 (aA : Int) p8 q8; obtain rfl := k84_openM hM8; have cP : aM.cell? ⟨go6, (aA : Int).toNat * 4, none⟩ = some (.string ((rd_T84 aI aA).f0)) := aZ 0 _ rfl; have cQ : aM.cell? ⟨go6, (aA : Int).toNat * 4 + 1, none⟩ = some (.int .i64 ((rd_T84 aI aA).f1)) := aZ 1 _ rfl; have cR : aM.cell? ⟨go6, (aA : Int).toNat * 4 + 2, none⟩ = some (.int .i64 ((rd_T84 aI aA).f2)) := aZ 2 _ rfl; have cS : aM.cell? ⟨go6, (aA : Int).toNat * 4 + 3, none⟩ = some (.int .i64 ((rd_T84 aI aA).f3)) := aZ 3 _ rfl; have cT : aM.frozen? ⟨go6, (aA : Int).toNat * 4, none⟩ = false := a6 0; have cU : aM.frozen? ⟨go6, (aA : Int).toNat * 4 + 1, none⟩ = false := a6 1; have cV : aM.frozen? ⟨go6, (aA : Int).toNat * 4 + 2, none⟩ = false := a6 2; have cW : aM.frozen? ⟨go6, (aA : Int).toNat * 4 + 3, none⟩ = false := a6 3; clear hcl8 aZ a6 hM8; replace p8 := eq_true p8; replace q8 := eq_true q8; have HX16 := am (show Kd.R k84 84 aM w0.heap.size (fun k_ => (P0_ k_ ∨ w.heap.size ≤ k_)) (.slice (some ⟨go6, 0, none⟩) aC.length aJ) aI from (rL aD)); obtain ⟨ce16, hcl16, hM16, a7, bF⟩ := Kd.R_elem HX16.out z84 (aA : Int) (dcd) (by have h_ : (aA : Int) < ((aC.length : Int) : Int) := dcd; first | exact h_ | (have e_ := (Kd.R_reads' aD.out).1; omega) | simpa using h_); obtain rfl := k84_openM hM16; have HP16 := Kd.R_seg HX16.out (aA : Int) (dcd) (by have h_ : (aA : Int) < ((aC.length : Int) : Int) := dcd; first | exact h_ | (have e_ := (Kd.R_reads' aD.out).1; omega) | simpa using h_) (seg := [.int .i64 (wrap64 ((wrap64 (aE + 1)) + 1))]) (j := 2) hcl16 a7 (show 3 ≤ 4 from by decide) (x' := (⟨(rd_T84 aI aA).f0, (rd_T84 aI aA).f1, wrap64 ((wrap64 (aE + 1)) + 1), (rd_T84 aI aA).f3⟩ : S84)) (k84_mkM _ _ _ (⟨(rd_T84 aI aA).f0, (rd_T84 aI aA).f1, wrap64 ((wrap64 (aE + 1)) + 1), (rd_T84 aI aA).f3⟩ : S84) ) (fun _ hk => hk); have bM := a7 2 _ rfl; (try simp only [show (k84).sz = 4 from rfl, Nat.mul_one, Nat.add_zero] at bM); have bN := bF 2; (try simp only [show (k84).sz = 4 from rfl, Nat.mul_one, Nat.add_zero] at bN); clear hcl16 a7 bF hM16) | ((with_reducible refine gate_store (t := 3) (p := 31) rfl ?_); refine st_ 3 31 (aM.setCell ⟨go6, (aA : Int).toNat * 4 + 2, none⟩ (.int .i64 (wrap64 ((wrap64 (aE + 1)) + 1)))) ?_; intro aN hw; have hg : aM.grownBy aN (some go6) := (by rw [hw]; exact HP16.2); have hp_ : Kd.R k84 84 aN w0.heap.size (fun k_ => (P0_ k_ ∨ w.heap.size ≤ k_)) (.slice (some ⟨go6, 0, none⟩) aC.length aJ) aG := (by rw [hw, bS.out]; exact HP16.1); clear HP16; replace HB := am ((by rw [hw]; exact below_set (HB.out) GB6.out : Below w0.heap.size w0 aN)); replace HK := am (Kept.of_grown (S := (fun k_ => P0_ k_)) hg (kept_later HK.out) (fun k_ e_ => (aD.out.1 k_ e_))); replace aD := am hp_; clear hg hw hp_; have p9 : 0 ≤ (aA : Int) := dcd; have q9 : (aA : Int) < ((aC.length : Int) : Int) := dcd; obtain ⟨ce9, hcl9, hM9, a8, a9⟩ := Kd.R_elem aD.out z84 (aA : Int) p9 q9; obtain rfl := k84_openM hM9; have cX : aN.cell? ⟨go6, (aA : Int).toNat * 4, none⟩ = some (.string ((rd_T84 aG aA).f0)) := a8 0 _ rfl; have cY : aN.cell? ⟨go6, (aA : Int).toNat * 4 + 1, none⟩ = some (.int .i64 ((rd_T84 aG aA).f1)) := a8 1 _ rfl; have cZ : aN.cell? ⟨go6, (aA : Int).toNat * 4 + 2, none⟩ = some (.int .i64 ((rd_T84 aG aA).f2)) := a8 2 _ rfl; have dA : aN.cell? ⟨go6, (aA : Int).toNat * 4 + 3, none⟩ = some (.int .i64 ((rd_T84 aG aA).f3)) := a8 3 _ rfl; have dB : aN.frozen? ⟨go6, (aA : Int).toNat * 4, none⟩ = false := a9 0; have dC : aN.frozen? ⟨go6, (aA : Int).toNat * 4 + 1, none⟩ = false := a9 1; have dD : aN.frozen? ⟨go6, (aA : Int).toNat * 4 + 2, none⟩ = false := a9 2; have dE : aN.frozen? ⟨go6, (aA : Int).toNat * 4 + 3, none⟩ = false := a9 3; clear hcl9 a8 a9 hM9; replace p9 := eq_true p9; replace q9 := eq_true q9; have HX18 := am (show Kd.R k84 84 aN w0.heap.size (fun k_ => (P0_ k_ ∨ w.heap.size ≤ k_)) (.slice (some ⟨go6, 0, none⟩) aC.length aJ) aG from (rL aD)); obtain ⟨ce18, hcl18, hM18, bA, bG⟩ := Kd.R_elem HX18.out z84 (aA : Int) (dcd) (by have h_ : (aA : Int) < ((aC.length : Int) : Int) := dcd; first | exact h_ | (have e_ := (Kd.R_reads' aD.out).1; omega) | simpa using h_); obtain rfl := k84_openM hM18; have HP18 := Kd.R_seg HX18.out (aA : Int) (dcd) (by have h_ : (aA : Int) < ((aC.length : Int) : Int) := dcd; first | exact h_ | (have e_ := (Kd.R_reads' aD.out).1; omega) | simpa using h_) (seg := [.int .i64 (wrap64 ((wrap64 ((wrap64 (aE + 1)) + 1)) + 1))]) (j := 3) hcl18 bA (show 4 ≤ 4 from by decide) (x' := (⟨(rd_T84 aG aA).f0, (rd_T84 aG aA).f1, (rd_T84 aG aA).f2, wrap64 ((wrap64 ((wrap64 (aE + 1)) + 1)) + 1)⟩ : S84)) (k84_mkM _ _ _ (⟨(rd_T84 aG aA).f0, (rd_T84 aG aA).f1, (rd_T84 aG aA).f2, wrap64 ((wrap64 ((wrap64 (aE + 1)) + 1)) + 1)⟩ : S84) ) (fun _ hk => hk); have bO := bA 3 _ rfl; (try simp only [show (k84).sz = 4 from rfl, Nat.mul_one, Nat.add_zero] at bO); have bP := bG 3; (try simp only [show (k84).sz = 4 from rfl, Nat.mul_one, Nat.add_zero] at bP); clear hcl18 bA bG hM18) | ((with_reducible refine gate_store (t := 3) (p := 38) rfl ?_); refine st_ 3 38 (aN.setCell ⟨go6, (aA : Int).toNat * 4 + 3, none⟩ (.int .i64 (wrap64 ((wrap64 ((wrap64 (aE + 1)) + 1)) + 1)))) ?_; intro bY hw; have hg : aN.grownBy bY (some go6) := (by rw [hw]; exact HP18.2); have hp_ : Kd.R k84 84 bY w0.heap.size (fun k_ => (P0_ k_ ∨ w.heap.size ≤ k_)) (.slice (some ⟨go6, 0, none⟩) aC.length aJ) bT := (by rw [hw, bU.out]; exact HP18.1); clear HP18; replace HB := am ((by rw [hw]; exact below_set (HB.out) GB6.out : Below w0.heap.size w0 bY)); replace HK := am (Kept.of_grown (S := (fun k_ => P0_ k_)) hg (kept_later HK.out) (fun k_ e_ => (aD.out.1 k_ e_))); replace aD := am hp_; clear hg hw hp_))
 go_roundg k1
 case measure => have := bZ.out; omega
 case rel => exact ⟨(bT), (wrap64 ((wrap64 ((wrap64 ((wrap64 (aE + 1)) + 1)) + 1)) + 1)), (wrap64 (aA + 1)), sr, sr, H', ⟨by have := bZ.out; omega⟩, ⟨rL aD⟩, ⟨kept_later HK.out⟩, ⟨bL HB⟩⟩
/-! ### laws_markIntS: function 81 -/
def laws_markIntS.l0 : Nat → List Int → Int → Int → Option (Int × List Int)
  | 0, _, _, _ => none
  | k + 1, x0, x1, x5 => if x5 < (x0.length : Int) then (if 0 ≤ x5 then (laws_markIntS.l0 k (x0.set (x5 : Int).toNat x1) (wrap64 (x1 + 1)) (wrap64 (x5 + 1))) else (none)) else (some (x1, x0))
def laws_markIntS.f (k : Nat) (l0 : List Int) (a1 : Int) : Option (Int × List Int) := laws_markIntS.l0 k l0 a1 0
theorem laws_markIntS.calls {k : Nat} (P0_ : Nat → Prop) {u9000_ : Value} {l0 : List Int} {a1 r1 : Int} {r2 : List Int} {w0 w : World} (hB : Below w0.heap.size w0 w) (aU : Kd.R (Kd.int .i64) 3 w w0.heap.size P0_ u9000_ l0) (h : laws_markIntS.f k l0 a1 = some (r1, r2)) :
    Calls Try.prog 81 #[u9000_, .int .i64 a1] w fun e w' => e = .returned (.int .i64 r1) ∧ Kd.R (Kd.int .i64) 3 w' w0.heap.size (fun k_ => (P0_ k_ ∨ w.heap.size ≤ k_)) u9000_ r2 ∧ Below w0.heap.size w0 w' ∧ Kept w w' (fun k_ => P0_ k_) := by
 have aV := am (show Kd.R (Kd.int .i64) 3 w w0.heap.size (fun k_ => (P0_ k_ ∨ w.heap.size ≤ k_)) u9000_ l0 from Kd.R_mono aU (fun k_ hk => (.inl hk)))
 have HK := am (Kept.refl w (fun k_ => P0_ k_))
 have HW0 := am hB.size
 have HB := am hB
 clear hB
 have H := h; clear h; unfold laws_markIntS.f at H
 have H' := am H; clear H
 go_enter Try.func81, Try.ntmps81
 go_wp2
 go_loopg [1, 5] k (fun kq v1 v5 w' => ∃ (aE : List Int) (aD : Int) (aA : Int), v1 = .int .i64 aD ∧ v5 = .int .i64 aA ∧ Aside0 (laws_markIntS.l0 kq aE aD aA = some (r1, r2)) ∧ Aside0 (kq ≤ k) ∧ Aside0 (Kd.R (Kd.int .i64) 3 w' w0.heap.size (fun k_ => (P0_ k_ ∨ w.heap.size ≤ k_)) u9000_ aE) ∧ Aside0 (Kept w w' (fun k_ => P0_ k_)) ∧ Aside0 (Below w0.heap.size w0 w'))
 case atStart => exact ⟨(l0), (a1), (0), sr, sr, H', ⟨Nat.le_refl _⟩, ⟨rL aV⟩, ⟨kept_later HK.out⟩, ⟨bL HB⟩⟩
 clear H'
 obtain ⟨aE, aD, aA, rfl, rfl, HA, aK, aC, HK, HB⟩ := hrel
 cases gk with
 | zero => exact absurd HA.out (by simp [laws_markIntS.l0])
 | succ k1 => ?_
 have H := HA.out
 clear HA
 simp only [laws_markIntS.l0] at H
 replace H := idc H; obtain ⟨aJ, H⟩ | ⟨aJ, H⟩ := H
 rotate_left
 · replace H := sj2 H; obtain ⟨rfl, rfl⟩ := H
   obtain ⟨a6, a7, aW⟩ := Kd.R_slice aC.out
   subst aW
   go_wp2
   go_ret
   exact fin_ ⟨rL aC, bL HB, kept_later HK.out⟩
 replace H := ifd H; obtain ⟨aX, H⟩ := H
 generalize aG : ((aE.set (aA : Int).toNat aD) : List Int) = aH at H; have aI := am aG.symm; clear aG
 have H' := am H; clear H
 obtain ⟨a8, aY, aZ⟩ := Kd.R_slice aC.out
 subst aZ
 have p5 : 0 ≤ (aA : Int) := dcd
 have q5 : (aA : Int) < ((aE.length : Int) : Int) := dcd
 obtain ⟨go5, a9, aM, aN, gl5, cl5, HG5⟩ := Kd.R_form aC.out (by omega)
 (first | cases aM | (injection aM with ea_ en_ ec_; (first | subst ea_ | (injection ea_ with ea_; subst ea_)); subst ec_; clear en_))
 have GB5 := am aN
 have GG5 := am HG5
 clear aN gl5 HG5
 have HMgo5 := am (show (P0_ go5 ∨ w.heap.size ≤ go5) from (aC.out.1 _ rfl))
 obtain ⟨aQ, aT⟩ := Kd.R_celln 0 aC.out (aA : Int) p5 q5
 replace p5 := eq_true p5
 replace q5 := eq_true q5
 have HP7 := Kd.R_putg aC.out (aA : Int) aD
 go_wp2_with (first | ((with_reducible refine gate_store (t := 3) (p := 15) rfl ?_); refine st_ 3 15 (wr.setCell ⟨go5, (aA : Int).toNat, none⟩ (.int .i64 aD)) ?_; intro w8 hw; have hg : wr.grownBy w8 (some go5) := (by rw [hw]; exact HP7.2); have hp_ : Kd.R (Kd.int .i64) 3 w8 w0.heap.size (fun k_ => (P0_ k_ ∨ w.heap.size ≤ k_)) (.slice (some ⟨go5, 0, none⟩) aE.length aY) aH := (by rw [hw, aI.out]; exact HP7.1); clear HP7; replace HB := am ((by rw [hw]; exact below_set (HB.out) GB5.out : Below w0.heap.size w0 w8)); replace HK := am (Kept.of_grown (S := (fun k_ => P0_ k_)) hg (kept_later HK.out) (fun k_ e_ => (aC.out.1 k_ e_))); replace aC := am hp_; clear hg hw hp_))
 go_roundg k1
 case measure => have := aK.out; omega
 case rel => exact ⟨(aH), (wrap64 (aD + 1)), (wrap64 (aA + 1)), sr, sr, H', ⟨by have := aK.out; omega⟩, ⟨rL aC⟩, ⟨kept_later HK.out⟩, ⟨bL HB⟩⟩
/-! ### laws_markChunkS: function 66 -/
/-- A chunk with one of its numbers turned. -/
def putC (x : S58) (j : Nat) (y : Int) : S58 := match j with
  | 0 => ⟨y, x.f1, x.f2, x.f3, x.f4, x.f5⟩
  | 1 => ⟨x.f0, y, x.f2, x.f3, x.f4, x.f5⟩
  | 2 => ⟨x.f0, x.f1, y, x.f3, x.f4, x.f5⟩
  | 3 => ⟨x.f0, x.f1, x.f2, y, x.f4, x.f5⟩
  | _ => ⟨x.f0, x.f1, x.f2, x.f3, y, x.f5⟩
theorem getD_set_at {α : Type} (xs : List α) (i : Int) (x z : α) (h0 : 0 ≤ i) (h1 : i < xs.length) : (xs.set i.toNat x).getD i.toNat z = x := by
 rw [List.getD_eq_getElem?_getD, List.getElem?_set_self (by omega)]; rfl
theorem ck_put {W : World} {base g n cap : Nat} {ok : Nat → Prop} {xs : List S58} (i : Int) (x : S58) (HO : Aside0 (Kd.S k58 58 W base ok (.slice (some ⟨g, 0, none⟩) n cap) (xs.set i.toNat x))) (h0 : 0 ≤ i) (h1 : i < xs.length) (j : Nat) (hj : j < 5) (y : Int) :
    Kd.S k58 58 (W.setCell ⟨g, i.toNat * 6 + j, none⟩ (.int .i64 y)) base ok (.slice (some ⟨g, 0, none⟩) n cap) (xs.set i.toNat (putC x j y)) ∧ W.grownBy (W.setCell ⟨g, i.toNat * 6 + j, none⟩ (.int .i64 y)) (some g) := by
 have hn := (Kd.S_reads' HO.out).1
 rw [List.length_set] at hn
 obtain ⟨oki, c, hcl, hM, hcc, hfr, hoki, hH⟩ := Kd.S_elem (Kd.S_mono HO.out (ok' := fun k => ok k ∧ ¬ False) (fun k hk => ⟨hk, id⟩)) z58 i h0 (by omega)
 rw [getD_set_at xs i x _ h0 h1] at hM
 obtain ⟨ve, rfl, ge⟩ := k58_openM hM
 have key : ∀ x' : S58, k58.M W base oki x' ([.int .i64 x.f0, .int .i64 x.f1, .int .i64 x.f2, .int .i64 x.f3, .int .i64 x.f4, ve].take j ++ [.int .i64 y] ++ [.int .i64 x.f0, .int .i64 x.f1, .int .i64 x.f2, .int .i64 x.f3, .int .i64 x.f4, ve].drop (j + 1)) →
     Kd.S k58 58 (W.setCell ⟨g, i.toNat * 6 + j, none⟩ (.int .i64 y)) base ok (.slice (some ⟨g, 0, none⟩) n cap) (xs.set i.toNat x') ∧ W.grownBy (W.setCell ⟨g, i.toNat * 6 + j, none⟩ (.int .i64 y)) (some g) := fun x' hx => by
   have h := Kd.S_seg (okg := fun _ => False) hH h0 (by omega) (seg := [.int .i64 y]) (j := j) (show j + 1 ≤ 6 by omega) (x' := x') hx (fun _ hk => .inl hk) (fun _ hk => hk.elim)
   rw [List.set_set] at h
   exact h
 match j, hj with
 | 0, _ => exact key _ (k58_mkM _ _ _ (⟨y, x.f1, x.f2, x.f3, x.f4, x.f5⟩ : S58) ge)
 | 1, _ => exact key _ (k58_mkM _ _ _ (⟨x.f0, y, x.f2, x.f3, x.f4, x.f5⟩ : S58) ge)
 | 2, _ => exact key _ (k58_mkM _ _ _ (⟨x.f0, x.f1, y, x.f3, x.f4, x.f5⟩ : S58) ge)
 | 3, _ => exact key _ (k58_mkM _ _ _ (⟨x.f0, x.f1, x.f2, y, x.f4, x.f5⟩ : S58) ge)
 | 4, _ => exact key _ (k58_mkM _ _ _ (⟨x.f0, x.f1, x.f2, x.f3, y, x.f5⟩ : S58) ge)
theorem ck_at {W : World} {base g n cap : Nat} {ok : Nat → Prop} {xs : List S58} (i : Int) (x : S58) (HO : Aside0 (Kd.S k58 58 W base ok (.slice (some ⟨g, 0, none⟩) n cap) (xs.set i.toNat x))) (h0 : 0 ≤ i) (h1 : i < xs.length) (j : Nat) (hj : j < 5) :
    (∃ y, W.cell? ⟨g, i.toNat * 6 + j, none⟩ = some (.int .i64 y)) ∧ W.frozen? ⟨g, i.toNat * 6 + j, none⟩ = false := by
 have hn := (Kd.S_reads' HO.out).1
 rw [List.length_set] at hn
 obtain ⟨oki, c, hcl, hM, hcc, hfr, hoki, hH⟩ := Kd.S_elem HO.out z58 i h0 (by omega)
 rw [getD_set_at xs i x _ h0 h1] at hM
 obtain ⟨ve, rfl, ge⟩ := k58_openM hM
 refine ⟨?_, hfr j⟩
 match j, hj with
 | 0, _ => exact ⟨_, hcc 0 _ rfl⟩
 | 1, _ => exact ⟨_, hcc 1 _ rfl⟩
 | 2, _ => exact ⟨_, hcc 2 _ rfl⟩
 | 3, _ => exact ⟨_, hcc 3 _ rfl⟩
 | 4, _ => exact ⟨_, hcc 4 _ rfl⟩
def laws_markChunkS.l0 : Nat → List (S58) → Int → Int → Option (Int × (List (S58)))
  | 0, _, _, _ => none
  | k + 1, x0, x1, x5 => if x5 < (x0.length : Int) then (if 0 ≤ x5 then ((laws_markIntS.f k ((rd_T58 x0 x5).f5) (wrap64 ((wrap64 ((wrap64 ((wrap64 ((wrap64 (x1 + 1)) + 1)) + 1)) + 1)) + 1))).bind fun bt => laws_markChunkS.l0 k (x0.set (x5 : Int).toNat (⟨x1, wrap64 (x1 + 1), wrap64 ((wrap64 (x1 + 1)) + 1), wrap64 ((wrap64 ((wrap64 (x1 + 1)) + 1)) + 1), wrap64 ((wrap64 ((wrap64 ((wrap64 (x1 + 1)) + 1)) + 1)) + 1), bt.2⟩ : S58)) bt.1 (wrap64 (x5 + 1))) else none) else (some (x1, x0))
def laws_markChunkS.f (k : Nat) (l0 : List (S58)) (a1 : Int) : Option (Int × (List (S58))) := laws_markChunkS.l0 k l0 a1 0
theorem laws_markChunkS.calls {k : Nat} (P0_ : Nat → Prop) {u9000_ : Value} {l0 : List (S58)} {a1 r1 : Int} {r2 : List (S58)} {w0 w : World} (hB : Below w0.heap.size w0 w) (aJ : Kd.S k58 58 w w0.heap.size P0_ u9000_ l0) (h : laws_markChunkS.f k l0 a1 = some (r1, r2)) :
    Calls Try.prog 66 #[u9000_, .int .i64 a1] w fun e w' => e = .returned (.int .i64 r1) ∧ Kd.S k58 58 w' w0.heap.size (fun k_ => (P0_ k_ ∨ w.heap.size ≤ k_)) u9000_ r2 ∧ Below w0.heap.size w0 w' ∧ Kept w w' (fun k_ => P0_ k_) := by
 have aU := am (show Kd.S k58 58 w w0.heap.size (fun k_ => (P0_ k_ ∨ w.heap.size ≤ k_)) u9000_ l0 from Kd.S_mono aJ (fun k_ hk => (.inl hk)))
 have HOB := am (fun k_ (hk : u9000_.ownBlock = some k_) => aJ.choose_spec.1 k_ hk)
 have HGE := am (Kd.S_base aJ)
 have HK := am (Kept.refl w (fun k_ => P0_ k_))
 have HB := am hB
 clear hB aJ
 have H' := am (show laws_markChunkS.l0 k l0 a1 0 = some (r1, r2) from h)
 clear h
 go_enter Try.func66, Try.ntmps66
 go_wp2
 go_loopg [1, 5] k (fun kq v1 v5 w' => ∃ (aD : List (S58)) (aC : Int) (aA : Int), v1 = .int .i64 aC ∧ v5 = .int .i64 aA ∧ Aside0 (laws_markChunkS.l0 kq aD aC aA = some (r1, r2)) ∧ Aside0 (kq ≤ k) ∧ Aside0 (Kd.S k58 58 w' w0.heap.size (fun k_ => (P0_ k_ ∨ w.heap.size ≤ k_)) u9000_ aD) ∧ Aside0 (Kept w w' (fun k_ => P0_ k_)) ∧ Aside0 (Below w0.heap.size w0 w'))
 case atStart => exact ⟨l0, a1, 0, sr, sr, H', ⟨Nat.le_refl _⟩, ⟨S_later aU.out⟩, ⟨kept_later HK.out⟩, ⟨bL HB⟩⟩
 clear H' aU
 obtain ⟨aD, aC, aA, rfl, rfl, HA, aV, aE, HK, HB⟩ := hrel
 cases gk with
 | zero => exact absurd HA.out (by simp [laws_markChunkS.l0])
 | succ k1 => ?_
 have H := HA.out
 clear HA
 simp only [laws_markChunkS.l0] at H
 replace H := idc H
 obtain ⟨aK, H⟩ | ⟨aK, H⟩ := H
 rotate_left
 · obtain ⟨rfl, rfl⟩ := (by simpa using H : _ ∧ _)
   obtain ⟨a7, a8, aM⟩ := Kd.S_slice aE.out
   subst aM
   go_wp2
   go_ret
   exact fin_ ⟨S_later aE.out, bL HB, kept_later HK.out⟩
 replace H := ifd H; obtain ⟨a9, H⟩ := H
 obtain ⟨⟨b1, b2⟩, h5, H⟩ := Option.bind_eq_some_iff.mp H
 have A5 := am h5
 have H' := am H
 clear H h5
 have p5 : 0 ≤ (aA : Int) := dcd
 have q5 : (aA : Int) < (aD.length : Int) := dcd
 obtain ⟨go5, bA, bB, aW, gl5, cl5, HG5⟩ := Kd.R_form (Kd.S_R aE.out) (by omega)
 subst bB
 have GB := am aW
 have GP := am (HOB.out go5 rfl)
 obtain ⟨x, hx⟩ : ∃ x, x = rd_T58 aD aA := ⟨_, rfl⟩
 have HO := am (show Kd.S k58 58 _ w0.heap.size (fun k_ => (P0_ k_ ∨ w.heap.size ≤ k_)) (.slice (some ⟨go5, 0, none⟩) aD.length bA) (aD.set aA.toNat x) from by
   rw [hx]
   unfold rd_T58
   rw [List.getD_eq_getElem?_getD, List.getElem?_eq_getElem (by omega)]
   show Kd.S _ _ _ _ _ _ (aD.set aA.toNat aD[aA.toNat])
   rw [List.set_getElem_self]
   exact aE.out)
 rw [← hx] at A5
 have P5 := am p5
 have Q5 := am q5
 obtain ⟨⟨z0, hz0⟩, aX⟩ := ck_at aA x HO p5 q5 0 (by decide)
 rw [Nat.add_zero] at hz0 aX
 clear aW gl5 HG5 cl5 aE hx
 have bI := eq_true p5
 have bJ := eq_true q5
 clear p5 q5
 go_wp2_with (first
   | (refine st_ 3 16 _ ?_; intro w7 aN; have h_ := ck_put aA x HO P5.out Q5.out 0 (by decide) aC; rw [Nat.add_zero] at h_; rw [← aN] at h_; replace HO := am h_.1; replace HK := am (Kept.of_grown h_.2 (kept_later HK.out) (fun k_ hk_ => by cases hk_; exact .inl GP.out)); replace HB := am (by rw [aN]; exact below_set (bL HB) GB.out : Below w0.heap.size w0 w7); obtain ⟨⟨z1, hz1⟩, bC⟩ := ck_at aA _ HO P5.out Q5.out 1 (by decide); clear hz0 aX h_ aN)
   | (refine st_ 3 23 _ ?_; intro w8 aQ; have h_ := ck_put aA _ HO P5.out Q5.out 1 (by decide) (wrap64 (aC + 1)); rw [← aQ] at h_; replace HO := am h_.1; replace HK := am (Kept.of_grown h_.2 (kept_later HK.out) (fun k_ hk_ => by cases hk_; exact .inl GP.out)); replace HB := am (by rw [aQ]; exact below_set (bL HB) GB.out : Below w0.heap.size w0 w8); obtain ⟨⟨z2, hz2⟩, bD⟩ := ck_at aA _ HO P5.out Q5.out 2 (by decide); clear hz1 bC h_ aQ)
   | (refine st_ 3 30 _ ?_; intro w9 aT; have h_ := ck_put aA _ HO P5.out Q5.out 2 (by decide) (wrap64 ((wrap64 (aC + 1)) + 1)); rw [← aT] at h_; replace HO := am h_.1; replace HK := am (Kept.of_grown h_.2 (kept_later HK.out) (fun k_ hk_ => by cases hk_; exact .inl GP.out)); replace HB := am (by rw [aT]; exact below_set (bL HB) GB.out : Below w0.heap.size w0 w9); obtain ⟨⟨z3, hz3⟩, bE⟩ := ck_at aA _ HO P5.out Q5.out 3 (by decide); clear hz2 bD h_ aT)
   | (refine st_ 3 37 _ ?_; intro bF aG; have h_ := ck_put aA _ HO P5.out Q5.out 3 (by decide) (wrap64 ((wrap64 ((wrap64 (aC + 1)) + 1)) + 1)); rw [← aG] at h_; replace HO := am h_.1; replace HK := am (Kept.of_grown h_.2 (kept_later HK.out) (fun k_ hk_ => by cases hk_; exact .inl GP.out)); replace HB := am (by rw [aG]; exact below_set (bL HB) GB.out : Below w0.heap.size w0 bF); obtain ⟨⟨z4, hz4⟩, bG⟩ := ck_at aA _ HO P5.out Q5.out 4 (by decide); clear hz3 bE h_ aG)
   | (refine st_ 3 44 _ ?_; intro aY aH; have h_ := ck_put aA _ HO P5.out Q5.out 4 (by decide) (wrap64 ((wrap64 ((wrap64 ((wrap64 (aC + 1)) + 1)) + 1)) + 1)); rw [← aH] at h_; replace HO := am h_.1; replace HK := am (Kept.of_grown h_.2 (kept_later HK.out) (fun k_ hk_ => by cases hk_; exact .inl GP.out)); replace HB := am (by rw [aH]; exact below_set (bL HB) GB.out : Below w0.heap.size w0 aY); obtain ⟨oki, ce, hcl, hM, hcc, hfr, hoki, hH⟩ := Kd.S_elem HO.out z58 aA P5.out Q5.out; rw [getD_set_at aD aA _ _ P5.out Q5.out] at hM; obtain ⟨ve, rfl, ge⟩ := k58_openM hM; have bK : aY.cell? ⟨go5, aA.toNat * 6 + 5, none⟩ = some ve := hcc 5 _ rfl; have GEE := am (show Kd.R _ _ _ _ _ _ x.f5 from ge); have HHH := am hH; have HOK := am hoki; clear hz4 bG h_ aH hcl hcc hfr hM ge hH hoki)
   | (go_at_call 81; (refine (laws_markIntS.calls oki (bL HB) (rL GEE) A5.out).mono ?_); rintro e bH ⟨rfl, hS7, aZ, hk7⟩; have HN7 := Kd.H_step (w1 := bH) (Kd.H_widen HHH.out) (fun k_ hk hn hlt => hk7.2 k_ hlt (fun h_ => hn (.inl h_))); have aI := Kd.H_back HN7 (x' := (⟨aC, wrap64 (aC + 1), wrap64 ((wrap64 (aC + 1)) + 1), wrap64 ((wrap64 ((wrap64 (aC + 1)) + 1)) + 1), wrap64 ((wrap64 ((wrap64 ((wrap64 (aC + 1)) + 1)) + 1)) + 1), b2⟩ : S58)) (k58_mkM _ _ _ (⟨aC, wrap64 (aC + 1), wrap64 ((wrap64 (aC + 1)) + 1), wrap64 ((wrap64 ((wrap64 (aC + 1)) + 1)) + 1), wrap64 ((wrap64 ((wrap64 ((wrap64 (aC + 1)) + 1)) + 1)) + 1), b2⟩ : S58) hS7) (fun k_ hk => hk.elim (fun h_ => .inl h_) (fun h_ => .inr ⟨.inr (Nat.le_trans HK.out.1 h_), h_⟩)); rw [List.set_set] at aI; have a6 := Kept.then_ HK.out hk7 (fun k_ hk => (HOK.out k_ hk).1); have aE := am aI; replace HK := am a6; replace HB := am aZ; clear aI a6 HN7 hS7 hk7 HHH GEE HOK aZ HO))
 go_roundg k1
 case measure => have := aV.out; omega
 case rel => exact ⟨_, b1, (wrap64 (aA + 1)), sr, sr, H', ⟨by have := aV.out; omega⟩, ⟨S_later aE.out⟩, ⟨kept_later HK.out⟩, ⟨bL HB⟩⟩
/-! ### laws_markGroupMetaS: function 41 -/
def laws_markGroupMetaS.l0 : Nat → List (S54) → Int → Int → Option (Int × (List (S54)))
  | 0, _, _, _ => none
  | k + 1, x0, x1, x5 => if x5 < (x0.length : Int) then (if 0 ≤ x5 then ((laws_markChunkS.f k ((rd_T54 x0 x5).f1) (wrap64 (x1 + 1))).bind fun bt => laws_markGroupMetaS.l0 k (x0.set (x5 : Int).toNat (⟨x1, bt.2⟩ : S54)) bt.1 (wrap64 (x5 + 1))) else none) else (some (x1, x0))
def laws_markGroupMetaS.f (k : Nat) (l0 : List (S54)) (a1 : Int) : Option (Int × (List (S54))) := laws_markGroupMetaS.l0 k l0 a1 0
theorem gk_put {W : World} {base g n cap : Nat} {ok : Nat → Prop} {xs : List S54} (i : Int) (x : S54) (HO : Aside0 (Kd.S k54 54 W base ok (.slice (some ⟨g, 0, none⟩) n cap) (xs.set i.toNat x))) (h0 : 0 ≤ i) (h1 : i < xs.length) (y : Int) :
    Kd.S k54 54 (W.setCell ⟨g, i.toNat * 2, none⟩ (.int .i64 y)) base ok (.slice (some ⟨g, 0, none⟩) n cap) (xs.set i.toNat ⟨y, x.f1⟩) ∧ W.grownBy (W.setCell ⟨g, i.toNat * 2, none⟩ (.int .i64 y)) (some g) ∧ (∃ y, W.cell? ⟨g, i.toNat * 2, none⟩ = some (.int .i64 y)) ∧ W.frozen? ⟨g, i.toNat * 2, none⟩ = false := by
 have hn := (Kd.S_reads' HO.out).1
 rw [List.length_set] at hn
 obtain ⟨oki, c, hcl, hM, hcc, hfr, hoki, hH⟩ := Kd.S_elem (Kd.S_mono HO.out (ok' := fun k => ok k ∧ ¬ False) (fun k hk => ⟨hk, id⟩)) z54 i h0 (by omega)
 rw [getD_set_at xs i x _ h0 h1] at hM
 obtain ⟨ve, rfl, ge⟩ := k54_openM hM
 have h := Kd.S_seg (okg := fun _ => False) hH h0 (by omega) (seg := [.int .i64 y]) (j := 0) (show 0 + 1 ≤ 2 by omega) (x' := (⟨y, x.f1⟩ : S54)) (k54_mkM _ _ _ (⟨y, x.f1⟩ : S54) ge) (fun _ hk => .inl hk) (fun _ hk => hk.elim)
 rw [List.set_set] at h
 exact ⟨h.1, h.2, ⟨_, hcc 0 _ rfl⟩, hfr 0⟩
theorem laws_markGroupMetaS.calls (k : Nat) (P0_ : Nat → Prop) (u9000_ : Value) (l0 : List (S54)) (a1 : Int) (r1 : Int) (r2 : List (S54)) (w0 w : World) (hB : Below w0.heap.size w0 w) (aI : Kd.S k54 54 w w0.heap.size P0_ u9000_ l0) (h : laws_markGroupMetaS.f k l0 a1 = some (r1, r2)) :
    Calls Try.prog 41 #[u9000_, .int .i64 a1] w fun e w' => e = .returned (.int .i64 r1) ∧ Kd.S k54 54 w' w0.heap.size (fun k_ => (P0_ k_ ∨ w.heap.size ≤ k_)) u9000_ r2 ∧ Below w0.heap.size w0 w' ∧ Kept w w' (fun k_ => P0_ k_) := by
 have aM := am (show Kd.S k54 54 w w0.heap.size (fun k_ => (P0_ k_ ∨ w.heap.size ≤ k_)) u9000_ l0 from Kd.S_mono aI (fun k_ hk => (.inl hk)))
 have HOB := am (fun k_ (hk : u9000_.ownBlock = some k_) => aI.choose_spec.1 k_ hk)
 have HK := am (Kept.refl w (fun k_ => P0_ k_))
 have HB := am hB
 clear hB aI
 have H' := am (show laws_markGroupMetaS.l0 k l0 a1 0 = some (r1, r2) from h)
 clear h
 go_enter Try.func41, Try.ntmps41
 go_wp2
 go_loopg [1, 5] k (fun kq v1 v5 w' => ∃ (aC : List (S54)) (aE : Int) (aA : Int), v1 = .int .i64 aE ∧ v5 = .int .i64 aA ∧ Aside0 (laws_markGroupMetaS.l0 kq aC aE aA = some (r1, r2)) ∧ Aside0 (kq ≤ k) ∧ Aside0 (Kd.S k54 54 w' w0.heap.size (fun k_ => (P0_ k_ ∨ w.heap.size ≤ k_)) u9000_ aC) ∧ Aside0 (Kept w w' (fun k_ => P0_ k_)) ∧ Aside0 (Below w0.heap.size w0 w'))
 case atStart => exact ⟨l0, a1, 0, sr, sr, H', ⟨Nat.le_refl _⟩, ⟨S_later aM.out⟩, ⟨kept_later HK.out⟩, ⟨bL HB⟩⟩
 clear H' aM
 obtain ⟨aC, aE, aA, rfl, rfl, HA, aN, aD, HK, HB⟩ := hrel
 cases gk with
 | zero => exact absurd HA.out (by simp [laws_markGroupMetaS.l0])
 | succ k1 => ?_
 have H := HA.out
 clear HA
 simp only [laws_markGroupMetaS.l0] at H
 replace H := idc H
 obtain ⟨aJ, H⟩ | ⟨aJ, H⟩ := H
 rotate_left
 · obtain ⟨rfl, rfl⟩ := (by simpa using H : _ ∧ _)
   obtain ⟨aW, aX, aK⟩ := Kd.S_slice aD.out
   subst aK
   go_wp2
   go_ret
   exact fin_ ⟨S_later aD.out, bL HB, kept_later HK.out⟩
 replace H := ifd H; obtain ⟨aY, H⟩ := H
 obtain ⟨⟨b1, b2⟩, h5, H⟩ := Option.bind_eq_some_iff.mp H
 have A5 := am h5
 have H' := am H
 clear H h5
 have p5 : 0 ≤ (aA : Int) := dcd
 have q5 : (aA : Int) < (aC.length : Int) := dcd
 obtain ⟨go5, aZ, a6, aQ, gl5, cl5, HG5⟩ := Kd.R_form (Kd.S_R aD.out) (by omega)
 subst a6
 have GB := am aQ
 have GP := am (HOB.out go5 rfl)
 obtain ⟨x, hx⟩ : ∃ x, x = rd_T54 aC aA := ⟨_, rfl⟩
 have HO := am (show Kd.S k54 54 _ w0.heap.size (fun k_ => (P0_ k_ ∨ w.heap.size ≤ k_)) (.slice (some ⟨go5, 0, none⟩) aC.length aZ) (aC.set aA.toNat x) from by
   rw [hx]
   unfold rd_T54
   rw [List.getD_eq_getElem?_getD, List.getElem?_eq_getElem (by omega)]
   show Kd.S _ _ _ _ _ _ (aC.set aA.toNat aC[aA.toNat])
   rw [List.set_getElem_self]
   exact aD.out)
 rw [← hx] at A5
 have P5 := am p5
 have Q5 := am q5
 obtain ⟨-, -, ⟨z0, hz0⟩, a7⟩ := gk_put aA x HO p5 q5 0
 clear aQ gl5 HG5 cl5 aD hx
 have a9 := eq_true p5
 have bA := eq_true q5
 clear p5 q5
 go_wp2_with (first
   | (refine st_ 3 16 _ ?_; intro aT aG; obtain ⟨h_, hg_, -, -⟩ := gk_put aA x HO P5.out Q5.out aE; rw [← aG] at h_ hg_; replace HO := am h_; replace HK := am (Kept.of_grown hg_ (kept_later HK.out) (fun k_ hk_ => by cases hk_; exact .inl GP.out)); replace HB := am (by rw [aG]; exact below_set (bL HB) GB.out : Below w0.heap.size w0 aT); obtain ⟨oki, ce, hcl, hM, hcc, hfr, hoki, hH⟩ := Kd.S_elem HO.out z54 aA P5.out Q5.out; rw [getD_set_at aC aA _ _ P5.out Q5.out] at hM; obtain ⟨ve, rfl, ge⟩ := k54_openM hM; have bB : aT.cell? ⟨go5, aA.toNat * 2 + 1, none⟩ = some ve := hcc 1 _ rfl; have GEE := am ge; have HHH := am hH; have HOK := am hoki; clear hz0 a7 h_ hg_ aG hcl hcc hfr hM ge hH hoki)
   | (go_at_call 66; (refine (laws_markChunkS.calls oki (bL HB) (S_later GEE.out) A5.out).mono ?_); rintro e a8 ⟨rfl, hS7, aU, hk7⟩; have HN7 := Kd.H_step (w1 := a8) (Kd.H_widen HHH.out) (fun k_ hk hn hlt => hk7.2 k_ hlt (fun h_ => hn (.inl h_))); have aH := Kd.H_back HN7 (x' := (⟨aE, b2⟩ : S54)) (k54_mkM _ _ _ (⟨aE, b2⟩ : S54) hS7) (fun k_ hk => hk.elim (fun h_ => .inl h_) (fun h_ => .inr ⟨.inr (Nat.le_trans HK.out.1 h_), h_⟩)); rw [List.set_set] at aH; have aV := Kept.then_ HK.out hk7 (fun k_ hk => (HOK.out k_ hk).1); have aD := am aH; replace HK := am aV; replace HB := am aU; clear aH aV HN7 hS7 hk7 HHH GEE HOK aU HO))
 go_roundg k1
 case measure => have := aN.out; omega
 case rel => exact ⟨_, b1, (wrap64 (aA + 1)), sr, sr, H', ⟨by have := aN.out; omega⟩, ⟨S_later aD.out⟩, ⟨kept_later HK.out⟩, ⟨bL HB⟩⟩
/-! ### laws_markMeta: function 11 -/
theorem types_apart {l : List Nat} {W : World} {e' k_ : Nat} (hk : ∃ q, q ∈ l ∧ ∃ cells, W.heap[k_]? = some (.cells cells q (0, 0))) (hc : ∃ cells, W.heap[k_]? = some (.cells cells e' (0, 0))) (ht : ∀ q, q ∈ l → q ≠ e') : False := by
  obtain ⟨q, hq, cells, h1⟩ := hk
  obtain ⟨cells', h2⟩ := hc
  rw [h1] at h2
  injection h2 with h2
  injection h2 with _ h2
  exact ht q hq h2
theorem R_marked {α : Type} {d : Kd α} {e base e' : Nat} {ok : Nat → Prop} {v u : Value} {xs : List α} {l : List Nat} {W W2 : World} (h : d.R e W base ok v xs) (hk : Kept W W2 (fun k => some k = u.ownBlock ∨ ∃ q, q ∈ l ∧ ∃ cells, W.heap[k]? = some (.cells cells q (0, 0)))) (hty : ∀ k, u.ownBlock = some k → ∃ cells, W.heap[k]? = some (.cells cells e' (0, 0))) (ht : ∀ q, q ∈ e :: d.E → ∀ q', q' ∈ e' :: l → q' ≠ q) : d.R e W2 base ok v xs :=
  Kd.R_mono (Kd.R_kept (Kd.R_bound h) hk (fun k hb hs => by
    obtain ⟨_, _, _, q, hq, hc⟩ := hb
    rcases hs with hs | hs
    · exact types_apart ⟨e', List.mem_cons_self, hty k hs.symm⟩ hc (l := e' :: l) (fun q' hq' => ht q hq q' hq')
    · exact types_apart hs hc (fun q' hq' => ht q hq q' (List.mem_cons_of_mem _ hq')))) (fun _ hb => hb.1)
theorem blk_marked {e' g t : Nat} {u : Value} {cs : Array Value} {l : List Nat} {W W2 : World} (h : W.heap[g]? = some (.cells cs t (0, 0))) (hk : Kept W W2 (fun k => some k = u.ownBlock ∨ ∃ q, q ∈ l ∧ ∃ cells, W.heap[k]? = some (.cells cells q (0, 0)))) (hty : ∀ k, u.ownBlock = some k → ∃ cells, W.heap[k]? = some (.cells cells e' (0, 0))) (ht : ∀ q', q' ∈ e' :: l → q' ≠ t) : W2.heap[g]? = some (.cells cs t (0, 0)) :=
  blk_kept h hk (fun hs => by
    rcases hs with hs | hs
    · exact types_apart ⟨e', List.mem_cons_self, hty g hs.symm⟩ ⟨_, h⟩ (l := e' :: l) ht
    · exact types_apart hs ⟨_, h⟩ (fun q' hq' => ht q' (List.mem_cons_of_mem _ hq')))
def laws_markMeta.f (k : Nat) (aD : List (S84)) (aG : Int) (aE : List (S54)) (a1 : Int) : Option (Int × (List (S84))) := (laws_markColS.f k aD a1).bind fun aA => ((laws_markGroupMetaS.f k aE aA.1).bind fun aC => (some (aC.1, aA.2)))
theorem laws_markMeta.calls {k : Nat} (P0_ : Nat → Prop) {P2_ : Nat → Prop} {u0_ u2_ : Value} {aD : List (S84)} {aH : Int} {aC : List (S54)} {a1 r1 : Int} {r2 : List (S84)} {w0 w : World} (hB : Below w0.heap.size w0 w) (aK : Kd.R k84 84 w w0.heap.size P0_ u0_ aD) (aN : Kd.S k54 54 w w0.heap.size P2_ u2_ aC) (hd : ∀ k_, P2_ k_ → ¬ P0_ k_) (h : laws_markMeta.f k aD aH aC a1 = some (r1, r2)) :
    Calls Try.prog 11 #[.agg #[u0_, .int .i64 aH, u2_], .int .i64 a1] w fun e w' => e = .returned (.int .i64 r1) ∧ Kd.R k84 84 w' w0.heap.size (fun k_ => (P0_ k_ ∨ w.heap.size ≤ k_)) u0_ r2 ∧ Below w0.heap.size w0 w' ∧ Kept w w' (fun k_ => P0_ k_ ∨ P2_ k_) := by
 have hu33 := Try.underlying33
 have aE := am (show Kd.R k84 84 w w0.heap.size (fun k_ => (P0_ k_ ∨ w.heap.size ≤ k_)) u0_ aD from Kd.R_mono aK (fun k_ hk => (.inl hk)))
 have HP := am (fun (k_ : Nat) (e_ : u0_.ownBlock = some k_) => aK.1 k_ e_)
 have aI := am (show Kd.S k54 54 w w0.heap.size (fun k_ => P2_ k_ ∧ k_ < w.heap.size) u2_ aC from Kd.S_mono (Kd.S_bound aN) (fun k_ hk => ⟨hk.1, hk.2.2.1⟩))
 have HD := am hd
 have HK := am (Kept.refl w (fun k_ => P0_ k_ ∨ P2_ k_))
 have HW0 := am hB.size
 have HB := am hB
 clear hB aK aN hd
 have H := h; clear h; unfold laws_markMeta.f at H
 replace H := bnd2 H; obtain ⟨aM, aY, A3, H⟩ := H; dsimp only at H
 replace H := bnd2 H; obtain ⟨aZ, a6, A4, H⟩ := H; dsimp only at H
 replace H := sj2 H; obtain ⟨rfl, rfl⟩ := H
 obtain ⟨aQ, aT, a7⟩ := Kd.R_slice aE.out
 subst a7
 obtain ⟨aU, aV, a8⟩ := Kd.S_slice aI.out
 subst a8
 go_enter Try.func11, Try.ntmps11
 go_wp2_with (first | ((with_reducible refine gd 2 rfl ?_); refine bx_ 2 #[.slice aQ aD.length aT, .int .i64 aH, .slice aU aC.length aV] 33 ?_; intro aG hg w6 hbox hb; have aA := am hbox; have aW := am ((by rw [hg]; exact (kept_later HK.out).1 : w.heap.size ≤ aG)); have aX := am ((by rw [hg]; exact (below_size (bL HB)) : w0.heap.size ≤ aG)); replace aE := rbe aE hb; replace aI := am (Kd.S_below (S_later aI.out) hb); replace HK := am (Kept.below (S := (fun k_ => P0_ k_ ∨ P2_ k_)) (kept_later HK.out) hb); replace HB := bst HB hb; clear hb hbox hg; obtain ⟨_, _, _, _, _, _⟩ := cl3 aA) | ((with_reducible refine gc 40 rfl ?_); refine gc1 (some 8) Try.func40 rfl (laws_markColS.calls (fun k_ => some k_ = (.slice aQ aD.length aT : Value).ownBlock) (bL HB) (Kd.R_tight rfl aE.out) A3.out) ?_; rintro w8 ⟨aJ, hb, hkp⟩; replace aA := am (blk_kept (blk_later aA.out) hkp (fun e_ => (Kd.R_ne aE.out aA.out (by decide)) e_)); replace aI := am (Kd.S_kept aI.out hkp (fun k_ hk_ e_ => HD.out k_ hk_.1 (HP.out k_ e_.symm))); replace HK := am (Kept.then_ (S := (fun k_ => P0_ k_ ∨ P2_ k_)) (kept_later HK.out) hkp (fun k_ e_ => .inl (.inl (HP.out k_ e_.symm)))); replace aE := am (Kd.R_reok rfl aJ (fun k_ e_ => aE.out.1 k_ e_)); replace HB := am hb; clear hb hkp aJ; obtain ⟨_, _, _, _, _, _⟩ := cl3 aA) | ((with_reducible refine gc 41 rfl ?_); refine gc1 (some 12) Try.func41 rfl (laws_markGroupMetaS.calls k (fun k_ => P2_ k_ ∧ k_ < w.heap.size) (.slice aU aC.length aV) aC aM _ _ w0 _ (bL HB) (S_later aI.out) A4.out) ?_; rintro a9 ⟨aJ, hb, hkp⟩; replace aE := am (Kd.R_kept aE.out hkp (fun k_ hk_ hs_ => hk_.elim (fun h_ => HD.out k_ hs_.1 h_) (fun h_ => by have := hs_.2; omega))); replace HK := am (Kept.then_ (S := (fun k_ => P0_ k_ ∨ P2_ k_)) (kept_later HK.out) hkp (fun k_ hs_ => .inl (.inr hs_.1))); replace HB := am hb; clear hb hkp aJ))
 go_ret
 exact fin_ ⟨rL aE, bL HB, kept_later HK.out⟩
/-! ### laws_markNodeS: function 12 -/
def laws_markNodeS.l0 : Nat → List (S49) → Int → Int → Option (Int × (List (S49)))
  | 0, _, _, _ => none
  | k + 1, x0, x1, x5 => if x5 < (x0.length : Int) then (if 0 ≤ x5 then ((some (x0.set (x5 : Int).toNat (⟨x1, (rd_T49 x0 x5).f1, (rd_T49 x0 x5).f2, (rd_T49 x0 x5).f3, (rd_T49 x0 x5).f4⟩ : S49) : List (S49))).bind fun aA => ((some (aA.set (x5 : Int).toNat (⟨(rd_T49 aA x5).f0, wrap64 (x1 + 1), (rd_T49 aA x5).f2, (rd_T49 aA x5).f3, (rd_T49 aA x5).f4⟩ : S49) : List (S49))).bind fun aC => ((some (aC.set (x5 : Int).toNat (⟨(rd_T49 aC x5).f0, (rd_T49 aC x5).f1, wrap64 ((wrap64 (x1 + 1)) + 1), (rd_T49 aC x5).f3, (rd_T49 aC x5).f4⟩ : S49) : List (S49))).bind fun aD => ((laws_markText.f k (wrap64 ((wrap64 ((wrap64 (x1 + 1)) + 1)) + 1))).bind fun aG => ((some (aD.set (x5 : Int).toNat (⟨(rd_T49 aD x5).f0, (rd_T49 aD x5).f1, (rd_T49 aD x5).f2, aG, (rd_T49 aD x5).f4⟩ : S49) : List (S49))).bind fun aE => (laws_markNodeS.l0 k (aE.set (x5 : Int).toNat (⟨(rd_T49 aE x5).f0, (rd_T49 aE x5).f1, (rd_T49 aE x5).f2, (rd_T49 aE x5).f3, wrap64 ((wrap64 ((wrap64 ((wrap64 (x1 + 1)) + 1)) + 1)) + 1)⟩ : S49)) (wrap64 ((wrap64 ((wrap64 ((wrap64 ((wrap64 (x1 + 1)) + 1)) + 1)) + 1)) + 1)) (wrap64 (x5 + 1)))))))) else (none)) else (some (x1, x0))
def laws_markNodeS.f (k : Nat) (l0 : List (S49)) (a1 : Int) : Option (Int × (List (S49))) := laws_markNodeS.l0 k l0 a1 0
theorem laws_markNodeS.calls {k : Nat} (P0_ : Nat → Prop) {u9000_ : Value} {l0 : List (S49)} {a1 r1 : Int} {r2 : List (S49)} {w0 w : World} (hB : Below w0.heap.size w0 w) (eB : Kd.R k49 49 w w0.heap.size P0_ u9000_ l0) (h : laws_markNodeS.f k l0 a1 = some (r1, r2)) :
    Calls Try.prog 12 #[u9000_, .int .i64 a1] w fun e w' => e = .returned (.int .i64 r1) ∧ Kd.R k49 49 w' w0.heap.size (fun k_ => (P0_ k_ ∨ w.heap.size ≤ k_)) u9000_ r2 ∧ Below w0.heap.size w0 w' ∧ Kept w w' (fun k_ => P0_ k_) := by
 have eC := am (show Kd.R k49 49 w w0.heap.size (fun k_ => (P0_ k_ ∨ w.heap.size ≤ k_)) u9000_ l0 from Kd.R_mono eB (fun k_ hk => (.inl hk)))
 have HK := am (Kept.refl w (fun k_ => P0_ k_))
 have HW0 := am hB.size
 have HB := am hB
 clear hB
 have H := h; clear h; unfold laws_markNodeS.f at H
 have H' := am H; clear H
 go_enter Try.func12, Try.ntmps12
 go_wp2
 go_loopg [1, 5] k (fun kq v1 v5 w' => ∃ (aC : List (S49)) (aE : Int) (aA : Int), v1 = .int .i64 aE ∧ v5 = .int .i64 aA ∧ Aside0 (laws_markNodeS.l0 kq aC aE aA = some (r1, r2)) ∧ Aside0 (kq ≤ k) ∧ Aside0 (Kd.R k49 49 w' w0.heap.size (fun k_ => (P0_ k_ ∨ w.heap.size ≤ k_)) u9000_ aC) ∧ Aside0 (Kept w w' (fun k_ => P0_ k_)) ∧ Aside0 (Below w0.heap.size w0 w'))
 case atStart => exact ⟨(l0), (a1), (0), sr, sr, H', ⟨Nat.le_refl _⟩, ⟨rL eC⟩, ⟨kept_later HK.out⟩, ⟨bL HB⟩⟩
 clear H'
 obtain ⟨aC, aE, aA, rfl, rfl, HA, cR, aD, HK, HB⟩ := hrel
 cases gk with
 | zero => exact absurd HA.out (by simp [laws_markNodeS.l0])
 | succ k1 => ?_
 have H := HA.out
 clear HA
 simp only [laws_markNodeS.l0] at H
 replace H := idc H; obtain ⟨b9, H⟩ | ⟨b9, H⟩ := H
 rotate_left
 · replace H := sj2 H; obtain ⟨rfl, rfl⟩ := H
   obtain ⟨eD, eE, cA⟩ := Kd.R_slice aD.out
   subst cA
   go_wp2
   go_ret
   exact fin_ ⟨rL aD, bL HB, kept_later HK.out⟩
 replace H := ifd H; obtain ⟨eF, H⟩ := H
 replace H := bsm H; obtain ⟨aH, bX, H⟩ := H
 replace H := bsm H; obtain ⟨aI, bY, H⟩ := H
 replace H := bsm H; obtain ⟨aJ, bZ, H⟩ := H
 replace H := bnd H; obtain ⟨bF, A8, H⟩ := H
 replace H := bsm H; obtain ⟨aG, b6, H⟩ := H
 generalize bG : ((aG.set (aA : Int).toNat (⟨(rd_T49 aG aA).f0, (rd_T49 aG aA).f1, (rd_T49 aG aA).f2, (rd_T49 aG aA).f3, wrap64 ((wrap64 ((wrap64 ((wrap64 (aE + 1)) + 1)) + 1)) + 1)⟩ : S49)) : List (S49)) = b7 at H; have b8 := am bG.symm; clear bG
 have H' := am H; clear H
 obtain ⟨eG, aK, cB⟩ := Kd.R_slice aD.out
 subst cB
 have p5 : 0 ≤ (aA : Int) := dcd
 have q5 : (aA : Int) < ((aC.length : Int) : Int) := dcd
 obtain ⟨go5, eH, cS, cT, gl5, cl5, HG5⟩ := Kd.R_form aD.out (by omega)
 (first | cases cS | (injection cS with ea_ en_ ec_; (first | subst ea_ | (injection ea_ with ea_; subst ea_)); subst ec_; clear en_))
 have GB5 := am cT
 have GG5 := am HG5
 clear cT gl5 HG5
 have HMgo5 := am (show (P0_ go5 ∨ w.heap.size ≤ go5) from (aD.out.1 _ rfl))
 obtain ⟨ce5, hcl5, hM5, aV, aW⟩ := Kd.R_elem aD.out z49 (aA : Int) p5 q5
 obtain rfl := k49_openM hM5
 have cU : wr.cell? ⟨go5, (aA : Int).toNat * 5, none⟩ = some (.int .i64 ((rd_T49 aC aA).f0)) := aV 0 _ rfl
 have cV : wr.cell? ⟨go5, (aA : Int).toNat * 5 + 1, none⟩ = some (.int .i64 ((rd_T49 aC aA).f1)) := aV 1 _ rfl
 have cW : wr.cell? ⟨go5, (aA : Int).toNat * 5 + 2, none⟩ = some (.int .i64 ((rd_T49 aC aA).f2)) := aV 2 _ rfl
 have cX : wr.cell? ⟨go5, (aA : Int).toNat * 5 + 3, none⟩ = some (.string ((rd_T49 aC aA).f3)) := aV 3 _ rfl
 have cY : wr.cell? ⟨go5, (aA : Int).toNat * 5 + 4, none⟩ = some (.int .i64 ((rd_T49 aC aA).f4)) := aV 4 _ rfl
 have cZ : wr.frozen? ⟨go5, (aA : Int).toNat * 5, none⟩ = false := aW 0
 have dA : wr.frozen? ⟨go5, (aA : Int).toNat * 5 + 1, none⟩ = false := aW 1
 have dB : wr.frozen? ⟨go5, (aA : Int).toNat * 5 + 2, none⟩ = false := aW 2
 have dC : wr.frozen? ⟨go5, (aA : Int).toNat * 5 + 3, none⟩ = false := aW 3
 have dD : wr.frozen? ⟨go5, (aA : Int).toNat * 5 + 4, none⟩ = false := aW 4
 clear hcl5 aV aW hM5
 replace p5 := eq_true p5
 replace q5 := eq_true q5
 have HX12 := am (show Kd.R k49 49 wr w0.heap.size (fun k_ => (P0_ k_ ∨ w.heap.size ≤ k_)) (.slice (some ⟨go5, 0, none⟩) aC.length aK) aC from (rL aD))
 obtain ⟨ce12, hcl12, hM12, bA, bH⟩ := Kd.R_elem HX12.out z49 (aA : Int) (dcd) (by have h_ : (aA : Int) < ((aC.length : Int) : Int) := dcd; first | exact h_ | (have e_ := (Kd.R_reads' aD.out).1; omega) | simpa using h_)
 obtain rfl := k49_openM hM12
 have HP12 := Kd.R_seg HX12.out (aA : Int) (dcd) (by have h_ : (aA : Int) < ((aC.length : Int) : Int) := dcd; first | exact h_ | (have e_ := (Kd.R_reads' aD.out).1; omega) | simpa using h_) (seg := [.int .i64 aE]) (j := 0) hcl12 bA (show 1 ≤ 5 from by decide) (x' := (⟨aE, (rd_T49 aC aA).f1, (rd_T49 aC aA).f2, (rd_T49 aC aA).f3, (rd_T49 aC aA).f4⟩ : S49)) (k49_mkM _ _ _ (⟨aE, (rd_T49 aC aA).f1, (rd_T49 aC aA).f2, (rd_T49 aC aA).f3, (rd_T49 aC aA).f4⟩ : S49) ) (fun _ hk => hk)
 have bN := bA 0 _ rfl
 (try simp only [show (k49).sz = 5 from rfl, Nat.mul_one, Nat.add_zero] at bN)
 have bO := bH 0
 (try simp only [show (k49).sz = 5 from rfl, Nat.mul_one, Nat.add_zero] at bO)
 clear hcl12 bA bH hM12
 go_wp2_with (first | ((with_reducible refine gate_store (t := 3) (p := 16) rfl ?_); refine st_ 3 16 (wr.setCell ⟨go5, (aA : Int).toNat * 5, none⟩ (.int .i64 aE)) ?_; intro aQ hw; have hg : wr.grownBy aQ (some go5) := (by rw [hw]; exact HP12.2); have hp_ : Kd.R k49 49 aQ w0.heap.size (fun k_ => (P0_ k_ ∨ w.heap.size ≤ k_)) (.slice (some ⟨go5, 0, none⟩) aC.length aK) aH := (by rw [hw, bX.out]; exact HP12.1); clear HP12; replace HB := am ((by rw [hw]; exact below_set (HB.out) GB5.out : Below w0.heap.size w0 aQ)); replace HK := am (Kept.of_grown (S := (fun k_ => P0_ k_)) hg (kept_later HK.out) (fun k_ e_ => (aD.out.1 k_ e_))); replace aD := am hp_; clear hg hw hp_; have p6 : 0 ≤ (aA : Int) := dcd; have q6 : (aA : Int) < ((aC.length : Int) : Int) := dcd; obtain ⟨ce6, hcl6, hM6, aX, aY⟩ := Kd.R_elem aD.out z49 (aA : Int) p6 q6; obtain rfl := k49_openM hM6; have dE : aQ.cell? ⟨go5, (aA : Int).toNat * 5, none⟩ = some (.int .i64 ((rd_T49 aH aA).f0)) := aX 0 _ rfl; have dF : aQ.cell? ⟨go5, (aA : Int).toNat * 5 + 1, none⟩ = some (.int .i64 ((rd_T49 aH aA).f1)) := aX 1 _ rfl; have dG : aQ.cell? ⟨go5, (aA : Int).toNat * 5 + 2, none⟩ = some (.int .i64 ((rd_T49 aH aA).f2)) := aX 2 _ rfl; have dH : aQ.cell? ⟨go5, (aA : Int).toNat * 5 + 3, none⟩ = some (.string ((rd_T49 aH aA).f3)) := aX 3 _ rfl; have dI : aQ.cell? ⟨go5, (aA : Int).toNat * 5 + 4, none⟩ = some (.int .i64 ((rd_T49 aH aA).f4)) := aX 4 _ rfl; have dJ : aQ.frozen? ⟨go5, (aA : Int).toNat * 5, none⟩ = false := aY 0; have dK : aQ.frozen? ⟨go5, (aA : Int).toNat * 5 + 1, none⟩ = false := aY 1; have dL : aQ.frozen? ⟨go5, (aA : Int).toNat * 5 + 2, none⟩ = false := aY 2; have dM : aQ.frozen? ⟨go5, (aA : Int).toNat * 5 + 3, none⟩ = false := aY 3; have dN : aQ.frozen? ⟨go5, (aA : Int).toNat * 5 + 4, none⟩ = false := aY 4; clear hcl6 aX aY hM6; replace p6 := eq_true p6; replace q6 := eq_true q6; have HX14 := am (show Kd.R k49 49 aQ w0.heap.size (fun k_ => (P0_ k_ ∨ w.heap.size ≤ k_)) (.slice (some ⟨go5, 0, none⟩) aC.length aK) aH from (rL aD)); obtain ⟨ce14, hcl14, hM14, bB, bI⟩ := Kd.R_elem HX14.out z49 (aA : Int) (dcd) (by have h_ : (aA : Int) < ((aC.length : Int) : Int) := dcd; first | exact h_ | (have e_ := (Kd.R_reads' aD.out).1; omega) | simpa using h_); obtain rfl := k49_openM hM14; have HP14 := Kd.R_seg HX14.out (aA : Int) (dcd) (by have h_ : (aA : Int) < ((aC.length : Int) : Int) := dcd; first | exact h_ | (have e_ := (Kd.R_reads' aD.out).1; omega) | simpa using h_) (seg := [.int .i64 (wrap64 (aE + 1))]) (j := 1) hcl14 bB (show 2 ≤ 5 from by decide) (x' := (⟨(rd_T49 aH aA).f0, wrap64 (aE + 1), (rd_T49 aH aA).f2, (rd_T49 aH aA).f3, (rd_T49 aH aA).f4⟩ : S49)) (k49_mkM _ _ _ (⟨(rd_T49 aH aA).f0, wrap64 (aE + 1), (rd_T49 aH aA).f2, (rd_T49 aH aA).f3, (rd_T49 aH aA).f4⟩ : S49) ) (fun _ hk => hk); have bP := bB 1 _ rfl; (try simp only [show (k49).sz = 5 from rfl, Nat.mul_one, Nat.add_zero] at bP); have bQ := bI 1; (try simp only [show (k49).sz = 5 from rfl, Nat.mul_one, Nat.add_zero] at bQ); clear hcl14 bB bI hM14) | ((with_reducible refine gate_store (t := 3) (p := 23) rfl ?_); refine st_ 3 23 (aQ.setCell ⟨go5, (aA : Int).toNat * 5 + 1, none⟩ (.int .i64 (wrap64 (aE + 1)))) ?_; intro aT hw; have hg : aQ.grownBy aT (some go5) := (by rw [hw]; exact HP14.2); have hp_ : Kd.R k49 49 aT w0.heap.size (fun k_ => (P0_ k_ ∨ w.heap.size ≤ k_)) (.slice (some ⟨go5, 0, none⟩) aC.length aK) aI := (by rw [hw, bY.out]; exact HP14.1); clear HP14; replace HB := am ((by rw [hw]; exact below_set (HB.out) GB5.out : Below w0.heap.size w0 aT)); replace HK := am (Kept.of_grown (S := (fun k_ => P0_ k_)) hg (kept_later HK.out) (fun k_ e_ => (aD.out.1 k_ e_))); replace aD := am hp_; clear hg hw hp_; have p7 : 0 ≤ (aA : Int) := dcd; have q7 : (aA : Int) < ((aC.length : Int) : Int) := dcd; obtain ⟨ce7, hcl7, hM7, aZ, a6⟩ := Kd.R_elem aD.out z49 (aA : Int) p7 q7; obtain rfl := k49_openM hM7; have dO : aT.cell? ⟨go5, (aA : Int).toNat * 5, none⟩ = some (.int .i64 ((rd_T49 aI aA).f0)) := aZ 0 _ rfl; have dP : aT.cell? ⟨go5, (aA : Int).toNat * 5 + 1, none⟩ = some (.int .i64 ((rd_T49 aI aA).f1)) := aZ 1 _ rfl; have dQ : aT.cell? ⟨go5, (aA : Int).toNat * 5 + 2, none⟩ = some (.int .i64 ((rd_T49 aI aA).f2)) := aZ 2 _ rfl; have dR : aT.cell? ⟨go5, (aA : Int).toNat * 5 + 3, none⟩ = some (.string ((rd_T49 aI aA).f3)) := aZ 3 _ rfl; have dS : aT.cell? ⟨go5, (aA : Int).toNat * 5 + 4, none⟩ = some (.int .i64 ((rd_T49 aI aA).f4)) := aZ 4 _ rfl; have dT : aT.frozen? ⟨go5, (aA : Int).toNat * 5, none⟩ = false := a6 0; have dU : aT.frozen? ⟨go5, (aA : Int).toNat * 5 + 1, none⟩ = false := a6 1; have dV : aT.frozen? ⟨go5, (aA : Int).toNat * 5 + 2, none⟩ = false := a6 2; have dW : aT.frozen? ⟨go5, (aA : Int).toNat * 5 + 3, none⟩ = false := a6 3; have dX : aT.frozen? ⟨go5, (aA : Int).toNat * 5 + 4, none⟩ = false := a6 4; clear hcl7 aZ a6 hM7; replace p7 := eq_true p7; replace q7 := eq_true q7; have HX16 := am (show Kd.R k49 49 aT w0.heap.size (fun k_ => (P0_ k_ ∨ w.heap.size ≤ k_)) (.slice (some ⟨go5, 0, none⟩) aC.length aK) aI from (rL aD)); obtain ⟨ce16, hcl16, hM16, bC, bJ⟩ := Kd.R_elem HX16.out z49 (aA : Int) (dcd) (by have h_ : (aA : Int) < ((aC.length : Int) : Int) := dcd; first | exact h_ | (have e_ := (Kd.R_reads' aD.out).1; omega) | simpa using h_); obtain rfl := k49_openM hM16; have HP16 := Kd.R_seg HX16.out (aA : Int) (dcd) (by have h_ : (aA : Int) < ((aC.length : Int) : Int) := dcd; first | exact h_ | (have e_ := (Kd.R_reads' aD.out).1; omega) | simpa using h_) (seg := [.int .i64 (wrap64 ((wrap64 (aE + 1)) + 1))]) (j := 2) hcl16 bC (show 3 ≤ 5 from by decide) (x' := (⟨(rd_T49 aI aA).f0, (rd_T49 aI aA).f1, wrap64 ((wrap64 (aE + 1)) + 1), (rd_T49 aI aA).f3, (rd_T49 aI aA).f4⟩ : S49)) (k49_mkM _ _ _ (⟨(rd_T49 aI aA).f0, (rd_T49 aI aA).f1, wrap64 ((wrap64 (aE + 1)) + 1), (rd_T49 aI aA).f3, (rd_T49 aI aA).f4⟩ : S49) ) (fun _ hk => hk); have bR := bC 2 _ rfl; (try simp only [show (k49).sz = 5 from rfl, Nat.mul_one, Nat.add_zero] at bR); have bS := bJ 2; (try simp only [show (k49).sz = 5 from rfl, Nat.mul_one, Nat.add_zero] at bS); clear hcl16 bC bJ hM16) | ((with_reducible refine gate_store (t := 3) (p := 30) rfl ?_); refine st_ 3 30 (aT.setCell ⟨go5, (aA : Int).toNat * 5 + 2, none⟩ (.int .i64 (wrap64 ((wrap64 (aE + 1)) + 1)))) ?_; intro cC hw; have hg : aT.grownBy cC (some go5) := (by rw [hw]; exact HP16.2); have hp_ : Kd.R k49 49 cC w0.heap.size (fun k_ => (P0_ k_ ∨ w.heap.size ≤ k_)) (.slice (some ⟨go5, 0, none⟩) aC.length aK) aJ := (by rw [hw, bZ.out]; exact HP16.1); clear HP16; replace HB := am ((by rw [hw]; exact below_set (HB.out) GB5.out : Below w0.heap.size w0 cC)); replace HK := am (Kept.of_grown (S := (fun k_ => P0_ k_)) hg (kept_later HK.out) (fun k_ e_ => (aD.out.1 k_ e_))); replace aD := am hp_; clear hg hw hp_) | ((with_reducible refine gc 42 rfl ?_); refine gc1 (some 36) Try.func42 rfl (laws_markText.calls A8.out) ?_; rintro a7 hb; replace aD := rbe aD hb; replace HK := am (Kept.below (S := (fun k_ => P0_ k_)) (kept_later HK.out) hb); replace HB := bst HB hb; clear hb; have p9 : 0 ≤ (aA : Int) := dcd; have q9 : (aA : Int) < ((aC.length : Int) : Int) := dcd; obtain ⟨ce9, hcl9, hM9, a8, a9⟩ := Kd.R_elem aD.out z49 (aA : Int) p9 q9; obtain rfl := k49_openM hM9; have dY : a7.cell? ⟨go5, (aA : Int).toNat * 5, none⟩ = some (.int .i64 ((rd_T49 aJ aA).f0)) := a8 0 _ rfl; have dZ : a7.cell? ⟨go5, (aA : Int).toNat * 5 + 1, none⟩ = some (.int .i64 ((rd_T49 aJ aA).f1)) := a8 1 _ rfl; have d3 : a7.cell? ⟨go5, (aA : Int).toNat * 5 + 2, none⟩ = some (.int .i64 ((rd_T49 aJ aA).f2)) := a8 2 _ rfl; have d4 : a7.cell? ⟨go5, (aA : Int).toNat * 5 + 3, none⟩ = some (.string ((rd_T49 aJ aA).f3)) := a8 3 _ rfl; have d5 : a7.cell? ⟨go5, (aA : Int).toNat * 5 + 4, none⟩ = some (.int .i64 ((rd_T49 aJ aA).f4)) := a8 4 _ rfl; have d6 : a7.frozen? ⟨go5, (aA : Int).toNat * 5, none⟩ = false := a9 0; have d7 : a7.frozen? ⟨go5, (aA : Int).toNat * 5 + 1, none⟩ = false := a9 1; have d8 : a7.frozen? ⟨go5, (aA : Int).toNat * 5 + 2, none⟩ = false := a9 2; have d9 : a7.frozen? ⟨go5, (aA : Int).toNat * 5 + 3, none⟩ = false := a9 3; have eA : a7.frozen? ⟨go5, (aA : Int).toNat * 5 + 4, none⟩ = false := a9 4; clear hcl9 a8 a9 hM9; replace p9 := eq_true p9; replace q9 := eq_true q9; have HX19 := am (show Kd.R k49 49 a7 w0.heap.size (fun k_ => (P0_ k_ ∨ w.heap.size ≤ k_)) (.slice (some ⟨go5, 0, none⟩) aC.length aK) aJ from (rL aD)); obtain ⟨ce19, hcl19, hM19, bD, bK⟩ := Kd.R_elem HX19.out z49 (aA : Int) (dcd) (by have h_ : (aA : Int) < ((aC.length : Int) : Int) := dcd; first | exact h_ | (have e_ := (Kd.R_reads' aD.out).1; omega) | simpa using h_); obtain rfl := k49_openM hM19; have HP19 := Kd.R_seg HX19.out (aA : Int) (dcd) (by have h_ : (aA : Int) < ((aC.length : Int) : Int) := dcd; first | exact h_ | (have e_ := (Kd.R_reads' aD.out).1; omega) | simpa using h_) (seg := [.string bF]) (j := 3) hcl19 bD (show 4 ≤ 5 from by decide) (x' := (⟨(rd_T49 aJ aA).f0, (rd_T49 aJ aA).f1, (rd_T49 aJ aA).f2, bF, (rd_T49 aJ aA).f4⟩ : S49)) (k49_mkM _ _ _ (⟨(rd_T49 aJ aA).f0, (rd_T49 aJ aA).f1, (rd_T49 aJ aA).f2, bF, (rd_T49 aJ aA).f4⟩ : S49) ) (fun _ hk => hk); have bT := bD 3 _ rfl; (try simp only [show (k49).sz = 5 from rfl, Nat.mul_one, Nat.add_zero] at bT); have bU := bK 3; (try simp only [show (k49).sz = 5 from rfl, Nat.mul_one, Nat.add_zero] at bU); clear hcl19 bD bK hM19) | ((with_reducible refine gate_store (t := 9) (p := 38) rfl ?_); refine st_ 9 38 (a7.setCell ⟨go5, (aA : Int).toNat * 5 + 3, none⟩ (.string bF)) ?_; intro aU hw; have hg : a7.grownBy aU (some go5) := (by rw [hw]; exact HP19.2); have hp_ : Kd.R k49 49 aU w0.heap.size (fun k_ => (P0_ k_ ∨ w.heap.size ≤ k_)) (.slice (some ⟨go5, 0, none⟩) aC.length aK) aG := (by rw [hw, b6.out]; exact HP19.1); clear HP19; replace HB := am ((by rw [hw]; exact below_set (HB.out) GB5.out : Below w0.heap.size w0 aU)); replace HK := am (Kept.of_grown (S := (fun k_ => P0_ k_)) hg (kept_later HK.out) (fun k_ e_ => (aD.out.1 k_ e_))); replace aD := am hp_; clear hg hw hp_; have cD : 0 ≤ (aA : Int) := dcd; have cE : (aA : Int) < ((aC.length : Int) : Int) := dcd; obtain ⟨ce10, hcl10, hM10, aM, aN⟩ := Kd.R_elem aD.out z49 (aA : Int) cD cE; obtain rfl := k49_openM hM10; have cF : aU.cell? ⟨go5, (aA : Int).toNat * 5, none⟩ = some (.int .i64 ((rd_T49 aG aA).f0)) := aM 0 _ rfl; have cG : aU.cell? ⟨go5, (aA : Int).toNat * 5 + 1, none⟩ = some (.int .i64 ((rd_T49 aG aA).f1)) := aM 1 _ rfl; have cH : aU.cell? ⟨go5, (aA : Int).toNat * 5 + 2, none⟩ = some (.int .i64 ((rd_T49 aG aA).f2)) := aM 2 _ rfl; have cI : aU.cell? ⟨go5, (aA : Int).toNat * 5 + 3, none⟩ = some (.string ((rd_T49 aG aA).f3)) := aM 3 _ rfl; have cJ : aU.cell? ⟨go5, (aA : Int).toNat * 5 + 4, none⟩ = some (.int .i64 ((rd_T49 aG aA).f4)) := aM 4 _ rfl; have cK : aU.frozen? ⟨go5, (aA : Int).toNat * 5, none⟩ = false := aN 0; have cM : aU.frozen? ⟨go5, (aA : Int).toNat * 5 + 1, none⟩ = false := aN 1; have cN : aU.frozen? ⟨go5, (aA : Int).toNat * 5 + 2, none⟩ = false := aN 2; have cO : aU.frozen? ⟨go5, (aA : Int).toNat * 5 + 3, none⟩ = false := aN 3; have cP : aU.frozen? ⟨go5, (aA : Int).toNat * 5 + 4, none⟩ = false := aN 4; clear hcl10 aM aN hM10; replace cD := eq_true cD; replace cE := eq_true cE; have HX21 := am (show Kd.R k49 49 aU w0.heap.size (fun k_ => (P0_ k_ ∨ w.heap.size ≤ k_)) (.slice (some ⟨go5, 0, none⟩) aC.length aK) aG from (rL aD)); obtain ⟨ce21, hcl21, hM21, bE, bM⟩ := Kd.R_elem HX21.out z49 (aA : Int) (dcd) (by have h_ : (aA : Int) < ((aC.length : Int) : Int) := dcd; first | exact h_ | (have e_ := (Kd.R_reads' aD.out).1; omega) | simpa using h_); obtain rfl := k49_openM hM21; have HP21 := Kd.R_seg HX21.out (aA : Int) (dcd) (by have h_ : (aA : Int) < ((aC.length : Int) : Int) := dcd; first | exact h_ | (have e_ := (Kd.R_reads' aD.out).1; omega) | simpa using h_) (seg := [.int .i64 (wrap64 ((wrap64 ((wrap64 ((wrap64 (aE + 1)) + 1)) + 1)) + 1))]) (j := 4) hcl21 bE (show 5 ≤ 5 from by decide) (x' := (⟨(rd_T49 aG aA).f0, (rd_T49 aG aA).f1, (rd_T49 aG aA).f2, (rd_T49 aG aA).f3, wrap64 ((wrap64 ((wrap64 ((wrap64 (aE + 1)) + 1)) + 1)) + 1)⟩ : S49)) (k49_mkM _ _ _ (⟨(rd_T49 aG aA).f0, (rd_T49 aG aA).f1, (rd_T49 aG aA).f2, (rd_T49 aG aA).f3, wrap64 ((wrap64 ((wrap64 ((wrap64 (aE + 1)) + 1)) + 1)) + 1)⟩ : S49) ) (fun _ hk => hk); have bV := bE 4 _ rfl; (try simp only [show (k49).sz = 5 from rfl, Nat.mul_one, Nat.add_zero] at bV); have bW := bM 4; (try simp only [show (k49).sz = 5 from rfl, Nat.mul_one, Nat.add_zero] at bW); clear hcl21 bE bM hM21) | ((with_reducible refine gate_store (t := 3) (p := 45) rfl ?_); refine st_ 3 45 (aU.setCell ⟨go5, (aA : Int).toNat * 5 + 4, none⟩ (.int .i64 (wrap64 ((wrap64 ((wrap64 ((wrap64 (aE + 1)) + 1)) + 1)) + 1)))) ?_; intro cQ hw; have hg : aU.grownBy cQ (some go5) := (by rw [hw]; exact HP21.2); have hp_ : Kd.R k49 49 cQ w0.heap.size (fun k_ => (P0_ k_ ∨ w.heap.size ≤ k_)) (.slice (some ⟨go5, 0, none⟩) aC.length aK) b7 := (by rw [hw, b8.out]; exact HP21.1); clear HP21; replace HB := am ((by rw [hw]; exact below_set (HB.out) GB5.out : Below w0.heap.size w0 cQ)); replace HK := am (Kept.of_grown (S := (fun k_ => P0_ k_)) hg (kept_later HK.out) (fun k_ e_ => (aD.out.1 k_ e_))); replace aD := am hp_; clear hg hw hp_))
 go_roundg k1
 case measure => have := cR.out; omega
 case rel => exact ⟨(b7), (wrap64 ((wrap64 ((wrap64 ((wrap64 ((wrap64 (aE + 1)) + 1)) + 1)) + 1)) + 1)), (wrap64 (aA + 1)), sr, sr, H', ⟨by have := cR.out; omega⟩, ⟨rL aD⟩, ⟨kept_later HK.out⟩, ⟨bL HB⟩⟩
end Go.Proofs.Ytjdapaocdkcgdaa.PFnExactMetaTree
