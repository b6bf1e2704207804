/- The machine's side of FnExactMetaTree: each Go function, and what its call comes to. No condition. -/
import Derived.Test.YtjdapaocdkcgdaaPFnExactMetaTreex0
namespace Go.Proofs.Ytjdapaocdkcgdaa.PFnExactMetaTree
open Go.RowKit Go.Proofs.YtjdapaocdkcgdaaW.PrintWords Go.Proofs.YtjdapaocdkcgdaaW.PrintLast Go.Proofs.YtjdapaocdkcgdaaW.PrintMore Go.Proofs.YtjdapaocdkcgdaaW.PrintMore2
attribute [local go_sem] max2_int min2_int max_two min_two max_three min_three max_four min_four
set_option linter.unusedVariables false
set_option linter.unusedSimpArgs false
set_option maxHeartbeats 8000000
set_option maxRecDepth 100000

/-! ### laws_szCol: function 45 -/
def laws_szCol.f (aA : ByteArray) (aC : Int) (aD : Int) (aE : Int) (a1 : Int) : Option (Int) := if (wrap64 (a1 - (aA.size : Int))) < 0 then (some (-1)) else (some (wrap64 (a1 - (aA.size : Int))))
theorem laws_szCol.calls {aC : ByteArray} {aD aE aG a1 r : Int} {w : World} (h : laws_szCol.f aC aD aE aG a1 = some r) :
    Calls Try.prog 45 #[.agg #[.string aC, .int .i64 aD, .int .i64 aE, .int .i64 aG], .int .i64 a1] w fun e w' => e = .returned (.int .i64 r) ∧ Below w.heap.size w w' := by
 have hu75 := Try.underlying75
 have HB := am (Below.refl w.heap.size w)
 have H := h; clear h; unfold laws_szCol.f at H
 replace H := idc H; obtain ⟨aK, H⟩ | ⟨aK, H⟩ := H
 · cases H
   go_enter Try.func45, Try.ntmps45
   go_wp2_with (first | ((with_reducible refine gd 2 rfl ?_); refine bxw 2 rfl #[.string aC, .int .i64 aD, .int .i64 aE, .int .i64 aG] 75 HB ?_; clear HB; intro aH w4 aA aI aJ HB; obtain ⟨_, _, _, _, _, _, _, _⟩ := cl4 aA))
   go_ret
   exact fin_ (bL HB)
 cases H
 go_enter Try.func45, Try.ntmps45
 go_wp2_with (first | ((with_reducible refine gd 2 rfl ?_); refine bxw 2 rfl #[.string aC, .int .i64 aD, .int .i64 aE, .int .i64 aG] 75 HB ?_; clear HB; intro aH w6 aA aI aJ HB; obtain ⟨_, _, _, _, _, _, _, _⟩ := cl4 aA))
 go_ret
 exact fin_ (bL HB)
/-! ### laws_szColS: function 19 -/
def laws_szColS.l0 : Nat → List (S75) → Int → Int → Option (Int)
  | 0, _, _, _ => none
  | k + 1, x0, x1, x5 => if x5 < (x0.length : Int) then (if 0 ≤ x5 then ((laws_szCol.f ((rd_T75 x0 x5).f0) ((rd_T75 x0 x5).f1) ((rd_T75 x0 x5).f2) ((rd_T75 x0 x5).f3) x1).bind fun aA => (if aA < 0 then (some (-1)) else (laws_szColS.l0 k x0 aA (wrap64 (x5 + 1))))) else (none)) else (some x1)
def laws_szColS.f (k : Nat) (l0 : List (S75)) (a1 : Int) : Option (Int) := if (wrap64 (a1 - (l0.length : Int))) < 0 then (some (-1)) else (laws_szColS.l0 k l0 (wrap64 (a1 - (l0.length : Int))) 0)
theorem laws_szColS.calls {k : Nat} {A0 : Option Addr} {c0 : Nat} {l0 : List (S75)} {a1 r : Int} {w : World} (hr0 : Kd.C k75 w A0 l0.length l0) (aV : l0.length ≤ c0) (h : laws_szColS.f k l0 a1 = some r) :
    Calls Try.prog 19 #[.slice A0 l0.length c0, .int .i64 a1] w fun e w' => e = .returned (.int .i64 r) ∧ Below w.heap.size w w' := by
 have hu75 := Try.underlying75
 have aW := am hr0
 have aZ := am aV
 clear hr0 aV
 have HB := am (Below.refl w.heap.size w)
 have H := h; clear h; unfold laws_szColS.f at H
 replace H := idc H; obtain ⟨aJ, H⟩ | ⟨aJ, H⟩ := H
 · cases H
   go_enter Try.func19, Try.ntmps19
   go_wp2
   go_ret
   exact fin_ (bL HB)
 have H' := am H; clear H
 go_enter Try.func19, Try.ntmps19
 go_wp2
 go_loopg [1, 5] k (fun kq v1 v5 w' => ∃ (aH : Int) (aA : Int), v1 = .int .i64 aH ∧ v5 = .int .i64 aA ∧ Aside0 (laws_szColS.l0 kq l0 aH aA = some r) ∧ Aside0 (kq ≤ k) ∧ Aside0 (Below w.heap.size w w'))
 case atStart => exact ⟨(wrap64 (a1 - (l0.length : Int))), (0), sr, sr, H', ⟨Nat.le_refl _⟩, ⟨bL HB⟩⟩
 clear H'
 try clear c3 aJ
 obtain ⟨aH, aA, rfl, rfl, HA, aX, HB⟩ := hrel
 cases gk with
 | zero => exact absurd HA.out (by simp [laws_szColS.l0])
 | succ k1 => ?_
 have H := HA.out
 clear HA
 simp only [laws_szColS.l0] at H
 replace H := idc H; obtain ⟨aM, H⟩ | ⟨aM, H⟩ := H
 rotate_left
 · cases H
   go_wp2
   go_ret
   exact fin_ (bL HB)
 replace H := ifd H; obtain ⟨aY, H⟩ := H
 replace H := bnd H; obtain ⟨aN, A6, H⟩ := H
 replace H := idc H; obtain ⟨aQ, H⟩ | ⟨aQ, H⟩ := H
 · cases H
   obtain ⟨aT, aU, aK, aI, aC, aD, aE, aG⟩ := at_T75b HB aW aA; cases aI
   go_wp2_with (first | ((with_reducible refine gc 45 rfl ?_); refine gc1 (some 23) Try.func45 rfl (laws_szCol.calls A6.out) ?_; rintro w8 hb; replace HB := bst HB hb; clear hb))
   go_ret
   exact fin_ (bL HB)
 have H' := am H; clear H
 obtain ⟨aT, aU, aK, aI, aC, aD, aE, aG⟩ := at_T75b HB aW aA; cases aI
 go_wp2_with (first | ((with_reducible refine gc 45 rfl ?_); refine gc1 (some 23) Try.func45 rfl (laws_szCol.calls A6.out) ?_; rintro w9 hb; replace HB := bst HB hb; clear hb))
 go_roundg k1
 case measure => have := aX.out; omega
 case rel => exact ⟨(aN), (wrap64 (aA + 1)), sr, sr, H', ⟨by have := aX.out; omega⟩, ⟨bL HB⟩⟩
/-! ### laws_szIntS: function 101 -/
def laws_szIntS.f (l0 : List Int) (a1 : Int) : Option (Int) := if (wrap64 (a1 - (l0.length : Int))) < 0 then (some (-1)) else (some (wrap64 (a1 - (l0.length : Int))))
theorem laws_szIntS.calls {A0 : Option Addr} {c0 : Nat} {l0 : List Int} {a1 r : Int} {w : World} (hr0 : Kd.C (Kd.int .i64) w A0 l0.length l0) (aC : l0.length ≤ c0) (h : laws_szIntS.f l0 a1 = some r) :
    Calls Try.prog 101 #[.slice A0 l0.length c0, .int .i64 a1] w fun e w' => e = .returned (.int .i64 r) ∧ Drawn0 w w' := by
 have aD := am hr0
 have aE := am aC
 clear hr0 aC
 have H := h; clear h; unfold laws_szIntS.f at H
 replace H := idc H; obtain ⟨aA, H⟩ | ⟨aA, H⟩ := H
 · cases H
   go_enter Try.func101, Try.ntmps101
   go_wp2
   go_ret
   exact ⟨sr, drl⟩
 cases H
 go_enter Try.func101, Try.ntmps101
 go_wp2
 go_ret
 exact ⟨sr, drl⟩
/-! ### laws_szChunk: function 87 -/
def laws_szChunk.f (aD : Int) (aE : Int) (aG : Int) (aH : Int) (aI : Int) (aC : List Int) (a1 : Int) : Option (Int) := (laws_szIntS.f aC a1).bind fun aA => (if aA < 0 then (some (-1)) else (some aA))
theorem laws_szChunk.calls {aG aH aI aJ aK : Int} {aC : Option Addr} {aD : Nat} {aA : List Int} {a1 r : Int} {w : World} (hr0_5 : Kd.C (Kd.int .i64) w aC aA.length aA) (aM : aA.length ≤ aD) (h : laws_szChunk.f aG aH aI aJ aK aA a1 = some r) :
    Calls Try.prog 87 #[.agg #[.int .i64 aG, .int .i64 aH, .int .i64 aI, .int .i64 aJ, .int .i64 aK, .slice aC aA.length aD], .int .i64 a1] w fun e w' => e = .returned (.int .i64 r) ∧ Below w.heap.size w w' := by
 have hu119 := Try.underlying119
 have aN := am hr0_5
 have aQ := am aM
 clear hr0_5 aM
 have HB := am (Below.refl w.heap.size w)
 have H := h; clear h; unfold laws_szChunk.f at H
 replace H := bnd H; obtain ⟨aX, A3, H⟩ := H
 replace H := idc H; obtain ⟨aW, H⟩ | ⟨aW, H⟩ := H
 · cases H
   go_enter Try.func87, Try.ntmps87
   go_wp2_with (first | ((with_reducible refine gd 2 rfl ?_); refine bxw 2 rfl #[.int .i64 aG, .int .i64 aH, .int .i64 aI, .int .i64 aJ, .int .i64 aK, .slice aC aA.length aD] 119 HB ?_; clear HB; intro aT w5 aE aU aV HB; obtain ⟨_, _, _, _, _, _, _, _, _, _, _, _⟩ := cl6 aE) | ((with_reducible refine gc 101 rfl ?_); refine gl_ (some 8) Try.func101 #[.slice aC aA.length aD, .int .i64 a1] rfl ?_; (with_reducible refine (laws_szIntS.calls ?side1 ?side2 A3.out).mono ?_); (case side1 => exact cL aN HB); (case side2 => exact aQ.out); rintro e w' ⟨rfl, ⟨nd, rfl⟩⟩; refine ⟨_, rfl, ?_⟩))
   go_ret
   exact fin_ (bL HB)
 cases H
 go_enter Try.func87, Try.ntmps87
 go_wp2_with (first | ((with_reducible refine gd 2 rfl ?_); refine bxw 2 rfl #[.int .i64 aG, .int .i64 aH, .int .i64 aI, .int .i64 aJ, .int .i64 aK, .slice aC aA.length aD] 119 HB ?_; clear HB; intro aT w7 aE aU aV HB; obtain ⟨_, _, _, _, _, _, _, _, _, _, _, _⟩ := cl6 aE) | ((with_reducible refine gc 101 rfl ?_); refine gl_ (some 8) Try.func101 #[.slice aC aA.length aD, .int .i64 a1] rfl ?_; (with_reducible refine (laws_szIntS.calls ?side1 ?side2 A3.out).mono ?_); (case side1 => exact cL aN HB); (case side2 => exact aQ.out); rintro e w' ⟨rfl, ⟨nd, rfl⟩⟩; refine ⟨_, rfl, ?_⟩))
 go_ret
 exact fin_ (bL HB)
/-! ### laws_szChunkS: function 69 -/
def laws_szChunkS.l0 : Nat → List (S119) → Int → Int → Option (Int)
  | 0, _, _, _ => none
  | k + 1, x0, x1, x5 => if x5 < (x0.length : Int) then (if 0 ≤ x5 then ((laws_szChunk.f ((rd_T119 x0 x5).f0) ((rd_T119 x0 x5).f1) ((rd_T119 x0 x5).f2) ((rd_T119 x0 x5).f3) ((rd_T119 x0 x5).f4) ((rd_T119 x0 x5).f5) x1).bind fun aA => (if aA < 0 then (some (-1)) else (laws_szChunkS.l0 k x0 aA (wrap64 (x5 + 1))))) else (none)) else (some x1)
def laws_szChunkS.f (k : Nat) (l0 : List (S119)) (a1 : Int) : Option (Int) := if (wrap64 (a1 - (l0.length : Int))) < 0 then (some (-1)) else (laws_szChunkS.l0 k l0 (wrap64 (a1 - (l0.length : Int))) 0)
theorem laws_szChunkS.calls {k : Nat} {A0 : Option Addr} {c0 : Nat} {l0 : List (S119)} {a1 r : Int} {w : World} (hr0 : Kd.C k119 w A0 l0.length l0) (a9 : l0.length ≤ c0) (h : laws_szChunkS.f k l0 a1 = some r) :
    Calls Try.prog 69 #[.slice A0 l0.length c0, .int .i64 a1] w fun e w' => e = .returned (.int .i64 r) ∧ Below w.heap.size w w' := by
 have hu119 := Try.underlying119
 have bA := am hr0
 have bD := am a9
 clear hr0 a9
 have HB := am (Below.refl w.heap.size w)
 have H := h; clear h; unfold laws_szChunkS.f at H
 replace H := idc H; obtain ⟨aY, H⟩ | ⟨aY, H⟩ := H
 · cases H
   go_enter Try.func69, Try.ntmps69
   go_wp2
   go_ret
   exact fin_ (bL HB)
 have H' := am H; clear H
 go_enter Try.func69, Try.ntmps69
 go_wp2
 go_loopg [1, 5] k (fun kq v1 v5 w' => ∃ (aW : Int) (aA : Int), v1 = .int .i64 aW ∧ v5 = .int .i64 aA ∧ Aside0 (laws_szChunkS.l0 kq l0 aW aA = some r) ∧ Aside0 (kq ≤ k) ∧ Aside0 (Below w.heap.size w w'))
 case atStart => exact ⟨(wrap64 (a1 - (l0.length : Int))), (0), sr, sr, H', ⟨Nat.le_refl _⟩, ⟨bL HB⟩⟩
 clear H'
 try clear c3 aY
 obtain ⟨aW, aA, rfl, rfl, HA, bB, HB⟩ := hrel
 cases gk with
 | zero => exact absurd HA.out (by simp [laws_szChunkS.l0])
 | succ k1 => ?_
 have H := HA.out
 clear HA
 simp only [laws_szChunkS.l0] at H
 replace H := idc H; obtain ⟨a6, H⟩ | ⟨a6, H⟩ := H
 rotate_left
 · cases H
   go_wp2
   go_ret
   exact fin_ (bL HB)
 replace H := ifd H; obtain ⟨bC, H⟩ := H
 replace H := bnd H; obtain ⟨a7, A6, H⟩ := H
 replace H := idc H; obtain ⟨a8, H⟩ | ⟨a8, H⟩ := H
 · cases H
   have aQ : 0 ≤ (aA : Int) := dcd
   have aT : aA < (l0.length : Int) := dcd
   obtain ⟨aZ, aU, aV, aX, aC, aD, aE, aG, aH, aI, aJ, aK⟩ := at_T119 bA.out aA aQ aT
   cases aX
   replace aC := crd HB aC
   replace aD := crd HB aD
   replace aE := crd HB aE
   replace aG := crd HB aG
   replace aH := crd HB aH
   replace aI := crd HB aI
   have aM := am aK
   have aN := am aJ
   clear aK aJ
   replace aQ := eq_true aQ
   replace aT := eq_true aT
   go_wp2_with (first | ((with_reducible refine gc 87 rfl ?_); refine gl_ (some 23) Try.func87 #[.agg #[.int .i64 ((rd_T119 l0 aA).f0), .int .i64 ((rd_T119 l0 aA).f1), .int .i64 ((rd_T119 l0 aA).f2), .int .i64 ((rd_T119 l0 aA).f3), .int .i64 ((rd_T119 l0 aA).f4), .slice aU ((rd_T119 l0 aA).f5).length aV], .int .i64 aW] rfl ?_; (with_reducible refine (laws_szChunk.calls ?side1 ?side2 A6.out).mono ?_); (case side1 => exact cL aM HB); (case side2 => exact aN.out); rintro e w8 ⟨rfl, hb⟩; refine ⟨_, rfl, ?_⟩; replace HB := bst HB hb; clear hb))
   go_ret
   exact fin_ (bL HB)
 have H' := am H; clear H
 have aQ : 0 ≤ (aA : Int) := dcd
 have aT : aA < (l0.length : Int) := dcd
 obtain ⟨aZ, aU, aV, aX, aC, aD, aE, aG, aH, aI, aJ, aK⟩ := at_T119 bA.out aA aQ aT
 cases aX
 replace aC := crd HB aC
 replace aD := crd HB aD
 replace aE := crd HB aE
 replace aG := crd HB aG
 replace aH := crd HB aH
 replace aI := crd HB aI
 have aM := am aK
 have aN := am aJ
 clear aK aJ
 replace aQ := eq_true aQ
 replace aT := eq_true aT
 go_wp2_with (first | ((with_reducible refine gc 87 rfl ?_); refine gl_ (some 23) Try.func87 #[.agg #[.int .i64 ((rd_T119 l0 aA).f0), .int .i64 ((rd_T119 l0 aA).f1), .int .i64 ((rd_T119 l0 aA).f2), .int .i64 ((rd_T119 l0 aA).f3), .int .i64 ((rd_T119 l0 aA).f4), .slice aU ((rd_T119 l0 aA).f5).length aV], .int .i64 aW] rfl ?_; (with_reducible refine (laws_szChunk.calls ?side1 ?side2 A6.out).mono ?_); (case side1 => exact cL aM HB); (case side2 => exact aN.out); rintro e w9 ⟨rfl, hb⟩; refine ⟨_, rfl, ?_⟩; replace HB := bst HB hb; clear hb))
 go_roundg k1
 case measure => have := bB.out; omega
 case rel => exact ⟨(a7), (wrap64 (aA + 1)), sr, sr, H', ⟨by have := bB.out; omega⟩, ⟨bL HB⟩⟩
/-! ### laws_szGroupMeta: function 46 -/
def laws_szGroupMeta.f (k : Nat) (aD : Int) (aC : List (S119)) (a1 : Int) : Option (Int) := (laws_szChunkS.f k aC a1).bind fun aA => (if aA < 0 then (some (-1)) else (some aA))
theorem laws_szGroupMeta.calls {k : Nat} {aG : Int} {aD : Option Addr} {aE : Nat} {aC : List (S119)} {a1 r : Int} {w : World} (hr0_1 : Kd.C k119 w aD aC.length aC) (aH : aC.length ≤ aE) (h : laws_szGroupMeta.f k aG aC a1 = some r) :
    Calls Try.prog 46 #[.agg #[.int .i64 aG, .slice aD aC.length aE], .int .i64 a1] w fun e w' => e = .returned (.int .i64 r) ∧ Below w.heap.size w w' := by
 have hu79 := Try.underlying79
 have aI := am hr0_1
 have aJ := am aH
 clear hr0_1 aH
 have HB := am (Below.refl w.heap.size w)
 have H := h; clear h; unfold laws_szGroupMeta.f at H
 replace H := bnd H; obtain ⟨aT, A3, H⟩ := H
 replace H := idc H; obtain ⟨aQ, H⟩ | ⟨aQ, H⟩ := H
 · cases H
   go_enter Try.func46, Try.ntmps46
   go_wp2_with (first | ((with_reducible refine gd 2 rfl ?_); refine bxw 2 rfl #[.int .i64 aG, .slice aD aC.length aE] 79 HB ?_; clear HB; intro aK w5 aA aM aN HB; obtain ⟨_, _, _, _⟩ := cl2 aA) | ((with_reducible refine gc 69 rfl ?_); refine gl_ (some 8) Try.func69 #[.slice aD aC.length aE, .int .i64 a1] rfl ?_; (with_reducible refine (laws_szChunkS.calls ?side1 ?side2 A3.out).mono ?_); (case side1 => exact cL aI HB); (case side2 => exact aJ.out); rintro e w7 ⟨rfl, hb⟩; refine ⟨_, rfl, ?_⟩; replace aA := bkb aA hb; replace HB := bst HB hb; clear hb))
   go_ret
   exact fin_ (bL HB)
 cases H
 go_enter Try.func46, Try.ntmps46
 go_wp2_with (first | ((with_reducible refine gd 2 rfl ?_); refine bxw 2 rfl #[.int .i64 aG, .slice aD aC.length aE] 79 HB ?_; clear HB; intro aK w8 aA aM aN HB; obtain ⟨_, _, _, _⟩ := cl2 aA) | ((with_reducible refine gc 69 rfl ?_); refine gl_ (some 8) Try.func69 #[.slice aD aC.length aE, .int .i64 a1] rfl ?_; (with_reducible refine (laws_szChunkS.calls ?side1 ?side2 A3.out).mono ?_); (case side1 => exact cL aI HB); (case side2 => exact aJ.out); rintro e aU ⟨rfl, hb⟩; refine ⟨_, rfl, ?_⟩; replace aA := bkb aA hb; replace HB := bst HB hb; clear hb))
 go_ret
 exact fin_ (bL HB)
/-! ### laws_szGroupMetaS: function 20 -/
def laws_szGroupMetaS.l0 : Nat → List (S79) → Int → Int → Option (Int)
  | 0, _, _, _ => none
  | k + 1, x0, x1, x5 => if x5 < (x0.length : Int) then (if 0 ≤ x5 then ((laws_szGroupMeta.f k ((rd_T79 x0 x5).f0) ((rd_T79 x0 x5).f1) x1).bind fun aA => (if aA < 0 then (some (-1)) else (laws_szGroupMetaS.l0 k x0 aA (wrap64 (x5 + 1))))) else (none)) else (some x1)
def laws_szGroupMetaS.f (k : Nat) (l0 : List (S79)) (a1 : Int) : Option (Int) := if (wrap64 (a1 - (l0.length : Int))) < 0 then (some (-1)) else (laws_szGroupMetaS.l0 k l0 (wrap64 (a1 - (l0.length : Int))) 0)
theorem laws_szGroupMetaS.calls {k : Nat} {A0 : Option Addr} {c0 : Nat} {l0 : List (S79)} {a1 r : Int} {w : World} (hr0 : Kd.C k79 w A0 l0.length l0) (aZ : l0.length ≤ c0) (h : laws_szGroupMetaS.f k l0 a1 = some r) :
    Calls Try.prog 20 #[.slice A0 l0.length c0, .int .i64 a1] w fun e w' => e = .returned (.int .i64 r) ∧ Below w.heap.size w w' := by
 have hu79 := Try.underlying79
 have a6 := am hr0
 have a9 := am aZ
 clear hr0 aZ
 have HB := am (Below.refl w.heap.size w)
 have H := h; clear h; unfold laws_szGroupMetaS.f at H
 replace H := idc H; obtain ⟨aU, H⟩ | ⟨aU, H⟩ := H
 · cases H
   go_enter Try.func20, Try.ntmps20
   go_wp2
   go_ret
   exact fin_ (bL HB)
 have H' := am H; clear H
 go_enter Try.func20, Try.ntmps20
 go_wp2
 go_loopg [1, 5] k (fun kq v1 v5 w' => ∃ (aQ : Int) (aA : Int), v1 = .int .i64 aQ ∧ v5 = .int .i64 aA ∧ Aside0 (laws_szGroupMetaS.l0 kq l0 aQ aA = some r) ∧ Aside0 (kq ≤ k) ∧ Aside0 (Below w.heap.size w w'))
 case atStart => exact ⟨(wrap64 (a1 - (l0.length : Int))), (0), sr, sr, H', ⟨Nat.le_refl _⟩, ⟨bL HB⟩⟩
 clear H'
 try clear c3 aU
 obtain ⟨aQ, aA, rfl, rfl, HA, a7, HB⟩ := hrel
 cases gk with
 | zero => exact absurd HA.out (by simp [laws_szGroupMetaS.l0])
 | succ k1 => ?_
 have H := HA.out
 clear HA
 simp only [laws_szGroupMetaS.l0] at H
 replace H := idc H; obtain ⟨aW, H⟩ | ⟨aW, H⟩ := H
 rotate_left
 · cases H
   go_wp2
   go_ret
   exact fin_ (bL HB)
 replace H := ifd H; obtain ⟨a8, H⟩ := H
 replace H := bnd H; obtain ⟨aX, A6, H⟩ := H
 replace H := idc H; obtain ⟨aY, H⟩ | ⟨aY, H⟩ := H
 · cases H
   have aJ : 0 ≤ (aA : Int) := dcd
   have aK : aA < (l0.length : Int) := dcd
   obtain ⟨aV, aM, aN, aT, aC, aD, aE, aG⟩ := at_T79 a6.out aA aJ aK
   cases aT
   replace aC := crd HB aC
   replace aD := crd HB aD
   have aH := am aG
   have aI := am aE
   clear aG aE
   replace aJ := eq_true aJ
   replace aK := eq_true aK
   go_wp2_with (first | ((with_reducible refine gc 46 rfl ?_); refine gl_ (some 23) Try.func46 #[.agg #[.int .i64 ((rd_T79 l0 aA).f0), .slice aM ((rd_T79 l0 aA).f1).length aN], .int .i64 aQ] rfl ?_; (with_reducible refine (laws_szGroupMeta.calls ?side1 ?side2 A6.out).mono ?_); (case side1 => exact cL aH HB); (case side2 => exact aI.out); rintro e w8 ⟨rfl, hb⟩; refine ⟨_, rfl, ?_⟩; replace HB := bst HB hb; clear hb))
   go_ret
   exact fin_ (bL HB)
 have H' := am H; clear H
 have aJ : 0 ≤ (aA : Int) := dcd
 have aK : aA < (l0.length : Int) := dcd
 obtain ⟨aV, aM, aN, aT, aC, aD, aE, aG⟩ := at_T79 a6.out aA aJ aK
 cases aT
 replace aC := crd HB aC
 replace aD := crd HB aD
 have aH := am aG
 have aI := am aE
 clear aG aE
 replace aJ := eq_true aJ
 replace aK := eq_true aK
 go_wp2_with (first | ((with_reducible refine gc 46 rfl ?_); refine gl_ (some 23) Try.func46 #[.agg #[.int .i64 ((rd_T79 l0 aA).f0), .slice aM ((rd_T79 l0 aA).f1).length aN], .int .i64 aQ] rfl ?_; (with_reducible refine (laws_szGroupMeta.calls ?side1 ?side2 A6.out).mono ?_); (case side1 => exact cL aH HB); (case side2 => exact aI.out); rintro e w9 ⟨rfl, hb⟩; refine ⟨_, rfl, ?_⟩; replace HB := bst HB hb; clear hb))
 go_roundg k1
 case measure => have := a7.out; omega
 case rel => exact ⟨(aX), (wrap64 (aA + 1)), sr, sr, H', ⟨by have := a7.out; omega⟩, ⟨bL HB⟩⟩
/-! ### laws_szMeta: function 5 -/
def laws_szMeta.f (k : Nat) (aD : List (S75)) (aG : Int) (aE : List (S79)) (a1 : Int) : Option (Int) := (laws_szColS.f k aD a1).bind fun aA => (if aA < 0 then (some (-1)) else ((laws_szGroupMetaS.f k aE aA).bind fun aC => (if aC < 0 then (some (-1)) else (some aC))))
theorem laws_szMeta.calls {k : Nat} {aE : Option Addr} {aG : Nat} {aC : List (S75)} {aJ : Int} {aH : Option Addr} {aI : Nat} {aD : List (S79)} {a1 r : Int} {w : World} (hr0_0 : Kd.C k75 w aE aC.length aC) (aN : aC.length ≤ aG) (hr0_2 : Kd.C k79 w aH aD.length aD) (aQ : aD.length ≤ aI) (h : laws_szMeta.f k aC aJ aD a1 = some r) :
    Calls Try.prog 5 #[.agg #[.slice aE aC.length aG, .int .i64 aJ, .slice aH aD.length aI], .int .i64 a1] w fun e w' => e = .returned (.int .i64 r) ∧ Below w.heap.size w w' := by
 have hu25 := Try.underlying25
 have aK := am hr0_0
 have aM := am aN
 clear hr0_0 aN
 have aT := am hr0_2
 have aU := am aQ
 clear hr0_2 aQ
 have HB := am (Below.refl w.heap.size w)
 have H := h; clear h; unfold laws_szMeta.f at H
 replace H := bnd H; obtain ⟨aY, A3, H⟩ := H
 replace H := idc H; obtain ⟨aZ, H⟩ | ⟨aZ, H⟩ := H
 · cases H
   go_enter Try.func5, Try.ntmps5
   go_wp2_with (first | ((with_reducible refine gd 2 rfl ?_); refine bxw 2 rfl #[.slice aE aC.length aG, .int .i64 aJ, .slice aH aD.length aI] 25 HB ?_; clear HB; intro aV w5 aA aW aX HB; obtain ⟨_, _, _, _, _, _⟩ := cl3 aA) | ((with_reducible refine gc 19 rfl ?_); refine gl_ (some 8) Try.func19 #[.slice aE aC.length aG, .int .i64 a1] rfl ?_; (with_reducible refine (laws_szColS.calls ?side1 ?side2 A3.out).mono ?_); (case side1 => exact cL aK HB); (case side2 => exact aM.out); rintro e w7 ⟨rfl, hb⟩; refine ⟨_, rfl, ?_⟩; replace aA := bkb aA hb; replace HB := bst HB hb; clear hb))
   go_ret
   exact fin_ (bL HB)
 replace H := bnd H; obtain ⟨a7, A8, H⟩ := H
 replace H := idc H; obtain ⟨a6, H⟩ | ⟨a6, H⟩ := H
 · cases H
   go_enter Try.func5, Try.ntmps5
   go_wp2_with (first | ((with_reducible refine gd 2 rfl ?_); refine bxw 2 rfl #[.slice aE aC.length aG, .int .i64 aJ, .slice aH aD.length aI] 25 HB ?_; clear HB; intro aV a8 aA aW aX HB; obtain ⟨_, _, _, _, _, _⟩ := cl3 aA) | ((with_reducible refine gc 19 rfl ?_); refine gl_ (some 8) Try.func19 #[.slice aE aC.length aG, .int .i64 a1] rfl ?_; (with_reducible refine (laws_szColS.calls ?side1 ?side2 A3.out).mono ?_); (case side1 => exact cL aK HB); (case side2 => exact aM.out); rintro e a9 ⟨rfl, hb⟩; refine ⟨_, rfl, ?_⟩; replace aA := bkb aA hb; replace HB := bst HB hb; clear hb; obtain ⟨_, _, _, _, _, _⟩ := cl3 aA) | ((with_reducible refine gc 20 rfl ?_); refine gl_ (some 14) Try.func20 #[.slice aH aD.length aI, .int .i64 aY] rfl ?_; (with_reducible refine (laws_szGroupMetaS.calls ?side1 ?side2 A8.out).mono ?_); (case side1 => exact cL aT HB); (case side2 => exact aU.out); rintro e bA ⟨rfl, hb⟩; refine ⟨_, rfl, ?_⟩; replace aA := bkb aA hb; replace HB := bst HB hb; clear hb))
   go_ret
   exact fin_ (bL HB)
 cases H
 go_enter Try.func5, Try.ntmps5
 go_wp2_with (first | ((with_reducible refine gd 2 rfl ?_); refine bxw 2 rfl #[.slice aE aC.length aG, .int .i64 aJ, .slice aH aD.length aI] 25 HB ?_; clear HB; intro aV bB aA aW aX HB; obtain ⟨_, _, _, _, _, _⟩ := cl3 aA) | ((with_reducible refine gc 19 rfl ?_); refine gl_ (some 8) Try.func19 #[.slice aE aC.length aG, .int .i64 a1] rfl ?_; (with_reducible refine (laws_szColS.calls ?side1 ?side2 A3.out).mono ?_); (case side1 => exact cL aK HB); (case side2 => exact aM.out); rintro e bC ⟨rfl, hb⟩; refine ⟨_, rfl, ?_⟩; replace aA := bkb aA hb; replace HB := bst HB hb; clear hb; obtain ⟨_, _, _, _, _, _⟩ := cl3 aA) | ((with_reducible refine gc 20 rfl ?_); refine gl_ (some 14) Try.func20 #[.slice aH aD.length aI, .int .i64 aY] rfl ?_; (with_reducible refine (laws_szGroupMetaS.calls ?side1 ?side2 A8.out).mono ?_); (case side1 => exact cL aT HB); (case side2 => exact aU.out); rintro e bD ⟨rfl, hb⟩; refine ⟨_, rfl, ?_⟩; replace aA := bkb aA hb; replace HB := bst HB hb; clear hb))
 go_ret
 exact fin_ (bL HB)
/-! ### spec_l1In: function 49 -/
def spec_l1In.f (a0 : Int) (a1 : Int) (a2 : Int) : Option (Bool) := if a0 ≥ a1 then (some (decide (a0 ≤ a2))) else (some false)
theorem spec_l1In.calls {a0 a1 a2 : Int} {r : Bool} {w : World} (h : spec_l1In.f a0 a1 a2 = some r) :
    Calls Try.prog 49 #[.int .i64 a0, .int .i64 a1, .int .i64 a2] w fun e w' => e = .returned (.bool r) ∧ Drawn0 w w' := by
 have H := h; clear h; unfold spec_l1In.f at H
 replace H := ige H; obtain ⟨aA, H⟩ | ⟨aA, H⟩ := H
 · cases H
   go_enter Try.func49, Try.ntmps49
   go_wp2
   go_ret
   exact ⟨sr, drl⟩
 cases H
 go_enter Try.func49, Try.ntmps49
 go_wp2
 go_ret
 exact ⟨sr, drl⟩
/-! ### spec_l5Name: function 88 -/
def spec_l5Name.l0 : Nat → ByteArray → Int → Option (Bool)
  | 0, _, _ => none
  | k + 1, x0, x3 => if x3 < (x0.size : Int) then (if 0 ≤ x3 then (if (bt x0 x3) < 97 then (some false) else (if (bt x0 x3) > 122 then (some false) else (spec_l5Name.l0 k x0 (wrap64 (x3 + 1))))) else (none)) else (some true)
def spec_l5Name.f (k : Nat) (a0 : ByteArray) : Option (Bool) := (spec_l1In.f (a0.size : Int) 1 20).bind fun aA => (if aA = true then (spec_l5Name.l0 k a0 0) else (some false))
theorem spec_l5Name.calls {k : Nat} {a0 : ByteArray} {r : Bool} {w : World} (h : spec_l5Name.f k a0 = some r) :
    Calls Try.prog 88 #[.string a0] w fun e w' => e = .returned (.bool r) ∧ Drawn0 w w' := by
 have H := h; clear h; unfold spec_l5Name.f at H
 replace H := bnd H; obtain ⟨aI, A2, H⟩ := H
 replace H := ibt H; obtain ⟨rfl, H⟩ | ⟨rfl, H⟩ := H
 rotate_left
 · cases H
   go_enter Try.func88, Try.ntmps88
   go_wp2_with (first | ((with_reducible refine gc 49 rfl ?_); refine gc1 (some 6) Try.func49 rfl (spec_l1In.calls A2.out) ?_; rintro w' ⟨nd, rfl⟩))
   go_ret
   exact ⟨sr, drl⟩
 have H' := am H; clear H
 go_enter Try.func88, Try.ntmps88
 go_wp2_with (first | ((with_reducible refine gc 49 rfl ?_); refine gc1 (some 6) Try.func49 rfl (spec_l1In.calls A2.out) ?_; rintro w' ⟨nd, rfl⟩))
 go_loopg [3] k (fun kq v3 w' => ∃ (aA : Int), v3 = .int .i64 aA ∧ Aside0 (spec_l5Name.l0 kq a0 aA = some r) ∧ Aside0 (kq ≤ k) ∧ Drawn0 w w')
 case atStart => exact ⟨(0), sr, H', ⟨Nat.le_refl _⟩, by repeat (first | exact Drawn0.refl _ | apply Drawn0.step)⟩
 clear H'
 try clear c3
 obtain ⟨aA, rfl, HA, aG, ⟨m1, rfl⟩⟩ := hrel
 cases gk with
 | zero => exact absurd HA.out (by simp [spec_l5Name.l0])
 | succ k1 => ?_
 have H := HA.out
 clear HA
 simp only [spec_l5Name.l0] at H
 replace H := idc H; obtain ⟨aC, H⟩ | ⟨aC, H⟩ := H
 rotate_left
 · cases H
   go_wp2
   go_ret
   exact ⟨sr, drl⟩
 replace H := ifd H; obtain ⟨aJ, H⟩ := H
 replace H := idc H; obtain ⟨aD, H⟩ | ⟨aD, H⟩ := H
 · cases H
   have p6 : 0 ≤ (aA : Int) := dcd
   have q6 : aA < (a0.size : Int) := dcd
   have aH := bt_at a0 aA
   replace p6 := eq_true p6
   replace q6 := eq_true q6
   go_wp2
   go_ret
   exact ⟨sr, drl⟩
 replace H := igt H; obtain ⟨aE, H⟩ | ⟨aE, H⟩ := H
 · cases H
   have p6 : 0 ≤ (aA : Int) := dcd
   have q6 : aA < (a0.size : Int) := dcd
   have aH := bt_at a0 aA
   replace p6 := eq_true p6
   replace q6 := eq_true q6
   have p8 : 0 ≤ (aA : Int) := dcd
   have q8 : aA < (a0.size : Int) := dcd
   have aK := bt_at a0 aA
   replace p8 := eq_true p8
   replace q8 := eq_true q8
   go_wp2
   go_ret
   exact ⟨sr, drl⟩
 have H' := am H; clear H
 have p6 : 0 ≤ (aA : Int) := dcd
 have q6 : aA < (a0.size : Int) := dcd
 have aH := bt_at a0 aA
 replace p6 := eq_true p6
 replace q6 := eq_true q6
 have p8 : 0 ≤ (aA : Int) := dcd
 have q8 : aA < (a0.size : Int) := dcd
 have aK := bt_at a0 aA
 replace p8 := eq_true p8
 replace q8 := eq_true q8
 go_wp2
 go_roundg k1
 case measure => have := aG.out; omega
 case rel => exact ⟨(wrap64 (aA + 1)), sr, H', ⟨by have := aG.out; omega⟩, by repeat (first | exact Drawn0.refl _ | apply Drawn0.step)⟩
/-! ### spec_l5Type: function 89 -/
def spec_l5Type.f (a0 : Int) : Option (Bool) := if a0 = 0 then (some true) else (if a0 = 1 then (some true) else (if a0 = 2 then (some true) else (if a0 = 5 then (some true) else (if a0 = 6 then (some true) else (some false)))))
theorem spec_l5Type.calls {a0 : Int} {r : Bool} {w : World} (h : spec_l5Type.f a0 = some r) :
    Calls Try.prog 89 #[.int .i64 a0] w fun e w' => e = .returned (.bool r) ∧ Drawn0 w w' := by
 have H := h; clear h; unfold spec_l5Type.f at H
 replace H := ieq H; obtain ⟨aA, aC, H⟩ | ⟨c2, aA, aC, H⟩ := H
 · cases H
   go_enter Try.func89, Try.ntmps89
   go_wp2
   go_ret
   exact ⟨sr, drl⟩
 replace H := ieq H; obtain ⟨aD, aE, H⟩ | ⟨c3, aD, aE, H⟩ := H
 · cases H
   go_enter Try.func89, Try.ntmps89
   go_wp2
   go_ret
   exact ⟨sr, drl⟩
 replace H := ieq H; obtain ⟨aG, aH, H⟩ | ⟨c4, aG, aH, H⟩ := H
 · cases H
   go_enter Try.func89, Try.ntmps89
   go_wp2
   go_ret
   exact ⟨sr, drl⟩
 replace H := ieq H; obtain ⟨aI, aJ, H⟩ | ⟨c5, aI, aJ, H⟩ := H
 · cases H
   go_enter Try.func89, Try.ntmps89
   go_wp2
   go_ret
   exact ⟨sr, drl⟩
 replace H := ieq H; obtain ⟨aK, aM, H⟩ | ⟨c6, aK, aM, H⟩ := H
 · cases H
   go_enter Try.func89, Try.ntmps89
   go_wp2
   go_ret
   exact ⟨sr, drl⟩
 cases H
 go_enter Try.func89, Try.ntmps89
 go_wp2
 go_ret
 exact ⟨sr, drl⟩
end Go.Proofs.Ytjdapaocdkcgdaa.PFnExactMetaTree
