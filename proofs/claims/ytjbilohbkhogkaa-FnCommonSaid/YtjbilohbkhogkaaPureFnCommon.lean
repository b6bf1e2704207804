/- The pure statement of FnCommon: the printed functions answer as the law says, for all arguments. No condition. -/
import Derived.Test.YtjbilohbkhogkaaCore
import Derived.Test.YtjbilohbkhogkaaPFnCommonx
import Derived.Test.YtjbilohbkhogkaaArgFnCommon
namespace Go.Proofs.Ytjbilohbkhogkaa.Pure
open Go.RowKit Go.Proofs.Ytjbilohbkhogkaa.PFnCommon Go.Proofs.Ytjbilohbkhogkaa.Core Go.Proofs.YtjbilohbkhogkaaW.PrintWords Go.Proofs.YtjbilohbkhogkaaW.PrintLast Go.Proofs.YtjbilohbkhogkaaW.PrintMore Go.Proofs.Ytjbilohbkhogkaa.AFnCommon
set_option linter.unusedVariables false
set_option linter.unusedSimpArgs false
/-- A reader of draws that is within its bytes. -/
def Cur (s : List Int) (i : Int) : Prop := 0 ≤ i ∧ i ≤ s.length ∧ s.length ≤ 1048576
theorem l1New_ev (l : List Int) (hl : l.length ≤ 1048576) : ∃ h, Ev (fun k => spec_l1New.f k l) (l, 0, h) := by
  unfold spec_l1New.f
  have key : ∀ (d : Nat) (i h : Int), 0 ≤ i → i + d = l.length → ∃ h', Ev (fun k => spec_l1New.l0 k l h i) (l, 0, h') := by
    intro d
    induction d with
    | zero =>
      intro i h h0 hi
      exact ⟨_, Ev.step (fun k => by rw [spec_l1New.l0]) (by exact Ev.neg (by omega) (Ev.now _))⟩
    | succ d ih =>
      intro i h h0 hi
      by_cases h4 : i < 4000
      · obtain ⟨h', hr⟩ := ih (i + 1) (Go.bits .and .i64 (wrap64 ((wrap64 ((wrap64 (h * 131)) + (wrap64 (rd l i)))) + 7)) 1073741823) (by omega) (by omega)
        refine ⟨h', Ev.step (fun k => by rw [spec_l1New.l0]) (Ev.pos (by omega) (Ev.pos h4 (Ev.pos h0 ?_)))⟩
        rw [wrap64_id (x := i + 1) (by omega) (by omega)]
        exact hr
      · exact ⟨_, Ev.step (fun k => by rw [spec_l1New.l0]) (by exact Ev.pos (by omega) (Ev.neg h4 (Ev.now _)))⟩
  exact key l.length 0 _ (by omega) (by omega)
theorem l1Byte_some (s : List Int) (i h : Int) (hc : Cur s i) : ∃ v i' h', spec_l1Byte.f s i h = some (v, i', h') ∧ 0 ≤ v ∧ v ≤ 255 ∧ Cur s i' := by
  obtain ⟨h0, h1, h2⟩ := hc
  unfold spec_l1Byte.f
  by_cases hlt : i < (s.length : Int)
  · rw [if_pos hlt, if_pos h0]
    refine ⟨_, _, _, rfl, (and_255 _).1, (and_255 _).2, ?_⟩
    rw [wrap64_id (by omega) (by omega)]
    exact ⟨by omega, by omega, h2⟩
  · rw [if_neg hlt]
    exact ⟨_, _, _, rfl, (and_255 _).1, (and_255 _).2, h0, h1, h2⟩
theorem l1Below_some (s : List Int) (i h n : Int) (hc : Cur s i) : ∃ v i' h', spec_l1Below.f s i h n = some (v, i', h') ∧ 0 ≤ v ∧ (0 < n → v < n) ∧ (n ≤ 0 → v = 0) ∧ Cur s i' := by
  unfold spec_l1Below.f
  by_cases hn : n ≤ 0
  · rw [if_pos hn]
    exact ⟨0, i, h, rfl, by omega, by omega, fun _ => rfl, hc⟩
  rw [if_neg hn]
  have hm : ∀ x : Int, 0 ≤ x → 0 ≤ Int.tmod x n ∧ Int.tmod x n < n := fun x hx => by
    rw [Int.tmod_eq_emod_of_nonneg hx]
    exact ⟨Int.emod_nonneg _ (by omega), Int.emod_lt_of_pos _ (by omega)⟩
  by_cases h256 : n ≤ 256
  · rw [if_pos h256]
    obtain ⟨v, i', h', e, v0, v1, hc'⟩ := l1Byte_some s i h hc
    rw [e]
    simp only [Option.bind_some]
    rw [if_neg (by omega)]
    exact ⟨_, _, _, rfl, (hm v v0).1, fun _ => (hm v v0).2, by omega, hc'⟩
  · rw [if_neg h256]
    obtain ⟨a, i1, h1, e1, a0, a1, c1⟩ := l1Byte_some s i h hc
    obtain ⟨b, i2, h2, e2, b0, b1, c2⟩ := l1Byte_some s i1 h1 c1
    obtain ⟨c, i3, h3, e3, c0, c1', c3⟩ := l1Byte_some s i2 h2 c2
    obtain ⟨d, i4, h4, e4, d0, d1, c4⟩ := l1Byte_some s i3 h3 c3
    rw [e1]; simp only [Option.bind_some]; rw [e2]; simp only [Option.bind_some]; rw [e3]; simp only [Option.bind_some]; rw [e4]; simp only [Option.bind_some]
    rw [if_neg (by omega)]
    have hx : 0 ≤ wrap64 ((wrap64 ((wrap64 ((wrap64 (a * 16777216)) + (wrap64 (b * 65536)))) + (wrap64 (c * 256)))) + d) := by
      rw [wrap64_id (x := a * 16777216) (by omega) (by omega), wrap64_id (x := b * 65536) (by omega) (by omega), wrap64_id (x := c * 256) (by omega) (by omega)]
      rw [wrap64_id (x := a * 16777216 + b * 65536) (by omega) (by omega), wrap64_id (x := a * 16777216 + b * 65536 + c * 256) (by omega) (by omega), wrap64_id (by omega) (by omega)]
      omega
    exact ⟨_, _, _, rfl, (hm _ hx).1, fun _ => (hm _ hx).2, by omega, c4⟩
theorem l1Once_some (s : List Int) (i h n : Int) (hc : Cur s i) : ∃ v i' h', spec_l1Once.f s i h n = some (v, i', h') ∧ Cur s i' := by
  unfold spec_l1Once.f
  obtain ⟨v, i', h', e, _, _, _, c⟩ := l1Below_some s i h n hc
  rw [e]
  exact ⟨_, _, _, rfl, c⟩
theorem l1DrawBytes_ev (s : List Int) (i h most : Int) (hc : Cur s i) (hm0 : 0 ≤ most) (hm : most ≤ 1000000) : ∃ (l : List Int) (i' h' : Int), Ev (fun k => spec_l1DrawBytes.f k s i h most) (l, i', h') ∧ (l.length : Int) ≤ most ∧ (∀ x ∈ l, 0 ≤ x ∧ x ≤ 255) ∧ Cur s i' := by
  unfold spec_l1DrawBytes.f
  rw [wrap64_id (by omega) (by omega)]
  obtain ⟨n, i1, h1, e1, n0, n1, _, c1⟩ := l1Below_some s i h (most + 1) hc
  have key : ∀ (d : Nat) (out : List Int) (j i h : Int), 0 ≤ j → j + d = n → out.length = j → (∀ x ∈ out, 0 ≤ x ∧ x ≤ 255) → Cur s i →
      ∃ (l : List Int) (i' h' : Int), Ev (fun k => spec_l1DrawBytes.l0 k out n j s i h) (l, i', h') ∧ (l.length : Int) = n ∧ (∀ x ∈ l, 0 ≤ x ∧ x ≤ 255) ∧ Cur s i' := by
    intro d
    induction d with
    | zero =>
      intro out j i h j0 hj ho hx hc
      exact ⟨out, i, h, Ev.step (fun k => by rw [spec_l1DrawBytes.l0]) (by exact Ev.neg (by omega) (Ev.now _)), by omega, hx, hc⟩
    | succ d ih =>
      intro out j i h j0 hj ho hx hc
      obtain ⟨v, i2, h2, e2, v0, v1, c2⟩ := l1Byte_some s i h hc
      obtain ⟨l, i3, h3, hr, hl, hx3, c3⟩ := ih (out ++ [v % 256]) (j + 1) i2 h2 (by omega) (by omega) (by simp; omega) (by
        intro x hx'
        rcases List.mem_append.1 hx' with h | h
        · exact hx x h
        · obtain rfl := List.mem_singleton.1 h
          omega) c2
      refine ⟨l, i3, h3, ?_, hl, hx3, c3⟩
      refine Ev.step (fun k => by rw [spec_l1DrawBytes.l0]) ?_
      refine Ev.pos (by omega) (Ev.here e2 (Ev.pos (by omega) ?_))
      rw [wrap64_id (x := j + 1) (by omega) (by omega)]
      exact hr
  obtain ⟨l, i', h', hr, hl, hx, c⟩ := key n.toNat [] 0 i1 h1 (by omega) (by omega) (by simp) (by simp) c1
  exact ⟨l, i', h', Ev.here e1 hr, by omega, hx, c⟩
theorem l4DrawText_ev (s : List Int) (i h most : Int) (hc : Cur s i) (hm0 : 0 ≤ most) (hm : most ≤ 1000000) : ∃ (t : ByteArray) (i' h' : Int), Ev (fun k => spec_l4DrawText.f k s i h most) (t, i', h') ∧ (t.size : Int) ≤ most ∧ Cur s i' := by
  unfold spec_l4DrawText.f
  obtain ⟨l, i', h', hr, hl, _, c⟩ := l1DrawBytes_ev s i h most hc hm0 hm
  exact ⟨_, _, _, Ev.bind hr (Ev.now _), by rw [strOfNums_size]; exact hl, c⟩
theorem drawCommon_ev (l : List Int) (hl : l.length ≤ 1048576) : ∃ a b : ByteArray, Ev (fun k => spec_DrawCommon.f k l) (a, b) ∧ a.size ≤ 100 ∧ b.size ≤ 100 := by
  unfold spec_DrawCommon.f
  obtain ⟨h0, e0⟩ := l1New_ev l hl
  have c0 : Cur l 0 := ⟨by omega, by omega, hl⟩
  obtain ⟨a, i1, h1, e1, s1, c1⟩ := l4DrawText_ev l 0 h0 6 c0 (by omega) (by omega)
  obtain ⟨b, i2, h2, e2, s2, c2⟩ := l4DrawText_ev l i1 h1 6 c1 (by omega) (by omega)
  obtain ⟨o, i3, h3, e3, c3⟩ := l1Once_some l i2 h2 2 c2
  by_cases ho : o = true
  · obtain ⟨c, i4, h4, e4, s4, c4⟩ := l4DrawText_ev l i3 h3 3 c3 (by omega) (by omega)
    refine ⟨a ++ b, a ++ c, Ev.bind e0 (Ev.bind e1 (Ev.bind e2 (Ev.here e3 (Ev.pos ho (Ev.pos (by dsimp only; omega) (Ev.bind e4 (Ev.pos (by dsimp only; omega) (Ev.now _)))))))), ?_, ?_⟩ <;> rw [ByteArray.size_append] <;> omega
  · exact ⟨a, b, Ev.bind e0 (Ev.bind e1 (Ev.bind e2 (Ev.here e3 (Ev.neg ho (Ev.now _))))), by omega, by omega⟩
/-- How far two texts go alike from i on. -/
theorem common_tells (a b : ByteArray) (ha : a.size ≤ 100) : ∀ (d : Nat) (i : Int), 0 ≤ i → i ≤ a.size → i ≤ b.size → i + d = a.size →
    ∃ r, Ev (fun k => impl_Common.l0 k a b i) r ∧ Ev (fun k => impl_Common.l0 k b a i) r ∧ i ≤ r ∧ r ≤ a.size ∧ r ≤ b.size ∧ (∀ j, i ≤ j → j < r → bt a j = bt b j) ∧ (r < a.size → r < b.size → bt a r ≠ bt b r) := by
  intro d
  induction d with
  | zero =>
    intro i h0 h1 h2 hi
    refine ⟨i, Ev.step (fun k => by rw [impl_Common.l0]) (by exact Ev.neg (by omega) (Ev.now _)), ?_, by omega, h1, h2, by intros; omega, by intros; omega⟩
    refine Ev.step (fun k => by rw [impl_Common.l0]) ?_
    by_cases hb : i < (b.size : Int)
    · exact Ev.pos hb (Ev.neg (by omega) (Ev.now _))
    · exact Ev.neg hb (Ev.now _)
  | succ d ih =>
    intro i h0 h1 h2 hi
    by_cases hb : i < (b.size : Int)
    · by_cases he : bt a i = bt b i
      · obtain ⟨r, e1, e2, p1, p2, p3, p4, p5⟩ := ih (i + 1) (by omega) (by omega) (by omega) (by omega)
        refine ⟨r, Ev.step (fun k => by rw [impl_Common.l0]) (Ev.pos (by omega) (Ev.pos hb (Ev.pos h0 (Ev.pos he ?_)))), Ev.step (fun k => by rw [impl_Common.l0]) (Ev.pos hb (Ev.pos (by omega) (Ev.pos h0 (Ev.pos he.symm ?_)))), by omega, p2, p3, ?_, p5⟩
        · rw [wrap64_id (by omega) (by omega)]; exact e1
        · rw [wrap64_id (by omega) (by omega)]; exact e2
        · intro j hj hr
          by_cases e : j = i
          · rw [e]; exact he
          · exact p4 j (by omega) hr
      · exact ⟨i, Ev.step (fun k => by rw [impl_Common.l0]) (by exact Ev.pos (by omega) (Ev.pos hb (Ev.pos h0 (Ev.neg he (Ev.now _))))), Ev.step (fun k => by rw [impl_Common.l0]) (by exact Ev.pos hb (Ev.pos (by omega) (Ev.pos h0 (Ev.neg (fun h => he h.symm) (Ev.now _))))), by omega, h1, h2, by intros; omega, fun _ _ => he⟩
    · refine ⟨i, Ev.step (fun k => by rw [impl_Common.l0]) (by exact Ev.pos (by omega) (Ev.neg hb (Ev.now _))), Ev.step (fun k => by rw [impl_Common.l0]) (by exact Ev.neg hb (Ev.now _)), by omega, h1, h2, by intros; omega, by intros; omega⟩
theorem front_alike (a b : ByteArray) (r : Nat) (ha : r ≤ a.size) (hb : r ≤ b.size) (h : ∀ j : Int, 0 ≤ j → j < r → bt a j = bt b j) : (a.extract 0 r).toList = (b.extract 0 r).toList := by
  have e : a.extract 0 r = b.extract 0 r := by
    apply ByteArray.ext
    rw [ByteArray.data_extract, ByteArray.data_extract]
    apply Array.ext
    · have h1 : a.data.size = a.size := rfl
      have h2 : b.data.size = b.size := rfl
      simp only [Array.size_extract]; omega
    · intro i h1 h2
      have ha1 : a.data.size = a.size := rfl
      have hb1 : b.data.size = b.size := rfl
      simp only [Array.size_extract] at h1 h2
      have := h i (by omega) (by omega)
      unfold bt at this
      rw [dif_pos (by simp; omega), dif_pos (by simp; omega)] at this
      simp only [Array.getElem_extract, Nat.zero_add]
      apply UInt8.toNat_inj.1
      exact_mod_cast this
  rw [e]
theorem FnCommon : ∀ (x0 : List (Int)), (x0.length ≤ maxLen ∧ ∀ y ∈ x0, (Lit.int .u8 y).wf = true) → ∃ k, laws_FnCommon.f k x0 = some true := by
  intro l hx
  refine Ev.rounds ?_
  unfold laws_FnCommon.f
  by_cases hb : (l.length : Int) > 1048576
  · exact Ev.here (a := true) (by unfold laws_big.f; simp [hb]) (Ev.pos rfl (Ev.now _))
  refine Ev.here (a := false) (by unfold laws_big.f; simp [hb]) (Ev.neg (by decide) ?_)
  obtain ⟨a, b, e, sa, sb⟩ := drawCommon_ev l (by omega)
  obtain ⟨r, e1, e2, p1, p2, p3, p4, p5⟩ := common_tells a b sa a.size 0 (by omega) (by omega) (by omega) (by omega)
  refine Ev.bind e ?_
  unfold impl_Common.f
  have hx : (a.extract 0 (r : Int).toNat).toList = (b.extract 0 (r : Int).toNat).toList := front_alike a b r.toNat (by omega) (by omega) (fun j h0 h1 => p4 j h0 (by omega))
  refine Ev.bind e1 (Ev.neg (by omega) (Ev.neg (by dsimp only; omega) (Ev.neg (by dsimp only; omega) (Ev.pos (by omega) (Ev.pos (by dsimp only; omega) (Ev.pos (by dsimp only; omega) (Ev.pos hx (Ev.bind e2 (Ev.pos rfl ?_)))))))))
  by_cases h1 : r = (a.size : Int)
  · exact Ev.pos h1 (Ev.now _)
  refine Ev.neg h1 ?_
  by_cases h2 : r = (b.size : Int)
  · exact Ev.pos h2 (Ev.now _)
  refine Ev.neg h2 (Ev.pos (by dsimp only; omega) (Ev.pos (by dsimp only; omega) (Ev.const ?_)))
  have := p5 (by omega) (by omega)
  simp [this]
end Go.Proofs.Ytjbilohbkhogkaa.Pure
