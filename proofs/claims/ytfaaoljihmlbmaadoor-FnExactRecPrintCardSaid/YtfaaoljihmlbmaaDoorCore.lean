/- Plain lemmas on whole numbers, lists and rounds. No condition. -/
import Derived.Test.YtfaaoljihmlbmaaDoorWWords
import Derived.Test.YtfaaoljihmlbmaaDoorWLast
import Derived.Test.YtfaaoljihmlbmaaDoorWMore
import Derived.Laws.BitsLemmas
namespace Go.Proofs.YtfaaoljihmlbmaaDoor.Core
open Go.RowKit Go.Proofs.YtfaaoljihmlbmaaDoorW.PrintWords Go.Proofs.YtfaaoljihmlbmaaDoorW.PrintLast Go.Proofs.YtfaaoljihmlbmaaDoorW.PrintMore

theorem wrap64_id {x : Int} (h0 : -9223372036854775808 ≤ x) (h1 : x ≤ 9223372036854775807) : wrap64 x = x := by
  unfold wrap64; omega
theorem wrap64_lo (x : Int) : -9223372036854775808 ≤ wrap64 x := by unfold wrap64; omega
theorem wrap64_hi (x : Int) : wrap64 x ≤ 9223372036854775807 := by unfold wrap64; omega
theorem i64_of {x : Int} (h : (Lit.int .i64 x).wf = true) : -9223372036854775808 ≤ x ∧ x ≤ 9223372036854775807 := by
  simp [Lit.wf, IntKind.min, IntKind.max, IntKind.signed, IntKind.bits] at h
  omega
theorem u8_of {x : Int} (h : (Lit.int .u8 x).wf = true) : 0 ≤ x ∧ x ≤ 255 := by
  simp [Lit.wf, IntKind.min, IntKind.max, IntKind.signed, IntKind.bits] at h
  omega

section
variable {α β : Type}
theorem Ev.det {g : Nat → Option α} {r s : α} (h : Ev g r) (h' : Ev g s) : r = s := by
  obtain ⟨K, h⟩ := h
  obtain ⟨K', h'⟩ := h'
  have a := h (max K K') (by omega)
  have b := h' (max K K') (by omega)
  rw [a] at b
  exact Option.some.inj b
theorem Ev.pos {c : Prop} [Decidable c] {g f : Nat → Option α} {r : α} (h : c) (k : Ev g r) : Ev (fun n => if c then g n else f n) r :=
  Ev.congr (fun _ => if_pos h) k
theorem Ev.neg {c : Prop} [Decidable c] {g f : Nat → Option α} {r : α} (h : ¬ c) (k : Ev f r) : Ev (fun n => if c then g n else f n) r :=
  Ev.congr (fun _ => if_neg h) k
theorem Ev.ite {c : Prop} [Decidable c] {g f : Nat → Option α} {r s : α} (h : c → Ev g r) (k : ¬ c → Ev f s) : Ev (fun n => if c then g n else f n) (if c then r else s) := by
  by_cases hc : c
  · rw [if_pos hc]; exact Ev.pos hc (h hc)
  · rw [if_neg hc]; exact Ev.neg hc (k hc)
theorem Ev.cast {g : Nat → Option α} {r s : α} (h : Ev g r) (e : r = s) : Ev g s := e ▸ h
/-- What is known of a call without rounds. -/
theorem Ev.here {g : Option α} {f : Nat → α → Option β} {a : α} {r : β} (h : g = some a) (k : Ev (fun n => f n a) r) : Ev (fun n => g.bind (f n)) r := by
  subst h
  exact k
theorem Ev.const {g : Option α} {r : α} (h : g = some r) : Ev (fun _ => g) r := ⟨0, fun _ _ => h⟩
end

/-! ### lists -/
section
variable {α β : Type}
theorem rd_eq {xs : List Int} {i : Int} (h : i.toNat < xs.length) : rd xs i = xs[i.toNat] := by
  unfold rd; rw [List.getD_eq_getElem?_getD, List.getElem?_eq_getElem h]; rfl
theorem rdOf_eq {d : α} {xs : List α} {i : Int} (h : i.toNat < xs.length) : rdOf d xs i = xs[i.toNat] := by
  unfold rdOf; rw [List.getD_eq_getElem?_getD, List.getElem?_eq_getElem h]; rfl
theorem getD_eq {d : α} {xs : List α} {i : Nat} (h : i < xs.length) : xs.getD i d = xs[i] := by
  rw [List.getD_eq_getElem?_getD, List.getElem?_eq_getElem h]; rfl

/-- A loop that fills a list of one length with what f makes of another one's elements. -/
theorem copy_loop (L : Nat → List β → Int → Option (List β)) (xs : List α) (f : α → β)
    (hs : ∀ (out : List β) (i : Nat) (r : List β) (h : i < xs.length), out.length = xs.length → Ev (fun k => L k (out.set i (f xs[i])) (i + 1 : Nat)) r → Ev (fun k => L k out (i : Int)) r)
    (h0 : ∀ (out : List β), out.length = xs.length → Ev (fun k => L k out (xs.length : Int)) out) :
    ∀ out : List β, out.length = xs.length → Ev (fun k => L k out 0) (xs.map f) := by
  have key : ∀ (d i : Nat) (out : List β), i + d = xs.length → out.length = xs.length → (∀ j (h : j < xs.length), j < i → out[j]? = some (f xs[j])) → Ev (fun k => L k out (i : Int)) (xs.map f) := by
    intro d
    induction d with
    | zero =>
      intro i out hi ho hp
      obtain rfl : i = xs.length := by omega
      refine Ev.cast (h0 out ho) ?_
      apply List.ext_getElem?
      intro j
      by_cases hj : j < xs.length
      · rw [hp j hj hj]; simp [hj]
      · rw [List.getElem?_eq_none (by omega), List.getElem?_eq_none (by simp; omega)]
    | succ d ih =>
      intro i out hi ho hp
      have hlt : i < xs.length := by omega
      refine hs out i _ hlt ho (ih (i + 1) _ (by omega) (by simpa using ho) ?_)
      intro j hj hji
      by_cases e : j = i
      · subst e; simp [ho, hj]
      · rw [List.getElem?_set_ne (by omega)]; exact hp j hj (by omega)
  intro out ho
  exact key xs.length 0 out (by omega) ho (fun j hj h => absurd h (by omega))

/-- A loop that asks whether a list is like itself. -/
theorem same_loop (L : Nat → Int → Option Bool) (n : Nat) (hs : ∀ (i : Nat) (r : Bool), i < n → Ev (fun k => L k (i + 1 : Nat)) r → Ev (fun k => L k (i : Int)) r) (h0 : Ev (fun k => L k (n : Int)) true) :
    Ev (fun k => L k 0) true := by
  have key : ∀ (d i : Nat), i + d = n → Ev (fun k => L k (i : Int)) true := by
    intro d
    induction d with
    | zero => intro i hi; obtain rfl : i = n := by omega
              exact h0
    | succ d ih => intro i hi; exact hs i _ (by omega) (ih (i + 1) (by omega))
  exact key n 0 (by omega)

/-- Marks are set one behind the other. -/
theorem marks_set (n B : Nat) (hn : 1 ≤ n) (mk : Int → α → α) (M : Nat → List α → Int → Int → Option (Int × List α))
    (hM : ∀ (xs : List α) (c : Int) (i : Nat) r (h : i < xs.length), xs.length ≤ B → 0 ≤ c → c + n ≤ B → Ev (fun k => M k (xs.set i (mk c xs[i])) (c + n) (i + 1 : Nat)) r → Ev (fun k => M k xs c (i : Int)) r)
    (hM0 : ∀ (xs : List α) (c : Int), Ev (fun k => M k xs c (xs.length : Int)) (c, xs)) (xs : List α) (c : Int) (hc : 0 ≤ c) (hB : c + n * xs.length ≤ B) :
    ∃ (m : Int) (ys : List α), m = c + n * xs.length ∧ Ev (fun k => M k xs c 0) (m, ys) := by
  have key : ∀ (d i : Nat) (xs : List α) (c : Int), 0 ≤ c → i + d = xs.length → xs.length ≤ B → c + n * d ≤ B → ∃ ys, Ev (fun k => M k xs c (i : Int)) (c + n * d, ys) := by
    intro d
    induction d with
    | zero =>
      intro i xs c h0 hi hx hB
      obtain rfl : i = xs.length := by omega
      exact ⟨xs, Ev.cast (hM0 xs c) (by simp)⟩
    | succ d ih =>
      intro i xs c h0 hi hx hB
      have e : (n : Int) * ((d + 1 : Nat) : Int) = n * d + n := by push_cast; rw [Int.mul_add, Int.mul_one]
      have hp : (0 : Int) ≤ (n : Int) * d := Int.mul_nonneg (by omega) (by omega)
      obtain ⟨ys, hy⟩ := ih (i + 1) (xs.set i (mk c (xs[i]'(by omega)))) (c + n) (by omega) (by simp; omega) (by simpa using hx) (by omega)
      refine ⟨ys, hM xs c i _ (by omega) hx h0 (by omega) ?_⟩
      have e2 : c + (n : Int) + n * d = c + n * ((d + 1 : Nat) : Int) := by omega
      rw [e2] at hy
      exact hy
  have hp : (xs.length : Int) ≤ n * xs.length := by
    have : 1 * xs.length ≤ n * xs.length := Nat.mul_le_mul_right _ hn
    have e : ((n * xs.length : Nat) : Int) = n * xs.length := by push_cast; rfl
    omega
  obtain ⟨ys, hy⟩ := key xs.length 0 xs c hc (by omega) (by omega) hB
  exact ⟨_, ys, rfl, hy⟩
/-- Marks that are set one behind the other are found again. -/
theorem marks_held (n B : Nat) (hn : 1 ≤ n) (mk : Int → α → α) (M : Nat → List α → Int → Int → Option (Int × List α)) (Hd : Nat → List α → Int → Int → Option Int)
    (hM : ∀ (xs : List α) (c : Int) (i : Nat) r (h : i < xs.length), xs.length ≤ B → 0 ≤ c → c + n ≤ B → Ev (fun k => M k (xs.set i (mk c xs[i])) (c + n) (i + 1 : Nat)) r → Ev (fun k => M k xs c (i : Int)) r)
    (hM0 : ∀ (xs : List α) (c : Int), Ev (fun k => M k xs c (xs.length : Int)) (c, xs))
    (hH : ∀ (xs : List α) (c : Int) (i : Nat) r (z : α) (h : i < xs.length), xs.length ≤ B → 0 ≤ c → c + n ≤ B → xs[i] = mk c z → Ev (fun k => Hd k xs (c + n) (i + 1 : Nat)) r → Ev (fun k => Hd k xs c (i : Int)) r)
    (hH0 : ∀ (xs : List α) (c : Int), Ev (fun k => Hd k xs c (xs.length : Int)) c)
    (xs : List α) (c : Int) (hc : 0 ≤ c) (hB : c + n * xs.length ≤ B) :
    ∃ (m : Int) (ys : List α), ys.length = xs.length ∧ m = c + n * xs.length ∧ Ev (fun k => M k xs c 0) (m, ys) ∧ Ev (fun k => Hd k ys c 0) m := by
  have big : ∀ {m : Nat}, c + (n : Int) * (m : Int) ≤ (B : Int) → m ≤ B := by
    intro m hm
    have h1 : m ≤ n * m := Nat.le_mul_of_pos_left m hn
    have h2 : ((n * m : Nat) : Int) = (n : Int) * m := by push_cast; rfl
    omega
  have key : ∀ (d i : Nat) (xs : List α), i + d = xs.length → c + n * xs.length ≤ B → (∀ j (h : j < xs.length), j < i → ∃ z, xs[j] = mk (c + n * j) z) →
      ∃ ys : List α, ys.length = xs.length ∧ Ev (fun k => M k xs (c + n * i) (i : Int)) (c + n * xs.length, ys) ∧ (∀ j (h : j < ys.length), ∃ z, ys[j] = mk (c + n * j) z) := by
    intro d
    induction d with
    | zero =>
      intro i xs hi hB hp
      obtain rfl : i = xs.length := by omega
      exact ⟨xs, rfl, hM0 xs _, fun j hj => hp j hj hj⟩
    | succ d ih =>
      intro i xs hi hB hp
      have hlt : i < xs.length := by omega
      have hb1 : n * (i + 1) ≤ n * xs.length := Nat.mul_le_mul_left n hlt
      have hb2 : (c + n * i) + n ≤ B := by
        have : ((n * (i + 1) : Nat) : Int) ≤ ((n * xs.length : Nat) : Int) := by exact_mod_cast hb1
        have e : ((n * (i + 1) : Nat) : Int) = n * i + n := by push_cast; rw [Int.mul_add, Int.mul_one]
        have e2 : ((n * xs.length : Nat) : Int) = n * xs.length := by push_cast; rfl
        omega
      have hpos : 0 ≤ c + n * i := by
        have : (0 : Int) ≤ (n : Int) * i := Int.mul_nonneg (by omega) (by omega)
        omega
      obtain ⟨ys, hl, hev, hh⟩ := ih (i + 1) (xs.set i (mk (c + n * i) xs[i])) (by simp; omega) (by simpa using hB) (by
        intro j hj hji
        by_cases e : j = i
        · subst e; exact ⟨xs[j], by simp⟩
        · obtain ⟨z, hz⟩ := hp j (by simpa using hj) (by omega)
          refine ⟨z, ?_⟩
          rw [List.getElem_set_ne (by omega)]; exact hz)
      refine ⟨ys, by simpa using hl, ?_, hh⟩
      refine hM xs _ i _ hlt (big hB) hpos hb2 ?_
      have e : (c + n * i) + n = c + n * ((i + 1 : Nat) : Int) := by push_cast; rw [Int.mul_add, Int.mul_one]; omega
      rw [e]
      simpa using hev
  have key2 : ∀ (d i : Nat) (ys : List α), i + d = ys.length → c + n * ys.length ≤ B → (∀ j (h : j < ys.length), ∃ z, ys[j] = mk (c + n * j) z) → Ev (fun k => Hd k ys (c + n * i) (i : Int)) (c + n * ys.length) := by
    intro d
    induction d with
    | zero =>
      intro i ys hi hB hp
      obtain rfl : i = ys.length := by omega
      exact hH0 ys _
    | succ d ih =>
      intro i ys hi hB hp
      have hlt : i < ys.length := by omega
      obtain ⟨z, hz⟩ := hp i hlt
      have hb1 : n * (i + 1) ≤ n * ys.length := Nat.mul_le_mul_left n hlt
      have hb2 : (c + n * i) + n ≤ B := by
        have : ((n * (i + 1) : Nat) : Int) ≤ ((n * ys.length : Nat) : Int) := by exact_mod_cast hb1
        have e : ((n * (i + 1) : Nat) : Int) = n * i + n := by push_cast; rw [Int.mul_add, Int.mul_one]
        have e2 : ((n * ys.length : Nat) : Int) = n * ys.length := by push_cast; rfl
        omega
      have hpos : 0 ≤ c + n * i := by
        have : (0 : Int) ≤ (n : Int) * i := Int.mul_nonneg (by omega) (by omega)
        omega
      refine hH ys _ i _ z hlt (big hB) hpos hb2 hz ?_
      have e : (c + n * i) + n = c + n * ((i + 1 : Nat) : Int) := by push_cast; rw [Int.mul_add, Int.mul_one]; omega
      rw [e]
      exact ih (i + 1) ys (by omega) hB hp
  obtain ⟨ys, hl, hev, hh⟩ := key xs.length 0 xs (by omega) hB (fun j hj h => absurd h (by omega))
  refine ⟨_, ys, hl, rfl, by simpa using hev, ?_⟩
  have := key2 ys.length 0 ys (by omega) (by rw [hl]; exact hB) hh
  rw [hl] at this
  simpa using this
/-- A loop that goes through the places below n, in front of what follows. -/
theorem loop_cps {σ : Type} {γ : Type} (L : Nat → σ → Int → Option γ) (step : Nat → σ → σ) (n : Nat) (r : γ)
    (hs : ∀ (i : Nat) (s : σ), i < n → Ev (fun k => L k (step i s) (i + 1 : Nat)) r → Ev (fun k => L k s (i : Int)) r) (s0 : σ)
    (h : Ev (fun k => L k ((List.range n).foldl (fun s i => step i s) s0) (n : Int)) r) : Ev (fun k => L k s0 0) r := by
  have key : ∀ (d i : Nat), i + d = n → Ev (fun k => L k ((List.range i).foldl (fun s i => step i s) s0) (i : Int)) r := by
    intro d
    induction d with
    | zero => intro i hi; obtain rfl : i = n := by omega
              exact h
    | succ d ih =>
      intro i hi
      refine hs i _ (by omega) ?_
      have := ih (i + 1) (by omega)
      rw [List.range_succ, List.foldl_append] at this
      exact this
  exact key n 0 (by omega)
/-- The same with what holds of the state at each place. -/
theorem loop_inv {σ : Type} {γ : Type} (L : Nat → σ → Int → Option γ) (step : Nat → σ → σ) (n : Nat) (r : γ) (Inv : Nat → σ → Prop) (s0 : σ) (hi0 : Inv 0 s0)
    (hi : ∀ i s, i < n → Inv i s → Inv (i + 1) (step i s))
    (hs : ∀ (i : Nat) (s : σ), i < n → Inv i s → Ev (fun k => L k (step i s) (i + 1 : Nat)) r → Ev (fun k => L k s (i : Int)) r)
    (h : ∀ s, Inv n s → s = (List.range n).foldl (fun s i => step i s) s0 → Ev (fun k => L k s (n : Int)) r) : Ev (fun k => L k s0 0) r := by
  have inv : ∀ i, i ≤ n → Inv i ((List.range i).foldl (fun s i => step i s) s0) := by
    intro i
    induction i with
    | zero => intro _; exact hi0
    | succ i ih => intro h; rw [List.range_succ, List.foldl_append]; exact hi i _ (by omega) (ih (by omega))
  have key : ∀ (d i : Nat), i + d = n → Ev (fun k => L k ((List.range i).foldl (fun s i => step i s) s0) (i : Int)) r := by
    intro d
    induction d with
    | zero => intro i hi; obtain rfl : i = n := by omega
              exact h _ (inv i (by omega)) rfl
    | succ d ih =>
      intro i hi
      refine hs i _ (by omega) (inv i (by omega)) ?_
      have := ih (i + 1) (by omega)
      rw [List.range_succ, List.foldl_append] at this
      exact this
  exact key n 0 (by omega)
/-- A loop that appends one element a round. -/
theorem append_loop {γ : Type} (L : Nat → List β → Int → Option γ) (g : Nat → β) (n : Nat) (r : γ)
    (hs : ∀ (i : Nat) (s : List β), i < n → s.length = i → Ev (fun k => L k (s ++ [g i]) (i + 1 : Nat)) r → Ev (fun k => L k s (i : Int)) r)
    (h : Ev (fun k => L k ((List.range n).map g) (n : Int)) r) : Ev (fun k => L k [] 0) r := by
  have e : ∀ m, (List.range m).foldl (fun s i => s ++ [g i]) [] = (List.range m).map g := by
    intro m
    induction m with
    | zero => rfl
    | succ m ih => rw [List.range_succ, List.foldl_append, List.map_append, ih]; rfl
  exact loop_inv L (fun i s => s ++ [g i]) n r (fun i s => s.length = i) [] rfl (fun i s _ h => by simp [h]) hs (fun s _ hs => by rw [hs, e]; exact h)
/-- The same behind what stands there already. -/
theorem append_from {γ : Type} (L : Nat → List β → Int → Option γ) (g : Nat → β) (n : Nat) (r : γ) (s0 : List β)
    (hs : ∀ (i : Nat) (s : List β), i < n → s.length = s0.length + i → Ev (fun k => L k (s ++ [g i]) (i + 1 : Nat)) r → Ev (fun k => L k s (i : Int)) r)
    (h : Ev (fun k => L k (s0 ++ (List.range n).map g) (n : Int)) r) : Ev (fun k => L k s0 0) r := by
  have e : ∀ m, (List.range m).foldl (fun s i => s ++ [g i]) s0 = s0 ++ (List.range m).map g := by
    intro m
    induction m with
    | zero => simp
    | succ m ih => rw [List.range_succ, List.foldl_append, List.map_append, ih]; simp
  exact loop_inv L (fun i s => s ++ [g i]) n r (fun i s => s.length = s0.length + i) s0 rfl (fun i s _ h => by simp [h]; omega) hs (fun s _ hs => by rw [hs, e]; exact h)
/-- A loop that asks whether all are so, in front of what follows. -/
theorem all_loop {γ : Type} (L : Nat → Int → Option γ) (p : Nat → Bool) (n : Nat) (no yes : γ) (ht : ∀ (i : Nat) (r : γ), i < n → p i = true → Ev (fun k => L k (i + 1 : Nat)) r → Ev (fun k => L k (i : Int)) r)
    (hf : ∀ (i : Nat), i < n → p i = false → Ev (fun k => L k (i : Int)) no) (h0 : Ev (fun k => L k (n : Int)) yes) : Ev (fun k => L k 0) (if (List.range n).all p = true then yes else no) := by
  have key : ∀ (d i : Nat), i + d = n → (∀ j, j < i → p j = true) → Ev (fun k => L k (i : Int)) (if (List.range n).all p = true then yes else no) := by
    intro d
    induction d with
    | zero =>
      intro i hi hp
      obtain rfl : i = n := by omega
      rw [if_pos (by simpa using hp)]
      exact h0
    | succ d ih =>
      intro i hi hp
      cases h : p i with
      | true => exact ht i _ (by omega) h (ih (i + 1) (by omega) (fun j hj => by
          by_cases e : j = i
          · rw [e]; exact h
          · exact hp j (by omega)))
      | false =>
        have : ¬ (List.range n).all p = true := by
          intro hall
          rw [List.all_eq_true] at hall
          have := hall i (List.mem_range.2 (by omega))
          rw [h] at this; cases this
        rw [if_neg this]
        exact hf i (by omega) h
  exact key n 0 (by omega) (fun j hj => absurd hj (by omega))
theorem all_range {α : Type} (l : List α) (q : α → Bool) (z : α) : (List.range l.length).all (fun i => q (l.getD i z)) = l.all q := by
  rw [Bool.eq_iff_iff, List.all_eq_true, List.all_eq_true]
  constructor
  · intro h x hx
    obtain ⟨j, hj, rfl⟩ := List.getElem_of_mem hx
    have := h j (List.mem_range.2 hj)
    rwa [getD_eq hj] at this
  · intro h i hi
    have hlt := List.mem_range.1 hi
    rw [getD_eq hlt]
    exact h _ (List.getElem_mem hlt)
/-- What is left of a budget. -/
theorem budget_loop (L : Nat → Int → Int → Option Int) (n : Nat)
    (hs : ∀ (c : Int) (i : Nat), 0 ≤ c → c ≤ 1048576 → i < n → ∃ c', c' ≤ c ∧ (c' < 0 → Ev (fun k => L k c (i : Int)) (-1)) ∧ (0 ≤ c' → ∀ r, Ev (fun k => L k c' (i + 1 : Nat)) r → Ev (fun k => L k c (i : Int)) r))
    (h0 : ∀ c, Ev (fun k => L k c (n : Int)) c) (c : Int) (hc : 0 ≤ c) (hc1 : c ≤ 1048576) : ∃ r, Ev (fun k => L k c 0) r ∧ r ≤ c := by
  have key : ∀ (d i : Nat) (c : Int), i + d = n → 0 ≤ c → c ≤ 1048576 → ∃ r, Ev (fun k => L k c (i : Int)) r ∧ r ≤ c := by
    intro d
    induction d with
    | zero => intro i c hi h0' h1; obtain rfl : i = n := by omega
              exact ⟨c, h0 c, Int.le_refl _⟩
    | succ d ih =>
      intro i c hi h0' h1
      obtain ⟨c', hle, hn, hp⟩ := hs c i h0' h1 (by omega)
      by_cases h : c' < 0
      · exact ⟨-1, hn h, by omega⟩
      · obtain ⟨r, hr, hrc⟩ := ih (i + 1) c' (by omega) (by omega) (by omega)
        exact ⟨r, hp (by omega) r hr, by omega⟩
  exact key n 0 c (by omega) hc hc1
end
/-! ### bits -/
theorem wraps_i64 (n : Int) (h₀ : 0 ≤ n) (h₁ : n < 2 ^ 63) : IntKind.i64.wrap n = n := by rw [IntKind.wrap_i64]; omega
theorem bits_comm_or (x y : Int) : Go.bits .or .i64 x y = Go.bits .or .i64 y x := by
  simp only [Go.bits, BitVec.or_comm]
theorem bits_or_nat (a b : Nat) (ha : a < 2 ^ 63) (hb : b < 2 ^ 63) : Go.bits .or .i64 (a : Int) (b : Int) = ((a ||| b : Nat) : Int) :=
  (bits_nat .i64 63 (by decide) wraps_i64 a b ha hb).2
theorem bits_and_nat (a b : Nat) (ha : a < 2 ^ 63) (hb : b < 2 ^ 63) : Go.bits .and .i64 (a : Int) (b : Int) = ((a &&& b : Nat) : Int) :=
  (bits_nat .i64 63 (by decide) wraps_i64 a b ha hb).1
theorem or_range {x y : Int} (m : Nat) (hm : m ≤ 63) (hx0 : 0 ≤ x) (hx1 : x < 2 ^ m) (hy0 : 0 ≤ y) (hy1 : y < 2 ^ m) : 0 ≤ Go.bits .or .i64 x y ∧ Go.bits .or .i64 x y < 2 ^ m := by
  obtain ⟨a, rfl⟩ := Int.eq_ofNat_of_zero_le hx0
  obtain ⟨b, rfl⟩ := Int.eq_ofNat_of_zero_le hy0
  have ha : a < 2 ^ m := by exact_mod_cast hx1
  have hb : b < 2 ^ m := by exact_mod_cast hy1
  have hp : 2 ^ m ≤ 2 ^ 63 := Nat.pow_le_pow_right (by decide) hm
  rw [bits_or_nat a b (by omega) (by omega)]
  refine ⟨by omega, ?_⟩
  have := Nat.or_lt_two_pow ha hb
  exact_mod_cast this
/-- The low eight bits of whatever number. -/
theorem and_255 (x : Int) : 0 ≤ Go.bits .and .i64 x 255 ∧ Go.bits .and .i64 x 255 ≤ 255 := by
  have e : Go.bits .and .i64 x 255 = (((BitVec.ofInt 64 x).toNat &&& 255 : Nat) : Int) := by
    have h : ((BitVec.ofInt 64 x).toNat &&& 255 : Nat) ≤ 255 := Nat.and_le_right
    have h2 : Go.bits .and .i64 x 255 = IntKind.i64.wrap (((BitVec.ofInt 64 x).toNat &&& 255 : Nat) : Int) := by
      simp only [Go.bits]
      congr 2
    rw [h2, wraps_i64 _ (by omega) (by omega)]
  rw [e]
  have h : ((BitVec.ofInt 64 x).toNat &&& 255 : Nat) ≤ 255 := Nat.and_le_right
  omega
end Go.Proofs.YtfaaoljihmlbmaaDoor.Core
