/- Laws of the walk that the print's words lack: a text appended to a row of bytes, and where the row then is. No condition. -/
import Derived.Test.YtbmcjgkppjnafaaWWords
import Derived.Test.YtbmcjgkppjnafaaWMore
import Derived.Test.YtbmcjgkppjnafaaWLast
import Derived.Lib.ConvBytes
import Derived.Laws.CopyOwn
import Derived.Lib.AppendStr
namespace Go.Proofs.YtbmcjgkppjnafaaW.PrintMore2
open Go.RowKit Go.Proofs.YtbmcjgkppjnafaaW.PrintWords Go.Proofs.YtbmcjgkppjnafaaW.PrintMore
section
variable {P : Program} (w : World)
/-- The same law as the library's, with the place of the row behind it. -/
theorem run_append_str_at (base : Nat) (t u ty e : TypeId) (i : TypeInfo) (ht : P.underlying t = some (.slice e)) (hu : P.underlying u = some .string) (hi : P.info? e = some i) (hz : i.zero = some (.int .u8 0))
    (hsize : i.size = 1) (hby : i.bytes = 1) (v : Value) (n : Nat) (xs : List Value) (hown : w.ownsRow base e 1 v n xs) (s : ByteArray) (h63 : n + s.size ≤ maxLen) (hbytes : n + s.size ≤ 140737488355328) (hbase : base ≤ w.heap.size) :
    ∃ v' w', (Builtin.append_ #[t, u] ty #[v, .string s]).run P w = .ok v' w' ∧ w'.ownsRow base e 1 v' (n + s.size) (xs ++ Lib.strCells s) ∧ w.grownBy w' v.ownBlock ∧ (v'.ownBlock = v.ownBlock ∨ ∃ b, v'.ownBlock = some b ∧ w.heap.size ≤ b) := by
  obtain ⟨v', w', hr, h2, h3, h4⟩ := Lib.run_append_own_string (P := P) w base t u ty e i ht hu hi hz hsize hby v n xs hown s h63 hbytes hbase
  refine ⟨v', w', hr, h2, h3, ?_⟩
  have hsmall : n + s.size ≤ 9223372036854775807 := by simp only [maxLen] at h63; omega
  rcases hown.2 with ⟨rfl, rfl⟩ | ⟨g, cap, cur, rfl, hbg, hg, hnc, hcm, hcs, htake⟩
  · by_cases hm : s.size = 0
    · left; rw [h4.2 ⟨rfl, hm⟩]
    · right
      have hr2 := run_append_nil_string (P := P) w t u ty e i (.int .u8 0) ht hu hi hz s (by omega) (by omega) (by rw [hby]; omega)
      rw [hr2] at hr
      injection hr with hv _
      exact ⟨_, by rw [← hv]; rfl, Nat.le_refl _⟩
  · have hxl : xs.length = n := by simpa using hown.1
    by_cases hroom : n + s.size ≤ cap
    · left
      have hcs' : cur.size = cap := by simpa using hcs
      have hr2 := Lib.run_append_room_string (P := P) w t u ty e i ht hu hi hsize g n cap cur hg s hroom (by omega)
      rw [hr2] at hr
      injection hr with hv _
      rw [← hv]; rfl
    · right
      have holds : ∀ j u, xs[j]? = some u → w.cell? ((⟨g, 0, none⟩ : Addr).add j) = some u := hown.cells (g := g) rfl
      have hr2 := Lib.run_append_grow_string (P := P) w t u ty e i (.int .u8 0) ht hu hi hz ⟨g, 0, none⟩ n cap xs (by rw [hsize]; simpa using hxl) holds s (by omega) (by omega) (by rw [hby]; exact growslice_fits (by omega) (by omega))
      rw [hr2] at hr
      injection hr with hv _
      exact ⟨_, by rw [← hv]; rfl, Nat.le_refl _⟩
end
section
variable {P : Program} {ops : Array Oper} {rest : List Oper} {o : Oper} {a : Act} {Q : Exit → Act → World → Prop}
theorem R_append_str_run {W : World} (base : Nat) (t u e ty : TypeId)
    (ht : P.underlying t = some (.slice e)) (hu : P.underlying u = some .string) (hinfo : (P.info? e).map (fun i => (i.zero, i.size, i.bytes)) = some (some (.int .u8 0), 1, 1))
    (v : Value) (xs : List Int) (y : ByteArray) (ok : Nat → Prop)
    (HO : (Kd.int .u8).R e W base ok v xs) (hfresh : ∀ k, W.heap.size ≤ k → ok k) (hbase : base ≤ W.heap.size) (hl : xs.length + y.size ≤ 140737488355328) :
    ∃ v1 w1, (Builtin.append_ #[t, u] ty #[v, .string y]).run P W = .ok v1 w1 ∧ (Kd.int .u8).R e w1 base ok v1 (xs ++ bytesOf y) ∧ W.grownBy w1 v.ownBlock ∧ (v1.ownBlock = v.ownBlock ∨ ∃ b, v1.ownBlock = some b ∧ W.heap.size ≤ b) := by
  obtain ⟨i0, hi, hzz⟩ := Option.map_eq_some_iff.1 hinfo
  simp only [Prod.mk.injEq] at hzz
  obtain ⟨hz0, hz1, hz2⟩ := hzz
  have hown := Kd.own_of_R HO
  obtain ⟨v1, w1, hr, h2, hg, hat⟩ := run_append_str_at (P := P) W base t u ty e i0 ht hu hi hz0 hz1 hz2 v xs.length _ hown y (by simp only [maxLen]; omega) hl hbase
  have hl2 : (xs ++ bytesOf y).length = xs.length + y.size := by rw [List.length_append, bytesOf_length]
  have hc : nums .u8 (xs ++ bytesOf y) = nums .u8 xs ++ Lib.strCells y := by
    rw [nums_append]
    congr 1
    simp [nums, bytesOf, Lib.strCells]
  refine ⟨v1, w1, hr, Kd.R_of_own (show w1.ownsRow base e 1 v1 (xs ++ bytesOf y).length (nums .u8 (xs ++ bytesOf y)) by rw [hl2, hc]; exact h2) (fun k hk => ?_), hg, hat⟩
  rcases hat with hat | ⟨b, hb, hle⟩
  · exact HO.1 k (hat ▸ hk)
  · rw [hb] at hk
    injection hk with hk
    exact hfresh k (by omega)
theorem R_append_str {w0 W : World} (base : Nat) (hgd : o.guard = none) (s x : Operand) (t u e : TypeId)
    (ho : o.op = .call { callee := .builtin .append, args := #[s, x], argTypes := #[t, u] })
    (ht : P.underlying t = some (.slice e)) (hu : P.underlying u = some .string) (hinfo : (P.info? e).map (fun i => (i.zero, i.size, i.bytes)) = some (some (.int .u8 0), 1, 1))
    (v : Value) (xs : List Int) (y : ByteArray) (ok : Nat → Prop) (hs : a.eval s = v) (hx : a.eval x = .string y)
    (HO : (Kd.int .u8).R e W base ok v xs) (hfresh : ∀ k, W.heap.size ≤ k → ok k) (HB : Below base w0 W) (hbase : base ≤ W.heap.size) (hl : xs.length + y.size ≤ 140737488355328)
    (h : ∀ v1 w1, (Kd.int .u8).R e w1 base ok v1 (xs ++ bytesOf y) → Below base w0 w1 → W.grownBy w1 v.ownBlock → (v1.ownBlock = v.ownBlock ∨ ∃ b, v1.ownBlock = some b ∧ W.heap.size ≤ b) → wpList P ops Q rest (a.put o.dst v1) w1) :
    wpList P ops Q (o :: rest) a W := by
  obtain ⟨v1, w1, hr, hR, hg, hat⟩ := R_append_str_run (P := P) (W := W) base t u e o.type ht hu hinfo v xs y ok HO hfresh hbase hl
  refine wpList_plain hgd fun K hK => ?_
  unfold Oper.wp execOp
  simp only [ho, resolve, invoke, builtin, Sem.run_bind, Sem.run_pure, Result.andThen_ok, List.map_toArray, List.map_cons, List.map_nil, hs, hx, hr]
  exact hK _ _ (h v1 w1 hR (HB.grown hg hbase (own_base (Kd.own_of_R HO))) hg hat)
end
section
variable {P : Program} {ops : Array Oper} {o : Oper} {a : Act} {Q : Exit → Act → World → Prop} {Kc : Act → World → Prop}
/-- The same law, as one step of a region that draws its order. -/
theorem R_append_str_step {w0 W : World} (base : Nat) (hw : Region.wanted o (yielded ops a.tmps) = true) (s x : Operand) (t u e : TypeId)
    (ho : o.op = .call { callee := .builtin .append, args := #[s, x], argTypes := #[t, u] })
    (ht : P.underlying t = some (.slice e)) (hu : P.underlying u = some .string) (hinfo : (P.info? e).map (fun i => (i.zero, i.size, i.bytes)) = some (some (.int .u8 0), 1, 1))
    (v : Value) (xs : List Int) (y : ByteArray) (ok : Nat → Prop) (hs : a.eval s = v) (hx : a.eval x = .string y)
    (HO : (Kd.int .u8).R e W base ok v xs) (hfresh : ∀ k, W.heap.size ≤ k → ok k) (HB : Below base w0 W) (hbase : base ≤ W.heap.size) (hl : xs.length + y.size ≤ 140737488355328)
    (h : ∀ v1 w1, (Kd.int .u8).R e w1 base ok v1 (xs ++ bytesOf y) → Below base w0 w1 → W.grownBy w1 v.ownBlock → (v1.ownBlock = v.ownBlock ∨ ∃ b, v1.ownBlock = some b ∧ W.heap.size ≤ b) → Kc (a.put o.dst v1) w1) :
    if Region.wanted o (yielded ops a.tmps) = true then Oper.wp P o a W Kc Q else Kc (a.put o.dst undef) W := by
  obtain ⟨v1, w1, hr, hR, hg, hat⟩ := R_append_str_run (P := P) (W := W) base t u e o.type ht hu hinfo v xs y ok HO hfresh hbase hl
  rw [if_pos hw]
  unfold Oper.wp execOp
  simp only [ho, resolve, invoke, builtin, Sem.run_bind, Sem.run_pure, Result.andThen_ok, List.map_toArray, List.map_cons, List.map_nil, hs, hx, hr]
  exact h v1 w1 hR (HB.grown hg hbase (own_base (Kd.own_of_R HO))) hg hat
end
section
variable {P : Program} {ops : Array Oper} {rest : List Oper} {o : Oper} {a : Act} {Q : Exit → Act → World → Prop}
/-- '[]byte(s)': the world behind it. -/
theorem conv_event {W : World} (hgd : o.guard = none) {N : Tmp} (_hd : o.dst = some N) (f t e : TypeId) (x : Operand) (ho : o.op = .convert f t x) (hf : P.underlying f = some .string) (ht : P.underlying t = some (.slice e)) (he : P.underlying e = some (.int .u8))
    (y : ByteArray) (hx : a.eval x = .string y)
    (h : wpList P ops Q rest (a.put o.dst (.slice (some ⟨W.heap.size, 0, none⟩) y.size (grownCap W y.size 0 e))) (Lib.bytesWorld W e y)) : wpList P ops Q (o :: rest) a W := by
  refine Kd.event_run hgd ?_ h
  unfold execOp
  simp only [ho, hx, Sem.run_bind, Lib.run_convert_string_bytes (P := P) W f t e y hf ht he, Result.andThen_ok, Sem.run_pure]
theorem grownBy_bytesWorld (W : World) (e : TypeId) (y : ByteArray) : W.grownBy (Lib.bytesWorld W e y) none :=
  ⟨rfl, rfl, rfl, by rw [Lib.bytesWorld_size]; omega, fun k hk _ => Lib.bytesWorld_at_old W e y k hk⟩
theorem reads_bytesWorld (W : World) (e : TypeId) (y : ByteArray) (hy : y.size ≤ 9223372036854775807) : (Kd.int .u8).C (Lib.bytesWorld W e y) (some ⟨W.heap.size, 0, none⟩) y.size (bytesOf y) := by
  refine ⟨bytesOf_length y, hy, fun _ => ⟨_, rfl, fun j p hj => ⟨[.int .u8 p], rfl, rfl, fun i u hu => ?_⟩⟩⟩
  have hjl : j < y.size := by have := (List.getElem?_eq_some_iff.1 hj).1; rwa [bytesOf_length] at this
  have hi : i = 0 := by have := (List.getElem?_eq_some_iff.1 hu).1; simp at this; omega
  subst hi
  have h1 := Lib.bytesWorld_cell W e y j hjl
  have h2 : u = .int .u8 p := by simpa using hu.symm
  subst h2
  have h3 : ((⟨W.heap.size, 0, none⟩ : Addr).add (j * (Kd.int .u8).sz + 0)) = ⟨W.heap.size, j, none⟩ := by
    show Addr.add _ (j * 1 + 0) = _
    rw [add_plain]; simp
  rw [h3, h1]
  have h4 : p = ((y.data.toList.getD j 0).toNat : Int) := by
    have h5 : (bytesOf y)[j]? = some p := hj
    simp [bytesOf] at h5
    obtain ⟨b, hb, hp⟩ := h5
    rw [← hp]
    simp [List.getD, hb]
  rw [h4]
/-- '[]byte(s)': a row that is read, somewhere in the world behind it. -/
theorem conv_seen {W : World} (hgd : o.guard = none) {N : Tmp} (hd : o.dst = some N) (f t e : TypeId) (x : Operand) (ho : o.op = .convert f t x) (hf : P.underlying f = some .string) (ht : P.underlying t = some (.slice e)) (he : P.underlying e = some (.int .u8))
    (y : ByteArray) (hx : a.eval x = .string y) (hy : y.size ≤ 9223372036854775807) (ys : List Int) (hys : ys = bytesOf y)
    (h : ∀ (A : Option Addr) (c : Nat) (w1 : World), (Kd.int .u8).C w1 A ys.length ys → ys.length ≤ c → Below W.heap.size W w1 → wpList P ops Q rest (a.put o.dst (.slice A ys.length c)) w1) : wpList P ops Q (o :: rest) a W := by
  subst hys
  refine conv_event hgd hd f t e x ho hf ht he y hx ?_
  have hg := grownBy_bytesWorld W e y
  have h1 := h (some ⟨W.heap.size, 0, none⟩) (grownCap W y.size 0 e) (Lib.bytesWorld W e y) (by rw [bytesOf_length]; exact reads_bytesWorld W e y hy) (by rw [bytesOf_length]; exact grownCap_ge W y.size 0 e) ⟨hg.os, hg.tape, hg.output, hg.size, fun k hk => hg.block k hk (by simp)⟩
  rw [bytesOf_length] at h1
  exact h1
/-- append(xs, []byte(s)...): the row of the conversion lies at the top. -/
theorem R_append_conv {w0 W : World} (base : Nat) (hgd : o.guard = none) (s x : Operand) (t e : TypeId)
    (ho : o.op = .call { callee := .builtin .append, args := #[s, x], argTypes := #[t, t] })
    (ht : P.underlying t = some (.slice e)) (hinfo : (P.info? e).map (fun i => (i.zero, i.size, i.bytes)) = some (some (.int .u8 0), 1, 1))
    (v : Value) (xs : List Int) (y : ByteArray) (c : Nat) (ok : Nat → Prop) (hs : a.eval s = v) (hx : a.eval x = .slice (some ⟨W.heap.size, 0, none⟩) y.size c)
    (HO : (Kd.int .u8).R e W base ok v xs) (hfresh : ∀ k, W.heap.size ≤ k → ok k) (HB : Below base w0 W) (hbase : base ≤ W.heap.size) (hl : xs.length + y.size ≤ 140737488355328)
    (h : ∀ v1 w1, (Kd.int .u8).R e w1 base ok v1 (xs ++ bytesOf y) → Below base w0 w1 → W.grownBy w1 v.ownBlock → (v1.ownBlock = v.ownBlock ∨ ∃ b, v1.ownBlock = some b ∧ W.heap.size ≤ b) → wpList P ops Q rest (a.put o.dst v1) w1) :
    wpList P ops Q (o :: rest) a (Lib.bytesWorld W e y) := by
  have hg1 := grownBy_bytesWorld W e y
  have hsz : W.heap.size ≤ (Lib.bytesWorld W e y).heap.size := hg1.size
  refine Kd.R_append_rows (Kd.int .u8) (Rr := (Kd.int .u8).K (Lib.bytesWorld W e y)) (w0 := w0) base hgd s x t e (.int .u8 0) 1 ho ht hinfo rfl (by decide) (by omega) v xs (bytesOf y) (some ⟨W.heap.size, 0, none⟩) y.size c ok (fun _ => False) hs hx
    ?_ (reads_bytesWorld W e y (by omega)) (fun _ _ h => h) (fun _ h => h.elim) (fun k hk => hfresh k (by omega)) (HB.grown hg1 hbase (by simp)) (by omega) (by omega) ?_
  · exact Kd.R_grown2 HO rfl hg1 (by simp)
  · intro v1 w1 h1 h2 h3 h4
    exact h v1 w1 h1 h2 ⟨h3.os.trans hg1.os, h3.tape.trans hg1.tape, h3.output.trans hg1.output, Nat.le_trans hsz h3.size, fun k hk hr => (h3.block k (by omega) hr).trans (hg1.block k hk (by simp))⟩
      (h4.imp id (fun ⟨b, hb, hle⟩ => ⟨b, hb, by omega⟩))
end
/-- What a copy leaves in the row that is written. -/
def copyL (xs ys : List Int) : List Int := ys.take xs.length ++ xs.drop ys.length
theorem copyL_length (xs ys : List Int) : (copyL xs ys).length = xs.length := by simp [copyL]; omega
section
variable {P : Program}
theorem R_copy_run {W : World} {k : IntKind} (base : Nat) (t u ty e : TypeId) (ht : P.underlying t = some (.slice e)) (hsz : (P.info? e).map (·.size) = some 1)
    (v : Value) (xs ys : List Int) (A : Option Addr) (m c : Nat) (ok : Nat → Prop) (HO : (Kd.int k).R e W base ok v xs) (HC : (Kd.int k).C W A m ys) :
    ∃ w1, (Builtin.copy_ #[t, u] ty #[v, .slice A m c]).run P W = .ok (goInt (Nat.min m xs.length)) w1 ∧ (Kd.int k).R e w1 base ok v (copyL xs ys) ∧ W.grownBy w1 v.ownBlock := by
  have hown := Kd.own_of_R HO
  have hym : ys.length = m := HC.1
  have hnl : ∀ l : List Int, (nums k l).length = l.length := fun l => by simp [nums]
  rcases hown.2 with ⟨rfl, hn⟩ | ⟨g, cap, cur, rfl, hbg, hg, hnc, hcm, hcs, htake⟩
  · have hx : xs = [] := List.eq_nil_of_length_eq_zero hn
    subst hx
    refine ⟨W, ?_, ?_, World.grownBy.refl W _⟩
    · have h1 := run_copy_none (P := P) W t u ty e none A 0 0 m c ht hsz (by simp)
      simpa using h1
    · have : copyL [] ys = [] := List.eq_nil_of_length_eq_zero (by rw [copyL_length]; rfl)
      rw [this]; exact HO
  · have hxl : xs.length ≤ cap := hnc
    have hcs' : cur.size = cap := by simpa using hcs
    by_cases h0 : Nat.min m xs.length = 0
    · refine ⟨W, ?_, ?_, World.grownBy.refl W _⟩
      · have h1 := run_copy_none (P := P) W t u ty e (some ⟨g, 0, none⟩) A xs.length cap m c ht hsz h0
        rw [h1, h0]; rfl
      · have h2 : copyL xs ys = xs := by
          have h3 : m = 0 ∨ xs.length = 0 := by simp only [Nat.min_def] at h0; split at h0 <;> omega
          rcases h3 with h3 | h3
          · have : ys = [] := List.eq_nil_of_length_eq_zero (by omega)
            subst this; simp [copyL]
          · have hx := List.eq_nil_of_length_eq_zero h3
            subst hx
            exact List.eq_nil_of_length_eq_zero (by rw [copyL_length]; rfl)
        rw [h2]; exact HO
    · have hmn : 0 < m ∧ 0 < xs.length := by
        have : Nat.min m xs.length ≤ m := Nat.min_le_left _ _
        have : Nat.min m xs.length ≤ xs.length := Nat.min_le_right _ _
        omega
      obtain ⟨ad, rfl, hcell⟩ := HC.2.2 hmn.1
      have hlen : (nums k (ys.take xs.length)).length = Nat.min m xs.length := by
        rw [hnl, List.length_take, hym]; exact Nat.min_comm _ _
      have hsrc : ∀ j u, (nums k (ys.take xs.length))[j]? = some u → W.cell? (ad.add j) = some u := by
        intro j u hu
        have hjl : j < (ys.take xs.length).length := by have := (List.getElem?_eq_some_iff.1 hu).1; rwa [hnl] at this
        have hj2 : j < ys.length := by rw [List.length_take] at hjl; omega
        obtain ⟨cl, hcl, hcr, hcc⟩ := hcell j _ (List.getElem?_eq_getElem hj2)
        have he : cl = [.int k ys[j]] := hcr
        subst he
        have h1 := hcc 0 (.int k ys[j]) rfl
        have h2 : u = .int k ys[j] := by
          have : (nums k (ys.take xs.length))[j]? = some (.int k ys[j]) := by
            simp only [nums, List.getElem?_map, List.getElem?_take]
            rw [if_pos (by rw [List.length_take] at hjl; omega), List.getElem?_eq_getElem hj2]; rfl
          rw [this] at hu; exact (Option.some.inj hu).symm
        rw [h2]
        have h3 : j * (Kd.int k).sz + 0 = j := by show j * 1 + 0 = j; omega
        rw [h3] at h1; exact h1
      have h1c : ∀ u ∈ nums k (ys.take xs.length), u.oneCell' = true := by
        intro u hu
        simp only [nums, List.mem_map] at hu
        obtain ⟨q, _, rfl⟩ := hu; rfl
      have hfit : 0 + (nums k (ys.take xs.length)).length ≤ cur.size := by rw [hlen, hcs']; have : Nat.min m xs.length ≤ xs.length := Nat.min_le_right _ _; omega
      have hr := run_copy_row (P := P) W t u ty e g 0 xs.length cap ad m c cur e (nums k (ys.take xs.length)) ht hsz hg hlen hsrc hfit h1c
      rw [hlen] at hr
      refine ⟨_, hr, ?_, ?_⟩
      · have hl3 := copyL_length xs ys
        refine Kd.R_of_own (show _ from ?_) (fun q hq => HO.1 q hq)
        refine ⟨by rw [hl3]; simp [encs, copyL_length], .inr ⟨g, cap, _, by rw [hl3], hbg, setRow_heap W g cur _ e _ hg, by rw [hl3]; exact hnc, hcm, ?_, ?_⟩⟩
        · have : Nat.min m xs.length ≤ xs.length := Nat.min_le_right _ _
          have hct : cur.toList.length = cap := by rw [Array.length_toList]; exact hcs'
          simp only [List.size_toArray, List.length_append, List.length_take, List.length_drop, hlen, hct]
          simp; omega
        · have e1 : (nums k xs) = cur.toList.take xs.length := by
            have h := htake; rw [Nat.mul_one] at h; exact h.symm
          have hct : cur.toList.length = cap := by rw [Array.length_toList]; exact hcs'
          show List.take _ (List.toArray _).toList = nums k (copyL xs ys)
          rw [hl3, Nat.mul_one]
          simp only [List.take_zero, List.nil_append, Nat.zero_add]
          apply List.ext_getElem?
          intro j
          have e2 : nums k (copyL xs ys) = nums k (ys.take xs.length) ++ (nums k xs).drop ys.length := by simp [nums, copyL]
          rw [e2, e1, List.getElem?_take]
          by_cases hj : j < xs.length
          · rw [if_pos hj, List.getElem?_append, List.getElem?_append]
            by_cases hj2 : j < (nums k (ys.take xs.length)).length
            · rw [if_pos hj2, if_pos hj2]
            · rw [if_neg hj2, if_neg hj2, List.getElem?_drop, List.getElem?_drop, List.getElem?_take]
              rw [hlen] at hj2 ⊢
              have hm2 : Nat.min m xs.length = m := by
                have h5 : ¬ xs.length ≤ m := fun h6 => by
                  have h7 : Nat.min m xs.length = xs.length := Nat.min_eq_right h6
                  omega
                exact Nat.min_eq_left (by omega)
              rw [hm2] at hj2 ⊢
              rw [if_pos (by omega), hym]
          · rw [if_neg hj, List.getElem?_eq_none]
            simp [hnl]; omega
      · refine ⟨rfl, rfl, rfl, by simp [World.setRow], fun q hq hr => setRow_other W g q _ ?_⟩
        intro he; subst he; exact hr rfl
end
section
variable {P : Program} {ops : Array Oper} {rest : List Oper} {o : Oper} {a : Act} {Q : Exit → Act → World → Prop}
/-- copy(xs, ys), xs a row of the call's own. -/
theorem R_copy {w0 W : World} {k : IntKind} (base : Nat) (hgd : o.guard = none) (s x : Operand) (t u e : TypeId)
    (ho : o.op = .call { callee := .builtin .copy, args := #[s, x], argTypes := #[t, u] }) (ht : P.underlying t = some (.slice e)) (hsz : (P.info? e).map (·.size) = some 1)
    (v : Value) (xs ys : List Int) (A : Option Addr) (m c : Nat) (ok : Nat → Prop) (hs : a.eval s = v) (hx : a.eval x = .slice A m c)
    (HO : (Kd.int k).R e W base ok v xs) (HC : (Kd.int k).C W A m ys) (HB : Below base w0 W) (hbase : base ≤ W.heap.size)
    (h : ∀ w1, (Kd.int k).R e w1 base ok v (copyL xs ys) → Below base w0 w1 → W.grownBy w1 v.ownBlock → wpList P ops Q rest (a.put o.dst (goInt (Nat.min m xs.length))) w1) :
    wpList P ops Q (o :: rest) a W := by
  obtain ⟨w1, hr, hR, hg⟩ := R_copy_run (P := P) base t u o.type e ht hsz v xs ys A m c ok HO HC
  refine wpList_plain hgd fun K hK => ?_
  unfold Oper.wp execOp
  simp only [ho, resolve, invoke, builtin, Sem.run_bind, Sem.run_pure, Result.andThen_ok, List.map_toArray, List.map_cons, List.map_nil, hs, hx, hr]
  exact hK _ _ (h w1 hR (HB.grown hg hbase (own_base (Kd.own_of_R HO))) hg)
end
section
variable {P : Program} {ops : Array Oper} {o : Oper} {a : Act} {Q : Exit → Act → World → Prop} {Kc : Act → World → Prop}
theorem R_copy_step {w0 W : World} {k : IntKind} (base : Nat) (hw : Region.wanted o (yielded ops a.tmps) = true) (s x : Operand) (t u e : TypeId)
    (ho : o.op = .call { callee := .builtin .copy, args := #[s, x], argTypes := #[t, u] }) (ht : P.underlying t = some (.slice e)) (hsz : (P.info? e).map (·.size) = some 1)
    (v : Value) (xs ys : List Int) (A : Option Addr) (m c : Nat) (ok : Nat → Prop) (hs : a.eval s = v) (hx : a.eval x = .slice A m c)
    (HO : (Kd.int k).R e W base ok v xs) (HC : (Kd.int k).C W A m ys) (HB : Below base w0 W) (hbase : base ≤ W.heap.size)
    (h : ∀ w1, (Kd.int k).R e w1 base ok v (copyL xs ys) → Below base w0 w1 → W.grownBy w1 v.ownBlock → Kc (a.put o.dst (goInt (Nat.min m xs.length))) w1) :
    if Region.wanted o (yielded ops a.tmps) = true then Oper.wp P o a W Kc Q else Kc (a.put o.dst undef) W := by
  obtain ⟨w1, hr, hR, hg⟩ := R_copy_run (P := P) base t u o.type e ht hsz v xs ys A m c ok HO HC
  rw [if_pos hw]
  unfold Oper.wp execOp
  simp only [ho, resolve, invoke, builtin, Sem.run_bind, Sem.run_pure, Result.andThen_ok, List.map_toArray, List.map_cons, List.map_nil, hs, hx, hr]
  exact h w1 hR (HB.grown hg hbase (own_base (Kd.own_of_R HO))) hg
end
/-- What is below, a few allocations, draws and stores of the call's own later. -/
theorem below_later {B : Nat} {w0 w w' : World} (h : Below B w0 w) (k : Below B w0 w → Below B w0 w' := by (intro hb_; repeat (first | (with_reducible first | exact hb_ | apply below_alloc | apply pw_below_drewN | apply below_drew1 | refine below_set ?_ (Aside0.out (by assumption))) | exact hb_))) : Below B w0 w' := k h
theorem blk_later {w w' : World} {g : Nat} {o : Obj} (h : w.heap[g]? = some o) (k : w.heap[g]? = some o → w'.heap[g]? = some o := by (intro hb_; (with_reducible repeat (first | refine blk_drewN ?_ _ | refine blk_drew ?_ | refine blk_alloc ?_ _)); exact hb_)) : w'.heap[g]? = some o := k h
theorem R_later {α : Type} {d : Kd α} {e base : Nat} {ok : Nat → Prop} {v : Value} {xs : List α} {w w' : World} (h : d.R e w base ok v xs) (k : d.R e w base ok v xs → d.R e w' base ok v xs := by (intro hb_; (with_reducible repeat (first | apply Kd.R_alloc | apply Kd.R_drewN | apply Kd.R_drew)); exact hb_)) : d.R e w' base ok v xs := k h
/-! Short words for rows that come again and again (wip/tools/press.py). -/
theorem bsz (a : Array UInt8) : (⟨a⟩ : ByteArray).size = a.size := rfl
theorem bnd {α β : Type} {x : Option α} {f : α → Option β} {r : β} (h : x.bind f = some r) : ∃ t, Aside0 (x = some t) ∧ f t = some r := by
  obtain ⟨t, h1, h2⟩ := Option.bind_eq_some_iff.mp h
  exact ⟨t, ⟨h1⟩, h2⟩
theorem bsm {α β : Type} {e : α} {f : α → Option β} {r : β} (h : (some e).bind f = some r) : ∃ y, Aside0 (y = e) ∧ f y = some r := ⟨e, ⟨rfl⟩, h⟩
theorem ifp {β : Type} {P : Prop} [Decidable P] {a b : Option β} {r : β} (c : P) (h : (if P then a else b) = some r) : a = some r := by rw [if_pos c] at h; exact h
theorem ifn {β : Type} {P : Prop} [Decidable P] {a b : Option β} {r : β} (c : ¬ P) (h : (if P then a else b) = some r) : b = some r := by rw [if_neg c] at h; exact h
theorem ifs {β : Type} {P : Prop} [Decidable P] {a : Option β} {r : β} (h : (if P then a else none) = some r) : P ∧ a = some r := by
  by_cases c : P
  · rw [if_pos c] at h; exact ⟨c, h⟩
  · rw [if_neg c] at h; cases h
theorem ifd {β : Type} {P : Prop} [Decidable P] {a : Option β} {r : β} (h : (if P then a else none) = some r) : decide P = true ∧ a = some r := ⟨decide_eq_true (ifs h).1, (ifs h).2⟩
theorem dcd {P : Prop} [Decidable P] (h : decide P = true := by first | (with_reducible assumption) | assumption) : P := of_decide_eq_true h
theorem crd {w w' : World} {v : Value} {p : Addr} (HB : Aside0 (Below w.heap.size w w')) (h : w.cell? p = some v) : w'.cell? p = some v := (HB.out.cell (World.block_lt_of_cell? w _ h)).trans h
theorem sr {P : Prop} (h : P := by first | rfl | (simp; done) | (simp [*]; done)) : P := h
theorem fin_ {P Q : Prop} (h : Q) (k : P := by first | rfl | (simp [errW_none, errW_some] <;> rfl) | (simp [*, errW_none, errW_some] <;> rfl)) : P ∧ Q := ⟨k, h⟩
theorem bst {w W W2 w2 : World} (h : Aside0 (Below w.heap.size w W)) (k : Below W2.heap.size W2 w2) (z : Below w.heap.size w W → Below w.heap.size w W2 := by (intro hb_; repeat (first | (with_reducible first | exact hb_ | apply below_alloc | apply pw_below_drewN | apply below_drew1 | refine below_set ?_ (Aside0.out (by assumption))) | exact hb_))) : Aside0 (Below w.heap.size w w2) := ⟨below_step (z h.out) k⟩
theorem C_later {α : Type} {d : Kd α} {w w' : World} {A : Option Addr} {n : Nat} {xs : List α} (h : d.C w A n xs) (k : d.C w A n xs → d.C w' A n xs := by (intro hb_; (with_reducible repeat (first | exact hb_ | refine Kd.C_alloc ?_ _ | refine Kd.C_drewN ?_ _ | refine Kd.C_drew ?_)))) : d.C w' A n xs := k h
section
variable {P : Program} {ops : Array Oper} {Q : Exit → Act → World → Prop}
/-- goesL_, its small parts told by themselves. -/
theorem gl_ {rest : List Oper} {oi : Oper} {a : Act} {w : World} (N : Option Tmp) {f : FuncId} {fn : Func} {as : Array Operand} {ts : Array TypeId} (hf : P.funcs[f]? = some fn) (args : Array Value)
    (hop : oi.op = .call { callee := .value (.func f), args := as, argTypes := ts }) (h : Calls P f args w fun e w' => ∃ v, e = .returned v ∧ wpList P ops Q rest (a.put N v) w')
    (hd : oi.dst = N := by rfl) (hg : oi.guard = none := by rfl) (hname : (fn.name == "runtime.NumGoroutine") = false := by kernel_rfl) (hb : fn.body.isSome = true := by rfl)
    (hargs : as.map a.eval = args := by ((try simp only [List.map_toArray, List.map_cons, List.map_nil]); first | done | rfl | (simp only [List.length_drop, List.length_take]; rfl))) : wpList P ops Q (oi :: rest) a w :=
  Go.Proofs.YtbmcjgkppjnafaaW.PrintLast.goesL_ N hd hg hf hname hb args hop hargs h
end
end Go.Proofs.YtbmcjgkppjnafaaW.PrintMore2
