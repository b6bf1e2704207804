/- The machine's side of FnExactDictPack, written by wip/tools/hyb.py of this repo: each Go function as a plain Lean function, and the proof that the call comes to just its answer. No condition. -/
import Derived.Test.YtgiljoeekpfpmaaPFnExactDictPackx0
import Derived.Test.YtgiljoeekpfpmaaPFnExactDictPackx6
import Derived.Test.YtgiljoeekpfpmaaPFnExactDictPackx8
import Derived.Test.YtgiljoeekpfpmaaPFnExactDictPackx12
namespace Go.Proofs.Ytgiljoeekpfpmaa.PFnExactDictPack
open Go.RowKit Go.Proofs.YtgiljoeekpfpmaaW.PrintWords Go.Proofs.YtgiljoeekpfpmaaW.PrintLast Go.Proofs.YtgiljoeekpfpmaaW.PrintMore Go.Proofs.YtgiljoeekpfpmaaW.PrintMore2
attribute [local go_sem] max2_int min2_int max_two min_two max_three min_three max_four min_four   -- for this text's walks alone
set_option linter.unusedVariables false
set_option linter.unusedSimpArgs false

/-! ### impl_pageOf: function 39 -/
def impl_pageOf.f (k : Nat) (a0 : Int) (l1 : List Int) (a2 : Bool) (l3 : List (S57)) : Option (List Int) := (impl_intNode.f 1 a0).bind fun bt541 => ((impl_intNode.f 2 (l1.length : Int)).bind fun bt549 => ((impl_intNode.f 3 (l1.length : Int)).bind fun bt557 => ((some (([(([(⟨bt541.1, bt541.2.1, bt541.2.2.1, bt541.2.2.2.1, bt541.2.2.2.2⟩ : S57)] : List (S57))), (([(⟨bt549.1, bt549.2.1, bt549.2.2.1, bt549.2.2.2.1, bt549.2.2.2.2⟩ : S57)] : List (S57))), (([(⟨bt557.1, bt557.2.1, bt557.2.2.1, bt557.2.2.2.1, bt557.2.2.2.2⟩ : S57)] : List (S57)))] : List (List (S57))) : List (List (S57)))).bind fun y565 => (if a2 = true then ((impl_CrcOf.f k l1).bind fun t568 => ((impl_isInt32.f t568).bind fun t569 => (if t569 = true then ((impl_intNode.f 4 t568).bind fun bt570 => (if y565.length < 5864062014805 then ((some (y565 ++ [(([(⟨bt570.1, bt570.2.1, bt570.2.2.1, bt570.2.2.2.1, bt570.2.2.2.2⟩ : S57)] : List (S57)))] : List (List (S57)))).bind fun y578 => (if y578.length < 5864062014805 then ((impl_structNode.f k 0 (y578 ++ [l3])).bind fun t584 => ((impl_TreePack.f k t584).bind fun bt587 => (if bt587.1.length + l1.length < 140737488355328 then (some (bt587.1 ++ l1)) else (none)))) else (none))) else (none))) else ((impl_intNode.f 4 (wrap64 (t568 - 4294967296))).bind fun bt594 => (if y565.length < 5864062014805 then ((some (y565 ++ [(([(⟨bt594.1, bt594.2.1, bt594.2.2.1, bt594.2.2.2.1, bt594.2.2.2.2⟩ : S57)] : List (S57)))] : List (List (S57)))).bind fun y602 => (if y602.length < 5864062014805 then ((impl_structNode.f k 0 (y602 ++ [l3])).bind fun t608 => ((impl_TreePack.f k t608).bind fun bt611 => (if bt611.1.length + l1.length < 140737488355328 then (some (bt611.1 ++ l1)) else (none)))) else (none))) else (none)))))) else (if y565.length < 5864062014805 then ((impl_structNode.f k 0 (y565 ++ [l3])).bind fun t621 => ((impl_TreePack.f k t621).bind fun bt624 => (if bt624.1.length + l1.length < 140737488355328 then (some (bt624.1 ++ l1)) else (none)))) else (none))))))
set_option maxHeartbeats 8000000 in
set_option maxRecDepth 100000 in
theorem impl_pageOf.calls (k : Nat) (a0 : Int) (A1 : Option Addr) (c1 : Nat) (l1 : List Int) (a2 : Bool) (P3_ : Nat → Prop) (A3 : Option Addr) (c3 : Nat) (l3 : List (S57)) (r : List Int) (w : World) (hr1 : Kd.C (Kd.int .u8) w A1 l1.length l1) (hc1 : l1.length ≤ c1) (hs3 : Kd.V k57 57 w w.heap.size (fun k_ => P3_ k_) (.slice A3 l3.length c3) l3) (h : impl_pageOf.f k a0 l1 a2 l3 = some r) :
    Calls Try.prog 39 #[.int .i64 a0, .slice A1 l1.length c1, .bool a2, .slice A3 l3.length c3] w fun e w' => ∃ v0_ : Value, e = .returned (v0_) ∧ Kd.R (Kd.int .u8) 5 w' w.heap.size (fun k_ => (w.heap.size ≤ k_)) v0_ r ∧ Below w.heap.size w w' := by
  have HR1 := Aside0.mk hr1
  have HC1 := Aside0.mk hc1
  clear hr1 hc1
  have HO3 := Aside0.mk (show Kd.V k57 57 w w.heap.size (fun k_ => (P3_ k_ ∨ w.heap.size ≤ k_)) (.slice A3 l3.length c3) l3 from Kd.V_mono hs3 (fun k_ hk => .inl hk))
  have HB := Aside0.mk (Below.refl w.heap.size w)
  have H : ((impl_intNode.f 1 a0).bind fun bt541 => ((impl_intNode.f 2 (l1.length : Int)).bind fun bt549 => ((impl_intNode.f 3 (l1.length : Int)).bind fun bt557 => ((some (([(([(⟨bt541.1, bt541.2.1, bt541.2.2.1, bt541.2.2.2.1, bt541.2.2.2.2⟩ : S57)] : List (S57))), (([(⟨bt549.1, bt549.2.1, bt549.2.2.1, bt549.2.2.2.1, bt549.2.2.2.2⟩ : S57)] : List (S57))), (([(⟨bt557.1, bt557.2.1, bt557.2.2.1, bt557.2.2.2.1, bt557.2.2.2.2⟩ : S57)] : List (S57)))] : List (List (S57))) : List (List (S57)))).bind fun y565 => (if a2 = true then ((impl_CrcOf.f k l1).bind fun t568 => ((impl_isInt32.f t568).bind fun t569 => (if t569 = true then ((impl_intNode.f 4 t568).bind fun bt570 => (if y565.length < 5864062014805 then ((some (y565 ++ [(([(⟨bt570.1, bt570.2.1, bt570.2.2.1, bt570.2.2.2.1, bt570.2.2.2.2⟩ : S57)] : List (S57)))] : List (List (S57)))).bind fun y578 => (if y578.length < 5864062014805 then ((impl_structNode.f k 0 (y578 ++ [l3])).bind fun t584 => ((impl_TreePack.f k t584).bind fun bt587 => (if bt587.1.length + l1.length < 140737488355328 then (some (bt587.1 ++ l1)) else (none)))) else (none))) else (none))) else ((impl_intNode.f 4 (wrap64 (t568 - 4294967296))).bind fun bt594 => (if y565.length < 5864062014805 then ((some (y565 ++ [(([(⟨bt594.1, bt594.2.1, bt594.2.2.1, bt594.2.2.2.1, bt594.2.2.2.2⟩ : S57)] : List (S57)))] : List (List (S57)))).bind fun y602 => (if y602.length < 5864062014805 then ((impl_structNode.f k 0 (y602 ++ [l3])).bind fun t608 => ((impl_TreePack.f k t608).bind fun bt611 => (if bt611.1.length + l1.length < 140737488355328 then (some (bt611.1 ++ l1)) else (none)))) else (none))) else (none)))))) else (if y565.length < 5864062014805 then ((impl_structNode.f k 0 (y565 ++ [l3])).bind fun t621 => ((impl_TreePack.f k t621).bind fun bt624 => (if bt624.1.length + l1.length < 140737488355328 then (some (bt624.1 ++ l1)) else (none)))) else (none))))))) = some r := h
  clear h
  replace H := Option.bind_eq_some_iff.mp H
  obtain ⟨⟨t541, t542, t543, t544, t545⟩, A50, H⟩ := H
  replace H : ((impl_intNode.f 2 (l1.length : Int)).bind fun bt549 => ((impl_intNode.f 3 (l1.length : Int)).bind fun bt557 => ((some (([(([(⟨t541, t542, t543, t544, t545⟩ : S57)] : List (S57))), (([(⟨bt549.1, bt549.2.1, bt549.2.2.1, bt549.2.2.2.1, bt549.2.2.2.2⟩ : S57)] : List (S57))), (([(⟨bt557.1, bt557.2.1, bt557.2.2.1, bt557.2.2.2.1, bt557.2.2.2.2⟩ : S57)] : List (S57)))] : List (List (S57))) : List (List (S57)))).bind fun y565 => (if a2 = true then ((impl_CrcOf.f k l1).bind fun t568 => ((impl_isInt32.f t568).bind fun t569 => (if t569 = true then ((impl_intNode.f 4 t568).bind fun bt570 => (if y565.length < 5864062014805 then ((some (y565 ++ [(([(⟨bt570.1, bt570.2.1, bt570.2.2.1, bt570.2.2.2.1, bt570.2.2.2.2⟩ : S57)] : List (S57)))] : List (List (S57)))).bind fun y578 => (if y578.length < 5864062014805 then ((impl_structNode.f k 0 (y578 ++ [l3])).bind fun t584 => ((impl_TreePack.f k t584).bind fun bt587 => (if bt587.1.length + l1.length < 140737488355328 then (some (bt587.1 ++ l1)) else (none)))) else (none))) else (none))) else ((impl_intNode.f 4 (wrap64 (t568 - 4294967296))).bind fun bt594 => (if y565.length < 5864062014805 then ((some (y565 ++ [(([(⟨bt594.1, bt594.2.1, bt594.2.2.1, bt594.2.2.2.1, bt594.2.2.2.2⟩ : S57)] : List (S57)))] : List (List (S57)))).bind fun y602 => (if y602.length < 5864062014805 then ((impl_structNode.f k 0 (y602 ++ [l3])).bind fun t608 => ((impl_TreePack.f k t608).bind fun bt611 => (if bt611.1.length + l1.length < 140737488355328 then (some (bt611.1 ++ l1)) else (none)))) else (none))) else (none)))))) else (if y565.length < 5864062014805 then ((impl_structNode.f k 0 (y565 ++ [l3])).bind fun t621 => ((impl_TreePack.f k t621).bind fun bt624 => (if bt624.1.length + l1.length < 140737488355328 then (some (bt624.1 ++ l1)) else (none)))) else (none)))))) = some r := H
  have A5 := Aside0.mk A50
  clear A50
  obtain ⟨y546, hy546⟩ : ∃ y_ : List (S57), y_ = (([(⟨t541, t542, t543, t544, t545⟩ : S57)] : List (S57))) := ⟨_, rfl⟩
  replace H : ((impl_intNode.f 2 (l1.length : Int)).bind fun bt549 => ((impl_intNode.f 3 (l1.length : Int)).bind fun bt557 => ((some (([y546, (([(⟨bt549.1, bt549.2.1, bt549.2.2.1, bt549.2.2.2.1, bt549.2.2.2.2⟩ : S57)] : List (S57))), (([(⟨bt557.1, bt557.2.1, bt557.2.2.1, bt557.2.2.2.1, bt557.2.2.2.2⟩ : S57)] : List (S57)))] : List (List (S57))) : List (List (S57)))).bind fun y565 => (if a2 = true then ((impl_CrcOf.f k l1).bind fun t568 => ((impl_isInt32.f t568).bind fun t569 => (if t569 = true then ((impl_intNode.f 4 t568).bind fun bt570 => (if y565.length < 5864062014805 then ((some (y565 ++ [(([(⟨bt570.1, bt570.2.1, bt570.2.2.1, bt570.2.2.2.1, bt570.2.2.2.2⟩ : S57)] : List (S57)))] : List (List (S57)))).bind fun y578 => (if y578.length < 5864062014805 then ((impl_structNode.f k 0 (y578 ++ [l3])).bind fun t584 => ((impl_TreePack.f k t584).bind fun bt587 => (if bt587.1.length + l1.length < 140737488355328 then (some (bt587.1 ++ l1)) else (none)))) else (none))) else (none))) else ((impl_intNode.f 4 (wrap64 (t568 - 4294967296))).bind fun bt594 => (if y565.length < 5864062014805 then ((some (y565 ++ [(([(⟨bt594.1, bt594.2.1, bt594.2.2.1, bt594.2.2.2.1, bt594.2.2.2.2⟩ : S57)] : List (S57)))] : List (List (S57)))).bind fun y602 => (if y602.length < 5864062014805 then ((impl_structNode.f k 0 (y602 ++ [l3])).bind fun t608 => ((impl_TreePack.f k t608).bind fun bt611 => (if bt611.1.length + l1.length < 140737488355328 then (some (bt611.1 ++ l1)) else (none)))) else (none))) else (none)))))) else (if y565.length < 5864062014805 then ((impl_structNode.f k 0 (y565 ++ [l3])).bind fun t621 => ((impl_TreePack.f k t621).bind fun bt624 => (if bt624.1.length + l1.length < 140737488355328 then (some (bt624.1 ++ l1)) else (none)))) else (none)))))) = some r := by first | (rw [hy546]; with_reducible exact H) | (rw [hy546]; exact H) | exact H
  have Ny546 := Aside0.mk hy546
  clear hy546
  replace H := Option.bind_eq_some_iff.mp H
  obtain ⟨⟨t549, t550, t551, t552, t553⟩, A60, H⟩ := H
  replace H : ((impl_intNode.f 3 (l1.length : Int)).bind fun bt557 => ((some (([y546, (([(⟨t549, t550, t551, t552, t553⟩ : S57)] : List (S57))), (([(⟨bt557.1, bt557.2.1, bt557.2.2.1, bt557.2.2.2.1, bt557.2.2.2.2⟩ : S57)] : List (S57)))] : List (List (S57))) : List (List (S57)))).bind fun y565 => (if a2 = true then ((impl_CrcOf.f k l1).bind fun t568 => ((impl_isInt32.f t568).bind fun t569 => (if t569 = true then ((impl_intNode.f 4 t568).bind fun bt570 => (if y565.length < 5864062014805 then ((some (y565 ++ [(([(⟨bt570.1, bt570.2.1, bt570.2.2.1, bt570.2.2.2.1, bt570.2.2.2.2⟩ : S57)] : List (S57)))] : List (List (S57)))).bind fun y578 => (if y578.length < 5864062014805 then ((impl_structNode.f k 0 (y578 ++ [l3])).bind fun t584 => ((impl_TreePack.f k t584).bind fun bt587 => (if bt587.1.length + l1.length < 140737488355328 then (some (bt587.1 ++ l1)) else (none)))) else (none))) else (none))) else ((impl_intNode.f 4 (wrap64 (t568 - 4294967296))).bind fun bt594 => (if y565.length < 5864062014805 then ((some (y565 ++ [(([(⟨bt594.1, bt594.2.1, bt594.2.2.1, bt594.2.2.2.1, bt594.2.2.2.2⟩ : S57)] : List (S57)))] : List (List (S57)))).bind fun y602 => (if y602.length < 5864062014805 then ((impl_structNode.f k 0 (y602 ++ [l3])).bind fun t608 => ((impl_TreePack.f k t608).bind fun bt611 => (if bt611.1.length + l1.length < 140737488355328 then (some (bt611.1 ++ l1)) else (none)))) else (none))) else (none)))))) else (if y565.length < 5864062014805 then ((impl_structNode.f k 0 (y565 ++ [l3])).bind fun t621 => ((impl_TreePack.f k t621).bind fun bt624 => (if bt624.1.length + l1.length < 140737488355328 then (some (bt624.1 ++ l1)) else (none)))) else (none))))) = some r := H
  have A6 := Aside0.mk A60
  clear A60
  obtain ⟨y554, hy554⟩ : ∃ y_ : List (S57), y_ = (([(⟨t549, t550, t551, t552, t553⟩ : S57)] : List (S57))) := ⟨_, rfl⟩
  replace H : ((impl_intNode.f 3 (l1.length : Int)).bind fun bt557 => ((some (([y546, y554, (([(⟨bt557.1, bt557.2.1, bt557.2.2.1, bt557.2.2.2.1, bt557.2.2.2.2⟩ : S57)] : List (S57)))] : List (List (S57))) : List (List (S57)))).bind fun y565 => (if a2 = true then ((impl_CrcOf.f k l1).bind fun t568 => ((impl_isInt32.f t568).bind fun t569 => (if t569 = true then ((impl_intNode.f 4 t568).bind fun bt570 => (if y565.length < 5864062014805 then ((some (y565 ++ [(([(⟨bt570.1, bt570.2.1, bt570.2.2.1, bt570.2.2.2.1, bt570.2.2.2.2⟩ : S57)] : List (S57)))] : List (List (S57)))).bind fun y578 => (if y578.length < 5864062014805 then ((impl_structNode.f k 0 (y578 ++ [l3])).bind fun t584 => ((impl_TreePack.f k t584).bind fun bt587 => (if bt587.1.length + l1.length < 140737488355328 then (some (bt587.1 ++ l1)) else (none)))) else (none))) else (none))) else ((impl_intNode.f 4 (wrap64 (t568 - 4294967296))).bind fun bt594 => (if y565.length < 5864062014805 then ((some (y565 ++ [(([(⟨bt594.1, bt594.2.1, bt594.2.2.1, bt594.2.2.2.1, bt594.2.2.2.2⟩ : S57)] : List (S57)))] : List (List (S57)))).bind fun y602 => (if y602.length < 5864062014805 then ((impl_structNode.f k 0 (y602 ++ [l3])).bind fun t608 => ((impl_TreePack.f k t608).bind fun bt611 => (if bt611.1.length + l1.length < 140737488355328 then (some (bt611.1 ++ l1)) else (none)))) else (none))) else (none)))))) else (if y565.length < 5864062014805 then ((impl_structNode.f k 0 (y565 ++ [l3])).bind fun t621 => ((impl_TreePack.f k t621).bind fun bt624 => (if bt624.1.length + l1.length < 140737488355328 then (some (bt624.1 ++ l1)) else (none)))) else (none))))) = some r := by first | (rw [hy554]; with_reducible exact H) | (rw [hy554]; exact H) | exact H
  have Ny554 := Aside0.mk hy554
  clear hy554
  replace H := Option.bind_eq_some_iff.mp H
  obtain ⟨⟨t557, t558, t559, t560, t561⟩, A70, H⟩ := H
  replace H : ((some (([y546, y554, (([(⟨t557, t558, t559, t560, t561⟩ : S57)] : List (S57)))] : List (List (S57))) : List (List (S57)))).bind fun y565 => (if a2 = true then ((impl_CrcOf.f k l1).bind fun t568 => ((impl_isInt32.f t568).bind fun t569 => (if t569 = true then ((impl_intNode.f 4 t568).bind fun bt570 => (if y565.length < 5864062014805 then ((some (y565 ++ [(([(⟨bt570.1, bt570.2.1, bt570.2.2.1, bt570.2.2.2.1, bt570.2.2.2.2⟩ : S57)] : List (S57)))] : List (List (S57)))).bind fun y578 => (if y578.length < 5864062014805 then ((impl_structNode.f k 0 (y578 ++ [l3])).bind fun t584 => ((impl_TreePack.f k t584).bind fun bt587 => (if bt587.1.length + l1.length < 140737488355328 then (some (bt587.1 ++ l1)) else (none)))) else (none))) else (none))) else ((impl_intNode.f 4 (wrap64 (t568 - 4294967296))).bind fun bt594 => (if y565.length < 5864062014805 then ((some (y565 ++ [(([(⟨bt594.1, bt594.2.1, bt594.2.2.1, bt594.2.2.2.1, bt594.2.2.2.2⟩ : S57)] : List (S57)))] : List (List (S57)))).bind fun y602 => (if y602.length < 5864062014805 then ((impl_structNode.f k 0 (y602 ++ [l3])).bind fun t608 => ((impl_TreePack.f k t608).bind fun bt611 => (if bt611.1.length + l1.length < 140737488355328 then (some (bt611.1 ++ l1)) else (none)))) else (none))) else (none)))))) else (if y565.length < 5864062014805 then ((impl_structNode.f k 0 (y565 ++ [l3])).bind fun t621 => ((impl_TreePack.f k t621).bind fun bt624 => (if bt624.1.length + l1.length < 140737488355328 then (some (bt624.1 ++ l1)) else (none)))) else (none)))) = some r := H
  have A7 := Aside0.mk A70
  clear A70
  obtain ⟨y562, hy562⟩ : ∃ y_ : List (S57), y_ = (([(⟨t557, t558, t559, t560, t561⟩ : S57)] : List (S57))) := ⟨_, rfl⟩
  replace H : ((some (([y546, y554, y562] : List (List (S57))) : List (List (S57)))).bind fun y565 => (if a2 = true then ((impl_CrcOf.f k l1).bind fun t568 => ((impl_isInt32.f t568).bind fun t569 => (if t569 = true then ((impl_intNode.f 4 t568).bind fun bt570 => (if y565.length < 5864062014805 then ((some (y565 ++ [(([(⟨bt570.1, bt570.2.1, bt570.2.2.1, bt570.2.2.2.1, bt570.2.2.2.2⟩ : S57)] : List (S57)))] : List (List (S57)))).bind fun y578 => (if y578.length < 5864062014805 then ((impl_structNode.f k 0 (y578 ++ [l3])).bind fun t584 => ((impl_TreePack.f k t584).bind fun bt587 => (if bt587.1.length + l1.length < 140737488355328 then (some (bt587.1 ++ l1)) else (none)))) else (none))) else (none))) else ((impl_intNode.f 4 (wrap64 (t568 - 4294967296))).bind fun bt594 => (if y565.length < 5864062014805 then ((some (y565 ++ [(([(⟨bt594.1, bt594.2.1, bt594.2.2.1, bt594.2.2.2.1, bt594.2.2.2.2⟩ : S57)] : List (S57)))] : List (List (S57)))).bind fun y602 => (if y602.length < 5864062014805 then ((impl_structNode.f k 0 (y602 ++ [l3])).bind fun t608 => ((impl_TreePack.f k t608).bind fun bt611 => (if bt611.1.length + l1.length < 140737488355328 then (some (bt611.1 ++ l1)) else (none)))) else (none))) else (none)))))) else (if y565.length < 5864062014805 then ((impl_structNode.f k 0 (y565 ++ [l3])).bind fun t621 => ((impl_TreePack.f k t621).bind fun bt624 => (if bt624.1.length + l1.length < 140737488355328 then (some (bt624.1 ++ l1)) else (none)))) else (none)))) = some r := by first | (rw [hy562]; with_reducible exact H) | (rw [hy562]; exact H) | exact H
  have Ny562 := Aside0.mk hy562
  clear hy562
  replace H := bsm H
  obtain ⟨y565, Ny565, H⟩ := H
  by_cases c8 : a2 = true
  · subst c8
    replace H := ifp rfl H
    replace H := bnd H
    obtain ⟨t568, A9, H⟩ := H
    replace H := bnd H
    obtain ⟨t569, A10, H⟩ := H
    by_cases c11 : t569 = true
    · subst c11
      replace H := ifp rfl H
      replace H := Option.bind_eq_some_iff.mp H
      obtain ⟨⟨t570, t571, t572, t573, t574⟩, A120, H⟩ := H
      replace H : (if y565.length < 5864062014805 then ((some (y565 ++ [(([(⟨t570, t571, t572, t573, t574⟩ : S57)] : List (S57)))] : List (List (S57)))).bind fun y578 => (if y578.length < 5864062014805 then ((impl_structNode.f k 0 (y578 ++ [l3])).bind fun t584 => ((impl_TreePack.f k t584).bind fun bt587 => (if bt587.1.length + l1.length < 140737488355328 then (some (bt587.1 ++ l1)) else (none)))) else (none))) else (none)) = some r := H
      have A12 := Aside0.mk A120
      clear A120
      obtain ⟨y575, hy575⟩ : ∃ y_ : List (S57), y_ = (([(⟨t570, t571, t572, t573, t574⟩ : S57)] : List (S57))) := ⟨_, rfl⟩
      replace H : (if y565.length < 5864062014805 then ((some (y565 ++ [y575] : List (List (S57)))).bind fun y578 => (if y578.length < 5864062014805 then ((impl_structNode.f k 0 (y578 ++ [l3])).bind fun t584 => ((impl_TreePack.f k t584).bind fun bt587 => (if bt587.1.length + l1.length < 140737488355328 then (some (bt587.1 ++ l1)) else (none)))) else (none))) else (none)) = some r := by first | (rw [hy575]; with_reducible exact H) | (rw [hy575]; exact H) | exact H
      have Ny575 := Aside0.mk hy575
      clear hy575
      replace H := ifs H
      obtain ⟨c13, H⟩ := H
      have LMc13 := Aside0.mk c13
      clear c13
      replace H := bsm H
      obtain ⟨y578, Ny578, H⟩ := H
      replace H := ifs H
      obtain ⟨c14, H⟩ := H
      have LMc14 := Aside0.mk c14
      clear c14
      obtain ⟨y581, hy581⟩ : ∃ y_ : List (List (S57)), y_ = (y578 ++ [l3]) := ⟨_, rfl⟩
      replace H : ((impl_structNode.f k 0 y581).bind fun t584 => ((impl_TreePack.f k t584).bind fun bt587 => (if bt587.1.length + l1.length < 140737488355328 then (some (bt587.1 ++ l1)) else (none)))) = some r := by first | (rw [hy581]; with_reducible exact H) | (rw [hy581]; exact H) | exact H
      have Ny581 := Aside0.mk hy581
      clear hy581
      replace H := bnd H
      obtain ⟨t584, A15, H⟩ := H
      replace H := Option.bind_eq_some_iff.mp H
      obtain ⟨⟨t587, t588⟩, A160, H⟩ := H
      replace H : (if t587.length + l1.length < 140737488355328 then (some (t587 ++ l1)) else (none)) = some r := H
      have A16 := Aside0.mk A160
      clear A160
      replace H := ifs H
      obtain ⟨c17, H⟩ := H
      have LMc17 := Aside0.mk c17
      clear c17
      obtain ⟨y591, hy591⟩ : ∃ y_ : List Int, y_ = (t587 ++ l1) := ⟨_, rfl⟩
      replace H : (some y591) = some r := by first | (rw [hy591]; with_reducible exact H) | (rw [hy591]; exact H) | exact H
      have Ny591 := Aside0.mk hy591
      clear hy591
      obtain rfl := Option.some.inj H
      go_enter Try.func39, Try.ntmps39
      go_wp2_with (first | ((with_reducible refine gate_callee (f := 38) rfl ?_); refine gl_ (some 14) Try.func38 #[.int .i64 1, .int .i64 a0] rfl ?_; (with_reducible refine (impl_intNode.calls 1 a0 t541 t542 t543 t544 t545 _ A5.out).mono ?_); rintro e w18 ⟨rfl, hb⟩; refine ⟨_, rfl, ?_⟩; replace HO3 := Aside0.mk (Kd.V_below (by (with_reducible repeat (first | apply Kd.V_alloc | apply Kd.V_drewN | apply Kd.V_drew)); exact HO3.out) hb); replace HB := bst HB hb; (try clear hb); (try clear hk)) | ((with_reducible refine gate_dst (N := 15) rfl ?_); refine Kd.R_lit k57 _ 57 ?hg (N := 15) ?hd (xs := ([(⟨t541, t542, t543, t544, t545⟩ : S57)] : List (S57))) (inner := [.int .i64 t541, .int .i64 t542, .int .i64 t543, .string t544, .int .i64 t545]) (ok := fun _ => True) (okp := fun _ => True) ?hr ?hp (fun _ hk => hk) trivial (Below.refl _ _) (Nat.le_refl _) (by simp) ?_; (case hd => rfl); (case hg => rfl); (case hr => first | (go_simp; done) | (go_simp; rfl)); (case hp => exact (Reps.c5 (show Kd.M k57 _ _ _ (⟨t541, t542, t543, t544, t545⟩ : S57) [.int .i64 t541, .int .i64 t542, .int .i64 t543, .string t544, .int .i64 t545] from (k57_mkM _ _ _ (⟨t541, t542, t543, t544, t545⟩ : S57) )) (Reps.none _ _))); intro v547 w19 ho20 hb hg_ hnew_; clear hg_ hnew_; (first | rw [← Ny546.out] at ho20 | (simp only [Int.reduceToNat] at ho20; rw [← Ny546.out] at ho20)); have HO548 := Aside0.mk (Kd.R_lower (Kd.R_newM (M := fun k_ => (w.heap.size ≤ k_)) ho20 (below_size (below_later HB.out)) (fun k_ h_ => h_)) (below_size (below_later HB.out))); replace HO3 := Aside0.mk (Kd.V_elder' (by (with_reducible repeat (first | apply Kd.V_alloc | apply Kd.V_drewN | apply Kd.V_drew)); exact HO3.out) (Kd.R_base ho20) hb); replace HB := bst HB hb; clear hb ho20) | ((with_reducible refine gate_callee (f := 38) rfl ?_); refine gl_ (some 18) Try.func38 #[.int .i64 2, .int .i64 (l1.length : Int)] rfl ?_; (with_reducible refine (impl_intNode.calls 2 (l1.length : Int) t549 t550 t551 t552 t553 _ A6.out).mono ?_); rintro e w21 ⟨rfl, hb⟩; refine ⟨_, rfl, ?_⟩; replace HO3 := Aside0.mk (Kd.V_below (by (with_reducible repeat (first | apply Kd.V_alloc | apply Kd.V_drewN | apply Kd.V_drew)); exact HO3.out) hb); replace HO548 := Aside0.mk (Kd.R_below (R_later HO548.out) hb); replace HB := bst HB hb; (try clear hb); (try clear hk)) | ((with_reducible refine gate_dst (N := 19) rfl ?_); refine Kd.R_lit k57 _ 57 ?hg (N := 19) ?hd (xs := ([(⟨t549, t550, t551, t552, t553⟩ : S57)] : List (S57))) (inner := [.int .i64 t549, .int .i64 t550, .int .i64 t551, .string t552, .int .i64 t553]) (ok := fun _ => True) (okp := fun _ => True) ?hr ?hp (fun _ hk => hk) trivial (Below.refl _ _) (Nat.le_refl _) (by simp) ?_; (case hd => rfl); (case hg => rfl); (case hr => first | (go_simp; done) | (go_simp; rfl)); (case hp => exact (Reps.c5 (show Kd.M k57 _ _ _ (⟨t549, t550, t551, t552, t553⟩ : S57) [.int .i64 t549, .int .i64 t550, .int .i64 t551, .string t552, .int .i64 t553] from (k57_mkM _ _ _ (⟨t549, t550, t551, t552, t553⟩ : S57) )) (Reps.none _ _))); intro v555 w22 ho23 hb hg_ hnew_; clear hg_ hnew_; (first | rw [← Ny554.out] at ho23 | (simp only [Int.reduceToNat] at ho23; rw [← Ny554.out] at ho23)); have HO556 := Aside0.mk (Kd.R_lower (Kd.R_new' (Kd.R_newM (M := fun k_ => (w.heap.size ≤ k_)) ho23 (below_size (below_later HB.out)) (fun k_ h_ => h_)) (Kd.R_lt (R_later HO548.out))) (below_size (below_later HB.out))); replace HO3 := Aside0.mk (Kd.V_elder' (by (with_reducible repeat (first | apply Kd.V_alloc | apply Kd.V_drewN | apply Kd.V_drew)); exact HO3.out) (Kd.R_base ho23) hb); replace HO548 := Aside0.mk (Kd.R_elder' (R_later HO548.out) (Kd.R_base ho23) hb); replace HB := bst HB hb; clear hb ho23) | ((with_reducible refine gate_callee (f := 38) rfl ?_); refine gl_ (some 22) Try.func38 #[.int .i64 3, .int .i64 (l1.length : Int)] rfl ?_; (with_reducible refine (impl_intNode.calls 3 (l1.length : Int) t557 t558 t559 t560 t561 _ A7.out).mono ?_); rintro e w24 ⟨rfl, hb⟩; refine ⟨_, rfl, ?_⟩; replace HO3 := Aside0.mk (Kd.V_below (by (with_reducible repeat (first | apply Kd.V_alloc | apply Kd.V_drewN | apply Kd.V_drew)); exact HO3.out) hb); replace HO548 := Aside0.mk (Kd.R_below (R_later HO548.out) hb); replace HO556 := Aside0.mk (Kd.R_below (R_later HO556.out) hb); replace HB := bst HB hb; (try clear hb); (try clear hk)) | ((with_reducible refine gate_dst (N := 23) rfl ?_); refine Kd.R_lit k57 _ 57 ?hg (N := 23) ?hd (xs := ([(⟨t557, t558, t559, t560, t561⟩ : S57)] : List (S57))) (inner := [.int .i64 t557, .int .i64 t558, .int .i64 t559, .string t560, .int .i64 t561]) (ok := fun _ => True) (okp := fun _ => True) ?hr ?hp (fun _ hk => hk) trivial (Below.refl _ _) (Nat.le_refl _) (by simp) ?_; (case hd => rfl); (case hg => rfl); (case hr => first | (go_simp; done) | (go_simp; rfl)); (case hp => exact (Reps.c5 (show Kd.M k57 _ _ _ (⟨t557, t558, t559, t560, t561⟩ : S57) [.int .i64 t557, .int .i64 t558, .int .i64 t559, .string t560, .int .i64 t561] from (k57_mkM _ _ _ (⟨t557, t558, t559, t560, t561⟩ : S57) )) (Reps.none _ _))); intro v563 w25 ho26 hb hg_ hnew_; clear hg_ hnew_; (first | rw [← Ny562.out] at ho26 | (simp only [Int.reduceToNat] at ho26; rw [← Ny562.out] at ho26)); have HO564 := Aside0.mk (Kd.R_lower (Kd.R_new' (Kd.R_new' (Kd.R_newM (M := fun k_ => (w.heap.size ≤ k_)) ho26 (below_size (below_later HB.out)) (fun k_ h_ => h_)) (Kd.R_lt (R_later HO548.out))) (Kd.R_lt (R_later HO556.out))) (below_size (below_later HB.out))); replace HO3 := Aside0.mk (Kd.V_elder' (by (with_reducible repeat (first | apply Kd.V_alloc | apply Kd.V_drewN | apply Kd.V_drew)); exact HO3.out) (Kd.R_base ho26) hb); replace HO548 := Aside0.mk (Kd.R_elder' (R_later HO548.out) (Kd.R_base ho26) hb); replace HO556 := Aside0.mk (Kd.R_elder' (R_later HO556.out) (Kd.R_base ho26) hb); replace HB := bst HB hb; clear hb ho26; obtain ⟨Ao27, co27, eo27⟩ := Kd.R_slice HO548.out; subst eo27; obtain ⟨Ao28, co28, eo28⟩ := Kd.R_slice HO556.out; subst eo28; obtain ⟨Ao29, co29, eo29⟩ := Kd.R_slice HO564.out; subst eo29) | ((with_reducible refine gate_dst (N := 24) rfl ?_); refine Kd.N_lit (Kd.slice 57 k57) _ 34 ?hg (N' := 24) ?hd (xs := ([y546, y554, y562] : List (List (S57)))) (inner := [.slice Ao27 y546.length co27, .slice Ao28 y554.length co28, .slice Ao29 y562.length co29]) (ok := (fun k_ => (P3_ k_ ∨ w.heap.size ≤ k_))) (okp := (fun k_ => (P3_ k_ ∨ w.heap.size ≤ k_))) ?hr ?hp (fun _ hk => hk) ((show ∀ k_, w25.heap.size ≤ k_ → (fun k_ => (P3_ k_ ∨ w.heap.size ≤ k_)) k_ from fun k_ hk => (.inr (Nat.le_trans (below_size (below_later HB.out)) hk))) _ (Nat.le_refl _)) (Below.refl _ _) (Nat.le_refl _) (by simp) ?_; (case hd => rfl); (case hg => rfl); (case hr => first | (go_simp; done) | (go_simp; rfl)); (case hp => exact (Reps.one (show Kd.FK (Kd.slice 57 k57) _ _ y546 [.slice Ao27 y546.length co27] from (Kd.FK_slice_mk (Kd.R_reads' (Kd.R_mono (ok' := (fun k_ => (P3_ k_ ∨ w.heap.size ≤ k_))) (HO548.out) (fun k_ hk => (.inr (hk.1.1.1))))).2.1 (Kd.R_F (Kd.R_mono (ok' := (fun k_ => (P3_ k_ ∨ w.heap.size ≤ k_))) (HO548.out) (fun k_ hk => (.inr (hk.1.1.1))))))) (Reps.one (show Kd.FK (Kd.slice 57 k57) _ _ y554 [.slice Ao28 y554.length co28] from (Kd.FK_slice_mk (Kd.R_reads' (Kd.R_mono (ok' := (fun k_ => (P3_ k_ ∨ w.heap.size ≤ k_))) (HO556.out) (fun k_ hk => (.inr (hk.1.1.1))))).2.1 (Kd.R_F (Kd.R_mono (ok' := (fun k_ => (P3_ k_ ∨ w.heap.size ≤ k_))) (HO556.out) (fun k_ hk => (.inr (hk.1.1.1))))))) (Reps.one (show Kd.FK (Kd.slice 57 k57) _ _ y562 [.slice Ao29 y562.length co29] from (Kd.FK_slice_mk (Kd.R_reads' (Kd.R_mono (ok' := (fun k_ => (P3_ k_ ∨ w.heap.size ≤ k_))) (HO564.out) (fun k_ hk => (.inr (hk.1.1.1))))).2.1 (Kd.R_F (Kd.R_mono (ok' := (fun k_ => (P3_ k_ ∨ w.heap.size ≤ k_))) (HO564.out) (fun k_ hk => (.inr (hk.1.1.1))))))) (Reps.none _ _))))); intro v566 w30 ho31 hb hg_ hnew_; clear hg_ hnew_; (first | rw [← Ny565.out] at ho31 | (simp only [Int.reduceToNat] at ho31; rw [← Ny565.out] at ho31)); have n0_ := Aside0.mk (Kd.V_elder' (by (with_reducible repeat (first | apply Kd.V_alloc | apply Kd.V_drewN | apply Kd.V_drew)); exact HO3.out) (Kd.N_base ho31) hb); have n1_ := Aside0.mk (Kd.N_lower ho31 (below_size (below_later HB.out))); have n2_ := bst HB hb; clear HO3; clear HB; clear HO548; clear HO556; clear HO564; have HO3 := n0_; have HO567 := n1_; have HB := n2_; clear n0_ n1_ n2_; clear hb ho31) | ((with_reducible refine gate_callee (f := 66) rfl ?_); refine gl_ (some 27) Try.func66 #[.slice A1 l1.length c1] rfl ?_; (with_reducible refine (impl_CrcOf.calls k _ _ l1 t568 _ ?side1 ?side2 A9.out).mono ?_); (case side1 => repeat (first | exact (Kd.C_below HR1.out HB.out) | (with_reducible refine Kd.C_alloc ?_ _) | (with_reducible refine Kd.C_drewN ?_ _) | (with_reducible refine Kd.C_drew ?_))); (case side2 => exact HC1.out); rintro e w32 ⟨rfl, hb⟩; refine ⟨_, rfl, ?_⟩; replace HO3 := Aside0.mk (Kd.V_below (by (with_reducible repeat (first | apply Kd.V_alloc | apply Kd.V_drewN | apply Kd.V_drew)); exact HO3.out) hb); replace HO567 := Aside0.mk (Kd.N_below (by (with_reducible repeat (first | apply Kd.N_alloc | apply Kd.N_drewN | apply Kd.N_drew)); exact HO567.out) hb); replace HB := bst HB hb; (try clear hb); (try clear hk)) | ((with_reducible refine gate_callee (f := 67) rfl ?_); refine gl_ (some 29) Try.func67 #[.int .i64 t568] rfl ?_; (with_reducible refine (impl_isInt32.calls t568 true _ A10.out).mono ?_); rintro e w' ⟨rfl, ⟨nd, rfl⟩⟩; refine ⟨_, rfl, ?_⟩) | ((with_reducible refine gate_callee (f := 38) rfl ?_); refine gl_ (some 35) Try.func38 #[.int .i64 4, .int .i64 t568] rfl ?_; (with_reducible refine (impl_intNode.calls 4 t568 t570 t571 t572 t573 t574 _ A12.out).mono ?_); rintro e w33 ⟨rfl, hb⟩; refine ⟨_, rfl, ?_⟩; replace HO3 := Aside0.mk (Kd.V_below (by (with_reducible repeat (first | apply Kd.V_alloc | apply Kd.V_drewN | apply Kd.V_drew)); exact HO3.out) hb); replace HO567 := Aside0.mk (Kd.N_below (by (with_reducible repeat (first | apply Kd.N_alloc | apply Kd.N_drewN | apply Kd.N_drew)); exact HO567.out) hb); replace HB := bst HB hb; (try clear hb); (try clear hk)) | ((with_reducible refine gate_dst (N := 36) rfl ?_); refine Kd.R_lit k57 _ 57 ?hg (N := 36) ?hd (xs := ([(⟨t570, t571, t572, t573, t574⟩ : S57)] : List (S57))) (inner := [.int .i64 t570, .int .i64 t571, .int .i64 t572, .string t573, .int .i64 t574]) (ok := fun _ => True) (okp := fun _ => True) ?hr ?hp (fun _ hk => hk) trivial (Below.refl _ _) (Nat.le_refl _) (by simp) ?_; (case hd => rfl); (case hg => rfl); (case hr => first | (go_simp; done) | (go_simp; rfl)); (case hp => exact (Reps.c5 (show Kd.M k57 _ _ _ (⟨t570, t571, t572, t573, t574⟩ : S57) [.int .i64 t570, .int .i64 t571, .int .i64 t572, .string t573, .int .i64 t574] from (k57_mkM _ _ _ (⟨t570, t571, t572, t573, t574⟩ : S57) )) (Reps.none _ _))); intro v576 w34 ho35 hb hg_ hnew_; clear hg_ hnew_; (first | rw [← Ny575.out] at ho35 | (simp only [Int.reduceToNat] at ho35; rw [← Ny575.out] at ho35)); have HO577 := Aside0.mk (Kd.R_lower (Kd.R_newM (M := fun k_ => (w.heap.size ≤ k_)) ho35 (below_size (below_later HB.out)) (fun k_ h_ => h_)) (below_size (below_later HB.out))); replace HO3 := Aside0.mk (Kd.V_elder' (by (with_reducible repeat (first | apply Kd.V_alloc | apply Kd.V_drewN | apply Kd.V_drew)); exact HO3.out) (Kd.R_base ho35) hb); replace HO567 := Aside0.mk (Kd.N_elder' (by (with_reducible repeat (first | apply Kd.N_alloc | apply Kd.N_drewN | apply Kd.N_drew)); exact HO567.out) (Kd.R_base ho35) hb); replace HB := bst HB hb; clear hb ho35; obtain ⟨Ao37, co37, eo37⟩ := Kd.R_slice HO577.out; subst eo37) | ((with_reducible refine gate_builtin (b := .append) (xs := #[.tmp 33, .tmp 37]) rfl ?_); at_builtin; refine Kd.N_append (Kd.slice 57 k57) (w0 := w) w.heap.size rfl (.tmp 33) (.tmp 37) 98 34 (.slice none 0 0) 24 rfl Try.underlying98 info34 rfl (by decide) (by omega) v566 y565 y575 [.slice Ao37 y575.length co37] (fun k_ => (P3_ k_ ∨ w.heap.size ≤ k_)) (fun k_ => ((fun k_ => (P3_ k_ ∨ w.heap.size ≤ k_))) k_ ∧ some k_ ≠ (v566 : Value).ownBlock) rfl rfl ?aP (fun _ hk => hk) ?aF ?aO ?aB ?aS ?aL ?_; (case aP => exact (Kd.FK_slice_mk (Kd.R_reads' (Kd.R_mono (ok' := (fun k_ => ((fun k_ => (P3_ k_ ∨ w.heap.size ≤ k_))) k_ ∧ some k_ ≠ (v566 : Value).ownBlock)) (Kd.R_apart' (HO577.out) (Kd.N_typed HO567.out) (by decide)) (fun k_ hk => ⟨(.inr (hk.1.1)), hk.2⟩))).2.1 (Kd.R_F (Kd.R_mono (ok' := (fun k_ => ((fun k_ => (P3_ k_ ∨ w.heap.size ≤ k_))) k_ ∧ some k_ ≠ (v566 : Value).ownBlock)) (Kd.R_apart' (HO577.out) (Kd.N_typed HO567.out) (by decide)) (fun k_ hk => ⟨(.inr (hk.1.1)), hk.2⟩))))); (case aB => exact (below_later HB.out)); (case aF => exact (fun k_ hk => (.inr (Nat.le_trans (below_size (below_later HB.out)) hk)))); (case aO => exact (by (with_reducible repeat (first | apply Kd.N_alloc | apply Kd.N_drewN | apply Kd.N_drew)); exact Kd.N_mono HO567.out (fun _ hk => hk.1))); (case aS => exact (below_size (below_later HB.out))); (case aL => have := LMc13.out; omega); intro v579 w36 ho hb hg hat; rw [← Ny578.out] at ho; have n0_ := Aside0.mk (Kd.V_afterv (ok := (fun k_ => (P3_ k_ ∨ w.heap.size ≤ k_) ∧ some k_ ≠ (.slice Ao37 y575.length co37 : Value).ownBlock)) (by (with_reducible repeat (first | apply Kd.V_alloc | apply Kd.V_drewN | apply Kd.V_drew)); exact Kd.V_mono HO3.out (fun _ hk => ⟨⟨hk.1.1.1.1.1, hk.2⟩, hk.1.2⟩)) hg hat); have n1_ := Aside0.mk (hb); have n2_ := Aside0.mk (ho); clear HO3; clear HB; clear HO567; clear HO577; have HO3 := n0_; have HB := n1_; have HO580 := n2_; clear n0_ n1_ n2_; clear ho hb hg hat) | ((with_reducible refine gate_builtin (b := .append) (xs := #[.tmp 40, .tmp 42]) rfl ?_); at_builtin; refine Kd.N_append (Kd.slice 57 k57) (w0 := w) w.heap.size rfl (.tmp 40) (.tmp 42) 98 34 (.slice none 0 0) 24 rfl Try.underlying98 info34 rfl (by decide) (by omega) v579 y578 l3 [.slice A3 l3.length c3] (fun k_ => (P3_ k_ ∨ w.heap.size ≤ k_)) (fun k_ => ((fun k_ => (P3_ k_ ∨ w.heap.size ≤ k_))) k_ ∧ some k_ ≠ (v579 : Value).ownBlock) rfl rfl ?aP (fun _ hk => hk) ?aF ?aO ?aB ?aS ?aL ?_; (case aP => exact (Kd.FK_slice_mk (Kd.V_reads' (Kd.V_mono (ok' := (fun k_ => ((fun k_ => (P3_ k_ ∨ w.heap.size ≤ k_))) k_ ∧ some k_ ≠ (v579 : Value).ownBlock)) (HO3.out) (fun k_ hk => ⟨hk.1.1, hk.2⟩))).2.1 (Kd.V_F (Kd.V_mono (ok' := (fun k_ => ((fun k_ => (P3_ k_ ∨ w.heap.size ≤ k_))) k_ ∧ some k_ ≠ (v579 : Value).ownBlock)) (HO3.out) (fun k_ hk => ⟨hk.1.1, hk.2⟩))))); (case aB => exact (below_later HB.out)); (case aF => exact (fun k_ hk => (.inr (Nat.le_trans (below_size (below_later HB.out)) hk)))); (case aO => exact (by (with_reducible repeat (first | apply Kd.N_alloc | apply Kd.N_drewN | apply Kd.N_drew)); exact HO580.out)); (case aS => exact (below_size (below_later HB.out))); (case aL => have := LMc14.out; omega); intro v582 w38 ho hb hg hat; rw [← Ny581.out] at ho; have n0_ := Aside0.mk (Kd.V_afterv (ok := (fun k_ => (P3_ k_ ∨ w.heap.size ≤ k_))) (by (with_reducible repeat (first | apply Kd.V_alloc | apply Kd.V_drewN | apply Kd.V_drew)); exact Kd.V_mono HO3.out (fun _ hk => ⟨hk.1.1, hk.2⟩)) hg hat); have n1_ := Aside0.mk (hb); have n2_ := Aside0.mk (ho); clear HO3; clear HB; clear HO580; have HO3 := n0_; have HB := n1_; have HO583 := n2_; clear n0_ n1_ n2_; clear ho hb hg hat; obtain ⟨Ao39, co39, eo39⟩ := Kd.N_slice HO583.out; subst eo39) | ((with_reducible refine gate_callee (f := 37) rfl ?_); refine gl_ (some 44) Try.func37 #[.int .i64 0, .slice Ao39 y581.length co39] rfl ?_; (with_reducible refine (impl_structNode.calls k 0 _ _ y581 t584 _ ?side1 ?side2 A15.out).mono ?_); (case side1 => repeat (first | exact (Kd.N_reads' HO583.out).2.2 | (with_reducible refine Kd.C_alloc ?_ _) | (with_reducible refine Kd.C_drewN ?_ _) | (with_reducible refine Kd.C_drew ?_))); (case side2 => exact (Kd.N_reads' HO583.out).2.1); rintro e w40 ⟨v585, rfl, ho0, hb⟩; refine ⟨_, rfl, ?_⟩; have HO586 := Aside0.mk (Kd.R_lower (Kd.R_newM (M := fun k_ => (w.heap.size ≤ k_)) ho0 (below_size (below_later HB.out)) (fun k_ h_ => h_)) (below_size (below_later HB.out))); replace HO3 := Aside0.mk (Kd.V_elder' (by (with_reducible repeat (first | apply Kd.V_alloc | apply Kd.V_drewN | apply Kd.V_drew)); exact HO3.out) (Kd.R_base ho0) hb); replace HO583 := Aside0.mk (Kd.N_elder' (by (with_reducible repeat (first | apply Kd.N_alloc | apply Kd.N_drewN | apply Kd.N_drew)); exact HO583.out) (Kd.R_base ho0) hb); replace HB := bst HB hb; (try clear hb); (try clear hk); (try clear ho0); obtain ⟨Ao41, co41, eo41⟩ := Kd.R_slice HO586.out; subst eo41) | ((with_reducible refine gate_callee (f := 68) rfl ?_); refine gl_ (some 45) Try.func68 #[.slice Ao41 t584.length co41] rfl ?_; (with_reducible refine (impl_TreePack.calls k _ _ t584 t587 t588 _ ?side1 ?side2 A16.out).mono ?_); (case side1 => repeat (first | exact (Kd.R_reads' HO586.out).2.2 | (with_reducible refine Kd.C_alloc ?_ _) | (with_reducible refine Kd.C_drewN ?_ _) | (with_reducible refine Kd.C_drew ?_))); (case side2 => exact (Kd.R_reads' HO586.out).2.1); rintro e w42 ⟨v589, rfl, ho0, hb⟩; refine ⟨_, rfl, ?_⟩; have HO590 := Aside0.mk (Kd.R_lower (Kd.R_newM (M := fun k_ => (w.heap.size ≤ k_)) ho0 (below_size (below_later HB.out)) (fun k_ h_ => h_)) (below_size (below_later HB.out))); replace HO3 := Aside0.mk (Kd.V_elder' (by (with_reducible repeat (first | apply Kd.V_alloc | apply Kd.V_drewN | apply Kd.V_drew)); exact HO3.out) (Kd.R_base ho0) hb); replace HO583 := Aside0.mk (Kd.N_elder' (by (with_reducible repeat (first | apply Kd.N_alloc | apply Kd.N_drewN | apply Kd.N_drew)); exact HO583.out) (Kd.R_base ho0) hb); replace HO586 := Aside0.mk (Kd.R_below (R_later HO586.out) hb); replace HB := bst HB hb; (try clear hb); (try clear hk); (try clear ho0)) | ((with_reducible refine gate_builtin (b := .append) (xs := #[.tmp 48, .tmp 49]) rfl ?_); at_builtin; refine Kd.R_append_rows (Kd.int .u8) (w0 := w) w.heap.size rfl (.tmp 48) (.tmp 49) 41 5 (.int .u8 0) 1 rfl Try.underlying41 info5 rfl (by decide) (by omega) v589 t587 l1 _ _ _ (fun k_ => (w.heap.size ≤ k_)) (fun _ => False) rfl rfl ?aO ?aR (fun _ _ h => h) (fun _ h => h.elim) ?aF ?aB ?aS ?aL ?_; (case aR => repeat (first | exact (Kd.C_below HR1.out HB.out) | (with_reducible refine Kd.C_alloc ?_ _) | (with_reducible refine Kd.C_drewN ?_ _) | (with_reducible refine Kd.C_drew ?_))); (case aB => exact (below_later HB.out)); (case aF => exact (fun k_ hk => (Nat.le_trans (below_size (below_later HB.out)) hk))); (case aO => exact (by (with_reducible repeat (first | apply Kd.R_alloc | apply Kd.R_drewN | apply Kd.R_drew)); exact Kd.R_mono HO590.out (fun _ hk => hk.1))); (case aS => exact (below_size (below_later HB.out))); (case aL => have := LMc17.out; omega); intro v592 w43 ho hb hg hat; rw [← Ny591.out] at ho; have n0_ := Aside0.mk (Kd.V_afterv (ok := (fun k_ => (P3_ k_ ∨ w.heap.size ≤ k_) ∧ some k_ ≠ (.slice Ao39 y581.length co39 : Value).ownBlock ∧ some k_ ≠ (.slice Ao41 t584.length co41 : Value).ownBlock)) (by (with_reducible repeat (first | apply Kd.V_alloc | apply Kd.V_drewN | apply Kd.V_drew)); exact Kd.V_mono HO3.out (fun _ hk => ⟨⟨hk.1.1.1, ⟨hk.1.1.2, hk.1.2⟩⟩, hk.2⟩)) hg hat); have n1_ := Aside0.mk (Kd.N_afterv (ok := (fun k_ => (P3_ k_ ∨ w.heap.size ≤ k_) ∧ some k_ ≠ (.slice Ao41 t584.length co41 : Value).ownBlock)) (by (with_reducible repeat (first | apply Kd.N_alloc | apply Kd.N_drewN | apply Kd.N_drew)); exact HO583.out) hg hat); have n2_ := Aside0.mk (Kd.R_over' (R_later HO586.out) (Kd.R_typed (R_later HO590.out)) (by decide) hg); have n3_ := Aside0.mk (hb); have n4_ := Aside0.mk (ho); clear HO3; clear HO583; clear HO586; clear HB; clear HO590; have HO3 := n0_; have HO583 := n1_; have HO586 := n2_; have HB := n3_; have HO593 := n4_; clear n0_ n1_ n2_ n3_ n4_; clear ho hb hg hat))
      go_ret
      exact ⟨_, by first | rfl | (simp [errW_none, errW_some] <;> rfl) | (simp [*, errW_none, errW_some] <;> rfl), by (with_reducible repeat (first | apply Kd.R_alloc | apply Kd.R_drewN | apply Kd.R_drew)); exact HO593.out, below_later HB.out⟩
    · replace c11 := Bool.eq_false_iff.mpr c11
      subst c11
      replace H := ifn Bool.false_ne_true H
      replace H := Option.bind_eq_some_iff.mp H
      obtain ⟨⟨t594, t595, t596, t597, t598⟩, A440, H⟩ := H
      replace H : (if y565.length < 5864062014805 then ((some (y565 ++ [(([(⟨t594, t595, t596, t597, t598⟩ : S57)] : List (S57)))] : List (List (S57)))).bind fun y602 => (if y602.length < 5864062014805 then ((impl_structNode.f k 0 (y602 ++ [l3])).bind fun t608 => ((impl_TreePack.f k t608).bind fun bt611 => (if bt611.1.length + l1.length < 140737488355328 then (some (bt611.1 ++ l1)) else (none)))) else (none))) else (none)) = some r := H
      have A44 := Aside0.mk A440
      clear A440
      obtain ⟨y599, hy599⟩ : ∃ y_ : List (S57), y_ = (([(⟨t594, t595, t596, t597, t598⟩ : S57)] : List (S57))) := ⟨_, rfl⟩
      replace H : (if y565.length < 5864062014805 then ((some (y565 ++ [y599] : List (List (S57)))).bind fun y602 => (if y602.length < 5864062014805 then ((impl_structNode.f k 0 (y602 ++ [l3])).bind fun t608 => ((impl_TreePack.f k t608).bind fun bt611 => (if bt611.1.length + l1.length < 140737488355328 then (some (bt611.1 ++ l1)) else (none)))) else (none))) else (none)) = some r := by first | (rw [hy599]; with_reducible exact H) | (rw [hy599]; exact H) | exact H
      have Ny599 := Aside0.mk hy599
      clear hy599
      replace H := ifs H
      obtain ⟨c45, H⟩ := H
      have LMc45 := Aside0.mk c45
      clear c45
      replace H := bsm H
      obtain ⟨y602, Ny602, H⟩ := H
      replace H := ifs H
      obtain ⟨c46, H⟩ := H
      have LMc46 := Aside0.mk c46
      clear c46
      obtain ⟨y605, hy605⟩ : ∃ y_ : List (List (S57)), y_ = (y602 ++ [l3]) := ⟨_, rfl⟩
      replace H : ((impl_structNode.f k 0 y605).bind fun t608 => ((impl_TreePack.f k t608).bind fun bt611 => (if bt611.1.length + l1.length < 140737488355328 then (some (bt611.1 ++ l1)) else (none)))) = some r := by first | (rw [hy605]; with_reducible exact H) | (rw [hy605]; exact H) | exact H
      have Ny605 := Aside0.mk hy605
      clear hy605
      replace H := bnd H
      obtain ⟨t608, A47, H⟩ := H
      replace H := Option.bind_eq_some_iff.mp H
      obtain ⟨⟨t611, t612⟩, A480, H⟩ := H
      replace H : (if t611.length + l1.length < 140737488355328 then (some (t611 ++ l1)) else (none)) = some r := H
      have A48 := Aside0.mk A480
      clear A480
      replace H := ifs H
      obtain ⟨c49, H⟩ := H
      have LMc49 := Aside0.mk c49
      clear c49
      obtain ⟨y615, hy615⟩ : ∃ y_ : List Int, y_ = (t611 ++ l1) := ⟨_, rfl⟩
      replace H : (some y615) = some r := by first | (rw [hy615]; with_reducible exact H) | (rw [hy615]; exact H) | exact H
      have Ny615 := Aside0.mk hy615
      clear hy615
      obtain rfl := Option.some.inj H
      go_enter Try.func39, Try.ntmps39
      go_wp2_with (first | ((with_reducible refine gate_callee (f := 38) rfl ?_); refine gl_ (some 14) Try.func38 #[.int .i64 1, .int .i64 a0] rfl ?_; (with_reducible refine (impl_intNode.calls 1 a0 t541 t542 t543 t544 t545 _ A5.out).mono ?_); rintro e w50 ⟨rfl, hb⟩; refine ⟨_, rfl, ?_⟩; replace HO3 := Aside0.mk (Kd.V_below (by (with_reducible repeat (first | apply Kd.V_alloc | apply Kd.V_drewN | apply Kd.V_drew)); exact HO3.out) hb); replace HB := bst HB hb; (try clear hb); (try clear hk)) | ((with_reducible refine gate_dst (N := 15) rfl ?_); refine Kd.R_lit k57 _ 57 ?hg (N := 15) ?hd (xs := ([(⟨t541, t542, t543, t544, t545⟩ : S57)] : List (S57))) (inner := [.int .i64 t541, .int .i64 t542, .int .i64 t543, .string t544, .int .i64 t545]) (ok := fun _ => True) (okp := fun _ => True) ?hr ?hp (fun _ hk => hk) trivial (Below.refl _ _) (Nat.le_refl _) (by simp) ?_; (case hd => rfl); (case hg => rfl); (case hr => first | (go_simp; done) | (go_simp; rfl)); (case hp => exact (Reps.c5 (show Kd.M k57 _ _ _ (⟨t541, t542, t543, t544, t545⟩ : S57) [.int .i64 t541, .int .i64 t542, .int .i64 t543, .string t544, .int .i64 t545] from (k57_mkM _ _ _ (⟨t541, t542, t543, t544, t545⟩ : S57) )) (Reps.none _ _))); intro v547 w51 ho52 hb hg_ hnew_; clear hg_ hnew_; (first | rw [← Ny546.out] at ho52 | (simp only [Int.reduceToNat] at ho52; rw [← Ny546.out] at ho52)); have HO548 := Aside0.mk (Kd.R_lower (Kd.R_newM (M := fun k_ => (w.heap.size ≤ k_)) ho52 (below_size (below_later HB.out)) (fun k_ h_ => h_)) (below_size (below_later HB.out))); replace HO3 := Aside0.mk (Kd.V_elder' (by (with_reducible repeat (first | apply Kd.V_alloc | apply Kd.V_drewN | apply Kd.V_drew)); exact HO3.out) (Kd.R_base ho52) hb); replace HB := bst HB hb; clear hb ho52) | ((with_reducible refine gate_callee (f := 38) rfl ?_); refine gl_ (some 18) Try.func38 #[.int .i64 2, .int .i64 (l1.length : Int)] rfl ?_; (with_reducible refine (impl_intNode.calls 2 (l1.length : Int) t549 t550 t551 t552 t553 _ A6.out).mono ?_); rintro e w53 ⟨rfl, hb⟩; refine ⟨_, rfl, ?_⟩; replace HO3 := Aside0.mk (Kd.V_below (by (with_reducible repeat (first | apply Kd.V_alloc | apply Kd.V_drewN | apply Kd.V_drew)); exact HO3.out) hb); replace HO548 := Aside0.mk (Kd.R_below (R_later HO548.out) hb); replace HB := bst HB hb; (try clear hb); (try clear hk)) | ((with_reducible refine gate_dst (N := 19) rfl ?_); refine Kd.R_lit k57 _ 57 ?hg (N := 19) ?hd (xs := ([(⟨t549, t550, t551, t552, t553⟩ : S57)] : List (S57))) (inner := [.int .i64 t549, .int .i64 t550, .int .i64 t551, .string t552, .int .i64 t553]) (ok := fun _ => True) (okp := fun _ => True) ?hr ?hp (fun _ hk => hk) trivial (Below.refl _ _) (Nat.le_refl _) (by simp) ?_; (case hd => rfl); (case hg => rfl); (case hr => first | (go_simp; done) | (go_simp; rfl)); (case hp => exact (Reps.c5 (show Kd.M k57 _ _ _ (⟨t549, t550, t551, t552, t553⟩ : S57) [.int .i64 t549, .int .i64 t550, .int .i64 t551, .string t552, .int .i64 t553] from (k57_mkM _ _ _ (⟨t549, t550, t551, t552, t553⟩ : S57) )) (Reps.none _ _))); intro v555 w54 ho55 hb hg_ hnew_; clear hg_ hnew_; (first | rw [← Ny554.out] at ho55 | (simp only [Int.reduceToNat] at ho55; rw [← Ny554.out] at ho55)); have HO556 := Aside0.mk (Kd.R_lower (Kd.R_new' (Kd.R_newM (M := fun k_ => (w.heap.size ≤ k_)) ho55 (below_size (below_later HB.out)) (fun k_ h_ => h_)) (Kd.R_lt (R_later HO548.out))) (below_size (below_later HB.out))); replace HO3 := Aside0.mk (Kd.V_elder' (by (with_reducible repeat (first | apply Kd.V_alloc | apply Kd.V_drewN | apply Kd.V_drew)); exact HO3.out) (Kd.R_base ho55) hb); replace HO548 := Aside0.mk (Kd.R_elder' (R_later HO548.out) (Kd.R_base ho55) hb); replace HB := bst HB hb; clear hb ho55) | ((with_reducible refine gate_callee (f := 38) rfl ?_); refine gl_ (some 22) Try.func38 #[.int .i64 3, .int .i64 (l1.length : Int)] rfl ?_; (with_reducible refine (impl_intNode.calls 3 (l1.length : Int) t557 t558 t559 t560 t561 _ A7.out).mono ?_); rintro e w56 ⟨rfl, hb⟩; refine ⟨_, rfl, ?_⟩; replace HO3 := Aside0.mk (Kd.V_below (by (with_reducible repeat (first | apply Kd.V_alloc | apply Kd.V_drewN | apply Kd.V_drew)); exact HO3.out) hb); replace HO548 := Aside0.mk (Kd.R_below (R_later HO548.out) hb); replace HO556 := Aside0.mk (Kd.R_below (R_later HO556.out) hb); replace HB := bst HB hb; (try clear hb); (try clear hk)) | ((with_reducible refine gate_dst (N := 23) rfl ?_); refine Kd.R_lit k57 _ 57 ?hg (N := 23) ?hd (xs := ([(⟨t557, t558, t559, t560, t561⟩ : S57)] : List (S57))) (inner := [.int .i64 t557, .int .i64 t558, .int .i64 t559, .string t560, .int .i64 t561]) (ok := fun _ => True) (okp := fun _ => True) ?hr ?hp (fun _ hk => hk) trivial (Below.refl _ _) (Nat.le_refl _) (by simp) ?_; (case hd => rfl); (case hg => rfl); (case hr => first | (go_simp; done) | (go_simp; rfl)); (case hp => exact (Reps.c5 (show Kd.M k57 _ _ _ (⟨t557, t558, t559, t560, t561⟩ : S57) [.int .i64 t557, .int .i64 t558, .int .i64 t559, .string t560, .int .i64 t561] from (k57_mkM _ _ _ (⟨t557, t558, t559, t560, t561⟩ : S57) )) (Reps.none _ _))); intro v563 w57 ho58 hb hg_ hnew_; clear hg_ hnew_; (first | rw [← Ny562.out] at ho58 | (simp only [Int.reduceToNat] at ho58; rw [← Ny562.out] at ho58)); have HO564 := Aside0.mk (Kd.R_lower (Kd.R_new' (Kd.R_new' (Kd.R_newM (M := fun k_ => (w.heap.size ≤ k_)) ho58 (below_size (below_later HB.out)) (fun k_ h_ => h_)) (Kd.R_lt (R_later HO548.out))) (Kd.R_lt (R_later HO556.out))) (below_size (below_later HB.out))); replace HO3 := Aside0.mk (Kd.V_elder' (by (with_reducible repeat (first | apply Kd.V_alloc | apply Kd.V_drewN | apply Kd.V_drew)); exact HO3.out) (Kd.R_base ho58) hb); replace HO548 := Aside0.mk (Kd.R_elder' (R_later HO548.out) (Kd.R_base ho58) hb); replace HO556 := Aside0.mk (Kd.R_elder' (R_later HO556.out) (Kd.R_base ho58) hb); replace HB := bst HB hb; clear hb ho58; obtain ⟨Ao59, co59, eo59⟩ := Kd.R_slice HO548.out; subst eo59; obtain ⟨Ao60, co60, eo60⟩ := Kd.R_slice HO556.out; subst eo60; obtain ⟨Ao61, co61, eo61⟩ := Kd.R_slice HO564.out; subst eo61) | ((with_reducible refine gate_dst (N := 24) rfl ?_); refine Kd.N_lit (Kd.slice 57 k57) _ 34 ?hg (N' := 24) ?hd (xs := ([y546, y554, y562] : List (List (S57)))) (inner := [.slice Ao59 y546.length co59, .slice Ao60 y554.length co60, .slice Ao61 y562.length co61]) (ok := (fun k_ => (P3_ k_ ∨ w.heap.size ≤ k_))) (okp := (fun k_ => (P3_ k_ ∨ w.heap.size ≤ k_))) ?hr ?hp (fun _ hk => hk) ((show ∀ k_, w57.heap.size ≤ k_ → (fun k_ => (P3_ k_ ∨ w.heap.size ≤ k_)) k_ from fun k_ hk => (.inr (Nat.le_trans (below_size (below_later HB.out)) hk))) _ (Nat.le_refl _)) (Below.refl _ _) (Nat.le_refl _) (by simp) ?_; (case hd => rfl); (case hg => rfl); (case hr => first | (go_simp; done) | (go_simp; rfl)); (case hp => exact (Reps.one (show Kd.FK (Kd.slice 57 k57) _ _ y546 [.slice Ao59 y546.length co59] from (Kd.FK_slice_mk (Kd.R_reads' (Kd.R_mono (ok' := (fun k_ => (P3_ k_ ∨ w.heap.size ≤ k_))) (HO548.out) (fun k_ hk => (.inr (hk.1.1.1))))).2.1 (Kd.R_F (Kd.R_mono (ok' := (fun k_ => (P3_ k_ ∨ w.heap.size ≤ k_))) (HO548.out) (fun k_ hk => (.inr (hk.1.1.1))))))) (Reps.one (show Kd.FK (Kd.slice 57 k57) _ _ y554 [.slice Ao60 y554.length co60] from (Kd.FK_slice_mk (Kd.R_reads' (Kd.R_mono (ok' := (fun k_ => (P3_ k_ ∨ w.heap.size ≤ k_))) (HO556.out) (fun k_ hk => (.inr (hk.1.1.1))))).2.1 (Kd.R_F (Kd.R_mono (ok' := (fun k_ => (P3_ k_ ∨ w.heap.size ≤ k_))) (HO556.out) (fun k_ hk => (.inr (hk.1.1.1))))))) (Reps.one (show Kd.FK (Kd.slice 57 k57) _ _ y562 [.slice Ao61 y562.length co61] from (Kd.FK_slice_mk (Kd.R_reads' (Kd.R_mono (ok' := (fun k_ => (P3_ k_ ∨ w.heap.size ≤ k_))) (HO564.out) (fun k_ hk => (.inr (hk.1.1.1))))).2.1 (Kd.R_F (Kd.R_mono (ok' := (fun k_ => (P3_ k_ ∨ w.heap.size ≤ k_))) (HO564.out) (fun k_ hk => (.inr (hk.1.1.1))))))) (Reps.none _ _))))); intro v566 w62 ho63 hb hg_ hnew_; clear hg_ hnew_; (first | rw [← Ny565.out] at ho63 | (simp only [Int.reduceToNat] at ho63; rw [← Ny565.out] at ho63)); have n0_ := Aside0.mk (Kd.V_elder' (by (with_reducible repeat (first | apply Kd.V_alloc | apply Kd.V_drewN | apply Kd.V_drew)); exact HO3.out) (Kd.N_base ho63) hb); have n1_ := Aside0.mk (Kd.N_lower ho63 (below_size (below_later HB.out))); have n2_ := bst HB hb; clear HO3; clear HB; clear HO548; clear HO556; clear HO564; have HO3 := n0_; have HO567 := n1_; have HB := n2_; clear n0_ n1_ n2_; clear hb ho63) | ((with_reducible refine gate_callee (f := 66) rfl ?_); refine gl_ (some 27) Try.func66 #[.slice A1 l1.length c1] rfl ?_; (with_reducible refine (impl_CrcOf.calls k _ _ l1 t568 _ ?side1 ?side2 A9.out).mono ?_); (case side1 => repeat (first | exact (Kd.C_below HR1.out HB.out) | (with_reducible refine Kd.C_alloc ?_ _) | (with_reducible refine Kd.C_drewN ?_ _) | (with_reducible refine Kd.C_drew ?_))); (case side2 => exact HC1.out); rintro e w64 ⟨rfl, hb⟩; refine ⟨_, rfl, ?_⟩; replace HO3 := Aside0.mk (Kd.V_below (by (with_reducible repeat (first | apply Kd.V_alloc | apply Kd.V_drewN | apply Kd.V_drew)); exact HO3.out) hb); replace HO567 := Aside0.mk (Kd.N_below (by (with_reducible repeat (first | apply Kd.N_alloc | apply Kd.N_drewN | apply Kd.N_drew)); exact HO567.out) hb); replace HB := bst HB hb; (try clear hb); (try clear hk)) | ((with_reducible refine gate_callee (f := 67) rfl ?_); refine gl_ (some 29) Try.func67 #[.int .i64 t568] rfl ?_; (with_reducible refine (impl_isInt32.calls t568 false _ A10.out).mono ?_); rintro e w' ⟨rfl, ⟨nd, rfl⟩⟩; refine ⟨_, rfl, ?_⟩) | ((with_reducible refine gate_callee (f := 38) rfl ?_); refine gl_ (some 35) Try.func38 #[.int .i64 4, .int .i64 (wrap64 (t568 - 4294967296))] rfl ?_; (with_reducible refine (impl_intNode.calls 4 (wrap64 (t568 - 4294967296)) t594 t595 t596 t597 t598 _ A44.out).mono ?_); rintro e w65 ⟨rfl, hb⟩; refine ⟨_, rfl, ?_⟩; replace HO3 := Aside0.mk (Kd.V_below (by (with_reducible repeat (first | apply Kd.V_alloc | apply Kd.V_drewN | apply Kd.V_drew)); exact HO3.out) hb); replace HO567 := Aside0.mk (Kd.N_below (by (with_reducible repeat (first | apply Kd.N_alloc | apply Kd.N_drewN | apply Kd.N_drew)); exact HO567.out) hb); replace HB := bst HB hb; (try clear hb); (try clear hk)) | ((with_reducible refine gate_dst (N := 36) rfl ?_); refine Kd.R_lit k57 _ 57 ?hg (N := 36) ?hd (xs := ([(⟨t594, t595, t596, t597, t598⟩ : S57)] : List (S57))) (inner := [.int .i64 t594, .int .i64 t595, .int .i64 t596, .string t597, .int .i64 t598]) (ok := fun _ => True) (okp := fun _ => True) ?hr ?hp (fun _ hk => hk) trivial (Below.refl _ _) (Nat.le_refl _) (by simp) ?_; (case hd => rfl); (case hg => rfl); (case hr => first | (go_simp; done) | (go_simp; rfl)); (case hp => exact (Reps.c5 (show Kd.M k57 _ _ _ (⟨t594, t595, t596, t597, t598⟩ : S57) [.int .i64 t594, .int .i64 t595, .int .i64 t596, .string t597, .int .i64 t598] from (k57_mkM _ _ _ (⟨t594, t595, t596, t597, t598⟩ : S57) )) (Reps.none _ _))); intro v600 w66 ho67 hb hg_ hnew_; clear hg_ hnew_; (first | rw [← Ny599.out] at ho67 | (simp only [Int.reduceToNat] at ho67; rw [← Ny599.out] at ho67)); have HO601 := Aside0.mk (Kd.R_lower (Kd.R_newM (M := fun k_ => (w.heap.size ≤ k_)) ho67 (below_size (below_later HB.out)) (fun k_ h_ => h_)) (below_size (below_later HB.out))); replace HO3 := Aside0.mk (Kd.V_elder' (by (with_reducible repeat (first | apply Kd.V_alloc | apply Kd.V_drewN | apply Kd.V_drew)); exact HO3.out) (Kd.R_base ho67) hb); replace HO567 := Aside0.mk (Kd.N_elder' (by (with_reducible repeat (first | apply Kd.N_alloc | apply Kd.N_drewN | apply Kd.N_drew)); exact HO567.out) (Kd.R_base ho67) hb); replace HB := bst HB hb; clear hb ho67; obtain ⟨Ao69, co69, eo69⟩ := Kd.R_slice HO601.out; subst eo69) | ((with_reducible refine gate_builtin (b := .append) (xs := #[.tmp 33, .tmp 37]) rfl ?_); at_builtin; refine Kd.N_append (Kd.slice 57 k57) (w0 := w) w.heap.size rfl (.tmp 33) (.tmp 37) 98 34 (.slice none 0 0) 24 rfl Try.underlying98 info34 rfl (by decide) (by omega) v566 y565 y599 [.slice Ao69 y599.length co69] (fun k_ => (P3_ k_ ∨ w.heap.size ≤ k_)) (fun k_ => ((fun k_ => (P3_ k_ ∨ w.heap.size ≤ k_))) k_ ∧ some k_ ≠ (v566 : Value).ownBlock) rfl rfl ?aP (fun _ hk => hk) ?aF ?aO ?aB ?aS ?aL ?_; (case aP => exact (Kd.FK_slice_mk (Kd.R_reads' (Kd.R_mono (ok' := (fun k_ => ((fun k_ => (P3_ k_ ∨ w.heap.size ≤ k_))) k_ ∧ some k_ ≠ (v566 : Value).ownBlock)) (Kd.R_apart' (HO601.out) (Kd.N_typed HO567.out) (by decide)) (fun k_ hk => ⟨(.inr (hk.1.1)), hk.2⟩))).2.1 (Kd.R_F (Kd.R_mono (ok' := (fun k_ => ((fun k_ => (P3_ k_ ∨ w.heap.size ≤ k_))) k_ ∧ some k_ ≠ (v566 : Value).ownBlock)) (Kd.R_apart' (HO601.out) (Kd.N_typed HO567.out) (by decide)) (fun k_ hk => ⟨(.inr (hk.1.1)), hk.2⟩))))); (case aB => exact (below_later HB.out)); (case aF => exact (fun k_ hk => (.inr (Nat.le_trans (below_size (below_later HB.out)) hk)))); (case aO => exact (by (with_reducible repeat (first | apply Kd.N_alloc | apply Kd.N_drewN | apply Kd.N_drew)); exact Kd.N_mono HO567.out (fun _ hk => hk.1))); (case aS => exact (below_size (below_later HB.out))); (case aL => have := LMc45.out; omega); intro v603 w68 ho hb hg hat; rw [← Ny602.out] at ho; have n0_ := Aside0.mk (Kd.V_afterv (ok := (fun k_ => (P3_ k_ ∨ w.heap.size ≤ k_) ∧ some k_ ≠ (.slice Ao69 y599.length co69 : Value).ownBlock)) (by (with_reducible repeat (first | apply Kd.V_alloc | apply Kd.V_drewN | apply Kd.V_drew)); exact Kd.V_mono HO3.out (fun _ hk => ⟨⟨hk.1.1.1.1.1, hk.2⟩, hk.1.2⟩)) hg hat); have n1_ := Aside0.mk (hb); have n2_ := Aside0.mk (ho); clear HO3; clear HB; clear HO567; clear HO601; have HO3 := n0_; have HB := n1_; have HO604 := n2_; clear n0_ n1_ n2_; clear ho hb hg hat) | ((with_reducible refine gate_builtin (b := .append) (xs := #[.tmp 40, .tmp 42]) rfl ?_); at_builtin; refine Kd.N_append (Kd.slice 57 k57) (w0 := w) w.heap.size rfl (.tmp 40) (.tmp 42) 98 34 (.slice none 0 0) 24 rfl Try.underlying98 info34 rfl (by decide) (by omega) v603 y602 l3 [.slice A3 l3.length c3] (fun k_ => (P3_ k_ ∨ w.heap.size ≤ k_)) (fun k_ => ((fun k_ => (P3_ k_ ∨ w.heap.size ≤ k_))) k_ ∧ some k_ ≠ (v603 : Value).ownBlock) rfl rfl ?aP (fun _ hk => hk) ?aF ?aO ?aB ?aS ?aL ?_; (case aP => exact (Kd.FK_slice_mk (Kd.V_reads' (Kd.V_mono (ok' := (fun k_ => ((fun k_ => (P3_ k_ ∨ w.heap.size ≤ k_))) k_ ∧ some k_ ≠ (v603 : Value).ownBlock)) (HO3.out) (fun k_ hk => ⟨hk.1.1, hk.2⟩))).2.1 (Kd.V_F (Kd.V_mono (ok' := (fun k_ => ((fun k_ => (P3_ k_ ∨ w.heap.size ≤ k_))) k_ ∧ some k_ ≠ (v603 : Value).ownBlock)) (HO3.out) (fun k_ hk => ⟨hk.1.1, hk.2⟩))))); (case aB => exact (below_later HB.out)); (case aF => exact (fun k_ hk => (.inr (Nat.le_trans (below_size (below_later HB.out)) hk)))); (case aO => exact (by (with_reducible repeat (first | apply Kd.N_alloc | apply Kd.N_drewN | apply Kd.N_drew)); exact HO604.out)); (case aS => exact (below_size (below_later HB.out))); (case aL => have := LMc46.out; omega); intro v606 w70 ho hb hg hat; rw [← Ny605.out] at ho; have n0_ := Aside0.mk (Kd.V_afterv (ok := (fun k_ => (P3_ k_ ∨ w.heap.size ≤ k_))) (by (with_reducible repeat (first | apply Kd.V_alloc | apply Kd.V_drewN | apply Kd.V_drew)); exact Kd.V_mono HO3.out (fun _ hk => ⟨hk.1.1, hk.2⟩)) hg hat); have n1_ := Aside0.mk (hb); have n2_ := Aside0.mk (ho); clear HO3; clear HB; clear HO604; have HO3 := n0_; have HB := n1_; have HO607 := n2_; clear n0_ n1_ n2_; clear ho hb hg hat; obtain ⟨Ao71, co71, eo71⟩ := Kd.N_slice HO607.out; subst eo71) | ((with_reducible refine gate_callee (f := 37) rfl ?_); refine gl_ (some 44) Try.func37 #[.int .i64 0, .slice Ao71 y605.length co71] rfl ?_; (with_reducible refine (impl_structNode.calls k 0 _ _ y605 t608 _ ?side1 ?side2 A47.out).mono ?_); (case side1 => repeat (first | exact (Kd.N_reads' HO607.out).2.2 | (with_reducible refine Kd.C_alloc ?_ _) | (with_reducible refine Kd.C_drewN ?_ _) | (with_reducible refine Kd.C_drew ?_))); (case side2 => exact (Kd.N_reads' HO607.out).2.1); rintro e w72 ⟨v609, rfl, ho0, hb⟩; refine ⟨_, rfl, ?_⟩; have HO610 := Aside0.mk (Kd.R_lower (Kd.R_newM (M := fun k_ => (w.heap.size ≤ k_)) ho0 (below_size (below_later HB.out)) (fun k_ h_ => h_)) (below_size (below_later HB.out))); replace HO3 := Aside0.mk (Kd.V_elder' (by (with_reducible repeat (first | apply Kd.V_alloc | apply Kd.V_drewN | apply Kd.V_drew)); exact HO3.out) (Kd.R_base ho0) hb); replace HO607 := Aside0.mk (Kd.N_elder' (by (with_reducible repeat (first | apply Kd.N_alloc | apply Kd.N_drewN | apply Kd.N_drew)); exact HO607.out) (Kd.R_base ho0) hb); replace HB := bst HB hb; (try clear hb); (try clear hk); (try clear ho0); obtain ⟨Ao73, co73, eo73⟩ := Kd.R_slice HO610.out; subst eo73) | ((with_reducible refine gate_callee (f := 68) rfl ?_); refine gl_ (some 45) Try.func68 #[.slice Ao73 t608.length co73] rfl ?_; (with_reducible refine (impl_TreePack.calls k _ _ t608 t611 t612 _ ?side1 ?side2 A48.out).mono ?_); (case side1 => repeat (first | exact (Kd.R_reads' HO610.out).2.2 | (with_reducible refine Kd.C_alloc ?_ _) | (with_reducible refine Kd.C_drewN ?_ _) | (with_reducible refine Kd.C_drew ?_))); (case side2 => exact (Kd.R_reads' HO610.out).2.1); rintro e w74 ⟨v613, rfl, ho0, hb⟩; refine ⟨_, rfl, ?_⟩; have HO614 := Aside0.mk (Kd.R_lower (Kd.R_newM (M := fun k_ => (w.heap.size ≤ k_)) ho0 (below_size (below_later HB.out)) (fun k_ h_ => h_)) (below_size (below_later HB.out))); replace HO3 := Aside0.mk (Kd.V_elder' (by (with_reducible repeat (first | apply Kd.V_alloc | apply Kd.V_drewN | apply Kd.V_drew)); exact HO3.out) (Kd.R_base ho0) hb); replace HO607 := Aside0.mk (Kd.N_elder' (by (with_reducible repeat (first | apply Kd.N_alloc | apply Kd.N_drewN | apply Kd.N_drew)); exact HO607.out) (Kd.R_base ho0) hb); replace HO610 := Aside0.mk (Kd.R_below (R_later HO610.out) hb); replace HB := bst HB hb; (try clear hb); (try clear hk); (try clear ho0)) | ((with_reducible refine gate_builtin (b := .append) (xs := #[.tmp 48, .tmp 49]) rfl ?_); at_builtin; refine Kd.R_append_rows (Kd.int .u8) (w0 := w) w.heap.size rfl (.tmp 48) (.tmp 49) 41 5 (.int .u8 0) 1 rfl Try.underlying41 info5 rfl (by decide) (by omega) v613 t611 l1 _ _ _ (fun k_ => (w.heap.size ≤ k_)) (fun _ => False) rfl rfl ?aO ?aR (fun _ _ h => h) (fun _ h => h.elim) ?aF ?aB ?aS ?aL ?_; (case aR => repeat (first | exact (Kd.C_below HR1.out HB.out) | (with_reducible refine Kd.C_alloc ?_ _) | (with_reducible refine Kd.C_drewN ?_ _) | (with_reducible refine Kd.C_drew ?_))); (case aB => exact (below_later HB.out)); (case aF => exact (fun k_ hk => (Nat.le_trans (below_size (below_later HB.out)) hk))); (case aO => exact (by (with_reducible repeat (first | apply Kd.R_alloc | apply Kd.R_drewN | apply Kd.R_drew)); exact Kd.R_mono HO614.out (fun _ hk => hk.1))); (case aS => exact (below_size (below_later HB.out))); (case aL => have := LMc49.out; omega); intro v616 w75 ho hb hg hat; rw [← Ny615.out] at ho; have n0_ := Aside0.mk (Kd.V_afterv (ok := (fun k_ => (P3_ k_ ∨ w.heap.size ≤ k_) ∧ some k_ ≠ (.slice Ao71 y605.length co71 : Value).ownBlock ∧ some k_ ≠ (.slice Ao73 t608.length co73 : Value).ownBlock)) (by (with_reducible repeat (first | apply Kd.V_alloc | apply Kd.V_drewN | apply Kd.V_drew)); exact Kd.V_mono HO3.out (fun _ hk => ⟨⟨hk.1.1.1, ⟨hk.1.1.2, hk.1.2⟩⟩, hk.2⟩)) hg hat); have n1_ := Aside0.mk (Kd.N_afterv (ok := (fun k_ => (P3_ k_ ∨ w.heap.size ≤ k_) ∧ some k_ ≠ (.slice Ao73 t608.length co73 : Value).ownBlock)) (by (with_reducible repeat (first | apply Kd.N_alloc | apply Kd.N_drewN | apply Kd.N_drew)); exact HO607.out) hg hat); have n2_ := Aside0.mk (Kd.R_over' (R_later HO610.out) (Kd.R_typed (R_later HO614.out)) (by decide) hg); have n3_ := Aside0.mk (hb); have n4_ := Aside0.mk (ho); clear HO3; clear HO607; clear HO610; clear HB; clear HO614; have HO3 := n0_; have HO607 := n1_; have HO610 := n2_; have HB := n3_; have HO617 := n4_; clear n0_ n1_ n2_ n3_ n4_; clear ho hb hg hat))
      go_ret
      exact ⟨_, by first | rfl | (simp [errW_none, errW_some] <;> rfl) | (simp [*, errW_none, errW_some] <;> rfl), by (with_reducible repeat (first | apply Kd.R_alloc | apply Kd.R_drewN | apply Kd.R_drew)); exact HO617.out, below_later HB.out⟩
  · replace c8 := Bool.eq_false_iff.mpr c8
    subst c8
    replace H := ifn Bool.false_ne_true H
    replace H := ifs H
    obtain ⟨c76, H⟩ := H
    have LMc76 := Aside0.mk c76
    clear c76
    obtain ⟨y618, hy618⟩ : ∃ y_ : List (List (S57)), y_ = (y565 ++ [l3]) := ⟨_, rfl⟩
    replace H : ((impl_structNode.f k 0 y618).bind fun t621 => ((impl_TreePack.f k t621).bind fun bt624 => (if bt624.1.length + l1.length < 140737488355328 then (some (bt624.1 ++ l1)) else (none)))) = some r := by first | (rw [hy618]; with_reducible exact H) | (rw [hy618]; exact H) | exact H
    have Ny618 := Aside0.mk hy618
    clear hy618
    replace H := bnd H
    obtain ⟨t621, A77, H⟩ := H
    replace H := Option.bind_eq_some_iff.mp H
    obtain ⟨⟨t624, t625⟩, A780, H⟩ := H
    replace H : (if t624.length + l1.length < 140737488355328 then (some (t624 ++ l1)) else (none)) = some r := H
    have A78 := Aside0.mk A780
    clear A780
    replace H := ifs H
    obtain ⟨c79, H⟩ := H
    have LMc79 := Aside0.mk c79
    clear c79
    obtain ⟨y628, hy628⟩ : ∃ y_ : List Int, y_ = (t624 ++ l1) := ⟨_, rfl⟩
    replace H : (some y628) = some r := by first | (rw [hy628]; with_reducible exact H) | (rw [hy628]; exact H) | exact H
    have Ny628 := Aside0.mk hy628
    clear hy628
    obtain rfl := Option.some.inj H
    go_enter Try.func39, Try.ntmps39
    go_wp2_with (first | ((with_reducible refine gate_callee (f := 38) rfl ?_); refine gl_ (some 14) Try.func38 #[.int .i64 1, .int .i64 a0] rfl ?_; (with_reducible refine (impl_intNode.calls 1 a0 t541 t542 t543 t544 t545 _ A5.out).mono ?_); rintro e w80 ⟨rfl, hb⟩; refine ⟨_, rfl, ?_⟩; replace HO3 := Aside0.mk (Kd.V_below (by (with_reducible repeat (first | apply Kd.V_alloc | apply Kd.V_drewN | apply Kd.V_drew)); exact HO3.out) hb); replace HB := bst HB hb; (try clear hb); (try clear hk)) | ((with_reducible refine gate_dst (N := 15) rfl ?_); refine Kd.R_lit k57 _ 57 ?hg (N := 15) ?hd (xs := ([(⟨t541, t542, t543, t544, t545⟩ : S57)] : List (S57))) (inner := [.int .i64 t541, .int .i64 t542, .int .i64 t543, .string t544, .int .i64 t545]) (ok := fun _ => True) (okp := fun _ => True) ?hr ?hp (fun _ hk => hk) trivial (Below.refl _ _) (Nat.le_refl _) (by simp) ?_; (case hd => rfl); (case hg => rfl); (case hr => first | (go_simp; done) | (go_simp; rfl)); (case hp => exact (Reps.c5 (show Kd.M k57 _ _ _ (⟨t541, t542, t543, t544, t545⟩ : S57) [.int .i64 t541, .int .i64 t542, .int .i64 t543, .string t544, .int .i64 t545] from (k57_mkM _ _ _ (⟨t541, t542, t543, t544, t545⟩ : S57) )) (Reps.none _ _))); intro v547 w81 ho82 hb hg_ hnew_; clear hg_ hnew_; (first | rw [← Ny546.out] at ho82 | (simp only [Int.reduceToNat] at ho82; rw [← Ny546.out] at ho82)); have HO548 := Aside0.mk (Kd.R_lower (Kd.R_newM (M := fun k_ => (w.heap.size ≤ k_)) ho82 (below_size (below_later HB.out)) (fun k_ h_ => h_)) (below_size (below_later HB.out))); replace HO3 := Aside0.mk (Kd.V_elder' (by (with_reducible repeat (first | apply Kd.V_alloc | apply Kd.V_drewN | apply Kd.V_drew)); exact HO3.out) (Kd.R_base ho82) hb); replace HB := bst HB hb; clear hb ho82) | ((with_reducible refine gate_callee (f := 38) rfl ?_); refine gl_ (some 18) Try.func38 #[.int .i64 2, .int .i64 (l1.length : Int)] rfl ?_; (with_reducible refine (impl_intNode.calls 2 (l1.length : Int) t549 t550 t551 t552 t553 _ A6.out).mono ?_); rintro e w83 ⟨rfl, hb⟩; refine ⟨_, rfl, ?_⟩; replace HO3 := Aside0.mk (Kd.V_below (by (with_reducible repeat (first | apply Kd.V_alloc | apply Kd.V_drewN | apply Kd.V_drew)); exact HO3.out) hb); replace HO548 := Aside0.mk (Kd.R_below (R_later HO548.out) hb); replace HB := bst HB hb; (try clear hb); (try clear hk)) | ((with_reducible refine gate_dst (N := 19) rfl ?_); refine Kd.R_lit k57 _ 57 ?hg (N := 19) ?hd (xs := ([(⟨t549, t550, t551, t552, t553⟩ : S57)] : List (S57))) (inner := [.int .i64 t549, .int .i64 t550, .int .i64 t551, .string t552, .int .i64 t553]) (ok := fun _ => True) (okp := fun _ => True) ?hr ?hp (fun _ hk => hk) trivial (Below.refl _ _) (Nat.le_refl _) (by simp) ?_; (case hd => rfl); (case hg => rfl); (case hr => first | (go_simp; done) | (go_simp; rfl)); (case hp => exact (Reps.c5 (show Kd.M k57 _ _ _ (⟨t549, t550, t551, t552, t553⟩ : S57) [.int .i64 t549, .int .i64 t550, .int .i64 t551, .string t552, .int .i64 t553] from (k57_mkM _ _ _ (⟨t549, t550, t551, t552, t553⟩ : S57) )) (Reps.none _ _))); intro v555 w84 ho85 hb hg_ hnew_; clear hg_ hnew_; (first | rw [← Ny554.out] at ho85 | (simp only [Int.reduceToNat] at ho85; rw [← Ny554.out] at ho85)); have HO556 := Aside0.mk (Kd.R_lower (Kd.R_new' (Kd.R_newM (M := fun k_ => (w.heap.size ≤ k_)) ho85 (below_size (below_later HB.out)) (fun k_ h_ => h_)) (Kd.R_lt (R_later HO548.out))) (below_size (below_later HB.out))); replace HO3 := Aside0.mk (Kd.V_elder' (by (with_reducible repeat (first | apply Kd.V_alloc | apply Kd.V_drewN | apply Kd.V_drew)); exact HO3.out) (Kd.R_base ho85) hb); replace HO548 := Aside0.mk (Kd.R_elder' (R_later HO548.out) (Kd.R_base ho85) hb); replace HB := bst HB hb; clear hb ho85) | ((with_reducible refine gate_callee (f := 38) rfl ?_); refine gl_ (some 22) Try.func38 #[.int .i64 3, .int .i64 (l1.length : Int)] rfl ?_; (with_reducible refine (impl_intNode.calls 3 (l1.length : Int) t557 t558 t559 t560 t561 _ A7.out).mono ?_); rintro e w86 ⟨rfl, hb⟩; refine ⟨_, rfl, ?_⟩; replace HO3 := Aside0.mk (Kd.V_below (by (with_reducible repeat (first | apply Kd.V_alloc | apply Kd.V_drewN | apply Kd.V_drew)); exact HO3.out) hb); replace HO548 := Aside0.mk (Kd.R_below (R_later HO548.out) hb); replace HO556 := Aside0.mk (Kd.R_below (R_later HO556.out) hb); replace HB := bst HB hb; (try clear hb); (try clear hk)) | ((with_reducible refine gate_dst (N := 23) rfl ?_); refine Kd.R_lit k57 _ 57 ?hg (N := 23) ?hd (xs := ([(⟨t557, t558, t559, t560, t561⟩ : S57)] : List (S57))) (inner := [.int .i64 t557, .int .i64 t558, .int .i64 t559, .string t560, .int .i64 t561]) (ok := fun _ => True) (okp := fun _ => True) ?hr ?hp (fun _ hk => hk) trivial (Below.refl _ _) (Nat.le_refl _) (by simp) ?_; (case hd => rfl); (case hg => rfl); (case hr => first | (go_simp; done) | (go_simp; rfl)); (case hp => exact (Reps.c5 (show Kd.M k57 _ _ _ (⟨t557, t558, t559, t560, t561⟩ : S57) [.int .i64 t557, .int .i64 t558, .int .i64 t559, .string t560, .int .i64 t561] from (k57_mkM _ _ _ (⟨t557, t558, t559, t560, t561⟩ : S57) )) (Reps.none _ _))); intro v563 w87 ho88 hb hg_ hnew_; clear hg_ hnew_; (first | rw [← Ny562.out] at ho88 | (simp only [Int.reduceToNat] at ho88; rw [← Ny562.out] at ho88)); have HO564 := Aside0.mk (Kd.R_lower (Kd.R_new' (Kd.R_new' (Kd.R_newM (M := fun k_ => (w.heap.size ≤ k_)) ho88 (below_size (below_later HB.out)) (fun k_ h_ => h_)) (Kd.R_lt (R_later HO548.out))) (Kd.R_lt (R_later HO556.out))) (below_size (below_later HB.out))); replace HO3 := Aside0.mk (Kd.V_elder' (by (with_reducible repeat (first | apply Kd.V_alloc | apply Kd.V_drewN | apply Kd.V_drew)); exact HO3.out) (Kd.R_base ho88) hb); replace HO548 := Aside0.mk (Kd.R_elder' (R_later HO548.out) (Kd.R_base ho88) hb); replace HO556 := Aside0.mk (Kd.R_elder' (R_later HO556.out) (Kd.R_base ho88) hb); replace HB := bst HB hb; clear hb ho88; obtain ⟨Ao89, co89, eo89⟩ := Kd.R_slice HO548.out; subst eo89; obtain ⟨Ao90, co90, eo90⟩ := Kd.R_slice HO556.out; subst eo90; obtain ⟨Ao91, co91, eo91⟩ := Kd.R_slice HO564.out; subst eo91) | ((with_reducible refine gate_dst (N := 24) rfl ?_); refine Kd.N_lit (Kd.slice 57 k57) _ 34 ?hg (N' := 24) ?hd (xs := ([y546, y554, y562] : List (List (S57)))) (inner := [.slice Ao89 y546.length co89, .slice Ao90 y554.length co90, .slice Ao91 y562.length co91]) (ok := (fun k_ => (P3_ k_ ∨ w.heap.size ≤ k_))) (okp := (fun k_ => (P3_ k_ ∨ w.heap.size ≤ k_))) ?hr ?hp (fun _ hk => hk) ((show ∀ k_, w87.heap.size ≤ k_ → (fun k_ => (P3_ k_ ∨ w.heap.size ≤ k_)) k_ from fun k_ hk => (.inr (Nat.le_trans (below_size (below_later HB.out)) hk))) _ (Nat.le_refl _)) (Below.refl _ _) (Nat.le_refl _) (by simp) ?_; (case hd => rfl); (case hg => rfl); (case hr => first | (go_simp; done) | (go_simp; rfl)); (case hp => exact (Reps.one (show Kd.FK (Kd.slice 57 k57) _ _ y546 [.slice Ao89 y546.length co89] from (Kd.FK_slice_mk (Kd.R_reads' (Kd.R_mono (ok' := (fun k_ => (P3_ k_ ∨ w.heap.size ≤ k_))) (HO548.out) (fun k_ hk => (.inr (hk.1.1.1))))).2.1 (Kd.R_F (Kd.R_mono (ok' := (fun k_ => (P3_ k_ ∨ w.heap.size ≤ k_))) (HO548.out) (fun k_ hk => (.inr (hk.1.1.1))))))) (Reps.one (show Kd.FK (Kd.slice 57 k57) _ _ y554 [.slice Ao90 y554.length co90] from (Kd.FK_slice_mk (Kd.R_reads' (Kd.R_mono (ok' := (fun k_ => (P3_ k_ ∨ w.heap.size ≤ k_))) (HO556.out) (fun k_ hk => (.inr (hk.1.1.1))))).2.1 (Kd.R_F (Kd.R_mono (ok' := (fun k_ => (P3_ k_ ∨ w.heap.size ≤ k_))) (HO556.out) (fun k_ hk => (.inr (hk.1.1.1))))))) (Reps.one (show Kd.FK (Kd.slice 57 k57) _ _ y562 [.slice Ao91 y562.length co91] from (Kd.FK_slice_mk (Kd.R_reads' (Kd.R_mono (ok' := (fun k_ => (P3_ k_ ∨ w.heap.size ≤ k_))) (HO564.out) (fun k_ hk => (.inr (hk.1.1.1))))).2.1 (Kd.R_F (Kd.R_mono (ok' := (fun k_ => (P3_ k_ ∨ w.heap.size ≤ k_))) (HO564.out) (fun k_ hk => (.inr (hk.1.1.1))))))) (Reps.none _ _))))); intro v566 w92 ho93 hb hg_ hnew_; clear hg_ hnew_; (first | rw [← Ny565.out] at ho93 | (simp only [Int.reduceToNat] at ho93; rw [← Ny565.out] at ho93)); have n0_ := Aside0.mk (Kd.V_elder' (by (with_reducible repeat (first | apply Kd.V_alloc | apply Kd.V_drewN | apply Kd.V_drew)); exact HO3.out) (Kd.N_base ho93) hb); have n1_ := Aside0.mk (Kd.N_lower ho93 (below_size (below_later HB.out))); have n2_ := bst HB hb; clear HO3; clear HB; clear HO548; clear HO556; clear HO564; have HO3 := n0_; have HO567 := n1_; have HB := n2_; clear n0_ n1_ n2_; clear hb ho93) | ((with_reducible refine gate_builtin (b := .append) (xs := #[.tmp 40, .tmp 42]) rfl ?_); at_builtin; refine Kd.N_append (Kd.slice 57 k57) (w0 := w) w.heap.size rfl (.tmp 40) (.tmp 42) 98 34 (.slice none 0 0) 24 rfl Try.underlying98 info34 rfl (by decide) (by omega) v566 y565 l3 [.slice A3 l3.length c3] (fun k_ => (P3_ k_ ∨ w.heap.size ≤ k_)) (fun k_ => ((fun k_ => (P3_ k_ ∨ w.heap.size ≤ k_))) k_ ∧ some k_ ≠ (v566 : Value).ownBlock) rfl rfl ?aP (fun _ hk => hk) ?aF ?aO ?aB ?aS ?aL ?_; (case aP => exact (Kd.FK_slice_mk (Kd.V_reads' (Kd.V_mono (ok' := (fun k_ => ((fun k_ => (P3_ k_ ∨ w.heap.size ≤ k_))) k_ ∧ some k_ ≠ (v566 : Value).ownBlock)) (HO3.out) (fun k_ hk => ⟨hk.1.1.1.1, hk.2⟩))).2.1 (Kd.V_F (Kd.V_mono (ok' := (fun k_ => ((fun k_ => (P3_ k_ ∨ w.heap.size ≤ k_))) k_ ∧ some k_ ≠ (v566 : Value).ownBlock)) (HO3.out) (fun k_ hk => ⟨hk.1.1.1.1, hk.2⟩))))); (case aB => exact (below_later HB.out)); (case aF => exact (fun k_ hk => (.inr (Nat.le_trans (below_size (below_later HB.out)) hk)))); (case aO => exact (by (with_reducible repeat (first | apply Kd.N_alloc | apply Kd.N_drewN | apply Kd.N_drew)); exact HO567.out)); (case aS => exact (below_size (below_later HB.out))); (case aL => have := LMc76.out; omega); intro v619 w94 ho hb hg hat; rw [← Ny618.out] at ho; have n0_ := Aside0.mk (Kd.V_afterv (ok := (fun k_ => (P3_ k_ ∨ w.heap.size ≤ k_))) (by (with_reducible repeat (first | apply Kd.V_alloc | apply Kd.V_drewN | apply Kd.V_drew)); exact Kd.V_mono HO3.out (fun _ hk => ⟨hk.1.1.1.1, hk.2⟩)) hg hat); have n1_ := Aside0.mk (hb); have n2_ := Aside0.mk (ho); clear HO3; clear HB; clear HO567; have HO3 := n0_; have HB := n1_; have HO620 := n2_; clear n0_ n1_ n2_; clear ho hb hg hat; obtain ⟨Ao95, co95, eo95⟩ := Kd.N_slice HO620.out; subst eo95) | ((with_reducible refine gate_callee (f := 37) rfl ?_); refine gl_ (some 44) Try.func37 #[.int .i64 0, .slice Ao95 y618.length co95] rfl ?_; (with_reducible refine (impl_structNode.calls k 0 _ _ y618 t621 _ ?side1 ?side2 A77.out).mono ?_); (case side1 => repeat (first | exact (Kd.N_reads' HO620.out).2.2 | (with_reducible refine Kd.C_alloc ?_ _) | (with_reducible refine Kd.C_drewN ?_ _) | (with_reducible refine Kd.C_drew ?_))); (case side2 => exact (Kd.N_reads' HO620.out).2.1); rintro e w96 ⟨v622, rfl, ho0, hb⟩; refine ⟨_, rfl, ?_⟩; have HO623 := Aside0.mk (Kd.R_lower (Kd.R_newM (M := fun k_ => (w.heap.size ≤ k_)) ho0 (below_size (below_later HB.out)) (fun k_ h_ => h_)) (below_size (below_later HB.out))); replace HO3 := Aside0.mk (Kd.V_elder' (by (with_reducible repeat (first | apply Kd.V_alloc | apply Kd.V_drewN | apply Kd.V_drew)); exact HO3.out) (Kd.R_base ho0) hb); replace HO620 := Aside0.mk (Kd.N_elder' (by (with_reducible repeat (first | apply Kd.N_alloc | apply Kd.N_drewN | apply Kd.N_drew)); exact HO620.out) (Kd.R_base ho0) hb); replace HB := bst HB hb; (try clear hb); (try clear hk); (try clear ho0); obtain ⟨Ao97, co97, eo97⟩ := Kd.R_slice HO623.out; subst eo97) | ((with_reducible refine gate_callee (f := 68) rfl ?_); refine gl_ (some 45) Try.func68 #[.slice Ao97 t621.length co97] rfl ?_; (with_reducible refine (impl_TreePack.calls k _ _ t621 t624 t625 _ ?side1 ?side2 A78.out).mono ?_); (case side1 => repeat (first | exact (Kd.R_reads' HO623.out).2.2 | (with_reducible refine Kd.C_alloc ?_ _) | (with_reducible refine Kd.C_drewN ?_ _) | (with_reducible refine Kd.C_drew ?_))); (case side2 => exact (Kd.R_reads' HO623.out).2.1); rintro e w98 ⟨v626, rfl, ho0, hb⟩; refine ⟨_, rfl, ?_⟩; have HO627 := Aside0.mk (Kd.R_lower (Kd.R_newM (M := fun k_ => (w.heap.size ≤ k_)) ho0 (below_size (below_later HB.out)) (fun k_ h_ => h_)) (below_size (below_later HB.out))); replace HO3 := Aside0.mk (Kd.V_elder' (by (with_reducible repeat (first | apply Kd.V_alloc | apply Kd.V_drewN | apply Kd.V_drew)); exact HO3.out) (Kd.R_base ho0) hb); replace HO620 := Aside0.mk (Kd.N_elder' (by (with_reducible repeat (first | apply Kd.N_alloc | apply Kd.N_drewN | apply Kd.N_drew)); exact HO620.out) (Kd.R_base ho0) hb); replace HO623 := Aside0.mk (Kd.R_below (R_later HO623.out) hb); replace HB := bst HB hb; (try clear hb); (try clear hk); (try clear ho0)) | ((with_reducible refine gate_builtin (b := .append) (xs := #[.tmp 48, .tmp 49]) rfl ?_); at_builtin; refine Kd.R_append_rows (Kd.int .u8) (w0 := w) w.heap.size rfl (.tmp 48) (.tmp 49) 41 5 (.int .u8 0) 1 rfl Try.underlying41 info5 rfl (by decide) (by omega) v626 t624 l1 _ _ _ (fun k_ => (w.heap.size ≤ k_)) (fun _ => False) rfl rfl ?aO ?aR (fun _ _ h => h) (fun _ h => h.elim) ?aF ?aB ?aS ?aL ?_; (case aR => repeat (first | exact (Kd.C_below HR1.out HB.out) | (with_reducible refine Kd.C_alloc ?_ _) | (with_reducible refine Kd.C_drewN ?_ _) | (with_reducible refine Kd.C_drew ?_))); (case aB => exact (below_later HB.out)); (case aF => exact (fun k_ hk => (Nat.le_trans (below_size (below_later HB.out)) hk))); (case aO => exact (by (with_reducible repeat (first | apply Kd.R_alloc | apply Kd.R_drewN | apply Kd.R_drew)); exact Kd.R_mono HO627.out (fun _ hk => hk.1))); (case aS => exact (below_size (below_later HB.out))); (case aL => have := LMc79.out; omega); intro v629 w99 ho hb hg hat; rw [← Ny628.out] at ho; have n0_ := Aside0.mk (Kd.V_afterv (ok := (fun k_ => (P3_ k_ ∨ w.heap.size ≤ k_) ∧ some k_ ≠ (.slice Ao95 y618.length co95 : Value).ownBlock ∧ some k_ ≠ (.slice Ao97 t621.length co97 : Value).ownBlock)) (by (with_reducible repeat (first | apply Kd.V_alloc | apply Kd.V_drewN | apply Kd.V_drew)); exact Kd.V_mono HO3.out (fun _ hk => ⟨⟨hk.1.1.1, ⟨hk.1.1.2, hk.1.2⟩⟩, hk.2⟩)) hg hat); have n1_ := Aside0.mk (Kd.N_afterv (ok := (fun k_ => (P3_ k_ ∨ w.heap.size ≤ k_) ∧ some k_ ≠ (.slice Ao97 t621.length co97 : Value).ownBlock)) (by (with_reducible repeat (first | apply Kd.N_alloc | apply Kd.N_drewN | apply Kd.N_drew)); exact HO620.out) hg hat); have n2_ := Aside0.mk (Kd.R_over' (R_later HO623.out) (Kd.R_typed (R_later HO627.out)) (by decide) hg); have n3_ := Aside0.mk (hb); have n4_ := Aside0.mk (ho); clear HO3; clear HO620; clear HO623; clear HB; clear HO627; have HO3 := n0_; have HO620 := n1_; have HO623 := n2_; have HB := n3_; have HO630 := n4_; clear n0_ n1_ n2_ n3_ n4_; clear ho hb hg hat))
    go_ret
    exact ⟨_, by first | rfl | (simp [errW_none, errW_some] <;> rfl) | (simp [*, errW_none, errW_some] <;> rfl), by (with_reducible repeat (first | apply Kd.R_alloc | apply Kd.R_drewN | apply Kd.R_drew)); exact HO630.out, below_later HB.out⟩
/-! ### impl_DictPack: function 15 -/
def impl_DictPack.f (k : Nat) (a0 : Int) (l1 : List (S27)) (a2 : Bool) : Option (List Int × Bool) := (impl_PlainPack.f k a0 l1).bind fun bt631 => (if bt631.2 = true then ((impl_intNode.f 1 (l1.length : Int)).bind fun bt635 => ((impl_intNode.f 2 0).bind fun bt643 => ((impl_structNode.f k 7 (([(([(⟨bt635.1, bt635.2.1, bt635.2.2.1, bt635.2.2.2.1, bt635.2.2.2.2⟩ : S57)] : List (S57))), (([(⟨bt643.1, bt643.2.1, bt643.2.2.1, bt643.2.2.2.1, bt643.2.2.2.2⟩ : S57)] : List (S57)))] : List (List (S57))))).bind fun t654 => ((impl_pageOf.f k 2 bt631.1 a2 t654).bind fun t657 => (some (t657, true)))))) else (some (([] : List Int), false)))
set_option maxHeartbeats 8000000 in
set_option maxRecDepth 100000 in
theorem impl_DictPack.calls (k : Nat) (a0 : Int) (A1 : Option Addr) (c1 : Nat) (l1 : List (S27)) (a2 : Bool) (r1 : List Int) (r2 : Bool) (w : World) (hr1 : Kd.C k27 w A1 l1.length l1) (hc1 : l1.length ≤ c1) (h : impl_DictPack.f k a0 l1 a2 = some (r1, r2)) :
    Calls Try.prog 15 #[.int .i64 a0, .slice A1 l1.length c1, .bool a2] w fun e w' => ∃ v0_ : Value, e = .returned (.tuple #[v0_, .bool r2]) ∧ Kd.R (Kd.int .u8) 5 w' w.heap.size (fun _ => True) v0_ r1 ∧ Below w.heap.size w w' := by
  have HR1 := Aside0.mk hr1
  have HC1 := Aside0.mk hc1
  clear hr1 hc1
  have HB := Aside0.mk (Below.refl w.heap.size w)
  have H : ((impl_PlainPack.f k a0 l1).bind fun bt631 => (if bt631.2 = true then ((impl_intNode.f 1 (l1.length : Int)).bind fun bt635 => ((impl_intNode.f 2 0).bind fun bt643 => ((impl_structNode.f k 7 (([(([(⟨bt635.1, bt635.2.1, bt635.2.2.1, bt635.2.2.2.1, bt635.2.2.2.2⟩ : S57)] : List (S57))), (([(⟨bt643.1, bt643.2.1, bt643.2.2.1, bt643.2.2.2.1, bt643.2.2.2.2⟩ : S57)] : List (S57)))] : List (List (S57))))).bind fun t654 => ((impl_pageOf.f k 2 bt631.1 a2 t654).bind fun t657 => (some (t657, true)))))) else (some (([] : List Int), false)))) = some (r1, r2) := h
  clear h
  replace H := Option.bind_eq_some_iff.mp H
  obtain ⟨⟨t631, t632⟩, A40, H⟩ := H
  replace H : (if t632 = true then ((impl_intNode.f 1 (l1.length : Int)).bind fun bt635 => ((impl_intNode.f 2 0).bind fun bt643 => ((impl_structNode.f k 7 (([(([(⟨bt635.1, bt635.2.1, bt635.2.2.1, bt635.2.2.2.1, bt635.2.2.2.2⟩ : S57)] : List (S57))), (([(⟨bt643.1, bt643.2.1, bt643.2.2.1, bt643.2.2.2.1, bt643.2.2.2.2⟩ : S57)] : List (S57)))] : List (List (S57))))).bind fun t654 => ((impl_pageOf.f k 2 t631 a2 t654).bind fun t657 => (some (t657, true)))))) else (some (([] : List Int), false))) = some (r1, r2) := H
  have A4 := Aside0.mk A40
  clear A40
  by_cases c5 : t632 = true
  · subst c5
    replace H := ifp rfl H
    replace H := Option.bind_eq_some_iff.mp H
    obtain ⟨⟨t635, t636, t637, t638, t639⟩, A60, H⟩ := H
    replace H : ((impl_intNode.f 2 0).bind fun bt643 => ((impl_structNode.f k 7 (([(([(⟨t635, t636, t637, t638, t639⟩ : S57)] : List (S57))), (([(⟨bt643.1, bt643.2.1, bt643.2.2.1, bt643.2.2.2.1, bt643.2.2.2.2⟩ : S57)] : List (S57)))] : List (List (S57))))).bind fun t654 => ((impl_pageOf.f k 2 t631 a2 t654).bind fun t657 => (some (t657, true))))) = some (r1, r2) := H
    have A6 := Aside0.mk A60
    clear A60
    obtain ⟨y640, hy640⟩ : ∃ y_ : List (S57), y_ = (([(⟨t635, t636, t637, t638, t639⟩ : S57)] : List (S57))) := ⟨_, rfl⟩
    replace H : ((impl_intNode.f 2 0).bind fun bt643 => ((impl_structNode.f k 7 (([y640, (([(⟨bt643.1, bt643.2.1, bt643.2.2.1, bt643.2.2.2.1, bt643.2.2.2.2⟩ : S57)] : List (S57)))] : List (List (S57))))).bind fun t654 => ((impl_pageOf.f k 2 t631 a2 t654).bind fun t657 => (some (t657, true))))) = some (r1, r2) := by first | (rw [hy640]; with_reducible exact H) | (rw [hy640]; exact H) | exact H
    have Ny640 := Aside0.mk hy640
    clear hy640
    replace H := Option.bind_eq_some_iff.mp H
    obtain ⟨⟨t643, t644, t645, t646, t647⟩, A70, H⟩ := H
    replace H : ((impl_structNode.f k 7 (([y640, (([(⟨t643, t644, t645, t646, t647⟩ : S57)] : List (S57)))] : List (List (S57))))).bind fun t654 => ((impl_pageOf.f k 2 t631 a2 t654).bind fun t657 => (some (t657, true)))) = some (r1, r2) := H
    have A7 := Aside0.mk A70
    clear A70
    obtain ⟨y648, hy648⟩ : ∃ y_ : List (S57), y_ = (([(⟨t643, t644, t645, t646, t647⟩ : S57)] : List (S57))) := ⟨_, rfl⟩
    replace H : ((impl_structNode.f k 7 (([y640, y648] : List (List (S57))))).bind fun t654 => ((impl_pageOf.f k 2 t631 a2 t654).bind fun t657 => (some (t657, true)))) = some (r1, r2) := by first | (rw [hy648]; with_reducible exact H) | (rw [hy648]; exact H) | exact H
    have Ny648 := Aside0.mk hy648
    clear hy648
    obtain ⟨y651, hy651⟩ : ∃ y_ : List (List (S57)), y_ = (([y640, y648] : List (List (S57)))) := ⟨_, rfl⟩
    replace H : ((impl_structNode.f k 7 y651).bind fun t654 => ((impl_pageOf.f k 2 t631 a2 t654).bind fun t657 => (some (t657, true)))) = some (r1, r2) := by first | (rw [hy651]; with_reducible exact H) | (rw [hy651]; exact H) | exact H
    have Ny651 := Aside0.mk hy651
    clear hy651
    replace H := bnd H
    obtain ⟨t654, A8, H⟩ := H
    replace H := bnd H
    obtain ⟨t657, A9, H⟩ := H
    simp only [Option.some.injEq, Prod.mk.injEq] at H
    obtain ⟨rfl, rfl⟩ := H
    go_enter Try.func15, Try.ntmps15
    go_wp2_with (first | ((with_reducible refine gate_callee (f := 36) rfl ?_); refine gl_ (some 14) Try.func36 #[.int .i64 a0, .slice A1 l1.length c1] rfl ?_; (with_reducible refine (impl_PlainPack.calls k a0 _ _ l1 t631 true _ ?side1 ?side2 A4.out).mono ?_); (case side1 => exact C_later HR1.out); (case side2 => exact HC1.out); rintro e w10 ⟨v633, rfl, ho0, hb⟩; refine ⟨_, rfl, ?_⟩; have HO634 := Aside0.mk (Kd.R_lower ho0 (below_size (below_later HB.out))); replace HB := bst HB hb; (try clear hb); (try clear hk); (try clear ho0)) | ((with_reducible refine gate_callee (f := 38) rfl ?_); refine gl_ (some 21) Try.func38 #[.int .i64 1, .int .i64 (l1.length : Int)] rfl ?_; (with_reducible refine (impl_intNode.calls 1 (l1.length : Int) t635 t636 t637 t638 t639 _ A6.out).mono ?_); rintro e w11 ⟨rfl, hb⟩; refine ⟨_, rfl, ?_⟩; replace HO634 := Aside0.mk (Kd.R_below (R_later HO634.out) hb); replace HB := bst HB hb; (try clear hb); (try clear hk)) | ((with_reducible refine gate_dst (N := 22) rfl ?_); refine Kd.R_lit k57 _ 57 ?hg (N := 22) ?hd (xs := ([(⟨t635, t636, t637, t638, t639⟩ : S57)] : List (S57))) (inner := [.int .i64 t635, .int .i64 t636, .int .i64 t637, .string t638, .int .i64 t639]) (ok := fun _ => True) (okp := fun _ => True) ?hr ?hp (fun _ hk => hk) trivial (Below.refl _ _) (Nat.le_refl _) (by simp) ?_; (case hd => rfl); (case hg => rfl); (case hr => first | (go_simp; done) | (go_simp; rfl)); (case hp => exact (Reps.c5 (show Kd.M k57 _ _ _ (⟨t635, t636, t637, t638, t639⟩ : S57) [.int .i64 t635, .int .i64 t636, .int .i64 t637, .string t638, .int .i64 t639] from (k57_mkM _ _ _ (⟨t635, t636, t637, t638, t639⟩ : S57) )) (Reps.none _ _))); intro v641 w12 ho13 hb hg_ hnew_; clear hg_ hnew_; (first | rw [← Ny640.out] at ho13 | (simp only [Int.reduceToNat] at ho13; rw [← Ny640.out] at ho13)); have HO642 := Aside0.mk (Kd.R_lower ho13 (below_size (below_later HB.out))); replace HO634 := Aside0.mk (Kd.R_below (R_later HO634.out) hb); replace HB := bst HB hb; clear hb ho13) | ((with_reducible refine gate_callee (f := 38) rfl ?_); refine gl_ (some 23) Try.func38 #[.int .i64 2, .int .i64 0] rfl ?_; (with_reducible refine (impl_intNode.calls 2 0 t643 t644 t645 t646 t647 _ A7.out).mono ?_); rintro e w14 ⟨rfl, hb⟩; refine ⟨_, rfl, ?_⟩; replace HO634 := Aside0.mk (Kd.R_below (R_later HO634.out) hb); replace HO642 := Aside0.mk (Kd.R_below (R_later HO642.out) hb); replace HB := bst HB hb; (try clear hb); (try clear hk)) | ((with_reducible refine gate_dst (N := 24) rfl ?_); refine Kd.R_lit k57 _ 57 ?hg (N := 24) ?hd (xs := ([(⟨t643, t644, t645, t646, t647⟩ : S57)] : List (S57))) (inner := [.int .i64 t643, .int .i64 t644, .int .i64 t645, .string t646, .int .i64 t647]) (ok := fun _ => True) (okp := fun _ => True) ?hr ?hp (fun _ hk => hk) trivial (Below.refl _ _) (Nat.le_refl _) (by simp) ?_; (case hd => rfl); (case hg => rfl); (case hr => first | (go_simp; done) | (go_simp; rfl)); (case hp => exact (Reps.c5 (show Kd.M k57 _ _ _ (⟨t643, t644, t645, t646, t647⟩ : S57) [.int .i64 t643, .int .i64 t644, .int .i64 t645, .string t646, .int .i64 t647] from (k57_mkM _ _ _ (⟨t643, t644, t645, t646, t647⟩ : S57) )) (Reps.none _ _))); intro v649 w15 ho16 hb hg_ hnew_; clear hg_ hnew_; (first | rw [← Ny648.out] at ho16 | (simp only [Int.reduceToNat] at ho16; rw [← Ny648.out] at ho16)); have HO650 := Aside0.mk (Kd.R_lower (Kd.R_new' ho16 (Kd.R_lt (R_later HO642.out))) (below_size (below_later HB.out))); replace HO634 := Aside0.mk (Kd.R_below (R_later HO634.out) hb); replace HO642 := Aside0.mk (Kd.R_elder' (R_later HO642.out) (Kd.R_base ho16) hb); replace HB := bst HB hb; clear hb ho16; obtain ⟨Ao17, co17, eo17⟩ := Kd.R_slice HO642.out; subst eo17; obtain ⟨Ao18, co18, eo18⟩ := Kd.R_slice HO650.out; subst eo18) | ((with_reducible refine gate_dst (N := 25) rfl ?_); refine Kd.N_lit (Kd.slice 57 k57) _ 34 ?hg (N' := 25) ?hd (xs := ([y640, y648] : List (List (S57)))) (inner := [.slice Ao17 y640.length co17, .slice Ao18 y648.length co18]) (ok := (fun k_ => some k_ ≠ (v633 : Value).ownBlock)) (okp := (fun k_ => some k_ ≠ (v633 : Value).ownBlock)) ?hr ?hp (fun _ hk => hk) ((show ∀ k_, w15.heap.size ≤ k_ → (fun k_ => some k_ ≠ (v633 : Value).ownBlock) k_ from fun k_ hk => Kd.fresh' (Kd.R_lt (R_later HO634.out)) k_ hk) _ (Nat.le_refl _)) (Below.refl _ _) (Nat.le_refl _) (by simp) ?_; (case hd => rfl); (case hg => rfl); (case hr => first | (go_simp; done) | (go_simp; rfl)); (case hp => exact (Reps.one (show Kd.FK (Kd.slice 57 k57) _ _ y640 [.slice Ao17 y640.length co17] from (Kd.FK_slice_mk (Kd.R_reads' (Kd.R_mono (ok' := (fun k_ => some k_ ≠ (v633 : Value).ownBlock)) (Kd.R_apart' (HO642.out) (Kd.R_typed HO634.out) (by decide)) (fun k_ hk => hk.2))).2.1 (Kd.R_F (Kd.R_mono (ok' := (fun k_ => some k_ ≠ (v633 : Value).ownBlock)) (Kd.R_apart' (HO642.out) (Kd.R_typed HO634.out) (by decide)) (fun k_ hk => hk.2))))) (Reps.one (show Kd.FK (Kd.slice 57 k57) _ _ y648 [.slice Ao18 y648.length co18] from (Kd.FK_slice_mk (Kd.R_reads' (Kd.R_mono (ok' := (fun k_ => some k_ ≠ (v633 : Value).ownBlock)) (Kd.R_apart' (HO650.out) (Kd.R_typed HO634.out) (by decide)) (fun k_ hk => hk.2))).2.1 (Kd.R_F (Kd.R_mono (ok' := (fun k_ => some k_ ≠ (v633 : Value).ownBlock)) (Kd.R_apart' (HO650.out) (Kd.R_typed HO634.out) (by decide)) (fun k_ hk => hk.2))))) (Reps.none _ _)))); intro v652 w19 ho20 hb hg_ hnew_; clear hg_ hnew_; (first | rw [← Ny651.out] at ho20 | (simp only [Int.reduceToNat] at ho20; rw [← Ny651.out] at ho20)); have n0_ := Aside0.mk (Kd.R_below (R_later HO634.out) hb); have n1_ := Aside0.mk (Kd.N_lower ho20 (below_size (below_later HB.out))); have n2_ := bst HB hb; clear HO634; clear HB; clear HO642; clear HO650; have HO634 := n0_; have HO653 := n1_; have HB := n2_; clear n0_ n1_ n2_; clear hb ho20; obtain ⟨Ao21, co21, eo21⟩ := Kd.N_slice HO653.out; subst eo21) | ((with_reducible refine gate_callee (f := 37) rfl ?_); refine gl_ (some 26) Try.func37 #[.int .i64 7, .slice Ao21 y651.length co21] rfl ?_; (with_reducible refine (impl_structNode.calls k 7 _ _ y651 t654 _ ?side1 ?side2 A8.out).mono ?_); (case side1 => repeat (first | exact (Kd.N_reads' HO653.out).2.2 | (with_reducible refine Kd.C_alloc ?_ _) | (with_reducible refine Kd.C_drewN ?_ _) | (with_reducible refine Kd.C_drew ?_))); (case side2 => exact (Kd.N_reads' HO653.out).2.1); rintro e w22 ⟨v655, rfl, ho0, hb⟩; refine ⟨_, rfl, ?_⟩; have HO656 := Aside0.mk (Kd.R_lower ho0 (below_size (below_later HB.out))); replace HO634 := Aside0.mk (Kd.R_below (R_later HO634.out) hb); replace HO653 := Aside0.mk (Kd.N_elder' (by (with_reducible repeat (first | apply Kd.N_alloc | apply Kd.N_drewN | apply Kd.N_drew)); exact HO653.out) (Kd.R_base ho0) hb); replace HB := bst HB hb; (try clear hb); (try clear hk); (try clear ho0); obtain ⟨Ao23, co23, eo23⟩ := Kd.R_slice HO634.out; subst eo23; obtain ⟨Ao24, co24, eo24⟩ := Kd.R_slice HO656.out; subst eo24) | ((with_reducible refine gate_callee (f := 39) rfl ?_); refine gl_ (some 30) Try.func39 #[.int .i64 2, .slice Ao23 t631.length co23, .bool a2, .slice Ao24 t654.length co24] rfl ?_; (with_reducible refine (impl_pageOf.calls k 2 _ _ t631 a2 (fun k_ => some k_ = (.slice Ao24 t654.length co24 : Value).ownBlock) _ _ t654 t657 _ ?side1 ?side2 ?side3 A9.out).mono ?_); (case side1 => repeat (first | exact (Kd.R_reads' HO634.out).2.2 | (with_reducible refine Kd.C_alloc ?_ _) | (with_reducible refine Kd.C_drewN ?_ _) | (with_reducible refine Kd.C_drew ?_))); (case side2 => exact (Kd.R_reads' HO634.out).2.1); (case side3 => exact Kd.R_V (Kd.R_tight rfl (Kd.R_apart' (Kd.R_apart' (HO656.out) (Kd.R_typed HO634.out) (by decide)) (Kd.N_typed HO653.out) (by decide)))); rintro e w25 ⟨v658, rfl, ho0, hb⟩; refine ⟨_, rfl, ?_⟩; have HO659 := Aside0.mk (Kd.R_lower (Kd.R_new' (Kd.R_mono (ok' := fun k_ => True) ho0 (fun _ hk_ => trivial)) (Kd.R_lt (R_later HO634.out))) (below_size (below_later HB.out))); replace HO634 := Aside0.mk (Kd.R_elder' (R_later HO634.out) (Kd.R_base ho0) hb); replace HO653 := Aside0.mk (Kd.N_elder' (by (with_reducible repeat (first | apply Kd.N_alloc | apply Kd.N_drewN | apply Kd.N_drew)); exact HO653.out) (Kd.R_base ho0) hb); replace HO656 := Aside0.mk (Kd.R_below (R_later HO656.out) hb); replace HB := bst HB hb; (try clear hb); (try clear hk); (try clear ho0)))
    go_ret2
    exact ⟨_, by first | rfl | (simp [errW_none, errW_some] <;> rfl) | (simp [*, errW_none, errW_some] <;> rfl), by (with_reducible repeat (first | apply Kd.R_alloc | apply Kd.R_drewN | apply Kd.R_drew)); exact Kd.R_mono HO659.out (fun _ hk => trivial), below_later HB.out⟩
  · replace c5 := Bool.eq_false_iff.mpr c5
    subst c5
    replace H := ifn Bool.false_ne_true H
    simp only [Option.some.injEq, Prod.mk.injEq] at H
    obtain ⟨rfl, rfl⟩ := H
    go_enter Try.func15, Try.ntmps15
    go_wp2_with (first | ((with_reducible refine gate_callee (f := 36) rfl ?_); refine gl_ (some 14) Try.func36 #[.int .i64 a0, .slice A1 l1.length c1] rfl ?_; (with_reducible refine (impl_PlainPack.calls k a0 _ _ l1 t631 false _ ?side1 ?side2 A4.out).mono ?_); (case side1 => exact C_later HR1.out); (case side2 => exact HC1.out); rintro e w26 ⟨v633, rfl, ho0, hb⟩; refine ⟨_, rfl, ?_⟩; have HO634 := Aside0.mk (Kd.R_lower ho0 (below_size (below_later HB.out))); replace HB := bst HB hb; (try clear hb); (try clear ho0)))
    go_ret2
    exact ⟨_, by first | rfl | (simp [errW_none, errW_some] <;> rfl) | (simp [*, errW_none, errW_some] <;> rfl), by first | exact Kd.R_nil _ _ _ _ _ | exact Kd.N_nil _ _ _ _ _ | exact Kd.V_nil _ _ _ _ _ | exact Kd.Q_nil _ _ _ _ _ | exact Kd.S_nil _ _ _ _ _, below_later HB.out⟩

/-! ### laws_eqByteS: function 16 -/
def laws_eqByteS.l0 : Nat → List Int → List Int → Int → Option (Bool)
  | 0, _, _, _ => none
  | k + 1, x0, x1, x5 => if x5 < (x0.length : Int) then (if 0 ≤ x5 then (if x5 < (x1.length : Int) then (if (rd x0 x5) = (rd x1 x5) then (laws_eqByteS.l0 k x0 x1 (wrap64 (x5 + 1))) else (some false)) else (none)) else (none)) else (some true)
def laws_eqByteS.f (k : Nat) (l0 : List Int) (l1 : List Int) : Option (Bool) := if (l0.length : Int) = (l1.length : Int) then (laws_eqByteS.l0 k l0 l1 0) else (some false)
set_option maxHeartbeats 8000000 in
set_option maxRecDepth 100000 in
theorem laws_eqByteS.calls (k : Nat) (A0 : Option Addr) (c0 : Nat) (l0 : List Int) (A1 : Option Addr) (c1 : Nat) (l1 : List Int) (r : Bool) (w : World) (hr0 : Kd.C (Kd.int .u8) w A0 l0.length l0) (hc0 : l0.length ≤ c0) (hr1 : Kd.C (Kd.int .u8) w A1 l1.length l1) (hc1 : l1.length ≤ c1) (h : laws_eqByteS.f k l0 l1 = some true) :
    Calls Try.prog 16 #[.slice A0 l0.length c0, .slice A1 l1.length c1] w fun e w' => e = .returned (.bool true) ∧ Drawn0 w w' := by
  have HR0 := Aside0.mk hr0
  have HC0 := Aside0.mk hc0
  clear hr0 hc0
  have HR1 := Aside0.mk hr1
  have HC1 := Aside0.mk hc1
  clear hr1 hc1
  have H : (if (l0.length : Int) = (l1.length : Int) then (laws_eqByteS.l0 k l0 l1 0) else (some false)) = some true := h
  clear h
  by_cases c3 : (l0.length : Int) = (l1.length : Int)
  · rw [if_pos c3] at H
    have c3b0 : ((l0.length : Int) == (l1.length : Int)) = true := beq_iff_eq.mpr c3
    have c3b1 : ((l0.length : Int) != (l1.length : Int)) = false := bne_eq_false_iff_eq.mpr c3
    have c3b2 : (l0.length == l1.length) = true := by first | simpa using c3 | (simp at c3 ⊢; omega)
    clear c3
    have H' := Aside0.mk H
    clear H
    go_enter Try.func16, Try.ntmps16
    go_wp2
    repeat (go_quiet (fail); try go_wp2)
    go_loopg [5] k (fun kq v5 w' => ∃ (x5_1 : Int), v5 = .int .i64 x5_1 ∧ Aside0 (laws_eqByteS.l0 kq l0 l1 x5_1 = some true) ∧ Aside0 (kq ≤ k) ∧ Drawn0 w w')
    case atStart => exact ⟨(0), sr, H', ⟨Nat.le_refl _⟩, by repeat (first | exact Drawn0.refl _ | apply Drawn0.step)⟩
    case round =>
      clear H'
      try clear c1
      try clear c3
      try clear c3b0
      try clear c3b1
      try clear c3b2
      obtain ⟨x5_1, rfl, HA, HK1, ⟨m1, rfl⟩⟩ := hrel
      cases gk with
      | zero => exact absurd HA.out (by simp [laws_eqByteS.l0])
      | succ k1 =>
        have H := HA.out
        clear HA
        simp only [laws_eqByteS.l0] at H
        by_cases c4 : x5_1 < (l0.length : Int)
        · rw [if_pos c4] at H
          have c4b0 := decide_eq_true c4
          clear c4
          replace H := ifd H
          obtain ⟨c5b0, H⟩ := H
          replace H := ifd H
          obtain ⟨c6b0, H⟩ := H
          by_cases c7 : (rd l0 x5_1) = (rd l1 x5_1)
          · rw [if_pos c7] at H
            have c7b0 : ((rd l0 x5_1) == (rd l1 x5_1)) = true := beq_iff_eq.mpr c7
            have c7b1 : ((rd l0 x5_1) != (rd l1 x5_1)) = false := bne_eq_false_iff_eq.mpr c7
            clear c7
            have H' := Aside0.mk H
            clear H
            have p660 : 0 ≤ (x5_1 : Int) := dcd
            have q660 : x5_1 < (l0.length : Int) := dcd
            obtain ⟨ad660, e660, hx660_0⟩ := Kd.at_int HR0.out x5_1 p660 q660
            cases e660
            replace p660 := eq_true p660
            replace q660 := eq_true q660
            have p661 : 0 ≤ (x5_1 : Int) := dcd
            have q661 : x5_1 < (l1.length : Int) := dcd
            obtain ⟨ad661, e661, hx661_0⟩ := Kd.at_int HR1.out x5_1 p661 q661
            cases e661
            replace p661 := eq_true p661
            replace q661 := eq_true q661
            go_wp2
            repeat (go_quiet (fail); try go_wp2)
            go_roundg k1
            case measure => have := HK1.out; omega
            case rel => exact ⟨(wrap64 (x5_1 + 1)), sr, H', ⟨by have := HK1.out; omega⟩, by repeat (first | exact Drawn0.refl _ | apply Drawn0.step)⟩
          · rw [if_neg c7] at H
            cases H
        · rw [if_neg c4] at H
          have c4b0 := decide_eq_false c4
          clear c4
          clear H
          go_wp2
          repeat (go_quiet (fail); try go_wp2)
          go_ret
          exact ⟨by first | rfl | (simp; done) | (simp [*]; done), by repeat (first | exact Drawn0.refl _ | apply Drawn0.step)⟩
  · rw [if_neg c3] at H
    cases H
/-! ### laws_eqVal: function 29 -/
def laws_eqVal.f (a0_0 : Int) (a0_1 : ByteArray) (a1_0 : Int) (a1_1 : ByteArray) : Option (Bool) := if a0_0 = a1_0 then (if a0_1.toList = a1_1.toList then (some true) else (some false)) else (some false)
set_option maxHeartbeats 8000000 in
set_option maxRecDepth 100000 in
theorem laws_eqVal.calls (a0_0 : Int) (a0_1 : ByteArray) (a1_0 : Int) (a1_1 : ByteArray) (r : Bool) (w : World) (h : laws_eqVal.f a0_0 a0_1 a1_0 a1_1 = some true) :
    Calls Try.prog 29 #[.agg #[.int .i64 a0_0, .string a0_1], .agg #[.int .i64 a1_0, .string a1_1]] w fun e w' => e = .returned (.bool true) ∧ Below w.heap.size w w' := by
  have hu27 := Try.underlying27
  have HB := Aside0.mk (Below.refl w.heap.size w)
  have H : (if a0_0 = a1_0 then (if a0_1.toList = a1_1.toList then (some true) else (some false)) else (some false)) = some true := h
  clear h
  by_cases c3 : a0_0 = a1_0
  · rw [if_pos c3] at H
    have c3b0 : (a0_0 == a1_0) = true := beq_iff_eq.mpr c3
    have c3b1 : (a0_0 != a1_0) = false := bne_eq_false_iff_eq.mpr c3
    clear c3
    by_cases c4 : a0_1.toList = a1_1.toList
    · rw [if_pos c4] at H
      have c4b0 : (a0_1.toList == a1_1.toList) = true := beq_iff_eq.mpr c4
      have c4b1 : (a0_1.toList != a1_1.toList) = false := bne_eq_false_iff_eq.mpr c4
      clear c4
      clear H
      go_enter Try.func29, Try.ntmps29
      go_wp2_with (first | ((with_reducible refine gate_dst (N := 2) rfl ?_); refine bx_ 2 #[.int .i64 a0_0, .string a0_1] 27 ?_; intro gb662 hg w5 hbox hb; have BK662 := Aside0.mk (hbox); have GW662 := gwe HB hg; have GE662 := GW662; replace HB := bst HB hb; clear hb hbox hg) | ((with_reducible refine gate_dst (N := 3) rfl ?_); refine bx_ 3 #[.int .i64 a1_0, .string a1_1] 27 ?_; intro gb663 hg w6 hbox hb; have BK663 := Aside0.mk (hbox); have GW663 := gwe HB hg; have GE663 := GW663; have NB662_663 := nbl BK662 hg; have NB663_662 := nbr (nbl BK662 hg); replace BK662 := bkb BK662 hb; replace HB := bst HB hb; clear hb hbox hg; have hnb7 := NB662_663.out; have hnc7 := NB663_662.out; obtain ⟨hcz8_0, hcz8_1, hfz8_0, hfz8_1⟩ := cl2 BK662; obtain ⟨hcz9_0, hcz9_1, hfz9_0, hfz9_1⟩ := cl2 BK663))
      go_ret
      exact fin_ (below_later HB.out)
    · rw [if_neg c4] at H
      cases H
  · rw [if_neg c3] at H
    cases H
/-! ### laws_eqValS: function 17 -/
def laws_eqValS.l0 : Nat → List (S27) → List (S27) → Int → Option (Bool)
  | 0, _, _, _ => none
  | k + 1, x0, x1, x5 => if x5 < (x0.length : Int) then (if 0 ≤ x5 then (if x5 < (x1.length : Int) then ((laws_eqVal.f ((rd_T27 x0 x5).f0) ((rd_T27 x0 x5).f1) ((rd_T27 x1 x5).f0) ((rd_T27 x1 x5).f1)).bind fun t666 => (if t666 = true then (laws_eqValS.l0 k x0 x1 (wrap64 (x5 + 1))) else (some false))) else (none)) else (none)) else (some true)
def laws_eqValS.f (k : Nat) (l0 : List (S27)) (l1 : List (S27)) : Option (Bool) := if (l0.length : Int) = (l1.length : Int) then (laws_eqValS.l0 k l0 l1 0) else (some false)
def laws_eqValS.T6 : Bool × List (List Nat × List Nat) := (true, [([], []), ([], []), ([0, 1], [0, 1]), ([2], [2]), ([], []), ([], []), ([4, 5], [4, 5]), ([6], [6]), ([3, 7], [3, 7]), ([8], [8])])
def laws_eqValS.B6 : List Nat := [0, 0, 3, 7, 0, 0, 48, 112, 255, 511]
theorem laws_eqValS.tab6 : rtab .any (opsOf Try.f17 6) = laws_eqValS.T6 := by kernel_rfl
theorem laws_eqValS.bits6 : waitsOk laws_eqValS.T6.2 laws_eqValS.B6 = true := by kernel_rfl
set_option maxHeartbeats 8000000 in
set_option maxRecDepth 100000 in
theorem laws_eqValS.calls (k : Nat) (A0 : Option Addr) (c0 : Nat) (l0 : List (S27)) (A1 : Option Addr) (c1 : Nat) (l1 : List (S27)) (r : Bool) (w : World) (hr0 : Kd.C k27 w A0 l0.length l0) (hc0 : l0.length ≤ c0) (hr1 : Kd.C k27 w A1 l1.length l1) (hc1 : l1.length ≤ c1) (h : laws_eqValS.f k l0 l1 = some true) :
    Calls Try.prog 17 #[.slice A0 l0.length c0, .slice A1 l1.length c1] w fun e w' => e = .returned (.bool true) ∧ Below w.heap.size w w' := by
  have hu27 := Try.underlying27
  have HR0 := Aside0.mk hr0
  have HC0 := Aside0.mk hc0
  clear hr0 hc0
  have HR1 := Aside0.mk hr1
  have HC1 := Aside0.mk hc1
  clear hr1 hc1
  have HB := Aside0.mk (Below.refl w.heap.size w)
  have H : (if (l0.length : Int) = (l1.length : Int) then (laws_eqValS.l0 k l0 l1 0) else (some false)) = some true := h
  clear h
  by_cases c3 : (l0.length : Int) = (l1.length : Int)
  · rw [if_pos c3] at H
    have c3b0 : ((l0.length : Int) == (l1.length : Int)) = true := beq_iff_eq.mpr c3
    have c3b1 : ((l0.length : Int) != (l1.length : Int)) = false := bne_eq_false_iff_eq.mpr c3
    have c3b2 : (l0.length == l1.length) = true := by first | simpa using c3 | (simp at c3 ⊢; omega)
    clear c3
    have H' := Aside0.mk H
    clear H
    go_enter Try.func17, Try.ntmps17
    go_wp2
    go_loopg [5] k (fun kq v5 w' => ∃ (x5_1 : Int), v5 = .int .i64 x5_1 ∧ Aside0 (laws_eqValS.l0 kq l0 l1 x5_1 = some true) ∧ Aside0 (kq ≤ k) ∧ Aside0 (Below w.heap.size w w'))
    case atStart => exact ⟨(0), sr, H', ⟨Nat.le_refl _⟩, ⟨below_later HB.out⟩⟩
    case round =>
      clear H'
      try clear c1
      try clear c3
      try clear c3b0
      try clear c3b1
      try clear c3b2
      obtain ⟨x5_1, rfl, HA, HK1, HB⟩ := hrel
      cases gk with
      | zero => exact absurd HA.out (by simp [laws_eqValS.l0])
      | succ k1 =>
        have H := HA.out
        clear HA
        simp only [laws_eqValS.l0] at H
        by_cases c4 : x5_1 < (l0.length : Int)
        · rw [if_pos c4] at H
          have c4b0 := decide_eq_true c4
          clear c4
          replace H := ifd H
          obtain ⟨c5b0, H⟩ := H
          replace H := ifd H
          obtain ⟨c6b0, H⟩ := H
          replace H := bnd H
          obtain ⟨t666, A7, H⟩ := H
          by_cases c8 : t666 = true
          · subst c8
            replace H := ifp rfl H
            have H' := Aside0.mk H
            clear H
            try go_wp2
            have n0_ := Aside0.mk (below_drew1 HB.out)
            clear HB
            have HB := n0_
            clear n0_
            have p664 : 0 ≤ (x5_1 : Int) := dcd
            have q664 : x5_1 < (l0.length : Int) := dcd
            obtain ⟨ad664, e664, hx664_0, hx664_1⟩ := at_T27 HR0.out x5_1 p664 q664
            have hw664_1 := hx664_1
            have hw664_0 := hx664_0
            cases e664
            replace hx664_0 := crd HB hx664_0
            replace hx664_1 := crd HB hx664_1
            replace p664 := eq_true p664
            replace q664 := eq_true q664
            have p665 : 0 ≤ (x5_1 : Int) := dcd
            have q665 : x5_1 < (l1.length : Int) := dcd
            obtain ⟨ad665, e665, hx665_0, hx665_1⟩ := at_T27 HR1.out x5_1 p665 q665
            have hw665_1 := hx665_1
            have hw665_0 := hx665_0
            cases e665
            replace hx665_0 := crd HB hx665_0
            replace hx665_1 := crd HB hx665_1
            replace p665 := eq_true p665
            replace q665 := eq_true q665
            refine start_ (n := 10) (S := fun w' => w'.cell? (ad664.add ((x5_1).toNat * 2)) = some (.int .i64 ((rd_T27 l0 x5_1).f0)) ∧ w'.cell? ⟨(ad664.add ((x5_1).toNat * 2)).block, (ad664.add ((x5_1).toNat * 2)).off + 1, none⟩ = some (.string ((rd_T27 l0 x5_1).f1)) ∧ w'.cell? (ad665.add ((x5_1).toNat * 2)) = some (.int .i64 ((rd_T27 l1 x5_1).f0)) ∧ w'.cell? ⟨(ad665.add ((x5_1).toNat * 2)).block, (ad665.add ((x5_1).toNat * 2)).off + 1, none⟩ = some (.string ((rd_T27 l1 x5_1).f1))) (ds := []) #[false, false, false, false, false, false, false, false, false, false] (by kernel_rfl) rfl rfl ⟨((HB.out.cell (World.block_lt_of_cell? w _ hw664_0)).trans hw664_0), ((HB.out.cell (World.block_lt_of_cell? w _ hw664_1)).trans hw664_1), ((HB.out.cell (World.block_lt_of_cell? w _ hw665_0)).trans hw665_0), ((HB.out.cell (World.block_lt_of_cell? w _ hw665_1)).trans hw665_1)⟩ (fun hHeld => ?_); refine with_tabW laws_eqValS.tab6 laws_eqValS.bits6 (fun HT_ HW_ => ?_)
            generalize wr.drew = w9 at HB hx664_0 hx664_1 hx665_0 hx665_1 hHeld ⊢
            refine pure_ (i := 0) (N := some 17) (v := ?_) (a' := ?_) #[true, false, false, false, false, false, false, false, false, false] rfl rfl (any_of HT_.out (by kernel_rfl)) (fun _ _ _ h => h) (Or.inl ⟨by rfl, ?_⟩) ?_ ?_
            rotate_left
            · intro w'
              go_simp
              with_reducible rfl
            rotate_left
            · simp only [Act.put, List.setIfInBounds_toArray, List.set_cons_zero, List.set_cons_succ, i64_w, i32_w]
              rfl
            refine pure_ (i := 1) (N := some 18) (v := ?_) (a' := ?_) #[true, true, false, false, false, false, false, false, false, false] rfl rfl (any_of HT_.out (by kernel_rfl)) (fun _ _ _ h => h) (Or.inl ⟨by rfl, ?_⟩) ?_ ?_
            rotate_left
            · intro w'
              go_simp
              with_reducible rfl
            rotate_left
            · simp only [Act.put, List.setIfInBounds_toArray, List.set_cons_zero, List.set_cons_succ, i64_w, i32_w]
              rfl
            refine pure_ (i := 2) (N := some 19) (v := ?_) (a' := ?_) #[true, true, true, false, false, false, false, false, false, false] rfl rfl (any_of HT_.out (by kernel_rfl)) (fun _ _ _ h => h) (Or.inl ⟨by rfl, ?_⟩) ?_ ?_
            rotate_left
            · intro w'
              go_simp
              with_reducible rfl
            rotate_left
            · simp only [Act.put, List.setIfInBounds_toArray, List.set_cons_zero, List.set_cons_succ, i64_w, i32_w]
              rfl
            refine pure_ (i := 4) (N := some 21) (v := ?_) (a' := ?_) #[true, true, true, false, true, false, false, false, false, false] rfl rfl (any_of HT_.out (by kernel_rfl)) (fun _ _ _ h => h) (Or.inl ⟨by rfl, ?_⟩) ?_ ?_
            rotate_left
            · intro w'
              go_simp
              with_reducible rfl
            rotate_left
            · simp only [Act.put, List.setIfInBounds_toArray, List.set_cons_zero, List.set_cons_succ, i64_w, i32_w]
              rfl
            refine pure_ (i := 5) (N := some 22) (v := ?_) (a' := ?_) #[true, true, true, false, true, true, false, false, false, false] rfl rfl (any_of HT_.out (by kernel_rfl)) (fun _ _ _ h => h) (Or.inl ⟨by rfl, ?_⟩) ?_ ?_
            rotate_left
            · intro w'
              go_simp
              with_reducible rfl
            rotate_left
            · simp only [Act.put, List.setIfInBounds_toArray, List.set_cons_zero, List.set_cons_succ, i64_w, i32_w]
              rfl
            refine pure_ (i := 6) (N := some 23) (v := ?_) (a' := ?_) #[true, true, true, false, true, true, true, false, false, false] rfl rfl (any_of HT_.out (by kernel_rfl)) (fun _ _ _ h => h) (Or.inl ⟨by rfl, ?_⟩) ?_ ?_
            rotate_left
            · intro w'
              go_simp
              with_reducible rfl
            rotate_left
            · simp only [Act.put, List.setIfInBounds_toArray, List.set_cons_zero, List.set_cons_succ, i64_w, i32_w]
              rfl
            refine take_ (i := 3) (N := some 20) (v := ?_) (a' := ?_) #[true, true, true, true, true, true, true, false, false, false] rfl rfl (take_ofW HT_.out HW_.out (by kernel_rfl)) (fun _ _ _ h => h) (Or.inl ⟨by rfl, ?_⟩) hHeld ?_ ?_
            rotate_left
            · rintro w' ⟨s0, s1, s2, s3⟩
              go_simp
              with_reducible rfl
            rotate_left
            · simp only [Act.put, List.setIfInBounds_toArray, List.set_cons_zero, List.set_cons_succ, i64_w, i32_w]
              rfl
            refine take_ (i := 7) (N := some 24) (v := ?_) (a' := ?_) #[true, true, true, true, true, true, true, true, false, false] rfl rfl (take_ofW HT_.out HW_.out (by kernel_rfl)) (fun _ _ _ h => h) (Or.inl ⟨by rfl, ?_⟩) hHeld ?_ ?_
            rotate_left
            · rintro w' ⟨s0, s1, s2, s3⟩
              go_simp
              with_reducible rfl
            rotate_left
            · simp only [Act.put, List.setIfInBounds_toArray, List.set_cons_zero, List.set_cons_succ, i64_w, i32_w]
              rfl
            refine one_ (i := 8) (N := some 25) #[true, true, true, true, true, true, true, true, true, false] rfl rfl (one_of HT_.out (by kernel_rfl)) (by decide) (fun K hK => ?_)
            refine goes_ Try.func29 (by kernel_rfl) rfl #[.agg #[.int .i64 ((rd_T27 l0 x5_1).f0), .string ((rd_T27 l0 x5_1).f1)], .agg #[.int .i64 ((rd_T27 l1 x5_1).f0), .string ((rd_T27 l1 x5_1).f1)]] (by rfl) rfl rfl (by (try simp only [List.map_toArray, List.map_cons, List.map_nil]); first | done | rfl | (simp only [List.length_drop, List.length_take]; rfl)) ?_
            with_reducible refine (laws_eqVal.calls ((rd_T27 l0 x5_1).f0) ((rd_T27 l0 x5_1).f1) ((rd_T27 l1 x5_1).f0) ((rd_T27 l1 x5_1).f1) true _ A7.out).mono ?_
            rintro e w10 ⟨rfl, hb⟩
            refine ⟨_, rfl, ?_⟩
            have n0_ := bst HB hb
            clear HB
            have HB := n0_
            clear n0_
            (try clear hb)
            (try clear hb2)
            (try clear hk)
            (try clear hi)
            refine hK.out _ _ ⟨((HB.out.cell (World.block_lt_of_cell? w _ hw664_0)).trans hw664_0), ((HB.out.cell (World.block_lt_of_cell? w _ hw664_1)).trans hw664_1), ((HB.out.cell (World.block_lt_of_cell? w _ hw665_0)).trans hw665_0), ((HB.out.cell (World.block_lt_of_cell? w _ hw665_1)).trans hw665_1)⟩ (fun hHeld => ?_)
            clear hK K
            refine norm_ (a' := ?_) ?_ ?_
            rotate_left
            · show Act.put _ (some 25) _ = _
              simp only [Act.put, List.setIfInBounds_toArray, List.set_cons_zero, List.set_cons_succ, i64_w, i32_w]
              rfl
            refine pure_ (i := 9) (N := some 26) (v := ?_) (a' := ?_) #[true, true, true, true, true, true, true, true, true, true] rfl rfl (any_of HT_.out (by kernel_rfl)) (fun _ _ _ h => h) (Or.inl ⟨by rfl, ?_⟩) ?_ ?_
            rotate_left
            · intro w'
              go_simp
              with_reducible rfl
            rotate_left
            · simp only [Act.put, List.setIfInBounds_toArray, List.set_cons_zero, List.set_cons_succ, i64_w, i32_w]
              rfl
            refine done_ (done_of HT_.out (by kernel_rfl)) ?_
            try go_wp2
            go_roundg k1
            case measure => have := HK1.out; omega
            case rel => exact ⟨(wrap64 (x5_1 + 1)), sr, H', ⟨by have := HK1.out; omega⟩, ⟨below_later HB.out⟩⟩
          · replace c8 := Bool.eq_false_iff.mpr c8
            subst c8
            have H1 : (some false) = some true := by rw [if_neg (show ¬ (false = true) by decide)] at H; exact H
            cases H1
        · rw [if_neg c4] at H
          have c4b0 := decide_eq_false c4
          clear c4
          clear H
          go_wp2
          go_ret
          exact fin_ (below_later HB.out)
  · rw [if_neg c3] at H
    cases H
/-! ### laws_markText: function 40 -/
def laws_markText.l0 : Nat → Int → ByteArray → Option (ByteArray)
  | 0, _, _ => none
  | k + 1, x0, x3 => if x0 > 0 then ((some (([(wrap64 (48 + (Int.tmod x0 10))) % 256] : List Int) : List Int)).bind fun y667 => (if (strOfNums y667).size + x3.size ≤ 9223372036854775807 then (laws_markText.l0 k (wrap64 (Int.tdiv x0 10)) ((strOfNums y667) ++ x3)) else (none))) else (if 1 + x3.size ≤ 9223372036854775807 then (some ((⟨#[109]⟩ : ByteArray) ++ x3)) else (none))
def laws_markText.f (k : Nat) (a0 : Int) : Option (ByteArray) := if a0 ≤ 0 then (some (⟨#[109, 48]⟩ : ByteArray)) else (laws_markText.l0 k a0 (⟨#[]⟩ : ByteArray))
set_option maxHeartbeats 8000000 in
set_option maxRecDepth 100000 in
theorem laws_markText.calls (k : Nat) (a0 : Int) (r : ByteArray) (w : World) (h : laws_markText.f k a0 = some r) :
    Calls Try.prog 40 #[.int .i64 a0] w fun e w' => e = .returned (.string r) ∧ Below w.heap.size w w' := by
  have HB := Aside0.mk (Below.refl w.heap.size w)
  have H : (if a0 ≤ 0 then (some (⟨#[109, 48]⟩ : ByteArray)) else (laws_markText.l0 k a0 (⟨#[]⟩ : ByteArray))) = some r := h
  clear h
  by_cases c2 : a0 ≤ 0
  · rw [if_pos c2] at H
    have c2b0 := decide_eq_true c2
    clear c2
    obtain rfl := Option.some.inj H
    go_enter Try.func40, Try.ntmps40
    go_wp2
    go_ret
    exact fin_ (below_later HB.out)
  · rw [if_neg c2] at H
    have c2b0 := decide_eq_false c2
    clear c2
    have H' := Aside0.mk H
    clear H
    go_enter Try.func40, Try.ntmps40
    go_wp2
    go_loopg [0, 3] k (fun kq v0 v3 w' => ∃ (x0_1 : Int) (x3_1 : ByteArray), v0 = .int .i64 x0_1 ∧ v3 = .string x3_1 ∧ Aside0 (laws_markText.l0 kq x0_1 x3_1 = some r) ∧ Aside0 (kq ≤ k) ∧ Aside0 (Below w.heap.size w w'))
    case atStart => exact ⟨(a0), ((⟨#[]⟩ : ByteArray)), sr, sr, H', ⟨Nat.le_refl _⟩, ⟨below_later HB.out⟩⟩
    case round =>
      clear H'
      try clear c2
      try clear c2b0
      obtain ⟨x0_1, x3_1, rfl, rfl, HA, HK1, HB⟩ := hrel
      cases gk with
      | zero => exact absurd HA.out (by simp [laws_markText.l0])
      | succ k1 =>
        have H := HA.out
        clear HA
        simp only [laws_markText.l0] at H
        by_cases c3 : x0_1 > 0
        · rw [if_pos c3] at H
          have c3b0 : decide (0 < x0_1) = true := decide_eq_true c3
          clear c3
          replace H := bsm H
          obtain ⟨y667, Ny667, H⟩ := H
          replace H := ifs H
          obtain ⟨c4, H⟩ := H
          have c4b0 := eq_true c4
          have c4b1 := decide_eq_true c4
          try have c4b2 : (9223372036854775807 < (strOfNums y667).size + x3_1.size) = False := eq_false (Nat.not_lt.2 c4)
          have H' := Aside0.mk H
          clear H
          go_wp2_with (first | ((with_reducible refine gate_dst (N := 12) rfl ?_); refine Kd.R_lit (Kd.int .u8) _ 5 ?hg (N := 12) ?hd (xs := ([(wrap64 (48 + (Int.tmod x0_1 10))) % 256] : List Int)) (inner := [.int .u8 ((wrap64 (48 + (Int.tmod x0_1 10))) % 256)]) (ok := fun _ => True) (okp := fun _ => True) ?hr ?hp (fun _ hk => hk) trivial (Below.refl _ _) (Nat.le_refl _) (by simp) ?_; (case hd => rfl); (case hg => rfl); (case hr => first | (go_simp; done) | (go_simp; rfl)); (case hp => exact (Reps.one (show Kd.M (Kd.int .u8) _ _ _ ((wrap64 (48 + (Int.tmod x0_1 10))) % 256) [.int .u8 ((wrap64 (48 + (Int.tmod x0_1 10))) % 256)] from rfl) (Reps.none _ _))); intro v668 w5 ho6 hb hg_ hnew_; clear hg_ hnew_; (first | rw [← Ny667.out] at ho6 | (simp only [Int.reduceToNat] at ho6; rw [← Ny667.out] at ho6)); have HO669 := Aside0.mk (Kd.R_lower ho6 (below_size (below_later HB.out))); replace HB := bst HB hb; clear hb ho6; have hcv7 := own_string (P := Try.prog) Try.underlying41 Try.underlying5 Try.underlying9 (Kd.own_of_R HO669.out)))
          go_roundg k1
          case measure => have := HK1.out; omega
          case rel => exact ⟨(wrap64 (Int.tdiv x0_1 10)), ((strOfNums y667) ++ x3_1), sr, sr, H', ⟨by have := HK1.out; omega⟩, ⟨below_later HB.out⟩⟩
        · rw [if_neg c3] at H
          have c3b0 : decide (0 < x0_1) = false := decide_eq_false c3
          clear c3
          replace H := ifs H
          obtain ⟨c8, H⟩ := H
          have c8b0 := eq_true c8
          have c8b1 := decide_eq_true c8
          try have c8b2 : (9223372036854775807 < 1 + x3_1.size) = False := eq_false (Nat.not_lt.2 c8)
          obtain rfl := Option.some.inj H
          go_wp2
          go_ret
          exact fin_ (below_later HB.out)
/-! ### laws_markValS: function 18 -/
def laws_markValS.l0 : Nat → List (S27) → Int → Int → Option (Int × (List (S27)))
  | 0, _, _, _ => none
  | k + 1, x0, x1, x5 => if x5 < (x0.length : Int) then (if 0 ≤ x5 then ((some (x0.set (x5 : Int).toNat (⟨x1, (rd_T27 x0 x5).f1⟩ : S27) : List (S27))).bind fun y670 => ((laws_markText.f k (wrap64 (x1 + 1))).bind fun t671 => (laws_markValS.l0 k (y670.set (x5 : Int).toNat (⟨(rd_T27 y670 x5).f0, t671⟩ : S27)) (wrap64 ((wrap64 (x1 + 1)) + 1)) (wrap64 (x5 + 1))))) else (none)) else (some (x1, x0))
def laws_markValS.f (k : Nat) (l0 : List (S27)) (a1 : Int) : Option (Int × (List (S27))) := laws_markValS.l0 k l0 a1 0
set_option maxHeartbeats 8000000 in
set_option maxRecDepth 100000 in
theorem laws_markValS.calls (k : Nat) (P0_ : Nat → Prop) (u9000_ : Value) (l0 : List (S27)) (a1 : Int) (r1 : Int) (r2 : List (S27)) (w0 w : World) (hB : Below w0.heap.size w0 w) (ho0 : Kd.R k27 27 w w0.heap.size P0_ u9000_ l0) (h : laws_markValS.f k l0 a1 = some (r1, r2)) :
    Calls Try.prog 18 #[u9000_, .int .i64 a1] w fun e w' => e = .returned (.int .i64 r1) ∧ Kd.R k27 27 w' w0.heap.size (fun k_ => (P0_ k_ ∨ w.heap.size ≤ k_)) u9000_ r2 ∧ Below w0.heap.size w0 w' ∧ Kept w w' (fun k_ => P0_ k_) := by
  have HO0 := Aside0.mk (show Kd.R k27 27 w w0.heap.size (fun k_ => (P0_ k_ ∨ w.heap.size ≤ k_)) u9000_ l0 from Kd.R_mono ho0 (fun k_ hk => (.inl hk)))
  have HK := Aside0.mk (Kept.refl w (fun k_ => P0_ k_))
  have HW0 := Aside0.mk hB.size
  have HB := Aside0.mk hB
  clear hB
  have H : (laws_markValS.l0 k l0 a1 0) = some (r1, r2) := h
  clear h
  have H' := Aside0.mk H
  clear H
  go_enter Try.func18, Try.ntmps18
  go_wp2
  go_loopg [1, 5] k (fun kq v1 v5 w' => ∃ (x0_1 : List (S27)) (x1_1 : Int) (x5_1 : Int), v1 = .int .i64 x1_1 ∧ v5 = .int .i64 x5_1 ∧ Aside0 (laws_markValS.l0 kq x0_1 x1_1 x5_1 = some (r1, r2)) ∧ Aside0 (kq ≤ k) ∧ Aside0 (Kd.R k27 27 w' w0.heap.size (fun k_ => (P0_ k_ ∨ w.heap.size ≤ k_)) u9000_ x0_1) ∧ Aside0 (Kept w w' (fun k_ => P0_ k_)) ∧ Aside0 (Below w0.heap.size w0 w'))
  case atStart => exact ⟨(l0), (a1), (0), sr, sr, H', ⟨Nat.le_refl _⟩, ⟨R_later HO0.out⟩, ⟨by repeat (first | (with_reducible first | exact HK.out | apply Kept.alloc | apply Kept.drewN | apply Kept.drew) | exact HK.out)⟩, ⟨below_later HB.out⟩⟩
  case round =>
    clear H'
    obtain ⟨x0_1, x1_1, x5_1, rfl, rfl, HA, HK1, HO_0, HK, HB⟩ := hrel
    cases gk with
    | zero => exact absurd HA.out (by simp [laws_markValS.l0])
    | succ k1 =>
      have H := HA.out
      clear HA
      simp only [laws_markValS.l0] at H
      by_cases c3 : x5_1 < (x0_1.length : Int)
      · rw [if_pos c3] at H
        have c3b0 := decide_eq_true c3
        clear c3
        replace H := ifd H
        obtain ⟨c4b0, H⟩ := H
        replace H := bsm H
        obtain ⟨y670, Ny670, H⟩ := H
        replace H := bnd H
        obtain ⟨t671, A6, H⟩ := H
        obtain ⟨y672, hy672⟩ : ∃ y_ : List (S27), y_ = (y670.set (x5_1 : Int).toNat (⟨(rd_T27 y670 x5_1).f0, t671⟩ : S27)) := ⟨_, rfl⟩
        replace H : (laws_markValS.l0 k1 y672 (wrap64 ((wrap64 (x1_1 + 1)) + 1)) (wrap64 (x5_1 + 1))) = some (r1, r2) := by first | (rw [hy672]; with_reducible exact H) | (rw [hy672]; exact H) | exact H
        have Ny672 := Aside0.mk hy672
        clear hy672
        have H' := Aside0.mk H
        clear H
        obtain ⟨Ao8, co8, eo8⟩ := Kd.R_slice HO_0.out
        subst eo8
        have p5 : 0 ≤ (x5_1 : Int) := dcd
        have q5 : (x5_1 : Int) < ((x0_1.length : Int) : Int) := dcd
        obtain ⟨go5, co5, eo5, gb5, gl5, cl5, HG5⟩ := Kd.R_form HO_0.out (by omega)
        (first | cases eo5 | (injection eo5 with ea_ en_ ec_; (first | subst ea_ | (injection ea_ with ea_; subst ea_)); subst ec_; clear en_))
        have GB5 := Aside0.mk gb5
        have GG5 := Aside0.mk HG5
        clear gb5 gl5 HG5
        have HMgo5 := Aside0.mk (show (P0_ go5 ∨ w.heap.size ≤ go5) from (HO_0.out.1 _ rfl))
        obtain ⟨ce5, hcl5, hM5, hcc5, hfr5⟩ := Kd.R_elem HO_0.out z27 (x5_1 : Int) p5 q5
        obtain rfl := k27_openM hM5
        have hx5_0 : wr.cell? ⟨go5, (x5_1 : Int).toNat * 2, none⟩ = some (.int .i64 ((rd_T27 x0_1 x5_1).f0)) := hcc5 0 _ rfl
        have hx5_1 : wr.cell? ⟨go5, (x5_1 : Int).toNat * 2 + 1, none⟩ = some (.string ((rd_T27 x0_1 x5_1).f1)) := hcc5 1 _ rfl
        have hf5_0 : wr.frozen? ⟨go5, (x5_1 : Int).toNat * 2, none⟩ = false := hfr5 0
        have hf5_1 : wr.frozen? ⟨go5, (x5_1 : Int).toNat * 2 + 1, none⟩ = false := hfr5 1
        clear hcl5 hcc5 hfr5 hM5
        replace p5 := eq_true p5
        replace q5 := eq_true q5
        have HX9 := Aside0.mk (show Kd.R k27 27 wr w0.heap.size (fun k_ => (P0_ k_ ∨ w.heap.size ≤ k_)) (.slice (some ⟨go5, 0, none⟩) x0_1.length co8) x0_1 from (R_later HO_0.out))
        obtain ⟨ce9, hcl9, hM9, hcc9, hfr9⟩ := Kd.R_elem HX9.out z27 (x5_1 : Int) (dcd) (by have h_ : (x5_1 : Int) < ((x0_1.length : Int) : Int) := dcd; first | exact h_ | (have e_ := (Kd.R_reads' HO_0.out).1; omega) | simpa using h_)
        obtain rfl := k27_openM hM9
        have HP9 := Kd.R_seg HX9.out (x5_1 : Int) (dcd) (by have h_ : (x5_1 : Int) < ((x0_1.length : Int) : Int) := dcd; first | exact h_ | (have e_ := (Kd.R_reads' HO_0.out).1; omega) | simpa using h_) (seg := [.int .i64 x1_1]) (j := 0) hcl9 hcc9 (show 1 ≤ 2 from by decide) (x' := (⟨x1_1, (rd_T27 x0_1 x5_1).f1⟩ : S27)) (k27_mkM _ _ _ (⟨x1_1, (rd_T27 x0_1 x5_1).f1⟩ : S27) ) (fun _ hk => hk)
        have hx9_0 := hcc9 0 _ rfl
        (try simp only [show (k27).sz = 2 from rfl, Nat.mul_one, Nat.add_zero] at hx9_0)
        have hf9_0 := hfr9 0
        (try simp only [show (k27).sz = 2 from rfl, Nat.mul_one, Nat.add_zero] at hf9_0)
        clear hcl9 hcc9 hfr9 hM9
        go_wp2_with (first | ((with_reducible refine gate_store (t := 3) (p := 16) rfl ?_); refine st_ 3 16 (wr.setCell ⟨go5, (x5_1 : Int).toNat * 2, none⟩ (.int .i64 x1_1)) ?_; intro w10 hw; have hg : wr.grownBy w10 (some go5) := (by rw [hw]; exact HP9.2); have hp_ : Kd.R k27 27 w10 w0.heap.size (fun k_ => (P0_ k_ ∨ w.heap.size ≤ k_)) (.slice (some ⟨go5, 0, none⟩) x0_1.length co8) y670 := (by rw [hw, Ny670.out]; exact HP9.1); clear HP9; replace HB := Aside0.mk ((by rw [hw]; exact below_set (HB.out) GB5.out : Below w0.heap.size w0 w10)); replace HK := Aside0.mk (Kept.of_grown (S := (fun k_ => P0_ k_)) hg (by repeat (first | (with_reducible first | exact HK.out | apply Kept.alloc | apply Kept.drewN | apply Kept.drew) | exact HK.out)) (fun k_ e_ => (HO_0.out.1 k_ e_))); replace HO_0 := Aside0.mk (hp_); clear hg hw hp_) | ((with_reducible refine gate_callee (f := 40) rfl ?_); refine gl_ (some 22) Try.func40 #[.int .i64 (wrap64 (x1_1 + 1))] rfl ?_; (with_reducible refine (laws_markText.calls k1 (wrap64 (x1_1 + 1)) t671 _ A6.out).mono ?_); rintro e w11 ⟨rfl, hb⟩; refine ⟨_, rfl, ?_⟩; replace HO_0 := Aside0.mk (Kd.R_below (R_later HO_0.out) hb); replace HK := Aside0.mk (Kept.below (S := (fun k_ => P0_ k_)) (by repeat (first | (with_reducible first | exact HK.out | apply Kept.alloc | apply Kept.drewN | apply Kept.drew) | exact HK.out)) hb); replace HB := bst HB hb; (try clear hb); (try clear hk); have p7 : 0 ≤ (x5_1 : Int) := dcd; have q7 : (x5_1 : Int) < ((x0_1.length : Int) : Int) := dcd; obtain ⟨ce7, hcl7, hM7, hcc7, hfr7⟩ := Kd.R_elem HO_0.out z27 (x5_1 : Int) p7 q7; obtain rfl := k27_openM hM7; have hx7_0 : w11.cell? ⟨go5, (x5_1 : Int).toNat * 2, none⟩ = some (.int .i64 ((rd_T27 y670 x5_1).f0)) := hcc7 0 _ rfl; have hx7_1 : w11.cell? ⟨go5, (x5_1 : Int).toNat * 2 + 1, none⟩ = some (.string ((rd_T27 y670 x5_1).f1)) := hcc7 1 _ rfl; have hf7_0 : w11.frozen? ⟨go5, (x5_1 : Int).toNat * 2, none⟩ = false := hfr7 0; have hf7_1 : w11.frozen? ⟨go5, (x5_1 : Int).toNat * 2 + 1, none⟩ = false := hfr7 1; clear hcl7 hcc7 hfr7 hM7; replace p7 := eq_true p7; replace q7 := eq_true q7; have HX12 := Aside0.mk (show Kd.R k27 27 w11 w0.heap.size (fun k_ => (P0_ k_ ∨ w.heap.size ≤ k_)) (.slice (some ⟨go5, 0, none⟩) x0_1.length co8) y670 from (R_later HO_0.out)); obtain ⟨ce12, hcl12, hM12, hcc12, hfr12⟩ := Kd.R_elem HX12.out z27 (x5_1 : Int) (dcd) (by have h_ : (x5_1 : Int) < ((x0_1.length : Int) : Int) := dcd; first | exact h_ | (have e_ := (Kd.R_reads' HO_0.out).1; omega) | simpa using h_); obtain rfl := k27_openM hM12; have HP12 := Kd.R_seg HX12.out (x5_1 : Int) (dcd) (by have h_ : (x5_1 : Int) < ((x0_1.length : Int) : Int) := dcd; first | exact h_ | (have e_ := (Kd.R_reads' HO_0.out).1; omega) | simpa using h_) (seg := [.string t671]) (j := 1) hcl12 hcc12 (show 2 ≤ 2 from by decide) (x' := (⟨(rd_T27 y670 x5_1).f0, t671⟩ : S27)) (k27_mkM _ _ _ (⟨(rd_T27 y670 x5_1).f0, t671⟩ : S27) ) (fun _ hk => hk); have hx12_1 := hcc12 1 _ rfl; (try simp only [show (k27).sz = 2 from rfl, Nat.mul_one, Nat.add_zero] at hx12_1); have hf12_1 := hfr12 1; (try simp only [show (k27).sz = 2 from rfl, Nat.mul_one, Nat.add_zero] at hf12_1); clear hcl12 hcc12 hfr12 hM12) | ((with_reducible refine gate_store (t := 9) (p := 24) rfl ?_); refine st_ 9 24 (w11.setCell ⟨go5, (x5_1 : Int).toNat * 2 + 1, none⟩ (.string t671)) ?_; intro w13 hw; have hg : w11.grownBy w13 (some go5) := (by rw [hw]; exact HP12.2); have hp_ : Kd.R k27 27 w13 w0.heap.size (fun k_ => (P0_ k_ ∨ w.heap.size ≤ k_)) (.slice (some ⟨go5, 0, none⟩) x0_1.length co8) y672 := (by rw [hw, Ny672.out]; exact HP12.1); clear HP12; replace HB := Aside0.mk ((by rw [hw]; exact below_set (HB.out) GB5.out : Below w0.heap.size w0 w13)); replace HK := Aside0.mk (Kept.of_grown (S := (fun k_ => P0_ k_)) hg (by repeat (first | (with_reducible first | exact HK.out | apply Kept.alloc | apply Kept.drewN | apply Kept.drew) | exact HK.out)) (fun k_ e_ => (HO_0.out.1 k_ e_))); replace HO_0 := Aside0.mk (hp_); clear hg hw hp_))
        go_roundg k1
        case measure => have := HK1.out; omega
        case rel => exact ⟨(y672), (wrap64 ((wrap64 (x1_1 + 1)) + 1)), (wrap64 (x5_1 + 1)), sr, sr, H', ⟨by have := HK1.out; omega⟩, ⟨R_later HO_0.out⟩, ⟨by repeat (first | (with_reducible first | exact HK.out | apply Kept.alloc | apply Kept.drewN | apply Kept.drew) | exact HK.out)⟩, ⟨below_later HB.out⟩⟩
      · rw [if_neg c3] at H
        have c3b0 := decide_eq_false c3
        clear c3
        simp only [Option.some.injEq, Prod.mk.injEq] at H
        obtain ⟨rfl, rfl⟩ := H
        obtain ⟨Ao14, co14, eo14⟩ := Kd.R_slice HO_0.out
        subst eo14
        go_wp2
        go_ret
        exact ⟨by first | rfl | (simp [errW_none, errW_some] <;> rfl) | (simp [*, errW_none, errW_some] <;> rfl), by (with_reducible repeat (first | apply Kd.R_alloc | apply Kd.R_drewN | apply Kd.R_drew)); exact HO_0.out, below_later HB.out, by repeat (first | (with_reducible first | exact HK.out | apply Kept.alloc | apply Kept.drewN | apply Kept.drew) | exact HK.out)⟩

/-! ### laws_markByteS: function 19 -/
def laws_markByteS.l0 : Nat → List Int → Int → Int → Option (Int × List Int)
  | 0, _, _, _ => none
  | k + 1, x0, x1, x5 => if x5 < (x0.length : Int) then (if 0 ≤ x5 then (laws_markByteS.l0 k (x0.set (x5 : Int).toNat ((x1) % 256)) (wrap64 (x1 + 1)) (wrap64 (x5 + 1))) else (none)) else (some (x1, x0))
def laws_markByteS.f (k : Nat) (l0 : List Int) (a1 : Int) : Option (Int × List Int) := laws_markByteS.l0 k l0 a1 0
set_option maxHeartbeats 8000000 in
set_option maxRecDepth 100000 in
theorem laws_markByteS.calls (k : Nat) (P0_ : Nat → Prop) (u9000_ : Value) (l0 : List Int) (a1 : Int) (r1 : Int) (r2 : List Int) (w0 w : World) (hB : Below w0.heap.size w0 w) (ho0 : Kd.R (Kd.int .u8) 5 w w0.heap.size P0_ u9000_ l0) (h : laws_markByteS.f k l0 a1 = some (r1, r2)) :
    Calls Try.prog 19 #[u9000_, .int .i64 a1] w fun e w' => e = .returned (.int .i64 r1) ∧ Kd.R (Kd.int .u8) 5 w' w0.heap.size (fun k_ => (P0_ k_ ∨ w.heap.size ≤ k_)) u9000_ r2 ∧ Below w0.heap.size w0 w' ∧ Kept w w' (fun k_ => P0_ k_) := by
  have HO0 := Aside0.mk (show Kd.R (Kd.int .u8) 5 w w0.heap.size (fun k_ => (P0_ k_ ∨ w.heap.size ≤ k_)) u9000_ l0 from Kd.R_mono ho0 (fun k_ hk => (.inl hk)))
  have HK := Aside0.mk (Kept.refl w (fun k_ => P0_ k_))
  have HW0 := Aside0.mk hB.size
  have HB := Aside0.mk hB
  clear hB
  have H : (laws_markByteS.l0 k l0 a1 0) = some (r1, r2) := h
  clear h
  have H' := Aside0.mk H
  clear H
  go_enter Try.func19, Try.ntmps19
  go_wp2
  go_loopg [1, 5] k (fun kq v1 v5 w' => ∃ (x0_1 : List Int) (x1_1 : Int) (x5_1 : Int), v1 = .int .i64 x1_1 ∧ v5 = .int .i64 x5_1 ∧ Aside0 (laws_markByteS.l0 kq x0_1 x1_1 x5_1 = some (r1, r2)) ∧ Aside0 (kq ≤ k) ∧ Aside0 (Kd.R (Kd.int .u8) 5 w' w0.heap.size (fun k_ => (P0_ k_ ∨ w.heap.size ≤ k_)) u9000_ x0_1) ∧ Aside0 (Kept w w' (fun k_ => P0_ k_)) ∧ Aside0 (Below w0.heap.size w0 w'))
  case atStart => exact ⟨(l0), (a1), (0), sr, sr, H', ⟨Nat.le_refl _⟩, ⟨R_later HO0.out⟩, ⟨by repeat (first | (with_reducible first | exact HK.out | apply Kept.alloc | apply Kept.drewN | apply Kept.drew) | exact HK.out)⟩, ⟨below_later HB.out⟩⟩
  case round =>
    clear H'
    obtain ⟨x0_1, x1_1, x5_1, rfl, rfl, HA, HK1, HO_0, HK, HB⟩ := hrel
    cases gk with
    | zero => exact absurd HA.out (by simp [laws_markByteS.l0])
    | succ k1 =>
      have H := HA.out
      clear HA
      simp only [laws_markByteS.l0] at H
      by_cases c3 : x5_1 < (x0_1.length : Int)
      · rw [if_pos c3] at H
        have c3b0 := decide_eq_true c3
        clear c3
        replace H := ifd H
        obtain ⟨c4b0, H⟩ := H
        obtain ⟨y673, hy673⟩ : ∃ y_ : List Int, y_ = (x0_1.set (x5_1 : Int).toNat ((x1_1) % 256)) := ⟨_, rfl⟩
        replace H : (laws_markByteS.l0 k1 y673 (wrap64 (x1_1 + 1)) (wrap64 (x5_1 + 1))) = some (r1, r2) := by first | (rw [hy673]; with_reducible exact H) | (rw [hy673]; exact H) | exact H
        have Ny673 := Aside0.mk hy673
        clear hy673
        have H' := Aside0.mk H
        clear H
        obtain ⟨Ao6, co6, eo6⟩ := Kd.R_slice HO_0.out
        subst eo6
        have p5 : 0 ≤ (x5_1 : Int) := dcd
        have q5 : (x5_1 : Int) < ((x0_1.length : Int) : Int) := dcd
        obtain ⟨go5, co5, eo5, gb5, gl5, cl5, HG5⟩ := Kd.R_form HO_0.out (by omega)
        (first | cases eo5 | (injection eo5 with ea_ en_ ec_; (first | subst ea_ | (injection ea_ with ea_; subst ea_)); subst ec_; clear en_))
        have GB5 := Aside0.mk gb5
        have GG5 := Aside0.mk HG5
        clear gb5 gl5 HG5
        have HMgo5 := Aside0.mk (show (P0_ go5 ∨ w.heap.size ≤ go5) from (HO_0.out.1 _ rfl))
        obtain ⟨hx5_0, hf5_0⟩ := Kd.R_celln 0 HO_0.out (x5_1 : Int) p5 q5
        replace p5 := eq_true p5
        replace q5 := eq_true q5
        have HP7 := Kd.R_putg HO_0.out (x5_1 : Int) ((x1_1) % 256)
        go_wp2_with (first | ((with_reducible refine gate_store (t := 5) (p := 16) rfl ?_); refine st_ 5 16 (wr.setCell ⟨go5, (x5_1 : Int).toNat, none⟩ (.int .u8 ((x1_1) % 256))) ?_; intro w8 hw; have hg : wr.grownBy w8 (some go5) := (by rw [hw]; exact HP7.2); have hp_ : Kd.R (Kd.int .u8) 5 w8 w0.heap.size (fun k_ => (P0_ k_ ∨ w.heap.size ≤ k_)) (.slice (some ⟨go5, 0, none⟩) x0_1.length co6) y673 := (by rw [hw, Ny673.out]; exact HP7.1); clear HP7; replace HB := Aside0.mk ((by rw [hw]; exact below_set (HB.out) GB5.out : Below w0.heap.size w0 w8)); replace HK := Aside0.mk (Kept.of_grown (S := (fun k_ => P0_ k_)) hg (by repeat (first | (with_reducible first | exact HK.out | apply Kept.alloc | apply Kept.drewN | apply Kept.drew) | exact HK.out)) (fun k_ e_ => (HO_0.out.1 k_ e_))); replace HO_0 := Aside0.mk (hp_); clear hg hw hp_))
        go_roundg k1
        case measure => have := HK1.out; omega
        case rel => exact ⟨(y673), (wrap64 (x1_1 + 1)), (wrap64 (x5_1 + 1)), sr, sr, H', ⟨by have := HK1.out; omega⟩, ⟨R_later HO_0.out⟩, ⟨by repeat (first | (with_reducible first | exact HK.out | apply Kept.alloc | apply Kept.drewN | apply Kept.drew) | exact HK.out)⟩, ⟨below_later HB.out⟩⟩
      · rw [if_neg c3] at H
        have c3b0 := decide_eq_false c3
        clear c3
        simp only [Option.some.injEq, Prod.mk.injEq] at H
        obtain ⟨rfl, rfl⟩ := H
        obtain ⟨Ao9, co9, eo9⟩ := Kd.R_slice HO_0.out
        subst eo9
        go_wp2
        go_ret
        exact ⟨by first | rfl | (simp [errW_none, errW_some] <;> rfl) | (simp [*, errW_none, errW_some] <;> rfl), by (with_reducible repeat (first | apply Kd.R_alloc | apply Kd.R_drewN | apply Kd.R_drew)); exact HO_0.out, below_later HB.out, by repeat (first | (with_reducible first | exact HK.out | apply Kept.alloc | apply Kept.drewN | apply Kept.drew) | exact HK.out)⟩

/-! ### laws_heldByteS: function 20 -/
def laws_heldByteS.l0 : Nat → List Int → Int → Int → Option (Int)
  | 0, _, _, _ => none
  | k + 1, x0, x1, x5 => if x5 < (x0.length : Int) then (if 0 ≤ x5 then (if (rd x0 x5) = ((x1) % 256) then (laws_heldByteS.l0 k x0 (wrap64 (x1 + 1)) (wrap64 (x5 + 1))) else (some (-1))) else (none)) else (some x1)
def laws_heldByteS.f (k : Nat) (l0 : List Int) (a1 : Int) : Option (Int) := laws_heldByteS.l0 k l0 a1 0
set_option maxHeartbeats 8000000 in
set_option maxRecDepth 100000 in
theorem laws_heldByteS.calls (k : Nat) (A0 : Option Addr) (c0 : Nat) (l0 : List Int) (a1 : Int) (r : Int) (w : World) (hr0 : Kd.C (Kd.int .u8) w A0 l0.length l0) (hc0 : l0.length ≤ c0) (h : laws_heldByteS.f k l0 a1 = some r) :
    Calls Try.prog 20 #[.slice A0 l0.length c0, .int .i64 a1] w fun e w' => e = .returned (.int .i64 r) ∧ Drawn0 w w' := by
  have HR0 := Aside0.mk hr0
  have HC0 := Aside0.mk hc0
  clear hr0 hc0
  have H : (laws_heldByteS.l0 k l0 a1 0) = some r := h
  clear h
  have H' := Aside0.mk H
  clear H
  go_enter Try.func20, Try.ntmps20
  go_wp2
  go_loopg [1, 5] k (fun kq v1 v5 w' => ∃ (x1_1 : Int) (x5_1 : Int), v1 = .int .i64 x1_1 ∧ v5 = .int .i64 x5_1 ∧ Aside0 (laws_heldByteS.l0 kq l0 x1_1 x5_1 = some r) ∧ Aside0 (kq ≤ k) ∧ Drawn0 w w')
  case atStart => exact ⟨(a1), (0), sr, sr, H', ⟨Nat.le_refl _⟩, by repeat (first | exact Drawn0.refl _ | apply Drawn0.step)⟩
  case round =>
    clear H'
    obtain ⟨x1_1, x5_1, rfl, rfl, HA, HK1, ⟨m1, rfl⟩⟩ := hrel
    cases gk with
    | zero => exact absurd HA.out (by simp [laws_heldByteS.l0])
    | succ k1 =>
      have H := HA.out
      clear HA
      simp only [laws_heldByteS.l0] at H
      by_cases c3 : x5_1 < (l0.length : Int)
      · rw [if_pos c3] at H
        have c3b0 := decide_eq_true c3
        clear c3
        replace H := ifd H
        obtain ⟨c4b0, H⟩ := H
        by_cases c5 : (rd l0 x5_1) = ((x1_1) % 256)
        · rw [if_pos c5] at H
          have c5b0 : ((rd l0 x5_1) == ((x1_1) % 256)) = true := beq_iff_eq.mpr c5
          have c5b1 : ((rd l0 x5_1) != ((x1_1) % 256)) = false := bne_eq_false_iff_eq.mpr c5
          clear c5
          have H' := Aside0.mk H
          clear H
          have p674 : 0 ≤ (x5_1 : Int) := dcd
          have q674 : x5_1 < (l0.length : Int) := dcd
          obtain ⟨ad674, e674, hx674_0⟩ := Kd.at_int HR0.out x5_1 p674 q674
          cases e674
          replace p674 := eq_true p674
          replace q674 := eq_true q674
          go_wp2
          go_roundg k1
          case measure => have := HK1.out; omega
          case rel => exact ⟨(wrap64 (x1_1 + 1)), (wrap64 (x5_1 + 1)), sr, sr, H', ⟨by have := HK1.out; omega⟩, by repeat (first | exact Drawn0.refl _ | apply Drawn0.step)⟩
        · rw [if_neg c5] at H
          have c5b0 : ((rd l0 x5_1) == ((x1_1) % 256)) = false := beq_eq_false_iff_ne.mpr c5
          have c5b1 : ((rd l0 x5_1) != ((x1_1) % 256)) = true := bne_iff_ne.mpr c5
          obtain rfl := Option.some.inj H
          have p674 : 0 ≤ (x5_1 : Int) := dcd
          have q674 : x5_1 < (l0.length : Int) := dcd
          obtain ⟨ad674, e674, hx674_0⟩ := Kd.at_int HR0.out x5_1 p674 q674
          cases e674
          replace p674 := eq_true p674
          replace q674 := eq_true q674
          go_wp2
          go_ret
          exact ⟨by first | rfl | (simp; done) | (simp [*]; done), by repeat (first | exact Drawn0.refl _ | apply Drawn0.step)⟩
      · rw [if_neg c3] at H
        have c3b0 := decide_eq_false c3
        clear c3
        obtain rfl := Option.some.inj H
        go_wp2
        go_ret
        exact ⟨by first | rfl | (simp; done) | (simp [*]; done), by repeat (first | exact Drawn0.refl _ | apply Drawn0.step)⟩

end Go.Proofs.Ytgiljoeekpfpmaa.PFnExactDictPack
