/-
  No cell of these rows narrows 'for every input' (looked for: loops, veiled, ifaces, maps, wideKeys, modest, calm, conditions, laid).
  DERIVED. THE GIVEN ROWS OF THIS SEAT. 12 by the template 'for every input the law returns true; each argument reads behind the call as it read before'; 0 by the template 'total and deterministic' (their statements: YtjbilohbkhogkaaTotals.lean).
  GIVEN WITH THE SEED: the statements are not yours to turn. If you find one false, say at which input.
  Laid BY PROGRAM, IN A SANDBOX (cutbox-rows.mjs): the forced cells as the released guide's own fill.sh prints them over the translation 56cdd24f3e58d207… (all of the seat's roots in one cut). By AI agents, Wed Nov 11 2026. No macro, syntax, notation, axiom, sorry.
-/
import Derived.Test.YtjbilohbkhogkaaChecked
import GoSem.Claim
import GoSem.ClaimJoined
import GoSem.ClaimMapViews
import Derived.JoinedTies
import Derived.KernelRfl
namespace Go.Proofs.Ytjbilohbkhogkaa
/- THE CELL 'sum', in the pinned program and in every row, IS THE sha256 OF THE DUMP (.gsa) THAT YtjbilohbkhogkaaProg.lean LOADS. Nothing in Lean hashes anything: it is a label: what it is worth is what the hold of that sum in a sandbox is worth. -/
noncomputable def Try.pinned : Pinned := { name := "ytjbilohbkhogkaa", sum := "56cdd24f3e58d207b1591a9d05cfc728e1ac4e5384496f075e0f057a35bd5b2b", checked := Try.checked }
namespace Rows
def none {H : Type} : Left H := { results := [], args := [] }

/-- 'laws.FnExactCommon': WHATEVER THE INPUT: true; the input reads as it did. -/
def fnExactCommonSpec : ChangeSpec := { name := "fnExactCommon", fn := fun _ => fun
  | [d1, d2] => { results := [.lit (.bool true)], args := [d1, d2] }
  | _ => none }
def fnExactCommonRow : OpenClaim := { program := "ytjbilohbkhogkaa", sum := "56cdd24f3e58d207b1591a9d05cfc728e1ac4e5384496f075e0f057a35bd5b2b", func := "loop.example/g00114/laws.FnExactCommon", spec := "fnExactCommon", apart := false }
def FnExactCommonSaid : Prop := fnExactCommonRow.holds Try.pinned (OpenSpec.ofChange fnExactCommonSpec)

/-- ITS FALSE NEIGHBOUR: 'it returns false'. Refute it at one input. -/
def fnExactCommonWrong : ChangeSpec := { name := "fnExactCommon", fn := fun _ => fun
  | [d1, d2] => { results := [.lit (.bool false)], args := [d1, d2] }
  | _ => none }
def FnExactCommonWrongFalsely : Prop := fnExactCommonRow.holds Try.pinned (OpenSpec.ofChange fnExactCommonWrong)

/-- 'laws.FnExactSplitWide': WHATEVER THE INPUT: true; the input reads as it did. -/
def fnExactSplitWideSpec : ChangeSpec := { name := "fnExactSplitWide", fn := fun _ => fun
  | [d] => { results := [.lit (.bool true)], args := [d] }
  | _ => none }
def fnExactSplitWideRow : OpenClaim := { program := "ytjbilohbkhogkaa", sum := "56cdd24f3e58d207b1591a9d05cfc728e1ac4e5384496f075e0f057a35bd5b2b", func := "loop.example/g00114/laws.FnExactSplitWide", spec := "fnExactSplitWide", apart := false }
def FnExactSplitWideSaid : Prop := fnExactSplitWideRow.holds Try.pinned (OpenSpec.ofChange fnExactSplitWideSpec)

/-- ITS FALSE NEIGHBOUR: 'it returns false'. Refute it at one input. -/
def fnExactSplitWideWrong : ChangeSpec := { name := "fnExactSplitWide", fn := fun _ => fun
  | [d] => { results := [.lit (.bool false)], args := [d] }
  | _ => none }
def FnExactSplitWideWrongFalsely : Prop := fnExactSplitWideRow.holds Try.pinned (OpenSpec.ofChange fnExactSplitWideWrong)

/-- 'laws.FnExactLeafOk': WHATEVER THE INPUT: true; the input reads as it did. -/
def fnExactLeafOkSpec : ChangeSpec := { name := "fnExactLeafOk", fn := fun _ => fun
  | [d] => { results := [.lit (.bool true)], args := [d] }
  | _ => none }
def fnExactLeafOkRow : OpenClaim := { program := "ytjbilohbkhogkaa", sum := "56cdd24f3e58d207b1591a9d05cfc728e1ac4e5384496f075e0f057a35bd5b2b", func := "loop.example/g00114/laws.FnExactLeafOk", spec := "fnExactLeafOk", apart := false }
def FnExactLeafOkSaid : Prop := fnExactLeafOkRow.holds Try.pinned (OpenSpec.ofChange fnExactLeafOkSpec)

/-- ITS FALSE NEIGHBOUR: 'it returns false'. Refute it at one input. -/
def fnExactLeafOkWrong : ChangeSpec := { name := "fnExactLeafOk", fn := fun _ => fun
  | [d] => { results := [.lit (.bool false)], args := [d] }
  | _ => none }
def FnExactLeafOkWrongFalsely : Prop := fnExactLeafOkRow.holds Try.pinned (OpenSpec.ofChange fnExactLeafOkWrong)

/-- 'laws.FnExactDifferences': WHATEVER THE INPUT: true; the input reads as it did. -/
def fnExactDifferencesSpec : ChangeSpec := { name := "fnExactDifferences", fn := fun _ => fun
  | [d] => { results := [.lit (.bool true)], args := [d] }
  | _ => none }
def fnExactDifferencesRow : OpenClaim := { program := "ytjbilohbkhogkaa", sum := "56cdd24f3e58d207b1591a9d05cfc728e1ac4e5384496f075e0f057a35bd5b2b", func := "loop.example/g00114/laws.FnExactDifferences", spec := "fnExactDifferences", apart := false }
def FnExactDifferencesSaid : Prop := fnExactDifferencesRow.holds Try.pinned (OpenSpec.ofChange fnExactDifferencesSpec)

/-- ITS FALSE NEIGHBOUR: 'it returns false'. Refute it at one input. -/
def fnExactDifferencesWrong : ChangeSpec := { name := "fnExactDifferences", fn := fun _ => fun
  | [d] => { results := [.lit (.bool false)], args := [d] }
  | _ => none }
def FnExactDifferencesWrongFalsely : Prop := fnExactDifferencesRow.holds Try.pinned (OpenSpec.ofChange fnExactDifferencesWrong)

/-- 'laws.FnCommon': WHATEVER THE INPUT: true; the input reads as it did. -/
def fnCommonSpec : ChangeSpec := { name := "fnCommon", fn := fun _ => fun
  | [d] => { results := [.lit (.bool true)], args := [d] }
  | _ => none }
def fnCommonRow : OpenClaim := { program := "ytjbilohbkhogkaa", sum := "56cdd24f3e58d207b1591a9d05cfc728e1ac4e5384496f075e0f057a35bd5b2b", func := "loop.example/g00114/laws.FnCommon", spec := "fnCommon", apart := false }
def FnCommonSaid : Prop := fnCommonRow.holds Try.pinned (OpenSpec.ofChange fnCommonSpec)

/-- ITS FALSE NEIGHBOUR: 'it returns false'. Refute it at one input. -/
def fnCommonWrong : ChangeSpec := { name := "fnCommon", fn := fun _ => fun
  | [d] => { results := [.lit (.bool false)], args := [d] }
  | _ => none }
def FnCommonWrongFalsely : Prop := fnCommonRow.holds Try.pinned (OpenSpec.ofChange fnCommonWrong)

/-- 'laws.FnExactEncOk': WHATEVER THE INPUT: true; the input reads as it did. -/
def fnExactEncOkSpec : ChangeSpec := { name := "fnExactEncOk", fn := fun _ => fun
  | [d1, d2] => { results := [.lit (.bool true)], args := [d1, d2] }
  | _ => none }
def fnExactEncOkRow : OpenClaim := { program := "ytjbilohbkhogkaa", sum := "56cdd24f3e58d207b1591a9d05cfc728e1ac4e5384496f075e0f057a35bd5b2b", func := "loop.example/g00114/laws.FnExactEncOk", spec := "fnExactEncOk", apart := false }
def FnExactEncOkSaid : Prop := fnExactEncOkRow.holds Try.pinned (OpenSpec.ofChange fnExactEncOkSpec)

/-- ITS FALSE NEIGHBOUR: 'it returns false'. Refute it at one input. -/
def fnExactEncOkWrong : ChangeSpec := { name := "fnExactEncOk", fn := fun _ => fun
  | [d1, d2] => { results := [.lit (.bool false)], args := [d1, d2] }
  | _ => none }
def FnExactEncOkWrongFalsely : Prop := fnExactEncOkRow.holds Try.pinned (OpenSpec.ofChange fnExactEncOkWrong)

/-- 'laws.FnDelta': WHATEVER THE INPUT: true; the input reads as it did. -/
def fnDeltaSpec : ChangeSpec := { name := "fnDelta", fn := fun _ => fun
  | [d] => { results := [.lit (.bool true)], args := [d] }
  | _ => none }
def fnDeltaRow : OpenClaim := { program := "ytjbilohbkhogkaa", sum := "56cdd24f3e58d207b1591a9d05cfc728e1ac4e5384496f075e0f057a35bd5b2b", func := "loop.example/g00114/laws.FnDelta", spec := "fnDelta", apart := false }
def FnDeltaSaid : Prop := fnDeltaRow.holds Try.pinned (OpenSpec.ofChange fnDeltaSpec)

/-- ITS FALSE NEIGHBOUR: 'it returns false'. Refute it at one input. -/
def fnDeltaWrong : ChangeSpec := { name := "fnDelta", fn := fun _ => fun
  | [d] => { results := [.lit (.bool false)], args := [d] }
  | _ => none }
def FnDeltaWrongFalsely : Prop := fnDeltaRow.holds Try.pinned (OpenSpec.ofChange fnDeltaWrong)

/-- 'laws.FnExactRecSame': WHATEVER THE INPUT: true; the input reads as it did. -/
def fnExactRecSameSpec : ChangeSpec := { name := "fnExactRecSame", fn := fun _ => fun
  | [d1, d2] => { results := [.lit (.bool true)], args := [d1, d2] }
  | _ => none }
def fnExactRecSameRow : OpenClaim := { program := "ytjbilohbkhogkaa", sum := "56cdd24f3e58d207b1591a9d05cfc728e1ac4e5384496f075e0f057a35bd5b2b", func := "loop.example/g00114/laws.FnExactRecSame", spec := "fnExactRecSame", apart := false }
def FnExactRecSameSaid : Prop := fnExactRecSameRow.holds Try.pinned (OpenSpec.ofChange fnExactRecSameSpec)

/-- ITS FALSE NEIGHBOUR: 'it returns false'. Refute it at one input. -/
def fnExactRecSameWrong : ChangeSpec := { name := "fnExactRecSame", fn := fun _ => fun
  | [d1, d2] => { results := [.lit (.bool false)], args := [d1, d2] }
  | _ => none }
def FnExactRecSameWrongFalsely : Prop := fnExactRecSameRow.holds Try.pinned (OpenSpec.ofChange fnExactRecSameWrong)

/-- 'laws.FnExactRowsOf': WHATEVER THE INPUT: true; the input reads as it did. -/
def fnExactRowsOfSpec : ChangeSpec := { name := "fnExactRowsOf", fn := fun _ => fun
  | [d] => { results := [.lit (.bool true)], args := [d] }
  | _ => none }
def fnExactRowsOfRow : OpenClaim := { program := "ytjbilohbkhogkaa", sum := "56cdd24f3e58d207b1591a9d05cfc728e1ac4e5384496f075e0f057a35bd5b2b", func := "loop.example/g00114/laws.FnExactRowsOf", spec := "fnExactRowsOf", apart := false }
def FnExactRowsOfSaid : Prop := fnExactRowsOfRow.holds Try.pinned (OpenSpec.ofChange fnExactRowsOfSpec)

/-- ITS FALSE NEIGHBOUR: 'it returns false'. Refute it at one input. -/
def fnExactRowsOfWrong : ChangeSpec := { name := "fnExactRowsOf", fn := fun _ => fun
  | [d] => { results := [.lit (.bool false)], args := [d] }
  | _ => none }
def FnExactRowsOfWrongFalsely : Prop := fnExactRowsOfRow.holds Try.pinned (OpenSpec.ofChange fnExactRowsOfWrong)

/-- 'laws.FnExactSplitRead': WHATEVER THE INPUT: true; the input reads as it did. -/
def fnExactSplitReadSpec : ChangeSpec := { name := "fnExactSplitRead", fn := fun _ => fun
  | [d1, d2, d3, d4] => { results := [.lit (.bool true)], args := [d1, d2, d3, d4] }
  | _ => none }
def fnExactSplitReadRow : OpenClaim := { program := "ytjbilohbkhogkaa", sum := "56cdd24f3e58d207b1591a9d05cfc728e1ac4e5384496f075e0f057a35bd5b2b", func := "loop.example/g00114/laws.FnExactSplitRead", spec := "fnExactSplitRead", apart := false }
def FnExactSplitReadSaid : Prop := fnExactSplitReadRow.holds Try.pinned (OpenSpec.ofChange fnExactSplitReadSpec)

/-- ITS FALSE NEIGHBOUR: 'it returns false'. Refute it at one input. -/
def fnExactSplitReadWrong : ChangeSpec := { name := "fnExactSplitRead", fn := fun _ => fun
  | [d1, d2, d3, d4] => { results := [.lit (.bool false)], args := [d1, d2, d3, d4] }
  | _ => none }
def FnExactSplitReadWrongFalsely : Prop := fnExactSplitReadRow.holds Try.pinned (OpenSpec.ofChange fnExactSplitReadWrong)

/-- 'laws.FnExactDictAt': WHATEVER THE INPUT: true; the input reads as it did. -/
def fnExactDictAtSpec : ChangeSpec := { name := "fnExactDictAt", fn := fun _ => fun
  | [d1, d2] => { results := [.lit (.bool true)], args := [d1, d2] }
  | _ => none }
def fnExactDictAtRow : OpenClaim := { program := "ytjbilohbkhogkaa", sum := "56cdd24f3e58d207b1591a9d05cfc728e1ac4e5384496f075e0f057a35bd5b2b", func := "loop.example/g00114/laws.FnExactDictAt", spec := "fnExactDictAt", apart := false }
def FnExactDictAtSaid : Prop := fnExactDictAtRow.holds Try.pinned (OpenSpec.ofChange fnExactDictAtSpec)

/-- ITS FALSE NEIGHBOUR: 'it returns false'. Refute it at one input. -/
def fnExactDictAtWrong : ChangeSpec := { name := "fnExactDictAt", fn := fun _ => fun
  | [d1, d2] => { results := [.lit (.bool false)], args := [d1, d2] }
  | _ => none }
def FnExactDictAtWrongFalsely : Prop := fnExactDictAtRow.holds Try.pinned (OpenSpec.ofChange fnExactDictAtWrong)

/-- 'laws.FnExactPredNot': WHATEVER THE INPUT: true; the input reads as it did. -/
def fnExactPredNotSpec : ChangeSpec := { name := "fnExactPredNot", fn := fun _ => fun
  | [d] => { results := [.lit (.bool true)], args := [d] }
  | _ => none }
def fnExactPredNotRow : OpenClaim := { program := "ytjbilohbkhogkaa", sum := "56cdd24f3e58d207b1591a9d05cfc728e1ac4e5384496f075e0f057a35bd5b2b", func := "loop.example/g00114/laws.FnExactPredNot", spec := "fnExactPredNot", apart := false }
def FnExactPredNotSaid : Prop := fnExactPredNotRow.holds Try.pinned (OpenSpec.ofChange fnExactPredNotSpec)

/-- ITS FALSE NEIGHBOUR: 'it returns false'. Refute it at one input. -/
def fnExactPredNotWrong : ChangeSpec := { name := "fnExactPredNot", fn := fun _ => fun
  | [d] => { results := [.lit (.bool false)], args := [d] }
  | _ => none }
def FnExactPredNotWrongFalsely : Prop := fnExactPredNotRow.holds Try.pinned (OpenSpec.ofChange fnExactPredNotWrong)

/- THE SECOND FORM. 'bulk': how many values and letters a reading holds, each counted each time it is reached (what is shared counts as often as it is met; a slice's spare places count too). A statement '..UptoSaid' is the law's where the arguments, and the package variables that the reading takes, are together of bulk at most 1048576: NARROWER than '..Said'. Prove '..Said' where nothing that the law and all that it calls make is longer than what came in: it says more and counts as full. Else prove '..UptoSaid'. A law counts once. -/
mutual
def uptoBulk {H : Type} : DataW H → Nat
  | .lit (.string bytes) => bytes.length + 1
  | .lit _ => 1
  | .nil => 1
  | .ptr d => uptoBulk d + 1
  | .slice elems spare => uptoBulkAll elems + uptoBulkAll spare + 1
  | .agg parts => uptoBulkAll parts + 1
  | .iface _ d => uptoBulk d + 1
  | .map entries => uptoBulkEntries entries + 1
  | .held _ => 1
def uptoBulkAll {H : Type} : List (DataW H) → Nat
  | [] => 0
  | d :: r => uptoBulk d + uptoBulkAll r
def uptoBulkEntries {H : Type} : List (Lit × DataW H) → Nat
  | [] => 0
  | x :: r => uptoBulkEntry x + uptoBulkEntries r
def uptoBulkEntry {H : Type} : Lit × DataW H → Nat
  | (.string bytes, d) => bytes.length + uptoBulk d + 1
  | (_, d) => uptoBulk d + 1
 end
def uptoSmall : (H : Type) → List (DataW H) → Bool := fun _ ds => decide (uptoBulkAll ds ≤ 1048576)
def OpenSpec.upto (s : _root_.Go.ChangeSpec) : _root_.Go.OpenSpec := { _root_.Go.OpenSpec.ofChange s with cond := some uptoSmall }

/-- 'laws.FnExactCommon', WHERE WHAT IT READS IS OF BULK AT MOST 1048576: true; the input reads as it did. -/
def fnExactCommonUptoRow : OpenClaim := { program := "ytjbilohbkhogkaa", sum := "56cdd24f3e58d207b1591a9d05cfc728e1ac4e5384496f075e0f057a35bd5b2b", func := "loop.example/g00114/laws.FnExactCommon", spec := "fnExactCommon", apart := false, narrowed := true }
def FnExactCommonUptoSaid : Prop := fnExactCommonUptoRow.holds Try.pinned (OpenSpec.upto fnExactCommonSpec)

/-- 'laws.FnExactSplitWide', WHERE WHAT IT READS IS OF BULK AT MOST 1048576: true; the input reads as it did. -/
def fnExactSplitWideUptoRow : OpenClaim := { program := "ytjbilohbkhogkaa", sum := "56cdd24f3e58d207b1591a9d05cfc728e1ac4e5384496f075e0f057a35bd5b2b", func := "loop.example/g00114/laws.FnExactSplitWide", spec := "fnExactSplitWide", apart := false, narrowed := true }
def FnExactSplitWideUptoSaid : Prop := fnExactSplitWideUptoRow.holds Try.pinned (OpenSpec.upto fnExactSplitWideSpec)

/-- 'laws.FnExactLeafOk', WHERE WHAT IT READS IS OF BULK AT MOST 1048576: true; the input reads as it did. -/
def fnExactLeafOkUptoRow : OpenClaim := { program := "ytjbilohbkhogkaa", sum := "56cdd24f3e58d207b1591a9d05cfc728e1ac4e5384496f075e0f057a35bd5b2b", func := "loop.example/g00114/laws.FnExactLeafOk", spec := "fnExactLeafOk", apart := false, narrowed := true }
def FnExactLeafOkUptoSaid : Prop := fnExactLeafOkUptoRow.holds Try.pinned (OpenSpec.upto fnExactLeafOkSpec)

/-- 'laws.FnExactDifferences', WHERE WHAT IT READS IS OF BULK AT MOST 1048576: true; the input reads as it did. -/
def fnExactDifferencesUptoRow : OpenClaim := { program := "ytjbilohbkhogkaa", sum := "56cdd24f3e58d207b1591a9d05cfc728e1ac4e5384496f075e0f057a35bd5b2b", func := "loop.example/g00114/laws.FnExactDifferences", spec := "fnExactDifferences", apart := false, narrowed := true }
def FnExactDifferencesUptoSaid : Prop := fnExactDifferencesUptoRow.holds Try.pinned (OpenSpec.upto fnExactDifferencesSpec)

/-- 'laws.FnCommon', WHERE WHAT IT READS IS OF BULK AT MOST 1048576: true; the input reads as it did. -/
def fnCommonUptoRow : OpenClaim := { program := "ytjbilohbkhogkaa", sum := "56cdd24f3e58d207b1591a9d05cfc728e1ac4e5384496f075e0f057a35bd5b2b", func := "loop.example/g00114/laws.FnCommon", spec := "fnCommon", apart := false, narrowed := true }
def FnCommonUptoSaid : Prop := fnCommonUptoRow.holds Try.pinned (OpenSpec.upto fnCommonSpec)

/-- 'laws.FnExactEncOk', WHERE WHAT IT READS IS OF BULK AT MOST 1048576: true; the input reads as it did. -/
def fnExactEncOkUptoRow : OpenClaim := { program := "ytjbilohbkhogkaa", sum := "56cdd24f3e58d207b1591a9d05cfc728e1ac4e5384496f075e0f057a35bd5b2b", func := "loop.example/g00114/laws.FnExactEncOk", spec := "fnExactEncOk", apart := false, narrowed := true }
def FnExactEncOkUptoSaid : Prop := fnExactEncOkUptoRow.holds Try.pinned (OpenSpec.upto fnExactEncOkSpec)

/-- 'laws.FnDelta', WHERE WHAT IT READS IS OF BULK AT MOST 1048576: true; the input reads as it did. -/
def fnDeltaUptoRow : OpenClaim := { program := "ytjbilohbkhogkaa", sum := "56cdd24f3e58d207b1591a9d05cfc728e1ac4e5384496f075e0f057a35bd5b2b", func := "loop.example/g00114/laws.FnDelta", spec := "fnDelta", apart := false, narrowed := true }
def FnDeltaUptoSaid : Prop := fnDeltaUptoRow.holds Try.pinned (OpenSpec.upto fnDeltaSpec)

/-- 'laws.FnExactRecSame', WHERE WHAT IT READS IS OF BULK AT MOST 1048576: true; the input reads as it did. -/
def fnExactRecSameUptoRow : OpenClaim := { program := "ytjbilohbkhogkaa", sum := "56cdd24f3e58d207b1591a9d05cfc728e1ac4e5384496f075e0f057a35bd5b2b", func := "loop.example/g00114/laws.FnExactRecSame", spec := "fnExactRecSame", apart := false, narrowed := true }
def FnExactRecSameUptoSaid : Prop := fnExactRecSameUptoRow.holds Try.pinned (OpenSpec.upto fnExactRecSameSpec)

/-- 'laws.FnExactRowsOf', WHERE WHAT IT READS IS OF BULK AT MOST 1048576: true; the input reads as it did. -/
def fnExactRowsOfUptoRow : OpenClaim := { program := "ytjbilohbkhogkaa", sum := "56cdd24f3e58d207b1591a9d05cfc728e1ac4e5384496f075e0f057a35bd5b2b", func := "loop.example/g00114/laws.FnExactRowsOf", spec := "fnExactRowsOf", apart := false, narrowed := true }
def FnExactRowsOfUptoSaid : Prop := fnExactRowsOfUptoRow.holds Try.pinned (OpenSpec.upto fnExactRowsOfSpec)

/-- 'laws.FnExactSplitRead', WHERE WHAT IT READS IS OF BULK AT MOST 1048576: true; the input reads as it did. -/
def fnExactSplitReadUptoRow : OpenClaim := { program := "ytjbilohbkhogkaa", sum := "56cdd24f3e58d207b1591a9d05cfc728e1ac4e5384496f075e0f057a35bd5b2b", func := "loop.example/g00114/laws.FnExactSplitRead", spec := "fnExactSplitRead", apart := false, narrowed := true }
def FnExactSplitReadUptoSaid : Prop := fnExactSplitReadUptoRow.holds Try.pinned (OpenSpec.upto fnExactSplitReadSpec)

/-- 'laws.FnExactDictAt', WHERE WHAT IT READS IS OF BULK AT MOST 1048576: true; the input reads as it did. -/
def fnExactDictAtUptoRow : OpenClaim := { program := "ytjbilohbkhogkaa", sum := "56cdd24f3e58d207b1591a9d05cfc728e1ac4e5384496f075e0f057a35bd5b2b", func := "loop.example/g00114/laws.FnExactDictAt", spec := "fnExactDictAt", apart := false, narrowed := true }
def FnExactDictAtUptoSaid : Prop := fnExactDictAtUptoRow.holds Try.pinned (OpenSpec.upto fnExactDictAtSpec)

/-- 'laws.FnExactPredNot', WHERE WHAT IT READS IS OF BULK AT MOST 1048576: true; the input reads as it did. -/
def fnExactPredNotUptoRow : OpenClaim := { program := "ytjbilohbkhogkaa", sum := "56cdd24f3e58d207b1591a9d05cfc728e1ac4e5384496f075e0f057a35bd5b2b", func := "loop.example/g00114/laws.FnExactPredNot", spec := "fnExactPredNot", apart := false, narrowed := true }
def FnExactPredNotUptoSaid : Prop := fnExactPredNotUptoRow.holds Try.pinned (OpenSpec.upto fnExactPredNotSpec)

end Rows
end Go.Proofs.Ytjbilohbkhogkaa
