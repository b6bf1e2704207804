/-
  No cell of these rows narrows 'for every input' (looked for: loops, veiled, ifaces, maps, wideKeys, modest, calm, conditions, laid).
  DERIVED. THE GIVEN ROWS OF THIS SEAT. 12 by the template 'for every input the law returns true; each argument reads behind the call as it read before'; 0 by the template 'total and deterministic' (their statements: YtlohdhkgcfebnaaTotals.lean).
  GIVEN WITH THE SEED: the statements are not yours to turn. If you find one false, say at which input.
  Laid BY PROGRAM, IN A SANDBOX (cutbox-rows.mjs): the forced cells as the released guide's own fill.sh prints them over the translation 5fdd6a1246695060… (all of the seat's roots in one cut). By AI agents, Wed Nov 11 2026. No macro, syntax, notation, axiom, sorry.
-/
import Derived.Test.YtlohdhkgcfebnaaChecked
import GoSem.Claim
import GoSem.ClaimJoined
import GoSem.ClaimMapViews
import Derived.JoinedTies
import Derived.KernelRfl
namespace Go.Proofs.Ytlohdhkgcfebnaa
/- THE CELL 'sum', in the pinned program and in every row, IS THE sha256 OF THE DUMP (.gsa) THAT YtlohdhkgcfebnaaProg.lean LOADS. Nothing in Lean hashes anything: it is a label: what it is worth is what the hold of that sum in a sandbox is worth. -/
noncomputable def Try.pinned : Pinned := { name := "ytlohdhkgcfebnaa", sum := "5fdd6a1246695060852ead16440cc2c495e3c64a05eb9823fe730e009b250a88", checked := Try.checked }
namespace Rows
def none {H : Type} : Left H := { results := [], args := [] }

/-- 'laws.FnExactPredPair': WHATEVER THE INPUT: true; the input reads as it did. -/
def fnExactPredPairSpec : ChangeSpec := { name := "fnExactPredPair", fn := fun _ => fun
  | [d1, d2, d3] => { results := [.lit (.bool true)], args := [d1, d2, d3] }
  | _ => none }
def fnExactPredPairRow : OpenClaim := { program := "ytlohdhkgcfebnaa", sum := "5fdd6a1246695060852ead16440cc2c495e3c64a05eb9823fe730e009b250a88", func := "loop.example/g00114/laws.FnExactPredPair", spec := "fnExactPredPair", plainKeys := false, apart := false }
def FnExactPredPairSaid : Prop := fnExactPredPairRow.holds Try.pinned (OpenSpec.ofChange fnExactPredPairSpec)

/-- ITS FALSE NEIGHBOUR: 'it returns false'. Refute it at one input. -/
def fnExactPredPairWrong : ChangeSpec := { name := "fnExactPredPair", fn := fun _ => fun
  | [d1, d2, d3] => { results := [.lit (.bool false)], args := [d1, d2, d3] }
  | _ => none }
def FnExactPredPairWrongFalsely : Prop := fnExactPredPairRow.holds Try.pinned (OpenSpec.ofChange fnExactPredPairWrong)

/-- 'laws.FnExactChunkCut': WHATEVER THE INPUT: true; the input reads as it did. -/
def fnExactChunkCutSpec : ChangeSpec := { name := "fnExactChunkCut", fn := fun _ => fun
  | [d1, d2] => { results := [.lit (.bool true)], args := [d1, d2] }
  | _ => none }
def fnExactChunkCutRow : OpenClaim := { program := "ytlohdhkgcfebnaa", sum := "5fdd6a1246695060852ead16440cc2c495e3c64a05eb9823fe730e009b250a88", func := "loop.example/g00114/laws.FnExactChunkCut", spec := "fnExactChunkCut", plainKeys := false, apart := false }
def FnExactChunkCutSaid : Prop := fnExactChunkCutRow.holds Try.pinned (OpenSpec.ofChange fnExactChunkCutSpec)

/-- ITS FALSE NEIGHBOUR: 'it returns false'. Refute it at one input. -/
def fnExactChunkCutWrong : ChangeSpec := { name := "fnExactChunkCut", fn := fun _ => fun
  | [d1, d2] => { results := [.lit (.bool false)], args := [d1, d2] }
  | _ => none }
def FnExactChunkCutWrongFalsely : Prop := fnExactChunkCutRow.holds Try.pinned (OpenSpec.ofChange fnExactChunkCutWrong)

/-- 'laws.FnExactSplitPack': WHATEVER THE INPUT: true; the input reads as it did. -/
def fnExactSplitPackSpec : ChangeSpec := { name := "fnExactSplitPack", fn := fun _ => fun
  | [d1, d2] => { results := [.lit (.bool true)], args := [d1, d2] }
  | _ => none }
def fnExactSplitPackRow : OpenClaim := { program := "ytlohdhkgcfebnaa", sum := "5fdd6a1246695060852ead16440cc2c495e3c64a05eb9823fe730e009b250a88", func := "loop.example/g00114/laws.FnExactSplitPack", spec := "fnExactSplitPack", plainKeys := false, apart := false }
def FnExactSplitPackSaid : Prop := fnExactSplitPackRow.holds Try.pinned (OpenSpec.ofChange fnExactSplitPackSpec)

/-- ITS FALSE NEIGHBOUR: 'it returns false'. Refute it at one input. -/
def fnExactSplitPackWrong : ChangeSpec := { name := "fnExactSplitPack", fn := fun _ => fun
  | [d1, d2] => { results := [.lit (.bool false)], args := [d1, d2] }
  | _ => none }
def FnExactSplitPackWrongFalsely : Prop := fnExactSplitPackRow.holds Try.pinned (OpenSpec.ofChange fnExactSplitPackWrong)

/-- 'laws.FnExactDictOf': WHATEVER THE INPUT: true; the input reads as it did. -/
def fnExactDictOfSpec : ChangeSpec := { name := "fnExactDictOf", fn := fun _ => fun
  | [d1, d2] => { results := [.lit (.bool true)], args := [d1, d2] }
  | _ => none }
def fnExactDictOfRow : OpenClaim := { program := "ytlohdhkgcfebnaa", sum := "5fdd6a1246695060852ead16440cc2c495e3c64a05eb9823fe730e009b250a88", func := "loop.example/g00114/laws.FnExactDictOf", spec := "fnExactDictOf", plainKeys := false, apart := false }
def FnExactDictOfSaid : Prop := fnExactDictOfRow.holds Try.pinned (OpenSpec.ofChange fnExactDictOfSpec)

/-- ITS FALSE NEIGHBOUR: 'it returns false'. Refute it at one input. -/
def fnExactDictOfWrong : ChangeSpec := { name := "fnExactDictOf", fn := fun _ => fun
  | [d1, d2] => { results := [.lit (.bool false)], args := [d1, d2] }
  | _ => none }
def FnExactDictOfWrongFalsely : Prop := fnExactDictOfRow.holds Try.pinned (OpenSpec.ofChange fnExactDictOfWrong)

/-- 'laws.FnExactDeltaRead': WHATEVER THE INPUT: true; the input reads as it did. -/
def fnExactDeltaReadSpec : ChangeSpec := { name := "fnExactDeltaRead", fn := fun _ => fun
  | [d1, d2] => { results := [.lit (.bool true)], args := [d1, d2] }
  | _ => none }
def fnExactDeltaReadRow : OpenClaim := { program := "ytlohdhkgcfebnaa", sum := "5fdd6a1246695060852ead16440cc2c495e3c64a05eb9823fe730e009b250a88", func := "loop.example/g00114/laws.FnExactDeltaRead", spec := "fnExactDeltaRead", plainKeys := false, apart := false }
def FnExactDeltaReadSaid : Prop := fnExactDeltaReadRow.holds Try.pinned (OpenSpec.ofChange fnExactDeltaReadSpec)

/-- ITS FALSE NEIGHBOUR: 'it returns false'. Refute it at one input. -/
def fnExactDeltaReadWrong : ChangeSpec := { name := "fnExactDeltaRead", fn := fun _ => fun
  | [d1, d2] => { results := [.lit (.bool false)], args := [d1, d2] }
  | _ => none }
def FnExactDeltaReadWrongFalsely : Prop := fnExactDeltaReadRow.holds Try.pinned (OpenSpec.ofChange fnExactDeltaReadWrong)

/-- 'laws.FnSplit': WHATEVER THE INPUT: true; the input reads as it did. -/
def fnSplitSpec : ChangeSpec := { name := "fnSplit", fn := fun _ => fun
  | [d] => { results := [.lit (.bool true)], args := [d] }
  | _ => none }
def fnSplitRow : OpenClaim := { program := "ytlohdhkgcfebnaa", sum := "5fdd6a1246695060852ead16440cc2c495e3c64a05eb9823fe730e009b250a88", func := "loop.example/g00114/laws.FnSplit", spec := "fnSplit", plainKeys := false, apart := false }
def FnSplitSaid : Prop := fnSplitRow.holds Try.pinned (OpenSpec.ofChange fnSplitSpec)

/-- ITS FALSE NEIGHBOUR: 'it returns false'. Refute it at one input. -/
def fnSplitWrong : ChangeSpec := { name := "fnSplit", fn := fun _ => fun
  | [d] => { results := [.lit (.bool false)], args := [d] }
  | _ => none }
def FnSplitWrongFalsely : Prop := fnSplitRow.holds Try.pinned (OpenSpec.ofChange fnSplitWrong)

/-- 'laws.FnExactDeltaPack': WHATEVER THE INPUT: true; the input reads as it did. -/
def fnExactDeltaPackSpec : ChangeSpec := { name := "fnExactDeltaPack", fn := fun _ => fun
  | [d] => { results := [.lit (.bool true)], args := [d] }
  | _ => none }
def fnExactDeltaPackRow : OpenClaim := { program := "ytlohdhkgcfebnaa", sum := "5fdd6a1246695060852ead16440cc2c495e3c64a05eb9823fe730e009b250a88", func := "loop.example/g00114/laws.FnExactDeltaPack", spec := "fnExactDeltaPack", plainKeys := false, apart := false }
def FnExactDeltaPackSaid : Prop := fnExactDeltaPackRow.holds Try.pinned (OpenSpec.ofChange fnExactDeltaPackSpec)

/-- ITS FALSE NEIGHBOUR: 'it returns false'. Refute it at one input. -/
def fnExactDeltaPackWrong : ChangeSpec := { name := "fnExactDeltaPack", fn := fun _ => fun
  | [d] => { results := [.lit (.bool false)], args := [d] }
  | _ => none }
def FnExactDeltaPackWrongFalsely : Prop := fnExactDeltaPackRow.holds Try.pinned (OpenSpec.ofChange fnExactDeltaPackWrong)

/-- 'laws.FnExactTreeNumOf': WHATEVER THE INPUT: true; the input reads as it did. -/
def fnExactTreeNumOfSpec : ChangeSpec := { name := "fnExactTreeNumOf", fn := fun _ => fun
  | [d1, d2, d3] => { results := [.lit (.bool true)], args := [d1, d2, d3] }
  | _ => none }
def fnExactTreeNumOfRow : OpenClaim := { program := "ytlohdhkgcfebnaa", sum := "5fdd6a1246695060852ead16440cc2c495e3c64a05eb9823fe730e009b250a88", func := "loop.example/g00114/laws.FnExactTreeNumOf", spec := "fnExactTreeNumOf", recurses := true, plainKeys := false, apart := false }
def FnExactTreeNumOfSaid : Prop := fnExactTreeNumOfRow.holds Try.pinned (OpenSpec.ofChange fnExactTreeNumOfSpec)

/-- ITS FALSE NEIGHBOUR: 'it returns false'. Refute it at one input. -/
def fnExactTreeNumOfWrong : ChangeSpec := { name := "fnExactTreeNumOf", fn := fun _ => fun
  | [d1, d2, d3] => { results := [.lit (.bool false)], args := [d1, d2, d3] }
  | _ => none }
def FnExactTreeNumOfWrongFalsely : Prop := fnExactTreeNumOfRow.holds Try.pinned (OpenSpec.ofChange fnExactTreeNumOfWrong)

/-- 'laws.FnExactStatsOf': WHATEVER THE INPUT: true; the input reads as it did. -/
def fnExactStatsOfSpec : ChangeSpec := { name := "fnExactStatsOf", fn := fun _ => fun
  | [d1, d2] => { results := [.lit (.bool true)], args := [d1, d2] }
  | _ => none }
def fnExactStatsOfRow : OpenClaim := { program := "ytlohdhkgcfebnaa", sum := "5fdd6a1246695060852ead16440cc2c495e3c64a05eb9823fe730e009b250a88", func := "loop.example/g00114/laws.FnExactStatsOf", spec := "fnExactStatsOf", plainKeys := false, apart := false }
def FnExactStatsOfSaid : Prop := fnExactStatsOfRow.holds Try.pinned (OpenSpec.ofChange fnExactStatsOfSpec)

/-- ITS FALSE NEIGHBOUR: 'it returns false'. Refute it at one input. -/
def fnExactStatsOfWrong : ChangeSpec := { name := "fnExactStatsOf", fn := fun _ => fun
  | [d1, d2] => { results := [.lit (.bool false)], args := [d1, d2] }
  | _ => none }
def FnExactStatsOfWrongFalsely : Prop := fnExactStatsOfRow.holds Try.pinned (OpenSpec.ofChange fnExactStatsOfWrong)

/-- 'laws.FnExactPlacesRead': WHATEVER THE INPUT: true; the input reads as it did. -/
def fnExactPlacesReadSpec : ChangeSpec := { name := "fnExactPlacesRead", fn := fun _ => fun
  | [d1, d2, d3, d4] => { results := [.lit (.bool true)], args := [d1, d2, d3, d4] }
  | _ => none }
def fnExactPlacesReadRow : OpenClaim := { program := "ytlohdhkgcfebnaa", sum := "5fdd6a1246695060852ead16440cc2c495e3c64a05eb9823fe730e009b250a88", func := "loop.example/g00114/laws.FnExactPlacesRead", spec := "fnExactPlacesRead", plainKeys := false, apart := false }
def FnExactPlacesReadSaid : Prop := fnExactPlacesReadRow.holds Try.pinned (OpenSpec.ofChange fnExactPlacesReadSpec)

/-- ITS FALSE NEIGHBOUR: 'it returns false'. Refute it at one input. -/
def fnExactPlacesReadWrong : ChangeSpec := { name := "fnExactPlacesRead", fn := fun _ => fun
  | [d1, d2, d3, d4] => { results := [.lit (.bool false)], args := [d1, d2, d3, d4] }
  | _ => none }
def FnExactPlacesReadWrongFalsely : Prop := fnExactPlacesReadRow.holds Try.pinned (OpenSpec.ofChange fnExactPlacesReadWrong)

/-- 'laws.FnExactLeafOf': WHATEVER THE INPUT: true; the input reads as it did. -/
def fnExactLeafOfSpec : ChangeSpec := { name := "fnExactLeafOf", fn := fun _ => fun
  | [d1, d2] => { results := [.lit (.bool true)], args := [d1, d2] }
  | _ => none }
def fnExactLeafOfRow : OpenClaim := { program := "ytlohdhkgcfebnaa", sum := "5fdd6a1246695060852ead16440cc2c495e3c64a05eb9823fe730e009b250a88", func := "loop.example/g00114/laws.FnExactLeafOf", spec := "fnExactLeafOf", recurses := true, plainKeys := false, apart := false }
def FnExactLeafOfSaid : Prop := fnExactLeafOfRow.holds Try.pinned (OpenSpec.ofChange fnExactLeafOfSpec)

/-- ITS FALSE NEIGHBOUR: 'it returns false'. Refute it at one input. -/
def fnExactLeafOfWrong : ChangeSpec := { name := "fnExactLeafOf", fn := fun _ => fun
  | [d1, d2] => { results := [.lit (.bool false)], args := [d1, d2] }
  | _ => none }
def FnExactLeafOfWrongFalsely : Prop := fnExactLeafOfRow.holds Try.pinned (OpenSpec.ofChange fnExactLeafOfWrong)

/-- 'laws.FnExactRecEmpty': WHATEVER THE INPUT: true; the input reads as it did. -/
def fnExactRecEmptySpec : ChangeSpec := { name := "fnExactRecEmpty", fn := fun _ => fun
  | [d] => { results := [.lit (.bool true)], args := [d] }
  | _ => none }
def fnExactRecEmptyRow : OpenClaim := { program := "ytlohdhkgcfebnaa", sum := "5fdd6a1246695060852ead16440cc2c495e3c64a05eb9823fe730e009b250a88", func := "loop.example/g00114/laws.FnExactRecEmpty", spec := "fnExactRecEmpty", recurses := true, plainKeys := false, apart := false }
def FnExactRecEmptySaid : Prop := fnExactRecEmptyRow.holds Try.pinned (OpenSpec.ofChange fnExactRecEmptySpec)

/-- ITS FALSE NEIGHBOUR: 'it returns false'. Refute it at one input. -/
def fnExactRecEmptyWrong : ChangeSpec := { name := "fnExactRecEmpty", fn := fun _ => fun
  | [d] => { results := [.lit (.bool false)], args := [d] }
  | _ => none }
def FnExactRecEmptyWrongFalsely : Prop := fnExactRecEmptyRow.holds Try.pinned (OpenSpec.ofChange fnExactRecEmptyWrong)

/- THE SECOND FORM. 'bulk': how many values and letters a reading holds, each counted each time it is reached (what is shared counts as often as it is met; a slice's spare places count too). A statement '..UptoSaid' is the law's where the arguments, and the package variables that the reading takes, are together of bulk at most 1048576: NARROWER than '..Said'. Prove '..Said' where nothing that the law and all that it calls make is longer than what came in: it says more and counts as full. Else prove '..UptoSaid'. A law counts once. -/
mutual
def uptoBulk {H : Type} : DataW H → Nat
  | .lit (.string bytes) => bytes.length + 1
  | .lit _ => 1
  | .nil => 1
  | .ptr d => uptoBulk d + 1
  | .slice elems spare => uptoBulkAll elems + uptoBulkAll spare + 1
  | .agg parts => uptoBulkAll parts + 1
  | .iface _ d => uptoBulk d + 1
  | .map entries => uptoBulkEntries entries + 1
  | .held _ => 1
def uptoBulkAll {H : Type} : List (DataW H) → Nat
  | [] => 0
  | d :: r => uptoBulk d + uptoBulkAll r
def uptoBulkEntries {H : Type} : List (Lit × DataW H) → Nat
  | [] => 0
  | x :: r => uptoBulkEntry x + uptoBulkEntries r
def uptoBulkEntry {H : Type} : Lit × DataW H → Nat
  | (.string bytes, d) => bytes.length + uptoBulk d + 1
  | (_, d) => uptoBulk d + 1
 end
def uptoSmall : (H : Type) → List (DataW H) → Bool := fun _ ds => decide (uptoBulkAll ds ≤ 1048576)
def OpenSpec.upto (s : _root_.Go.ChangeSpec) : _root_.Go.OpenSpec := { _root_.Go.OpenSpec.ofChange s with cond := some uptoSmall }

/-- 'laws.FnExactPredPair', WHERE WHAT IT READS IS OF BULK AT MOST 1048576: true; the input reads as it did. -/
def fnExactPredPairUptoRow : OpenClaim := { program := "ytlohdhkgcfebnaa", sum := "5fdd6a1246695060852ead16440cc2c495e3c64a05eb9823fe730e009b250a88", func := "loop.example/g00114/laws.FnExactPredPair", spec := "fnExactPredPair", plainKeys := false, apart := false, narrowed := true }
def FnExactPredPairUptoSaid : Prop := fnExactPredPairUptoRow.holds Try.pinned (OpenSpec.upto fnExactPredPairSpec)

/-- 'laws.FnExactChunkCut', WHERE WHAT IT READS IS OF BULK AT MOST 1048576: true; the input reads as it did. -/
def fnExactChunkCutUptoRow : OpenClaim := { program := "ytlohdhkgcfebnaa", sum := "5fdd6a1246695060852ead16440cc2c495e3c64a05eb9823fe730e009b250a88", func := "loop.example/g00114/laws.FnExactChunkCut", spec := "fnExactChunkCut", plainKeys := false, apart := false, narrowed := true }
def FnExactChunkCutUptoSaid : Prop := fnExactChunkCutUptoRow.holds Try.pinned (OpenSpec.upto fnExactChunkCutSpec)

/-- 'laws.FnExactSplitPack', WHERE WHAT IT READS IS OF BULK AT MOST 1048576: true; the input reads as it did. -/
def fnExactSplitPackUptoRow : OpenClaim := { program := "ytlohdhkgcfebnaa", sum := "5fdd6a1246695060852ead16440cc2c495e3c64a05eb9823fe730e009b250a88", func := "loop.example/g00114/laws.FnExactSplitPack", spec := "fnExactSplitPack", plainKeys := false, apart := false, narrowed := true }
def FnExactSplitPackUptoSaid : Prop := fnExactSplitPackUptoRow.holds Try.pinned (OpenSpec.upto fnExactSplitPackSpec)

/-- 'laws.FnExactDictOf', WHERE WHAT IT READS IS OF BULK AT MOST 1048576: true; the input reads as it did. -/
def fnExactDictOfUptoRow : OpenClaim := { program := "ytlohdhkgcfebnaa", sum := "5fdd6a1246695060852ead16440cc2c495e3c64a05eb9823fe730e009b250a88", func := "loop.example/g00114/laws.FnExactDictOf", spec := "fnExactDictOf", plainKeys := false, apart := false, narrowed := true }
def FnExactDictOfUptoSaid : Prop := fnExactDictOfUptoRow.holds Try.pinned (OpenSpec.upto fnExactDictOfSpec)

/-- 'laws.FnExactDeltaRead', WHERE WHAT IT READS IS OF BULK AT MOST 1048576: true; the input reads as it did. -/
def fnExactDeltaReadUptoRow : OpenClaim := { program := "ytlohdhkgcfebnaa", sum := "5fdd6a1246695060852ead16440cc2c495e3c64a05eb9823fe730e009b250a88", func := "loop.example/g00114/laws.FnExactDeltaRead", spec := "fnExactDeltaRead", plainKeys := false, apart := false, narrowed := true }
def FnExactDeltaReadUptoSaid : Prop := fnExactDeltaReadUptoRow.holds Try.pinned (OpenSpec.upto fnExactDeltaReadSpec)

/-- 'laws.FnSplit', WHERE WHAT IT READS IS OF BULK AT MOST 1048576: true; the input reads as it did. -/
def fnSplitUptoRow : OpenClaim := { program := "ytlohdhkgcfebnaa", sum := "5fdd6a1246695060852ead16440cc2c495e3c64a05eb9823fe730e009b250a88", func := "loop.example/g00114/laws.FnSplit", spec := "fnSplit", plainKeys := false, apart := false, narrowed := true }
def FnSplitUptoSaid : Prop := fnSplitUptoRow.holds Try.pinned (OpenSpec.upto fnSplitSpec)

/-- 'laws.FnExactDeltaPack', WHERE WHAT IT READS IS OF BULK AT MOST 1048576: true; the input reads as it did. -/
def fnExactDeltaPackUptoRow : OpenClaim := { program := "ytlohdhkgcfebnaa", sum := "5fdd6a1246695060852ead16440cc2c495e3c64a05eb9823fe730e009b250a88", func := "loop.example/g00114/laws.FnExactDeltaPack", spec := "fnExactDeltaPack", plainKeys := false, apart := false, narrowed := true }
def FnExactDeltaPackUptoSaid : Prop := fnExactDeltaPackUptoRow.holds Try.pinned (OpenSpec.upto fnExactDeltaPackSpec)

/-- 'laws.FnExactTreeNumOf', WHERE WHAT IT READS IS OF BULK AT MOST 1048576: true; the input reads as it did. -/
def fnExactTreeNumOfUptoRow : OpenClaim := { program := "ytlohdhkgcfebnaa", sum := "5fdd6a1246695060852ead16440cc2c495e3c64a05eb9823fe730e009b250a88", func := "loop.example/g00114/laws.FnExactTreeNumOf", spec := "fnExactTreeNumOf", recurses := true, plainKeys := false, apart := false, narrowed := true }
def FnExactTreeNumOfUptoSaid : Prop := fnExactTreeNumOfUptoRow.holds Try.pinned (OpenSpec.upto fnExactTreeNumOfSpec)

/-- 'laws.FnExactStatsOf', WHERE WHAT IT READS IS OF BULK AT MOST 1048576: true; the input reads as it did. -/
def fnExactStatsOfUptoRow : OpenClaim := { program := "ytlohdhkgcfebnaa", sum := "5fdd6a1246695060852ead16440cc2c495e3c64a05eb9823fe730e009b250a88", func := "loop.example/g00114/laws.FnExactStatsOf", spec := "fnExactStatsOf", plainKeys := false, apart := false, narrowed := true }
def FnExactStatsOfUptoSaid : Prop := fnExactStatsOfUptoRow.holds Try.pinned (OpenSpec.upto fnExactStatsOfSpec)

/-- 'laws.FnExactPlacesRead', WHERE WHAT IT READS IS OF BULK AT MOST 1048576: true; the input reads as it did. -/
def fnExactPlacesReadUptoRow : OpenClaim := { program := "ytlohdhkgcfebnaa", sum := "5fdd6a1246695060852ead16440cc2c495e3c64a05eb9823fe730e009b250a88", func := "loop.example/g00114/laws.FnExactPlacesRead", spec := "fnExactPlacesRead", plainKeys := false, apart := false, narrowed := true }
def FnExactPlacesReadUptoSaid : Prop := fnExactPlacesReadUptoRow.holds Try.pinned (OpenSpec.upto fnExactPlacesReadSpec)

/-- 'laws.FnExactLeafOf', WHERE WHAT IT READS IS OF BULK AT MOST 1048576: true; the input reads as it did. -/
def fnExactLeafOfUptoRow : OpenClaim := { program := "ytlohdhkgcfebnaa", sum := "5fdd6a1246695060852ead16440cc2c495e3c64a05eb9823fe730e009b250a88", func := "loop.example/g00114/laws.FnExactLeafOf", spec := "fnExactLeafOf", recurses := true, plainKeys := false, apart := false, narrowed := true }
def FnExactLeafOfUptoSaid : Prop := fnExactLeafOfUptoRow.holds Try.pinned (OpenSpec.upto fnExactLeafOfSpec)

/-- 'laws.FnExactRecEmpty', WHERE WHAT IT READS IS OF BULK AT MOST 1048576: true; the input reads as it did. -/
def fnExactRecEmptyUptoRow : OpenClaim := { program := "ytlohdhkgcfebnaa", sum := "5fdd6a1246695060852ead16440cc2c495e3c64a05eb9823fe730e009b250a88", func := "loop.example/g00114/laws.FnExactRecEmpty", spec := "fnExactRecEmpty", recurses := true, plainKeys := false, apart := false, narrowed := true }
def FnExactRecEmptyUptoSaid : Prop := fnExactRecEmptyUptoRow.holds Try.pinned (OpenSpec.upto fnExactRecEmptySpec)

end Rows
end Go.Proofs.Ytlohdhkgcfebnaa
