/-
  No cell of these rows narrows 'for every input' (looked for: loops, veiled, ifaces, maps, wideKeys, modest, calm, conditions, laid).
  DERIVED. THE GIVEN ROWS OF THIS SEAT. 11 by the template 'for every input the law returns true; each argument reads behind the call as it read before'; 0 by the template 'total and deterministic' (their statements: YtnfamhegbfjggaaTotals.lean).
  GIVEN WITH THE SEED: the statements are not yours to turn. If you find one false, say at which input.
  Laid BY PROGRAM, IN A SANDBOX (cutbox-rows.mjs): the forced cells as the released guide's own fill.sh prints them over the translation 01e15c9c298f48a8… (all of the seat's roots in one cut). By AI agents, Wed Nov 11 2026. No macro, syntax, notation, axiom, sorry.
-/
import Derived.Test.YtnfamhegbfjggaaChecked
import GoSem.Claim
import GoSem.ClaimJoined
import GoSem.ClaimMapViews
import Derived.JoinedTies
import Derived.KernelRfl
namespace Go.Proofs.Ytnfamhegbfjggaa
/- THE CELL 'sum', in the pinned program and in every row, IS THE sha256 OF THE DUMP (.gsa) THAT YtnfamhegbfjggaaProg.lean LOADS. Nothing in Lean hashes anything: it is a label: what it is worth is what the hold of that sum in a sandbox is worth. -/
noncomputable def Try.pinned : Pinned := { name := "ytnfamhegbfjggaa", sum := "01e15c9c298f48a8dab178d590af1bb6d1c33463e0098297870246eeee099ea8", checked := Try.checked }
namespace Rows
def none {H : Type} : Left H := { results := [], args := [] }

/-- 'laws.FnExactLengthRead': WHATEVER THE INPUT: true; the input reads as it did. -/
def fnExactLengthReadSpec : ChangeSpec := { name := "fnExactLengthRead", fn := fun _ => fun
  | [d1, d2] => { results := [.lit (.bool true)], args := [d1, d2] }
  | _ => none }
def fnExactLengthReadRow : OpenClaim := { program := "ytnfamhegbfjggaa", sum := "01e15c9c298f48a8dab178d590af1bb6d1c33463e0098297870246eeee099ea8", func := "loop.example/g00114/laws.FnExactLengthRead", spec := "fnExactLengthRead", apart := false }
def FnExactLengthReadSaid : Prop := fnExactLengthReadRow.holds Try.pinned (OpenSpec.ofChange fnExactLengthReadSpec)

/-- ITS FALSE NEIGHBOUR: 'it returns false'. Refute it at one input. -/
def fnExactLengthReadWrong : ChangeSpec := { name := "fnExactLengthRead", fn := fun _ => fun
  | [d1, d2] => { results := [.lit (.bool false)], args := [d1, d2] }
  | _ => none }
def FnExactLengthReadWrongFalsely : Prop := fnExactLengthReadRow.holds Try.pinned (OpenSpec.ofChange fnExactLengthReadWrong)

/-- 'laws.FnExactPlacesPack': WHATEVER THE INPUT: true; the input reads as it did. -/
def fnExactPlacesPackSpec : ChangeSpec := { name := "fnExactPlacesPack", fn := fun _ => fun
  | [d1, d2] => { results := [.lit (.bool true)], args := [d1, d2] }
  | _ => none }
def fnExactPlacesPackRow : OpenClaim := { program := "ytnfamhegbfjggaa", sum := "01e15c9c298f48a8dab178d590af1bb6d1c33463e0098297870246eeee099ea8", func := "loop.example/g00114/laws.FnExactPlacesPack", spec := "fnExactPlacesPack", apart := false }
def FnExactPlacesPackSaid : Prop := fnExactPlacesPackRow.holds Try.pinned (OpenSpec.ofChange fnExactPlacesPackSpec)

/-- ITS FALSE NEIGHBOUR: 'it returns false'. Refute it at one input. -/
def fnExactPlacesPackWrong : ChangeSpec := { name := "fnExactPlacesPack", fn := fun _ => fun
  | [d1, d2] => { results := [.lit (.bool false)], args := [d1, d2] }
  | _ => none }
def FnExactPlacesPackWrongFalsely : Prop := fnExactPlacesPackRow.holds Try.pinned (OpenSpec.ofChange fnExactPlacesPackWrong)

/-- 'laws.FnExactSchemaPrint': WHATEVER THE INPUT: true; the input reads as it did. -/
def fnExactSchemaPrintSpec : ChangeSpec := { name := "fnExactSchemaPrint", fn := fun _ => fun
  | [d] => { results := [.lit (.bool true)], args := [d] }
  | _ => none }
def fnExactSchemaPrintRow : OpenClaim := { program := "ytnfamhegbfjggaa", sum := "01e15c9c298f48a8dab178d590af1bb6d1c33463e0098297870246eeee099ea8", func := "loop.example/g00114/laws.FnExactSchemaPrint", spec := "fnExactSchemaPrint", inPlace := ["internal/abi.NoEscape", "internal/bytealg.MakeNoZero"], recurses := true, apart := false }
def FnExactSchemaPrintSaid : Prop := fnExactSchemaPrintRow.holds Try.pinned (OpenSpec.ofChange fnExactSchemaPrintSpec)

/-- ITS FALSE NEIGHBOUR: 'it returns false'. Refute it at one input. -/
def fnExactSchemaPrintWrong : ChangeSpec := { name := "fnExactSchemaPrint", fn := fun _ => fun
  | [d] => { results := [.lit (.bool false)], args := [d] }
  | _ => none }
def FnExactSchemaPrintWrongFalsely : Prop := fnExactSchemaPrintRow.holds Try.pinned (OpenSpec.ofChange fnExactSchemaPrintWrong)

/-- 'laws.FnTreeParts': WHATEVER THE INPUT: true; the input reads as it did. -/
def fnTreePartsSpec : ChangeSpec := { name := "fnTreeParts", fn := fun _ => fun
  | [d] => { results := [.lit (.bool true)], args := [d] }
  | _ => none }
def fnTreePartsRow : OpenClaim := { program := "ytnfamhegbfjggaa", sum := "01e15c9c298f48a8dab178d590af1bb6d1c33463e0098297870246eeee099ea8", func := "loop.example/g00114/laws.FnTreeParts", spec := "fnTreeParts", recurses := true, apart := false }
def FnTreePartsSaid : Prop := fnTreePartsRow.holds Try.pinned (OpenSpec.ofChange fnTreePartsSpec)

/-- ITS FALSE NEIGHBOUR: 'it returns false'. Refute it at one input. -/
def fnTreePartsWrong : ChangeSpec := { name := "fnTreeParts", fn := fun _ => fun
  | [d] => { results := [.lit (.bool false)], args := [d] }
  | _ => none }
def FnTreePartsWrongFalsely : Prop := fnTreePartsRow.holds Try.pinned (OpenSpec.ofChange fnTreePartsWrong)

/-- 'laws.FnExactConfigOk': WHATEVER THE INPUT: true; the input reads as it did. -/
def fnExactConfigOkSpec : ChangeSpec := { name := "fnExactConfigOk", fn := fun _ => fun
  | [d1, d2] => { results := [.lit (.bool true)], args := [d1, d2] }
  | _ => none }
def fnExactConfigOkRow : OpenClaim := { program := "ytnfamhegbfjggaa", sum := "01e15c9c298f48a8dab178d590af1bb6d1c33463e0098297870246eeee099ea8", func := "loop.example/g00114/laws.FnExactConfigOk", spec := "fnExactConfigOk", recurses := true, apart := false }
def FnExactConfigOkSaid : Prop := fnExactConfigOkRow.holds Try.pinned (OpenSpec.ofChange fnExactConfigOkSpec)

/-- ITS FALSE NEIGHBOUR: 'it returns false'. Refute it at one input. -/
def fnExactConfigOkWrong : ChangeSpec := { name := "fnExactConfigOk", fn := fun _ => fun
  | [d1, d2] => { results := [.lit (.bool false)], args := [d1, d2] }
  | _ => none }
def FnExactConfigOkWrongFalsely : Prop := fnExactConfigOkRow.holds Try.pinned (OpenSpec.ofChange fnExactConfigOkWrong)

/-- 'laws.FnExactFrontRead': WHATEVER THE INPUT: true; the input reads as it did. -/
def fnExactFrontReadSpec : ChangeSpec := { name := "fnExactFrontRead", fn := fun _ => fun
  | [d1, d2] => { results := [.lit (.bool true)], args := [d1, d2] }
  | _ => none }
def fnExactFrontReadRow : OpenClaim := { program := "ytnfamhegbfjggaa", sum := "01e15c9c298f48a8dab178d590af1bb6d1c33463e0098297870246eeee099ea8", func := "loop.example/g00114/laws.FnExactFrontRead", spec := "fnExactFrontRead", apart := false }
def FnExactFrontReadSaid : Prop := fnExactFrontReadRow.holds Try.pinned (OpenSpec.ofChange fnExactFrontReadSpec)

/-- ITS FALSE NEIGHBOUR: 'it returns false'. Refute it at one input. -/
def fnExactFrontReadWrong : ChangeSpec := { name := "fnExactFrontRead", fn := fun _ => fun
  | [d1, d2] => { results := [.lit (.bool false)], args := [d1, d2] }
  | _ => none }
def FnExactFrontReadWrongFalsely : Prop := fnExactFrontReadRow.holds Try.pinned (OpenSpec.ofChange fnExactFrontReadWrong)

/-- 'laws.FnExactRecOk': WHATEVER THE INPUT: true; the input reads as it did. -/
def fnExactRecOkSpec : ChangeSpec := { name := "fnExactRecOk", fn := fun _ => fun
  | [d1, d2] => { results := [.lit (.bool true)], args := [d1, d2] }
  | _ => none }
def fnExactRecOkRow : OpenClaim := { program := "ytnfamhegbfjggaa", sum := "01e15c9c298f48a8dab178d590af1bb6d1c33463e0098297870246eeee099ea8", func := "loop.example/g00114/laws.FnExactRecOk", spec := "fnExactRecOk", unfollowed := true, recurses := true, apart := false }
def FnExactRecOkSaid : Prop := fnExactRecOkRow.holds Try.pinned (OpenSpec.ofChange fnExactRecOkSpec)

/-- ITS FALSE NEIGHBOUR: 'it returns false'. Refute it at one input. -/
def fnExactRecOkWrong : ChangeSpec := { name := "fnExactRecOk", fn := fun _ => fun
  | [d1, d2] => { results := [.lit (.bool false)], args := [d1, d2] }
  | _ => none }
def FnExactRecOkWrongFalsely : Prop := fnExactRecOkRow.holds Try.pinned (OpenSpec.ofChange fnExactRecOkWrong)

/-- 'laws.FnExactLengthPack': WHATEVER THE INPUT: true; the input reads as it did. -/
def fnExactLengthPackSpec : ChangeSpec := { name := "fnExactLengthPack", fn := fun _ => fun
  | [d] => { results := [.lit (.bool true)], args := [d] }
  | _ => none }
def fnExactLengthPackRow : OpenClaim := { program := "ytnfamhegbfjggaa", sum := "01e15c9c298f48a8dab178d590af1bb6d1c33463e0098297870246eeee099ea8", func := "loop.example/g00114/laws.FnExactLengthPack", spec := "fnExactLengthPack", apart := false }
def FnExactLengthPackSaid : Prop := fnExactLengthPackRow.holds Try.pinned (OpenSpec.ofChange fnExactLengthPackSpec)

/-- ITS FALSE NEIGHBOUR: 'it returns false'. Refute it at one input. -/
def fnExactLengthPackWrong : ChangeSpec := { name := "fnExactLengthPack", fn := fun _ => fun
  | [d] => { results := [.lit (.bool false)], args := [d] }
  | _ => none }
def FnExactLengthPackWrongFalsely : Prop := fnExactLengthPackRow.holds Try.pinned (OpenSpec.ofChange fnExactLengthPackWrong)

/-- 'laws.FnExactStatsTree': WHATEVER THE INPUT: true; the input reads as it did. -/
def fnExactStatsTreeSpec : ChangeSpec := { name := "fnExactStatsTree", fn := fun _ => fun
  | [d1, d2] => { results := [.lit (.bool true)], args := [d1, d2] }
  | _ => none }
def fnExactStatsTreeRow : OpenClaim := { program := "ytnfamhegbfjggaa", sum := "01e15c9c298f48a8dab178d590af1bb6d1c33463e0098297870246eeee099ea8", func := "loop.example/g00114/laws.FnExactStatsTree", spec := "fnExactStatsTree", apart := false }
def FnExactStatsTreeSaid : Prop := fnExactStatsTreeRow.holds Try.pinned (OpenSpec.ofChange fnExactStatsTreeSpec)

/-- ITS FALSE NEIGHBOUR: 'it returns false'. Refute it at one input. -/
def fnExactStatsTreeWrong : ChangeSpec := { name := "fnExactStatsTree", fn := fun _ => fun
  | [d1, d2] => { results := [.lit (.bool false)], args := [d1, d2] }
  | _ => none }
def FnExactStatsTreeWrongFalsely : Prop := fnExactStatsTreeRow.holds Try.pinned (OpenSpec.ofChange fnExactStatsTreeWrong)

/-- 'laws.FnExactTriplesOk': WHATEVER THE INPUT: true; the input reads as it did. -/
def fnExactTriplesOkSpec : ChangeSpec := { name := "fnExactTriplesOk", fn := fun _ => fun
  | [d1, d2, d3] => { results := [.lit (.bool true)], args := [d1, d2, d3] }
  | _ => none }
def fnExactTriplesOkRow : OpenClaim := { program := "ytnfamhegbfjggaa", sum := "01e15c9c298f48a8dab178d590af1bb6d1c33463e0098297870246eeee099ea8", func := "loop.example/g00114/laws.FnExactTriplesOk", spec := "fnExactTriplesOk", recurses := true, apart := false }
def FnExactTriplesOkSaid : Prop := fnExactTriplesOkRow.holds Try.pinned (OpenSpec.ofChange fnExactTriplesOkSpec)

/-- ITS FALSE NEIGHBOUR: 'it returns false'. Refute it at one input. -/
def fnExactTriplesOkWrong : ChangeSpec := { name := "fnExactTriplesOk", fn := fun _ => fun
  | [d1, d2, d3] => { results := [.lit (.bool false)], args := [d1, d2, d3] }
  | _ => none }
def FnExactTriplesOkWrongFalsely : Prop := fnExactTriplesOkRow.holds Try.pinned (OpenSpec.ofChange fnExactTriplesOkWrong)

/-- 'laws.FnExactMetaOk': WHATEVER THE INPUT: true; the input reads as it did. -/
def fnExactMetaOkSpec : ChangeSpec := { name := "fnExactMetaOk", fn := fun _ => fun
  | [d] => { results := [.lit (.bool true)], args := [d] }
  | _ => none }
def fnExactMetaOkRow : OpenClaim := { program := "ytnfamhegbfjggaa", sum := "01e15c9c298f48a8dab178d590af1bb6d1c33463e0098297870246eeee099ea8", func := "loop.example/g00114/laws.FnExactMetaOk", spec := "fnExactMetaOk", recurses := true, apart := false }
def FnExactMetaOkSaid : Prop := fnExactMetaOkRow.holds Try.pinned (OpenSpec.ofChange fnExactMetaOkSpec)

/-- ITS FALSE NEIGHBOUR: 'it returns false'. Refute it at one input. -/
def fnExactMetaOkWrong : ChangeSpec := { name := "fnExactMetaOk", fn := fun _ => fun
  | [d] => { results := [.lit (.bool false)], args := [d] }
  | _ => none }
def FnExactMetaOkWrongFalsely : Prop := fnExactMetaOkRow.holds Try.pinned (OpenSpec.ofChange fnExactMetaOkWrong)

/- THE SECOND FORM. 'bulk': how many values and letters a reading holds, each counted each time it is reached (what is shared counts as often as it is met; a slice's spare places count too). A statement '..UptoSaid' is the law's where the arguments, and the package variables that the reading takes, are together of bulk at most 1048576: NARROWER than '..Said'. Prove '..Said' where nothing that the law and all that it calls make is longer than what came in: it says more and counts as full. Else prove '..UptoSaid'. A law counts once. -/
mutual
def uptoBulk {H : Type} : DataW H → Nat
  | .lit (.string bytes) => bytes.length + 1
  | .lit _ => 1
  | .nil => 1
  | .ptr d => uptoBulk d + 1
  | .slice elems spare => uptoBulkAll elems + uptoBulkAll spare + 1
  | .agg parts => uptoBulkAll parts + 1
  | .iface _ d => uptoBulk d + 1
  | .map entries => uptoBulkEntries entries + 1
  | .held _ => 1
def uptoBulkAll {H : Type} : List (DataW H) → Nat
  | [] => 0
  | d :: r => uptoBulk d + uptoBulkAll r
def uptoBulkEntries {H : Type} : List (Lit × DataW H) → Nat
  | [] => 0
  | x :: r => uptoBulkEntry x + uptoBulkEntries r
def uptoBulkEntry {H : Type} : Lit × DataW H → Nat
  | (.string bytes, d) => bytes.length + uptoBulk d + 1
  | (_, d) => uptoBulk d + 1
 end
def uptoSmall : (H : Type) → List (DataW H) → Bool := fun _ ds => decide (uptoBulkAll ds ≤ 1048576)
def OpenSpec.upto (s : _root_.Go.ChangeSpec) : _root_.Go.OpenSpec := { _root_.Go.OpenSpec.ofChange s with cond := some uptoSmall }

/-- 'laws.FnExactLengthRead', WHERE WHAT IT READS IS OF BULK AT MOST 1048576: true; the input reads as it did. -/
def fnExactLengthReadUptoRow : OpenClaim := { program := "ytnfamhegbfjggaa", sum := "01e15c9c298f48a8dab178d590af1bb6d1c33463e0098297870246eeee099ea8", func := "loop.example/g00114/laws.FnExactLengthRead", spec := "fnExactLengthRead", apart := false, narrowed := true }
def FnExactLengthReadUptoSaid : Prop := fnExactLengthReadUptoRow.holds Try.pinned (OpenSpec.upto fnExactLengthReadSpec)

/-- 'laws.FnExactPlacesPack', WHERE WHAT IT READS IS OF BULK AT MOST 1048576: true; the input reads as it did. -/
def fnExactPlacesPackUptoRow : OpenClaim := { program := "ytnfamhegbfjggaa", sum := "01e15c9c298f48a8dab178d590af1bb6d1c33463e0098297870246eeee099ea8", func := "loop.example/g00114/laws.FnExactPlacesPack", spec := "fnExactPlacesPack", apart := false, narrowed := true }
def FnExactPlacesPackUptoSaid : Prop := fnExactPlacesPackUptoRow.holds Try.pinned (OpenSpec.upto fnExactPlacesPackSpec)

/-- 'laws.FnExactSchemaPrint', WHERE WHAT IT READS IS OF BULK AT MOST 1048576: true; the input reads as it did. -/
def fnExactSchemaPrintUptoRow : OpenClaim := { program := "ytnfamhegbfjggaa", sum := "01e15c9c298f48a8dab178d590af1bb6d1c33463e0098297870246eeee099ea8", func := "loop.example/g00114/laws.FnExactSchemaPrint", spec := "fnExactSchemaPrint", inPlace := ["internal/abi.NoEscape", "internal/bytealg.MakeNoZero"], recurses := true, apart := false, narrowed := true }
def FnExactSchemaPrintUptoSaid : Prop := fnExactSchemaPrintUptoRow.holds Try.pinned (OpenSpec.upto fnExactSchemaPrintSpec)

/-- 'laws.FnTreeParts', WHERE WHAT IT READS IS OF BULK AT MOST 1048576: true; the input reads as it did. -/
def fnTreePartsUptoRow : OpenClaim := { program := "ytnfamhegbfjggaa", sum := "01e15c9c298f48a8dab178d590af1bb6d1c33463e0098297870246eeee099ea8", func := "loop.example/g00114/laws.FnTreeParts", spec := "fnTreeParts", recurses := true, apart := false, narrowed := true }
def FnTreePartsUptoSaid : Prop := fnTreePartsUptoRow.holds Try.pinned (OpenSpec.upto fnTreePartsSpec)

/-- 'laws.FnExactConfigOk', WHERE WHAT IT READS IS OF BULK AT MOST 1048576: true; the input reads as it did. -/
def fnExactConfigOkUptoRow : OpenClaim := { program := "ytnfamhegbfjggaa", sum := "01e15c9c298f48a8dab178d590af1bb6d1c33463e0098297870246eeee099ea8", func := "loop.example/g00114/laws.FnExactConfigOk", spec := "fnExactConfigOk", recurses := true, apart := false, narrowed := true }
def FnExactConfigOkUptoSaid : Prop := fnExactConfigOkUptoRow.holds Try.pinned (OpenSpec.upto fnExactConfigOkSpec)

/-- 'laws.FnExactFrontRead', WHERE WHAT IT READS IS OF BULK AT MOST 1048576: true; the input reads as it did. -/
def fnExactFrontReadUptoRow : OpenClaim := { program := "ytnfamhegbfjggaa", sum := "01e15c9c298f48a8dab178d590af1bb6d1c33463e0098297870246eeee099ea8", func := "loop.example/g00114/laws.FnExactFrontRead", spec := "fnExactFrontRead", apart := false, narrowed := true }
def FnExactFrontReadUptoSaid : Prop := fnExactFrontReadUptoRow.holds Try.pinned (OpenSpec.upto fnExactFrontReadSpec)

/-- 'laws.FnExactRecOk', WHERE WHAT IT READS IS OF BULK AT MOST 1048576: true; the input reads as it did. -/
def fnExactRecOkUptoRow : OpenClaim := { program := "ytnfamhegbfjggaa", sum := "01e15c9c298f48a8dab178d590af1bb6d1c33463e0098297870246eeee099ea8", func := "loop.example/g00114/laws.FnExactRecOk", spec := "fnExactRecOk", unfollowed := true, recurses := true, apart := false, narrowed := true }
def FnExactRecOkUptoSaid : Prop := fnExactRecOkUptoRow.holds Try.pinned (OpenSpec.upto fnExactRecOkSpec)

/-- 'laws.FnExactLengthPack', WHERE WHAT IT READS IS OF BULK AT MOST 1048576: true; the input reads as it did. -/
def fnExactLengthPackUptoRow : OpenClaim := { program := "ytnfamhegbfjggaa", sum := "01e15c9c298f48a8dab178d590af1bb6d1c33463e0098297870246eeee099ea8", func := "loop.example/g00114/laws.FnExactLengthPack", spec := "fnExactLengthPack", apart := false, narrowed := true }
def FnExactLengthPackUptoSaid : Prop := fnExactLengthPackUptoRow.holds Try.pinned (OpenSpec.upto fnExactLengthPackSpec)

/-- 'laws.FnExactStatsTree', WHERE WHAT IT READS IS OF BULK AT MOST 1048576: true; the input reads as it did. -/
def fnExactStatsTreeUptoRow : OpenClaim := { program := "ytnfamhegbfjggaa", sum := "01e15c9c298f48a8dab178d590af1bb6d1c33463e0098297870246eeee099ea8", func := "loop.example/g00114/laws.FnExactStatsTree", spec := "fnExactStatsTree", apart := false, narrowed := true }
def FnExactStatsTreeUptoSaid : Prop := fnExactStatsTreeUptoRow.holds Try.pinned (OpenSpec.upto fnExactStatsTreeSpec)

/-- 'laws.FnExactTriplesOk', WHERE WHAT IT READS IS OF BULK AT MOST 1048576: true; the input reads as it did. -/
def fnExactTriplesOkUptoRow : OpenClaim := { program := "ytnfamhegbfjggaa", sum := "01e15c9c298f48a8dab178d590af1bb6d1c33463e0098297870246eeee099ea8", func := "loop.example/g00114/laws.FnExactTriplesOk", spec := "fnExactTriplesOk", recurses := true, apart := false, narrowed := true }
def FnExactTriplesOkUptoSaid : Prop := fnExactTriplesOkUptoRow.holds Try.pinned (OpenSpec.upto fnExactTriplesOkSpec)

/-- 'laws.FnExactMetaOk', WHERE WHAT IT READS IS OF BULK AT MOST 1048576: true; the input reads as it did. -/
def fnExactMetaOkUptoRow : OpenClaim := { program := "ytnfamhegbfjggaa", sum := "01e15c9c298f48a8dab178d590af1bb6d1c33463e0098297870246eeee099ea8", func := "loop.example/g00114/laws.FnExactMetaOk", spec := "fnExactMetaOk", recurses := true, apart := false, narrowed := true }
def FnExactMetaOkUptoSaid : Prop := fnExactMetaOkUptoRow.holds Try.pinned (OpenSpec.upto fnExactMetaOkSpec)

end Rows
end Go.Proofs.Ytnfamhegbfjggaa
