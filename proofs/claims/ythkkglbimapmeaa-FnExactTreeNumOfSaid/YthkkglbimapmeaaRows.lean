/-
  No cell of these rows narrows 'for every input' (looked for: loops, veiled, ifaces, maps, wideKeys, modest, calm, conditions, laid).
  DERIVED. THE GIVEN ROWS OF THIS SEAT. 3 by the template 'for every input the law returns true; each argument reads behind the call as it read before'; 0 by the template 'total and deterministic' (their statements: YthkkglbimapmeaaTotals.lean).
  GIVEN WITH THE SEED: the statements are not yours to turn. If you find one false, say at which input.
  Laid BY PROGRAM, IN A SANDBOX (cutbox-rows.mjs): the forced cells as the released guide's own fill.sh prints them over the translation 0f031983bdbc173b… (all of the seat's roots in one cut). By AI agents, Wed Nov 11 2026. No macro, syntax, notation, axiom, sorry.
-/
import Derived.Test.YthkkglbimapmeaaChecked
import GoSem.Claim
import GoSem.ClaimJoined
import GoSem.ClaimMapViews
import Derived.JoinedTies
import Derived.KernelRfl
namespace Go.Proofs.Ythkkglbimapmeaa
/- THE CELL 'sum', in the pinned program and in every row, IS THE sha256 OF THE DUMP (.gsa) THAT YthkkglbimapmeaaProg.lean LOADS. Nothing in Lean hashes anything: it is a label: what it is worth is what the hold of that sum in a sandbox is worth. -/
noncomputable def Try.pinned : Pinned := { name := "ythkkglbimapmeaa", sum := "0f031983bdbc173bf716126ae6a2dfc8864dd1a73dfd6558d1ec1327407a4a40", checked := Try.checked }
namespace Rows
def none {H : Type} : Left H := { results := [], args := [] }

/-- 'laws.FnExactDictOf': WHATEVER THE INPUT: true; the input reads as it did. -/
def fnExactDictOfSpec : ChangeSpec := { name := "fnExactDictOf", fn := fun _ => fun
  | [d1, d2] => { results := [.lit (.bool true)], args := [d1, d2] }
  | _ => none }
def fnExactDictOfRow : OpenClaim := { program := "ythkkglbimapmeaa", sum := "0f031983bdbc173bf716126ae6a2dfc8864dd1a73dfd6558d1ec1327407a4a40", func := "loop.example/g00114/laws.FnExactDictOf", spec := "fnExactDictOf", plainKeys := false, apart := false }
def FnExactDictOfSaid : Prop := fnExactDictOfRow.holds Try.pinned (OpenSpec.ofChange fnExactDictOfSpec)

/-- ITS FALSE NEIGHBOUR: 'it returns false'. Refute it at one input. -/
def fnExactDictOfWrong : ChangeSpec := { name := "fnExactDictOf", fn := fun _ => fun
  | [d1, d2] => { results := [.lit (.bool false)], args := [d1, d2] }
  | _ => none }
def FnExactDictOfWrongFalsely : Prop := fnExactDictOfRow.holds Try.pinned (OpenSpec.ofChange fnExactDictOfWrong)

/-- 'laws.FnExactDeltaRead': WHATEVER THE INPUT: true; the input reads as it did. -/
def fnExactDeltaReadSpec : ChangeSpec := { name := "fnExactDeltaRead", fn := fun _ => fun
  | [d1, d2] => { results := [.lit (.bool true)], args := [d1, d2] }
  | _ => none }
def fnExactDeltaReadRow : OpenClaim := { program := "ythkkglbimapmeaa", sum := "0f031983bdbc173bf716126ae6a2dfc8864dd1a73dfd6558d1ec1327407a4a40", func := "loop.example/g00114/laws.FnExactDeltaRead", spec := "fnExactDeltaRead", plainKeys := false, apart := false }
def FnExactDeltaReadSaid : Prop := fnExactDeltaReadRow.holds Try.pinned (OpenSpec.ofChange fnExactDeltaReadSpec)

/-- ITS FALSE NEIGHBOUR: 'it returns false'. Refute it at one input. -/
def fnExactDeltaReadWrong : ChangeSpec := { name := "fnExactDeltaRead", fn := fun _ => fun
  | [d1, d2] => { results := [.lit (.bool false)], args := [d1, d2] }
  | _ => none }
def FnExactDeltaReadWrongFalsely : Prop := fnExactDeltaReadRow.holds Try.pinned (OpenSpec.ofChange fnExactDeltaReadWrong)

/-- 'laws.FnExactTreeNumOf': WHATEVER THE INPUT: true; the input reads as it did. -/
def fnExactTreeNumOfSpec : ChangeSpec := { name := "fnExactTreeNumOf", fn := fun _ => fun
  | [d1, d2, d3] => { results := [.lit (.bool true)], args := [d1, d2, d3] }
  | _ => none }
def fnExactTreeNumOfRow : OpenClaim := { program := "ythkkglbimapmeaa", sum := "0f031983bdbc173bf716126ae6a2dfc8864dd1a73dfd6558d1ec1327407a4a40", func := "loop.example/g00114/laws.FnExactTreeNumOf", spec := "fnExactTreeNumOf", recurses := true, plainKeys := false, apart := false }
def FnExactTreeNumOfSaid : Prop := fnExactTreeNumOfRow.holds Try.pinned (OpenSpec.ofChange fnExactTreeNumOfSpec)

/-- ITS FALSE NEIGHBOUR: 'it returns false'. Refute it at one input. -/
def fnExactTreeNumOfWrong : ChangeSpec := { name := "fnExactTreeNumOf", fn := fun _ => fun
  | [d1, d2, d3] => { results := [.lit (.bool false)], args := [d1, d2, d3] }
  | _ => none }
def FnExactTreeNumOfWrongFalsely : Prop := fnExactTreeNumOfRow.holds Try.pinned (OpenSpec.ofChange fnExactTreeNumOfWrong)

/- THE SECOND FORM. 'bulk': how many values and letters a reading holds, each counted each time it is reached (what is shared counts as often as it is met; a slice's spare places count too). A statement '..UptoSaid' is the law's where the arguments, and the package variables that the reading takes, are together of bulk at most 1048576: NARROWER than '..Said'. Prove '..Said' where nothing that the law and all that it calls make is longer than what came in: it says more and counts as full. Else prove '..UptoSaid'. A law counts once. -/
mutual
def uptoBulk {H : Type} : DataW H → Nat
  | .lit (.string bytes) => bytes.length + 1
  | .lit _ => 1
  | .nil => 1
  | .ptr d => uptoBulk d + 1
  | .slice elems spare => uptoBulkAll elems + uptoBulkAll spare + 1
  | .agg parts => uptoBulkAll parts + 1
  | .iface _ d => uptoBulk d + 1
  | .map entries => uptoBulkEntries entries + 1
  | .held _ => 1
def uptoBulkAll {H : Type} : List (DataW H) → Nat
  | [] => 0
  | d :: r => uptoBulk d + uptoBulkAll r
def uptoBulkEntries {H : Type} : List (Lit × DataW H) → Nat
  | [] => 0
  | x :: r => uptoBulkEntry x + uptoBulkEntries r
def uptoBulkEntry {H : Type} : Lit × DataW H → Nat
  | (.string bytes, d) => bytes.length + uptoBulk d + 1
  | (_, d) => uptoBulk d + 1
 end
def uptoSmall : (H : Type) → List (DataW H) → Bool := fun _ ds => decide (uptoBulkAll ds ≤ 1048576)
def OpenSpec.upto (s : _root_.Go.ChangeSpec) : _root_.Go.OpenSpec := { _root_.Go.OpenSpec.ofChange s with cond := some uptoSmall }

/-- 'laws.FnExactDictOf', WHERE WHAT IT READS IS OF BULK AT MOST 1048576: true; the input reads as it did. -/
def fnExactDictOfUptoRow : OpenClaim := { program := "ythkkglbimapmeaa", sum := "0f031983bdbc173bf716126ae6a2dfc8864dd1a73dfd6558d1ec1327407a4a40", func := "loop.example/g00114/laws.FnExactDictOf", spec := "fnExactDictOf", plainKeys := false, apart := false, narrowed := true }
def FnExactDictOfUptoSaid : Prop := fnExactDictOfUptoRow.holds Try.pinned (OpenSpec.upto fnExactDictOfSpec)

/-- 'laws.FnExactDeltaRead', WHERE WHAT IT READS IS OF BULK AT MOST 1048576: true; the input reads as it did. -/
def fnExactDeltaReadUptoRow : OpenClaim := { program := "ythkkglbimapmeaa", sum := "0f031983bdbc173bf716126ae6a2dfc8864dd1a73dfd6558d1ec1327407a4a40", func := "loop.example/g00114/laws.FnExactDeltaRead", spec := "fnExactDeltaRead", plainKeys := false, apart := false, narrowed := true }
def FnExactDeltaReadUptoSaid : Prop := fnExactDeltaReadUptoRow.holds Try.pinned (OpenSpec.upto fnExactDeltaReadSpec)

/-- 'laws.FnExactTreeNumOf', WHERE WHAT IT READS IS OF BULK AT MOST 1048576: true; the input reads as it did. -/
def fnExactTreeNumOfUptoRow : OpenClaim := { program := "ythkkglbimapmeaa", sum := "0f031983bdbc173bf716126ae6a2dfc8864dd1a73dfd6558d1ec1327407a4a40", func := "loop.example/g00114/laws.FnExactTreeNumOf", spec := "fnExactTreeNumOf", recurses := true, plainKeys := false, apart := false, narrowed := true }
def FnExactTreeNumOfUptoSaid : Prop := fnExactTreeNumOfUptoRow.holds Try.pinned (OpenSpec.upto fnExactTreeNumOfSpec)

end Rows
end Go.Proofs.Ythkkglbimapmeaa
