/-
  No cell of these rows narrows 'for every input' (looked for: loops, veiled, ifaces, maps, wideKeys, modest, calm, conditions, laid).
  DERIVED. THE GIVEN ROWS OF THIS SEAT. 4 by the template 'for every input the law returns true; each argument reads behind the call as it read before'; 0 by the template 'total and deterministic' (their statements: YtgcanbeckamjeaaTotals.lean).
  GIVEN WITH THE SEED: the statements are not yours to turn. If you find one false, say at which input.
  Laid BY PROGRAM, IN A SANDBOX (cutbox-rows.mjs): the forced cells as the released guide's own fill.sh prints them over the translation ec5439695fc31cfb… (all of the seat's roots in one cut). By AI agents, Wed Nov 11 2026. No macro, syntax, notation, axiom, sorry.
-/
import Derived.Test.YtgcanbeckamjeaaChecked
import GoSem.Claim
import GoSem.ClaimJoined
import GoSem.ClaimMapViews
import Derived.JoinedTies
import Derived.KernelRfl
namespace Go.Proofs.Ytgcanbeckamjeaa
/- THE CELL 'sum', in the pinned program and in every row, IS THE sha256 OF THE DUMP (.gsa) THAT YtgcanbeckamjeaaProg.lean LOADS. Nothing in Lean hashes anything: it is a label: what it is worth is what the hold of that sum in a sandbox is worth. -/
noncomputable def Try.pinned : Pinned := { name := "ytgcanbeckamjeaa", sum := "ec5439695fc31cfbb598717305584e0da0224268368bc09fa8cf7fe8b8f6435c", checked := Try.checked }
namespace Rows
def none {H : Type} : Left H := { results := [], args := [] }

/-- 'laws.FnDelta': WHATEVER THE INPUT: true; the input reads as it did. -/
def fnDeltaSpec : ChangeSpec := { name := "fnDelta", fn := fun _ => fun
  | [d] => { results := [.lit (.bool true)], args := [d] }
  | _ => none }
def fnDeltaRow : OpenClaim := { program := "ytgcanbeckamjeaa", sum := "ec5439695fc31cfbb598717305584e0da0224268368bc09fa8cf7fe8b8f6435c", func := "loop.example/g00114/laws.FnDelta", spec := "fnDelta", apart := false }
def FnDeltaSaid : Prop := fnDeltaRow.holds Try.pinned (OpenSpec.ofChange fnDeltaSpec)

/-- ITS FALSE NEIGHBOUR: 'it returns false'. Refute it at one input. -/
def fnDeltaWrong : ChangeSpec := { name := "fnDelta", fn := fun _ => fun
  | [d] => { results := [.lit (.bool false)], args := [d] }
  | _ => none }
def FnDeltaWrongFalsely : Prop := fnDeltaRow.holds Try.pinned (OpenSpec.ofChange fnDeltaWrong)

/-- 'laws.FnExactDeltaRead': WHATEVER THE INPUT: true; the input reads as it did. -/
def fnExactDeltaReadSpec : ChangeSpec := { name := "fnExactDeltaRead", fn := fun _ => fun
  | [d1, d2] => { results := [.lit (.bool true)], args := [d1, d2] }
  | _ => none }
def fnExactDeltaReadRow : OpenClaim := { program := "ytgcanbeckamjeaa", sum := "ec5439695fc31cfbb598717305584e0da0224268368bc09fa8cf7fe8b8f6435c", func := "loop.example/g00114/laws.FnExactDeltaRead", spec := "fnExactDeltaRead", apart := false }
def FnExactDeltaReadSaid : Prop := fnExactDeltaReadRow.holds Try.pinned (OpenSpec.ofChange fnExactDeltaReadSpec)

/-- ITS FALSE NEIGHBOUR: 'it returns false'. Refute it at one input. -/
def fnExactDeltaReadWrong : ChangeSpec := { name := "fnExactDeltaRead", fn := fun _ => fun
  | [d1, d2] => { results := [.lit (.bool false)], args := [d1, d2] }
  | _ => none }
def FnExactDeltaReadWrongFalsely : Prop := fnExactDeltaReadRow.holds Try.pinned (OpenSpec.ofChange fnExactDeltaReadWrong)

/-- 'laws.FnExactLengthRead': WHATEVER THE INPUT: true; the input reads as it did. -/
def fnExactLengthReadSpec : ChangeSpec := { name := "fnExactLengthRead", fn := fun _ => fun
  | [d1, d2] => { results := [.lit (.bool true)], args := [d1, d2] }
  | _ => none }
def fnExactLengthReadRow : OpenClaim := { program := "ytgcanbeckamjeaa", sum := "ec5439695fc31cfbb598717305584e0da0224268368bc09fa8cf7fe8b8f6435c", func := "loop.example/g00114/laws.FnExactLengthRead", spec := "fnExactLengthRead", apart := false }
def FnExactLengthReadSaid : Prop := fnExactLengthReadRow.holds Try.pinned (OpenSpec.ofChange fnExactLengthReadSpec)

/-- ITS FALSE NEIGHBOUR: 'it returns false'. Refute it at one input. -/
def fnExactLengthReadWrong : ChangeSpec := { name := "fnExactLengthRead", fn := fun _ => fun
  | [d1, d2] => { results := [.lit (.bool false)], args := [d1, d2] }
  | _ => none }
def FnExactLengthReadWrongFalsely : Prop := fnExactLengthReadRow.holds Try.pinned (OpenSpec.ofChange fnExactLengthReadWrong)

/-- 'laws.FnExactFrontRead': WHATEVER THE INPUT: true; the input reads as it did. -/
def fnExactFrontReadSpec : ChangeSpec := { name := "fnExactFrontRead", fn := fun _ => fun
  | [d1, d2] => { results := [.lit (.bool true)], args := [d1, d2] }
  | _ => none }
def fnExactFrontReadRow : OpenClaim := { program := "ytgcanbeckamjeaa", sum := "ec5439695fc31cfbb598717305584e0da0224268368bc09fa8cf7fe8b8f6435c", func := "loop.example/g00114/laws.FnExactFrontRead", spec := "fnExactFrontRead", apart := false }
def FnExactFrontReadSaid : Prop := fnExactFrontReadRow.holds Try.pinned (OpenSpec.ofChange fnExactFrontReadSpec)

/-- ITS FALSE NEIGHBOUR: 'it returns false'. Refute it at one input. -/
def fnExactFrontReadWrong : ChangeSpec := { name := "fnExactFrontRead", fn := fun _ => fun
  | [d1, d2] => { results := [.lit (.bool false)], args := [d1, d2] }
  | _ => none }
def FnExactFrontReadWrongFalsely : Prop := fnExactFrontReadRow.holds Try.pinned (OpenSpec.ofChange fnExactFrontReadWrong)

/- THE SECOND FORM. 'bulk': how many values and letters a reading holds, each counted each time it is reached (what is shared counts as often as it is met; a slice's spare places count too). A statement '..UptoSaid' is the law's where the arguments, and the package variables that the reading takes, are together of bulk at most 1048576: NARROWER than '..Said'. Prove '..Said' where nothing that the law and all that it calls make is longer than what came in: it says more and counts as full. Else prove '..UptoSaid'. A law counts once. -/
mutual
def uptoBulk {H : Type} : DataW H → Nat
  | .lit (.string bytes) => bytes.length + 1
  | .lit _ => 1
  | .nil => 1
  | .ptr d => uptoBulk d + 1
  | .slice elems spare => uptoBulkAll elems + uptoBulkAll spare + 1
  | .agg parts => uptoBulkAll parts + 1
  | .iface _ d => uptoBulk d + 1
  | .map entries => uptoBulkEntries entries + 1
  | .held _ => 1
def uptoBulkAll {H : Type} : List (DataW H) → Nat
  | [] => 0
  | d :: r => uptoBulk d + uptoBulkAll r
def uptoBulkEntries {H : Type} : List (Lit × DataW H) → Nat
  | [] => 0
  | x :: r => uptoBulkEntry x + uptoBulkEntries r
def uptoBulkEntry {H : Type} : Lit × DataW H → Nat
  | (.string bytes, d) => bytes.length + uptoBulk d + 1
  | (_, d) => uptoBulk d + 1
 end
def uptoSmall : (H : Type) → List (DataW H) → Bool := fun _ ds => decide (uptoBulkAll ds ≤ 1048576)
def OpenSpec.upto (s : _root_.Go.ChangeSpec) : _root_.Go.OpenSpec := { _root_.Go.OpenSpec.ofChange s with cond := some uptoSmall }

/-- 'laws.FnDelta', WHERE WHAT IT READS IS OF BULK AT MOST 1048576: true; the input reads as it did. -/
def fnDeltaUptoRow : OpenClaim := { program := "ytgcanbeckamjeaa", sum := "ec5439695fc31cfbb598717305584e0da0224268368bc09fa8cf7fe8b8f6435c", func := "loop.example/g00114/laws.FnDelta", spec := "fnDelta", apart := false, narrowed := true }
def FnDeltaUptoSaid : Prop := fnDeltaUptoRow.holds Try.pinned (OpenSpec.upto fnDeltaSpec)

/-- 'laws.FnExactDeltaRead', WHERE WHAT IT READS IS OF BULK AT MOST 1048576: true; the input reads as it did. -/
def fnExactDeltaReadUptoRow : OpenClaim := { program := "ytgcanbeckamjeaa", sum := "ec5439695fc31cfbb598717305584e0da0224268368bc09fa8cf7fe8b8f6435c", func := "loop.example/g00114/laws.FnExactDeltaRead", spec := "fnExactDeltaRead", apart := false, narrowed := true }
def FnExactDeltaReadUptoSaid : Prop := fnExactDeltaReadUptoRow.holds Try.pinned (OpenSpec.upto fnExactDeltaReadSpec)

/-- 'laws.FnExactLengthRead', WHERE WHAT IT READS IS OF BULK AT MOST 1048576: true; the input reads as it did. -/
def fnExactLengthReadUptoRow : OpenClaim := { program := "ytgcanbeckamjeaa", sum := "ec5439695fc31cfbb598717305584e0da0224268368bc09fa8cf7fe8b8f6435c", func := "loop.example/g00114/laws.FnExactLengthRead", spec := "fnExactLengthRead", apart := false, narrowed := true }
def FnExactLengthReadUptoSaid : Prop := fnExactLengthReadUptoRow.holds Try.pinned (OpenSpec.upto fnExactLengthReadSpec)

/-- 'laws.FnExactFrontRead', WHERE WHAT IT READS IS OF BULK AT MOST 1048576: true; the input reads as it did. -/
def fnExactFrontReadUptoRow : OpenClaim := { program := "ytgcanbeckamjeaa", sum := "ec5439695fc31cfbb598717305584e0da0224268368bc09fa8cf7fe8b8f6435c", func := "loop.example/g00114/laws.FnExactFrontRead", spec := "fnExactFrontRead", apart := false, narrowed := true }
def FnExactFrontReadUptoSaid : Prop := fnExactFrontReadUptoRow.holds Try.pinned (OpenSpec.upto fnExactFrontReadSpec)

end Rows
end Go.Proofs.Ytgcanbeckamjeaa
