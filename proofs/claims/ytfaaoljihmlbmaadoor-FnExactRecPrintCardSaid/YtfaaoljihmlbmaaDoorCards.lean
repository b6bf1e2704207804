/-
  DERIVED. GIVEN WITH THE SEED: THE CARDS: each row of YtfaaoljihmlbmaaDoorRows.lean that lists a variable, with what it lists TIED to the program's text (the seventh form; the later family's looks); each row that meets fmt, with fmt's text TOLD by the authors' own Lean function (tested against real Go, not proved from fmt's source: count such statements apart). THE CARD IS WHAT COUNTS. Prove the row's statement (the work); the ties are given (YtfaaoljihmlbmaaDoorTie.lean); close each card by the builder's one call (the guide's Derived/Test/ToyasCard.lean, 'card_holds'). Laid BY PROGRAM, IN A SANDBOX (cutbox-door.mjs). By AI agents, Wed Nov 11 2026. No macro, syntax, notation, axiom, sorry.
-/
import Derived.Test.YtfaaoljihmlbmaaDoorRows
import GoSem.ClaimSeven
namespace Go.Proofs.YtfaaoljihmlbmaaDoor
namespace Rows

/-- THE TIED CARD OF 'laws.FnExactRecPrint'. -/
def fnExactRecPrintCard : Claim7 := { stood := { row := fnExactRecPrintRow, standIns := [], harness := (true, "35a383845808a3a9860fa56db6889f2e1d13f3dd61aac7a163560ed64c81f3ce"), looks := false }, kinds := [], alts := [], laidByText := true, laidKinds := [.data, .data, .data], laidTests := true, laidLooks := .later }
def FnExactRecPrintCardSaid : Prop := Claim7.holds Tryd.pinned (.plain (OpenSpec.ofChange fnExactRecPrintSpec)) fnExactRecPrintCard

/-- THE SECOND FORM's CARD OF 'laws.FnExactRecPrint'. -/
def fnExactRecPrintUptoCard : Claim7 := { stood := { row := fnExactRecPrintUptoRow, standIns := [], harness := (true, "35a383845808a3a9860fa56db6889f2e1d13f3dd61aac7a163560ed64c81f3ce"), looks := false }, kinds := [], alts := [], laidByText := true, laidKinds := [.data, .data, .data], laidTests := true, laidLooks := .later }
def FnExactRecPrintUptoCardSaid : Prop := Claim7.holds Tryd.pinned (.plain (OpenSpec.upto fnExactRecPrintSpec)) fnExactRecPrintUptoCard
end Rows
end Go.Proofs.YtfaaoljihmlbmaaDoor
