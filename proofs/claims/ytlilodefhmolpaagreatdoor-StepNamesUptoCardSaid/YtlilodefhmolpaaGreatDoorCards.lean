/-
  DERIVED. GIVEN WITH THE SEED: THE CARDS: each row of YtlilodefhmolpaaGreatDoorRows.lean that lists a variable, with what it lists TIED to the program's text (the seventh form; the later family's looks); each row that meets fmt, with fmt's text TOLD by the authors' own Lean function (tested against real Go, not proved from fmt's source: count such statements apart). THE CARD IS WHAT COUNTS. Prove the row's statement (the work); the ties are given (YtlilodefhmolpaaGreatDoorTie.lean); close each card by the builder's one call (the guide's Derived/Test/ToyasCard.lean, 'card_holds'). Laid BY PROGRAM, IN A SANDBOX (cutbox-door.mjs). By AI agents, Wed Nov 11 2026. No macro, syntax, notation, axiom, sorry.
-/
import Derived.Test.YtlilodefhmolpaaGreatDoorRows
import GoSem.ClaimSeven
namespace Go.Proofs.YtlilodefhmolpaaGreatDoor
namespace Rows

/-- THE TIED CARD OF 'sheafworkslaw14.StepNames'. -/
def stepNamesCard : Claim7 := { stood := { row := stepNamesRow, standIns := [], harness := (true, "a71705813e8b991ede1b46a6fc4ac3c8f2f4bcadb53f07755a58944dee175380"), looks := true }, kinds := [], alts := [], laidByText := true, laidKinds := [.data, .funcs, .data, .data, .listed, .data, .pinned], laidTests := true, laidLooks := .later }
def StepNamesCardSaid : Prop := Claim7.holds Tryz.pinned (.plain (OpenSpec.ofChange stepNamesSpec)) stepNamesCard

/-- THE SECOND FORM's CARD OF 'sheafworkslaw14.StepNames'. -/
def stepNamesUptoCard : Claim7 := { stood := { row := stepNamesUptoRow, standIns := [], harness := (true, "a71705813e8b991ede1b46a6fc4ac3c8f2f4bcadb53f07755a58944dee175380"), looks := true }, kinds := [], alts := [], laidByText := true, laidKinds := [.data, .funcs, .data, .data, .listed, .data, .pinned], laidTests := true, laidLooks := .later }
def StepNamesUptoCardSaid : Prop := Claim7.holds Tryz.pinned (.plain (OpenSpec.upto stepNamesSpec)) stepNamesUptoCard
end Rows
end Go.Proofs.YtlilodefhmolpaaGreatDoor
