/-
  DERIVED. GIVEN WITH THE SEED: THE CARDS: each row of YtngjgaadnpfbpaaGreatDoorRows.lean that lists a variable, with what it lists TIED to the program's text (the seventh form; the later family's looks); each row that meets fmt, with fmt's text TOLD by the authors' own Lean function (tested against real Go, not proved from fmt's source: count such statements apart). THE CARD IS WHAT COUNTS. Prove the row's statement (the work); the ties are given (YtngjgaadnpfbpaaGreatDoorTie.lean); close each card by the builder's one call (the guide's Derived/Test/ToyasCard.lean, 'card_holds'). Laid BY PROGRAM, IN A SANDBOX (cutbox-door.mjs). By AI agents, Wed Nov 11 2026. No macro, syntax, notation, axiom, sorry.
-/
import Derived.Test.YtngjgaadnpfbpaaGreatDoorRows
import GoSem.ClaimSeven
namespace Go.Proofs.YtngjgaadnpfbpaaGreatDoor
namespace Rows

/-- THE TIED CARD OF 'sheafworkslaw13.MeanNames'. -/
def meanNamesCard : Claim7 := { stood := { row := meanNamesRow, standIns := [], harness := (true, "7888eb4339a2bb992cbc704b03c84b0451a401cdec755524c9d34641a3656e73"), looks := true }, kinds := [], alts := [], laidByText := true, laidKinds := [.data, .funcs, .data, .data, .listed, .data, .pinned], laidTests := true, laidLooks := .later }
def MeanNamesCardSaid : Prop := Claim7.holds Tryz.pinned (.plain (OpenSpec.ofChange meanNamesSpec)) meanNamesCard

/-- THE SECOND FORM's CARD OF 'sheafworkslaw13.MeanNames'. -/
def meanNamesUptoCard : Claim7 := { stood := { row := meanNamesUptoRow, standIns := [], harness := (true, "7888eb4339a2bb992cbc704b03c84b0451a401cdec755524c9d34641a3656e73"), looks := true }, kinds := [], alts := [], laidByText := true, laidKinds := [.data, .funcs, .data, .data, .listed, .data, .pinned], laidTests := true, laidLooks := .later }
def MeanNamesUptoCardSaid : Prop := Claim7.holds Tryz.pinned (.plain (OpenSpec.upto meanNamesSpec)) meanNamesUptoCard
end Rows
end Go.Proofs.YtngjgaadnpfbpaaGreatDoor
