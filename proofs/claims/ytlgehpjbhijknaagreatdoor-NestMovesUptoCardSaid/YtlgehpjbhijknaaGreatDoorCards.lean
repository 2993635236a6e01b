/-
  DERIVED. GIVEN WITH THE SEED: THE CARDS: each row of YtlgehpjbhijknaaGreatDoorRows.lean that lists a variable, with what it lists TIED to the program's text (the seventh form; the later family's looks); each row that meets fmt, with fmt's text TOLD by the authors' own Lean function (tested against real Go, not proved from fmt's source: count such statements apart). THE CARD IS WHAT COUNTS. Prove the row's statement (the work); the ties are given (YtlgehpjbhijknaaGreatDoorTie.lean); close each card by the builder's one call (the guide's Derived/Test/ToyasCard.lean, 'card_holds'). Laid BY PROGRAM, IN A SANDBOX (cutbox-door.mjs). By AI agents, Wed Nov 11 2026. No macro, syntax, notation, axiom, sorry.
-/
import Derived.Test.YtlgehpjbhijknaaGreatDoorRows
import GoSem.ClaimSeven
namespace Go.Proofs.YtlgehpjbhijknaaGreatDoor
namespace Rows

/-- THE TIED CARD OF 'sheafworkslaw03.NestBuilds'. -/
def nestBuildsCard : Claim7 := { stood := { row := nestBuildsRow, standIns := [], harness := (true, "b7c3bef4f4367e1caebba0772c8c6c57db4212d49812d4a8ac5e879b086a8ca0"), looks := true }, kinds := [], alts := [], laidByText := true, laidKinds := [.funcs, .data, .data], laidTests := true, laidLooks := .later }
def NestBuildsCardSaid : Prop := Claim7.holds Tryz.pinned (.plain (OpenSpec.ofChange nestBuildsSpec)) nestBuildsCard

/-- THE TIED CARD OF 'sheafworkslaw03.NestMoves'. -/
def nestMovesCard : Claim7 := { stood := { row := nestMovesRow, standIns := [], harness := (true, "b7c3bef4f4367e1caebba0772c8c6c57db4212d49812d4a8ac5e879b086a8ca0"), looks := true }, kinds := [], alts := [], laidByText := true, laidKinds := [.funcs, .data, .data], laidTests := true, laidLooks := .later }
def NestMovesCardSaid : Prop := Claim7.holds Tryz.pinned (.plain (OpenSpec.ofChange nestMovesSpec)) nestMovesCard

/-- THE TIED CARD OF 'sheafworkslaw13.MeanNests'. -/
def meanNestsCard : Claim7 := { stood := { row := meanNestsRow, standIns := [], harness := (true, "b7c3bef4f4367e1caebba0772c8c6c57db4212d49812d4a8ac5e879b086a8ca0"), looks := true }, kinds := [], alts := [], laidByText := true, laidKinds := [.data, .funcs, .data, .data, .listed, .data, .pinned], laidTests := true, laidLooks := .later }
def MeanNestsCardSaid : Prop := Claim7.holds Tryz.pinned (.plain (OpenSpec.ofChange meanNestsSpec)) meanNestsCard

/-- THE SECOND FORM's CARD OF 'sheafworkslaw03.NestBuilds'. -/
def nestBuildsUptoCard : Claim7 := { stood := { row := nestBuildsUptoRow, standIns := [], harness := (true, "b7c3bef4f4367e1caebba0772c8c6c57db4212d49812d4a8ac5e879b086a8ca0"), looks := true }, kinds := [], alts := [], laidByText := true, laidKinds := [.funcs, .data, .data], laidTests := true, laidLooks := .later }
def NestBuildsUptoCardSaid : Prop := Claim7.holds Tryz.pinned (.plain (OpenSpec.upto nestBuildsSpec)) nestBuildsUptoCard

/-- THE SECOND FORM's CARD OF 'sheafworkslaw03.NestMoves'. -/
def nestMovesUptoCard : Claim7 := { stood := { row := nestMovesUptoRow, standIns := [], harness := (true, "b7c3bef4f4367e1caebba0772c8c6c57db4212d49812d4a8ac5e879b086a8ca0"), looks := true }, kinds := [], alts := [], laidByText := true, laidKinds := [.funcs, .data, .data], laidTests := true, laidLooks := .later }
def NestMovesUptoCardSaid : Prop := Claim7.holds Tryz.pinned (.plain (OpenSpec.upto nestMovesSpec)) nestMovesUptoCard

/-- THE SECOND FORM's CARD OF 'sheafworkslaw13.MeanNests'. -/
def meanNestsUptoCard : Claim7 := { stood := { row := meanNestsUptoRow, standIns := [], harness := (true, "b7c3bef4f4367e1caebba0772c8c6c57db4212d49812d4a8ac5e879b086a8ca0"), looks := true }, kinds := [], alts := [], laidByText := true, laidKinds := [.data, .funcs, .data, .data, .listed, .data, .pinned], laidTests := true, laidLooks := .later }
def MeanNestsUptoCardSaid : Prop := Claim7.holds Tryz.pinned (.plain (OpenSpec.upto meanNestsSpec)) meanNestsUptoCard
end Rows
end Go.Proofs.YtlgehpjbhijknaaGreatDoor
