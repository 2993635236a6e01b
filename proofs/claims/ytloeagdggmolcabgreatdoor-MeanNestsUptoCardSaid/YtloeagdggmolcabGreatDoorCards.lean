/-
  DERIVED. GIVEN WITH THE SEED: THE CARDS: each row of YtloeagdggmolcabGreatDoorRows.lean that lists a variable, with what it lists TIED to the program's text (the seventh form; the later family's looks); each row that meets fmt, with fmt's text TOLD by the authors' own Lean function (tested against real Go, not proved from fmt's source: count such statements apart). THE CARD IS WHAT COUNTS. Prove the row's statement (the work); the ties are given (YtloeagdggmolcabGreatDoorTie.lean); close each card by the builder's one call (the guide's Derived/Test/ToyasCard.lean, 'card_holds'). Laid BY PROGRAM, IN A SANDBOX (cutbox-door.mjs). By AI agents, Wed Nov 11 2026. No macro, syntax, notation, axiom, sorry.
-/
import Derived.Test.YtloeagdggmolcabGreatDoorRows
import GoSem.ClaimSeven
namespace Go.Proofs.YtloeagdggmolcabGreatDoor
namespace Rows

/-- THE TIED CARD OF 'sheafworkslaw13.MeanNests'. -/
def meanNestsCard : Claim7 := { stood := { row := meanNestsRow, standIns := [], harness := (true, "cf736c38a68b41d3d7a574ff73269ac17601dc36ccbd76f4168ac7805006ef3e"), looks := true }, kinds := [], alts := [], laidByText := true, laidKinds := [.data, .funcs, .data, .data, .listed, .data, .pinned], laidTests := true, laidLooks := .later }
def MeanNestsCardSaid : Prop := Claim7.holds Tryz.pinned (.plain (OpenSpec.ofChange meanNestsSpec)) meanNestsCard

/-- THE TIED CARD OF 'sheafworkslaw13.MeanFuel'. -/
def meanFuelCard : Claim7 := { stood := { row := meanFuelRow, standIns := [], harness := (true, "cf736c38a68b41d3d7a574ff73269ac17601dc36ccbd76f4168ac7805006ef3e"), looks := true }, kinds := [], alts := [], laidByText := true, laidKinds := [.data, .funcs, .data, .data, .listed, .data, .pinned], laidTests := true, laidLooks := .later }
def MeanFuelCardSaid : Prop := Claim7.holds Tryz.pinned (.plain (OpenSpec.ofChange meanFuelSpec)) meanFuelCard

/-- THE TIED CARD OF 'sheafworkslaw13.MeanLets'. -/
def meanLetsCard : Claim7 := { stood := { row := meanLetsRow, standIns := [], harness := (true, "cf736c38a68b41d3d7a574ff73269ac17601dc36ccbd76f4168ac7805006ef3e"), looks := true }, kinds := [], alts := [], laidByText := true, laidKinds := [.data, .funcs, .data, .data, .listed, .data, .pinned], laidTests := true, laidLooks := .later }
def MeanLetsCardSaid : Prop := Claim7.holds Tryz.pinned (.plain (OpenSpec.ofChange meanLetsSpec)) meanLetsCard

/-- THE SECOND FORM's CARD OF 'sheafworkslaw13.MeanNests'. -/
def meanNestsUptoCard : Claim7 := { stood := { row := meanNestsUptoRow, standIns := [], harness := (true, "cf736c38a68b41d3d7a574ff73269ac17601dc36ccbd76f4168ac7805006ef3e"), looks := true }, kinds := [], alts := [], laidByText := true, laidKinds := [.data, .funcs, .data, .data, .listed, .data, .pinned], laidTests := true, laidLooks := .later }
def MeanNestsUptoCardSaid : Prop := Claim7.holds Tryz.pinned (.plain (OpenSpec.upto meanNestsSpec)) meanNestsUptoCard

/-- THE SECOND FORM's CARD OF 'sheafworkslaw13.MeanFuel'. -/
def meanFuelUptoCard : Claim7 := { stood := { row := meanFuelUptoRow, standIns := [], harness := (true, "cf736c38a68b41d3d7a574ff73269ac17601dc36ccbd76f4168ac7805006ef3e"), looks := true }, kinds := [], alts := [], laidByText := true, laidKinds := [.data, .funcs, .data, .data, .listed, .data, .pinned], laidTests := true, laidLooks := .later }
def MeanFuelUptoCardSaid : Prop := Claim7.holds Tryz.pinned (.plain (OpenSpec.upto meanFuelSpec)) meanFuelUptoCard

/-- THE SECOND FORM's CARD OF 'sheafworkslaw13.MeanLets'. -/
def meanLetsUptoCard : Claim7 := { stood := { row := meanLetsUptoRow, standIns := [], harness := (true, "cf736c38a68b41d3d7a574ff73269ac17601dc36ccbd76f4168ac7805006ef3e"), looks := true }, kinds := [], alts := [], laidByText := true, laidKinds := [.data, .funcs, .data, .data, .listed, .data, .pinned], laidTests := true, laidLooks := .later }
def MeanLetsUptoCardSaid : Prop := Claim7.holds Tryz.pinned (.plain (OpenSpec.upto meanLetsSpec)) meanLetsUptoCard
end Rows
end Go.Proofs.YtloeagdggmolcabGreatDoor
