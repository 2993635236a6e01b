/-
  DERIVED. GIVEN WITH THE SEED: THE CARDS: each row of YtlgehpjbhijknaaDoorRows.lean that lists a variable, with what it lists TIED to the program's text (the seventh form; the later family's looks); each row that meets fmt, with fmt's text TOLD by the authors' own Lean function (tested against real Go, not proved from fmt's source: count such statements apart). THE CARD IS WHAT COUNTS. Prove the row's statement (the work); the ties are given (YtlgehpjbhijknaaDoorTie.lean); close each card by the builder's one call (the guide's Derived/Test/ToyasCard.lean, 'card_holds'). Laid BY PROGRAM, IN A SANDBOX (cutbox-door.mjs). By AI agents, Wed Nov 11 2026. No macro, syntax, notation, axiom, sorry.
-/
import Derived.Test.YtlgehpjbhijknaaDoorRows
import GoSem.ClaimSeven
namespace Go.Proofs.YtlgehpjbhijknaaDoor
namespace Rows

/-- THE TIED CARD OF 'sheafworkslaw03.NestTypes'. -/
def nestTypesCard : Claim7 := { stood := { row := nestTypesRow, standIns := [], harness := (true, "87acdf2fa83b1f42b4d69a485c2ab5b27944f0771c647b89e46a043a92f0dc33"), looks := true }, kinds := [], alts := [], laidByText := true, laidKinds := [.funcs, .data, .data], laidTests := true, laidLooks := .later }
def NestTypesCardSaid : Prop := Claim7.holds Tryd.pinned (.plain (OpenSpec.ofChange nestTypesSpec)) nestTypesCard

/-- THE TIED CARD OF 'sheafworkslaw03.NestFlattens'. -/
def nestFlattensCard : Claim7 := { stood := { row := nestFlattensRow, standIns := [], harness := (true, "87acdf2fa83b1f42b4d69a485c2ab5b27944f0771c647b89e46a043a92f0dc33"), looks := true }, kinds := [], alts := [], laidByText := true, laidKinds := [.funcs, .data, .data], laidTests := true, laidLooks := .later }
def NestFlattensCardSaid : Prop := Claim7.holds Tryd.pinned (.plain (OpenSpec.ofChange nestFlattensSpec)) nestFlattensCard

/-- THE TIED CARD OF 'sheafworkslaw03.NestThere'. -/
def nestThereCard : Claim7 := { stood := { row := nestThereRow, standIns := [], harness := (true, "87acdf2fa83b1f42b4d69a485c2ab5b27944f0771c647b89e46a043a92f0dc33"), looks := true }, kinds := [], alts := [], laidByText := true, laidKinds := [.funcs, .data, .data], laidTests := true, laidLooks := .later }
def NestThereCardSaid : Prop := Claim7.holds Tryd.pinned (.plain (OpenSpec.ofChange nestThereSpec)) nestThereCard

/-- THE TIED CARD OF 'sheafworkslaw03.NestContexts'. -/
def nestContextsCard : Claim7 := { stood := { row := nestContextsRow, standIns := [], harness := (true, "87acdf2fa83b1f42b4d69a485c2ab5b27944f0771c647b89e46a043a92f0dc33"), looks := true }, kinds := [], alts := [], laidByText := true, laidKinds := [.funcs, .data, .data], laidTests := true, laidLooks := .later }
def NestContextsCardSaid : Prop := Claim7.holds Tryd.pinned (.plain (OpenSpec.ofChange nestContextsSpec)) nestContextsCard

/-- THE TIED CARD OF 'sheafworkslaw03.NestNobody'. -/
def nestNobodyCard : Claim7 := { stood := { row := nestNobodyRow, standIns := [], harness := (true, "87acdf2fa83b1f42b4d69a485c2ab5b27944f0771c647b89e46a043a92f0dc33"), looks := true }, kinds := [], alts := [], laidByText := true, laidKinds := [.funcs, .data, .data], laidTests := true, laidLooks := .later }
def NestNobodyCardSaid : Prop := Claim7.holds Tryd.pinned (.plain (OpenSpec.ofChange nestNobodySpec)) nestNobodyCard

/-- THE TIED CARD OF 'sheafworkslaw03.NestParts'. -/
def nestPartsCard : Claim7 := { stood := { row := nestPartsRow, standIns := [], harness := (true, "87acdf2fa83b1f42b4d69a485c2ab5b27944f0771c647b89e46a043a92f0dc33"), looks := true }, kinds := [], alts := [], laidByText := true, laidKinds := [.funcs, .data, .data], laidTests := true, laidLooks := .later }
def NestPartsCardSaid : Prop := Claim7.holds Tryd.pinned (.plain (OpenSpec.ofChange nestPartsSpec)) nestPartsCard

/-- THE TIED CARD OF 'sheafworkslaw03.NestKnown'. -/
def nestKnownCard : Claim7 := { stood := { row := nestKnownRow, standIns := [], harness := (true, "87acdf2fa83b1f42b4d69a485c2ab5b27944f0771c647b89e46a043a92f0dc33"), looks := true }, kinds := [], alts := [], laidByText := true, laidKinds := [.funcs, .data, .data], laidTests := true, laidLooks := .later }
def NestKnownCardSaid : Prop := Claim7.holds Tryd.pinned (.plain (OpenSpec.ofChange nestKnownSpec)) nestKnownCard

/-- THE SECOND FORM's CARD OF 'sheafworkslaw03.NestTypes'. -/
def nestTypesUptoCard : Claim7 := { stood := { row := nestTypesUptoRow, standIns := [], harness := (true, "87acdf2fa83b1f42b4d69a485c2ab5b27944f0771c647b89e46a043a92f0dc33"), looks := true }, kinds := [], alts := [], laidByText := true, laidKinds := [.funcs, .data, .data], laidTests := true, laidLooks := .later }
def NestTypesUptoCardSaid : Prop := Claim7.holds Tryd.pinned (.plain (OpenSpec.upto nestTypesSpec)) nestTypesUptoCard

/-- THE SECOND FORM's CARD OF 'sheafworkslaw03.NestFlattens'. -/
def nestFlattensUptoCard : Claim7 := { stood := { row := nestFlattensUptoRow, standIns := [], harness := (true, "87acdf2fa83b1f42b4d69a485c2ab5b27944f0771c647b89e46a043a92f0dc33"), looks := true }, kinds := [], alts := [], laidByText := true, laidKinds := [.funcs, .data, .data], laidTests := true, laidLooks := .later }
def NestFlattensUptoCardSaid : Prop := Claim7.holds Tryd.pinned (.plain (OpenSpec.upto nestFlattensSpec)) nestFlattensUptoCard

/-- THE SECOND FORM's CARD OF 'sheafworkslaw03.NestThere'. -/
def nestThereUptoCard : Claim7 := { stood := { row := nestThereUptoRow, standIns := [], harness := (true, "87acdf2fa83b1f42b4d69a485c2ab5b27944f0771c647b89e46a043a92f0dc33"), looks := true }, kinds := [], alts := [], laidByText := true, laidKinds := [.funcs, .data, .data], laidTests := true, laidLooks := .later }
def NestThereUptoCardSaid : Prop := Claim7.holds Tryd.pinned (.plain (OpenSpec.upto nestThereSpec)) nestThereUptoCard

/-- THE SECOND FORM's CARD OF 'sheafworkslaw03.NestContexts'. -/
def nestContextsUptoCard : Claim7 := { stood := { row := nestContextsUptoRow, standIns := [], harness := (true, "87acdf2fa83b1f42b4d69a485c2ab5b27944f0771c647b89e46a043a92f0dc33"), looks := true }, kinds := [], alts := [], laidByText := true, laidKinds := [.funcs, .data, .data], laidTests := true, laidLooks := .later }
def NestContextsUptoCardSaid : Prop := Claim7.holds Tryd.pinned (.plain (OpenSpec.upto nestContextsSpec)) nestContextsUptoCard

/-- THE SECOND FORM's CARD OF 'sheafworkslaw03.NestNobody'. -/
def nestNobodyUptoCard : Claim7 := { stood := { row := nestNobodyUptoRow, standIns := [], harness := (true, "87acdf2fa83b1f42b4d69a485c2ab5b27944f0771c647b89e46a043a92f0dc33"), looks := true }, kinds := [], alts := [], laidByText := true, laidKinds := [.funcs, .data, .data], laidTests := true, laidLooks := .later }
def NestNobodyUptoCardSaid : Prop := Claim7.holds Tryd.pinned (.plain (OpenSpec.upto nestNobodySpec)) nestNobodyUptoCard

/-- THE SECOND FORM's CARD OF 'sheafworkslaw03.NestParts'. -/
def nestPartsUptoCard : Claim7 := { stood := { row := nestPartsUptoRow, standIns := [], harness := (true, "87acdf2fa83b1f42b4d69a485c2ab5b27944f0771c647b89e46a043a92f0dc33"), looks := true }, kinds := [], alts := [], laidByText := true, laidKinds := [.funcs, .data, .data], laidTests := true, laidLooks := .later }
def NestPartsUptoCardSaid : Prop := Claim7.holds Tryd.pinned (.plain (OpenSpec.upto nestPartsSpec)) nestPartsUptoCard

/-- THE SECOND FORM's CARD OF 'sheafworkslaw03.NestKnown'. -/
def nestKnownUptoCard : Claim7 := { stood := { row := nestKnownUptoRow, standIns := [], harness := (true, "87acdf2fa83b1f42b4d69a485c2ab5b27944f0771c647b89e46a043a92f0dc33"), looks := true }, kinds := [], alts := [], laidByText := true, laidKinds := [.funcs, .data, .data], laidTests := true, laidLooks := .later }
def NestKnownUptoCardSaid : Prop := Claim7.holds Tryd.pinned (.plain (OpenSpec.upto nestKnownSpec)) nestKnownUptoCard
end Rows
end Go.Proofs.YtlgehpjbhijknaaDoor
