/-
  DERIVED. GIVEN WITH THE SEED: THE CARDS: each row of YtloeagdggmolcaaGreatDoorRows.lean that lists a variable, with what it lists TIED to the program's text (the seventh form; the later family's looks); each row that meets fmt, with fmt's text TOLD by the authors' own Lean function (tested against real Go, not proved from fmt's source: count such statements apart). THE CARD IS WHAT COUNTS. Prove the row's statement (the work); the ties are given (YtloeagdggmolcaaGreatDoorTie.lean); close each card by the builder's one call (the guide's Derived/Test/ToyasCard.lean, 'card_holds'). Laid BY PROGRAM, IN A SANDBOX (cutbox-door.mjs). By AI agents, Wed Nov 11 2026. No macro, syntax, notation, axiom, sorry.
-/
import Derived.Test.YtloeagdggmolcaaGreatDoorRows
import GoSem.ClaimSeven
namespace Go.Proofs.YtloeagdggmolcaaGreatDoor
namespace Rows

/-- THE TIED CARD OF 'sheafworkslaw13.MeanRuns'. -/
def meanRunsCard : Claim7 := { stood := { row := meanRunsRow, standIns := [], harness := (true, "ca2b47f582eb63919bd9a076fd61d0b33d06f4ee7be54f3cf89dc23e7d9f5819"), looks := true }, kinds := [], alts := [], laidByText := true, laidKinds := [.data, .funcs, .data, .data, .listed, .data, .pinned], laidTests := true, laidLooks := .later }
def MeanRunsCardSaid : Prop := Claim7.holds Tryz.pinned (.plain (OpenSpec.ofChange meanRunsSpec)) meanRunsCard

/-- THE TIED CARD OF 'sheafworkslaw13.MeanCounts'. -/
def meanCountsCard : Claim7 := { stood := { row := meanCountsRow, standIns := [], harness := (true, "ca2b47f582eb63919bd9a076fd61d0b33d06f4ee7be54f3cf89dc23e7d9f5819"), looks := true }, kinds := [], alts := [], laidByText := true, laidKinds := [.data, .funcs, .data, .data, .listed, .data, .pinned], laidTests := true, laidLooks := .later }
def MeanCountsCardSaid : Prop := Claim7.holds Tryz.pinned (.plain (OpenSpec.ofChange meanCountsSpec)) meanCountsCard

/-- THE TIED CARD OF 'sheafworkslaw13.MeanTyped'. -/
def meanTypedCard : Claim7 := { stood := { row := meanTypedRow, standIns := [], harness := (true, "ca2b47f582eb63919bd9a076fd61d0b33d06f4ee7be54f3cf89dc23e7d9f5819"), looks := true }, kinds := [], alts := [], laidByText := true, laidKinds := [.data, .funcs, .data, .data, .listed, .data, .pinned], laidTests := true, laidLooks := .later }
def MeanTypedCardSaid : Prop := Claim7.holds Tryz.pinned (.plain (OpenSpec.ofChange meanTypedSpec)) meanTypedCard

/-- THE TIED CARD OF 'sheafworkslaw13.MeanEach'. -/
def meanEachCard : Claim7 := { stood := { row := meanEachRow, standIns := [], harness := (true, "ca2b47f582eb63919bd9a076fd61d0b33d06f4ee7be54f3cf89dc23e7d9f5819"), looks := true }, kinds := [], alts := [], laidByText := true, laidKinds := [.data, .funcs, .data, .data, .listed, .data, .pinned], laidTests := true, laidLooks := .later }
def MeanEachCardSaid : Prop := Claim7.holds Tryz.pinned (.plain (OpenSpec.ofChange meanEachSpec)) meanEachCard

/-- THE TIED CARD OF 'sheafworkslaw13.MeanFolds'. -/
def meanFoldsCard : Claim7 := { stood := { row := meanFoldsRow, standIns := [], harness := (true, "ca2b47f582eb63919bd9a076fd61d0b33d06f4ee7be54f3cf89dc23e7d9f5819"), looks := true }, kinds := [], alts := [], laidByText := true, laidKinds := [.data, .funcs, .data, .data, .listed, .data, .pinned], laidTests := true, laidLooks := .later }
def MeanFoldsCardSaid : Prop := Claim7.holds Tryz.pinned (.plain (OpenSpec.ofChange meanFoldsSpec)) meanFoldsCard

/-- THE SECOND FORM's CARD OF 'sheafworkslaw13.MeanRuns'. -/
def meanRunsUptoCard : Claim7 := { stood := { row := meanRunsUptoRow, standIns := [], harness := (true, "ca2b47f582eb63919bd9a076fd61d0b33d06f4ee7be54f3cf89dc23e7d9f5819"), looks := true }, kinds := [], alts := [], laidByText := true, laidKinds := [.data, .funcs, .data, .data, .listed, .data, .pinned], laidTests := true, laidLooks := .later }
def MeanRunsUptoCardSaid : Prop := Claim7.holds Tryz.pinned (.plain (OpenSpec.upto meanRunsSpec)) meanRunsUptoCard

/-- THE SECOND FORM's CARD OF 'sheafworkslaw13.MeanCounts'. -/
def meanCountsUptoCard : Claim7 := { stood := { row := meanCountsUptoRow, standIns := [], harness := (true, "ca2b47f582eb63919bd9a076fd61d0b33d06f4ee7be54f3cf89dc23e7d9f5819"), looks := true }, kinds := [], alts := [], laidByText := true, laidKinds := [.data, .funcs, .data, .data, .listed, .data, .pinned], laidTests := true, laidLooks := .later }
def MeanCountsUptoCardSaid : Prop := Claim7.holds Tryz.pinned (.plain (OpenSpec.upto meanCountsSpec)) meanCountsUptoCard

/-- THE SECOND FORM's CARD OF 'sheafworkslaw13.MeanTyped'. -/
def meanTypedUptoCard : Claim7 := { stood := { row := meanTypedUptoRow, standIns := [], harness := (true, "ca2b47f582eb63919bd9a076fd61d0b33d06f4ee7be54f3cf89dc23e7d9f5819"), looks := true }, kinds := [], alts := [], laidByText := true, laidKinds := [.data, .funcs, .data, .data, .listed, .data, .pinned], laidTests := true, laidLooks := .later }
def MeanTypedUptoCardSaid : Prop := Claim7.holds Tryz.pinned (.plain (OpenSpec.upto meanTypedSpec)) meanTypedUptoCard

/-- THE SECOND FORM's CARD OF 'sheafworkslaw13.MeanEach'. -/
def meanEachUptoCard : Claim7 := { stood := { row := meanEachUptoRow, standIns := [], harness := (true, "ca2b47f582eb63919bd9a076fd61d0b33d06f4ee7be54f3cf89dc23e7d9f5819"), looks := true }, kinds := [], alts := [], laidByText := true, laidKinds := [.data, .funcs, .data, .data, .listed, .data, .pinned], laidTests := true, laidLooks := .later }
def MeanEachUptoCardSaid : Prop := Claim7.holds Tryz.pinned (.plain (OpenSpec.upto meanEachSpec)) meanEachUptoCard

/-- THE SECOND FORM's CARD OF 'sheafworkslaw13.MeanFolds'. -/
def meanFoldsUptoCard : Claim7 := { stood := { row := meanFoldsUptoRow, standIns := [], harness := (true, "ca2b47f582eb63919bd9a076fd61d0b33d06f4ee7be54f3cf89dc23e7d9f5819"), looks := true }, kinds := [], alts := [], laidByText := true, laidKinds := [.data, .funcs, .data, .data, .listed, .data, .pinned], laidTests := true, laidLooks := .later }
def MeanFoldsUptoCardSaid : Prop := Claim7.holds Tryz.pinned (.plain (OpenSpec.upto meanFoldsSpec)) meanFoldsUptoCard
end Rows
end Go.Proofs.YtloeagdggmolcaaGreatDoor
