/-
  DERIVED. GIVEN WITH THE SEED: THE CARDS: each row of YtncbmdeinohnbaaDoorRows.lean that lists a variable, with what it lists TIED to the program's text (the seventh form; the later family's looks); each row that meets fmt, with fmt's text TOLD by the authors' own Lean function (tested against real Go, not proved from fmt's source: count such statements apart). THE CARD IS WHAT COUNTS. Prove the row's statement (the work); the ties are given (YtncbmdeinohnbaaDoorTie.lean); close each card by the builder's one call (the guide's Derived/Test/ToyasCard.lean, 'card_holds'). Laid BY PROGRAM, IN A SANDBOX (cutbox-door.mjs). By AI agents, Wed Nov 11 2026. No macro, syntax, notation, axiom, sorry.
-/
import Derived.Test.YtncbmdeinohnbaaDoorRows
import GoSem.ClaimSeven
namespace Go.Proofs.YtncbmdeinohnbaaDoor
namespace Rows

/-- THE TIED CARD OF 'sheafworkslaw33.FileWrites'. -/
def fileWritesCard : Claim7 := { stood := { row := fileWritesRow, standIns := [], harness := (true, "2c920197a556c094013720b05e508d6ffed74f34ab9aa81fb5bca922b2402d90"), looks := true }, kinds := [], alts := [], laidByText := true, laidKinds := [.funcs], laidTests := true, laidLooks := .later }
def FileWritesCardSaid : Prop := Claim7.holds Tryd.pinned (.plain (OpenSpec.ofChange fileWritesSpec)) fileWritesCard

/-- THE TIED CARD OF 'sheafworkslaw33.FileReads'. -/
def fileReadsCard : Claim7 := { stood := { row := fileReadsRow, standIns := [], harness := (true, "2c920197a556c094013720b05e508d6ffed74f34ab9aa81fb5bca922b2402d90"), looks := true }, kinds := [], alts := [], laidByText := true, laidKinds := [.funcs], laidTests := true, laidLooks := .later }
def FileReadsCardSaid : Prop := Claim7.holds Tryd.pinned (.plain (OpenSpec.ofChange fileReadsSpec)) fileReadsCard

/-- THE TIED CARD OF 'sheafworkslaw33.FileBack'. -/
def fileBackCard : Claim7 := { stood := { row := fileBackRow, standIns := [], harness := (true, "2c920197a556c094013720b05e508d6ffed74f34ab9aa81fb5bca922b2402d90"), looks := true }, kinds := [], alts := [], laidByText := true, laidKinds := [.funcs], laidTests := true, laidLooks := .later }
def FileBackCardSaid : Prop := Claim7.holds Tryd.pinned (.plain (OpenSpec.ofChange fileBackSpec)) fileBackCard

/-- THE TIED CARD OF 'sheafworkslaw33.FileCanon'. -/
def fileCanonCard : Claim7 := { stood := { row := fileCanonRow, standIns := [], harness := (true, "2c920197a556c094013720b05e508d6ffed74f34ab9aa81fb5bca922b2402d90"), looks := true }, kinds := [], alts := [], laidByText := true, laidKinds := [.funcs], laidTests := true, laidLooks := .later }
def FileCanonCardSaid : Prop := Claim7.holds Tryd.pinned (.plain (OpenSpec.ofChange fileCanonSpec)) fileCanonCard

/-- THE TIED CARD OF 'sheafworkslaw33.FileSpoilt'. -/
def fileSpoiltCard : Claim7 := { stood := { row := fileSpoiltRow, standIns := [], harness := (true, "2c920197a556c094013720b05e508d6ffed74f34ab9aa81fb5bca922b2402d90"), looks := true }, kinds := [], alts := [], laidByText := true, laidKinds := [.funcs], laidTests := true, laidLooks := .later }
def FileSpoiltCardSaid : Prop := Claim7.holds Tryd.pinned (.plain (OpenSpec.ofChange fileSpoiltSpec)) fileSpoiltCard

/-- THE TIED CARD OF 'sheafworkslaw33.FileOthers'. -/
def fileOthersCard : Claim7 := { stood := { row := fileOthersRow, standIns := [], harness := (true, "2c920197a556c094013720b05e508d6ffed74f34ab9aa81fb5bca922b2402d90"), looks := true }, kinds := [], alts := [], laidByText := true, laidKinds := [.funcs], laidTests := true, laidLooks := .later }
def FileOthersCardSaid : Prop := Claim7.holds Tryd.pinned (.plain (OpenSpec.ofChange fileOthersSpec)) fileOthersCard

/-- THE TIED CARD OF 'sheafworkslaw33.FileKnown'. -/
def fileKnownCard : Claim7 := { stood := { row := fileKnownRow, standIns := [], harness := (true, "2c920197a556c094013720b05e508d6ffed74f34ab9aa81fb5bca922b2402d90"), looks := true }, kinds := [], alts := [], laidByText := true, laidKinds := [.funcs], laidTests := true, laidLooks := .later }
def FileKnownCardSaid : Prop := Claim7.holds Tryd.pinned (.plain (OpenSpec.ofChange fileKnownSpec)) fileKnownCard

/-- THE SECOND FORM's CARD OF 'sheafworkslaw33.FileWrites'. -/
def fileWritesUptoCard : Claim7 := { stood := { row := fileWritesUptoRow, standIns := [], harness := (true, "2c920197a556c094013720b05e508d6ffed74f34ab9aa81fb5bca922b2402d90"), looks := true }, kinds := [], alts := [], laidByText := true, laidKinds := [.funcs], laidTests := true, laidLooks := .later }
def FileWritesUptoCardSaid : Prop := Claim7.holds Tryd.pinned (.plain (OpenSpec.upto fileWritesSpec)) fileWritesUptoCard

/-- THE SECOND FORM's CARD OF 'sheafworkslaw33.FileReads'. -/
def fileReadsUptoCard : Claim7 := { stood := { row := fileReadsUptoRow, standIns := [], harness := (true, "2c920197a556c094013720b05e508d6ffed74f34ab9aa81fb5bca922b2402d90"), looks := true }, kinds := [], alts := [], laidByText := true, laidKinds := [.funcs], laidTests := true, laidLooks := .later }
def FileReadsUptoCardSaid : Prop := Claim7.holds Tryd.pinned (.plain (OpenSpec.upto fileReadsSpec)) fileReadsUptoCard

/-- THE SECOND FORM's CARD OF 'sheafworkslaw33.FileBack'. -/
def fileBackUptoCard : Claim7 := { stood := { row := fileBackUptoRow, standIns := [], harness := (true, "2c920197a556c094013720b05e508d6ffed74f34ab9aa81fb5bca922b2402d90"), looks := true }, kinds := [], alts := [], laidByText := true, laidKinds := [.funcs], laidTests := true, laidLooks := .later }
def FileBackUptoCardSaid : Prop := Claim7.holds Tryd.pinned (.plain (OpenSpec.upto fileBackSpec)) fileBackUptoCard

/-- THE SECOND FORM's CARD OF 'sheafworkslaw33.FileCanon'. -/
def fileCanonUptoCard : Claim7 := { stood := { row := fileCanonUptoRow, standIns := [], harness := (true, "2c920197a556c094013720b05e508d6ffed74f34ab9aa81fb5bca922b2402d90"), looks := true }, kinds := [], alts := [], laidByText := true, laidKinds := [.funcs], laidTests := true, laidLooks := .later }
def FileCanonUptoCardSaid : Prop := Claim7.holds Tryd.pinned (.plain (OpenSpec.upto fileCanonSpec)) fileCanonUptoCard

/-- THE SECOND FORM's CARD OF 'sheafworkslaw33.FileSpoilt'. -/
def fileSpoiltUptoCard : Claim7 := { stood := { row := fileSpoiltUptoRow, standIns := [], harness := (true, "2c920197a556c094013720b05e508d6ffed74f34ab9aa81fb5bca922b2402d90"), looks := true }, kinds := [], alts := [], laidByText := true, laidKinds := [.funcs], laidTests := true, laidLooks := .later }
def FileSpoiltUptoCardSaid : Prop := Claim7.holds Tryd.pinned (.plain (OpenSpec.upto fileSpoiltSpec)) fileSpoiltUptoCard

/-- THE SECOND FORM's CARD OF 'sheafworkslaw33.FileOthers'. -/
def fileOthersUptoCard : Claim7 := { stood := { row := fileOthersUptoRow, standIns := [], harness := (true, "2c920197a556c094013720b05e508d6ffed74f34ab9aa81fb5bca922b2402d90"), looks := true }, kinds := [], alts := [], laidByText := true, laidKinds := [.funcs], laidTests := true, laidLooks := .later }
def FileOthersUptoCardSaid : Prop := Claim7.holds Tryd.pinned (.plain (OpenSpec.upto fileOthersSpec)) fileOthersUptoCard

/-- THE SECOND FORM's CARD OF 'sheafworkslaw33.FileKnown'. -/
def fileKnownUptoCard : Claim7 := { stood := { row := fileKnownUptoRow, standIns := [], harness := (true, "2c920197a556c094013720b05e508d6ffed74f34ab9aa81fb5bca922b2402d90"), looks := true }, kinds := [], alts := [], laidByText := true, laidKinds := [.funcs], laidTests := true, laidLooks := .later }
def FileKnownUptoCardSaid : Prop := Claim7.holds Tryd.pinned (.plain (OpenSpec.upto fileKnownSpec)) fileKnownUptoCard
end Rows
end Go.Proofs.YtncbmdeinohnbaaDoor
