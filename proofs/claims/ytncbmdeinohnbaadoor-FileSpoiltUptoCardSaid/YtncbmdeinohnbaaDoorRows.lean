/-
  NARROWER THAN 'FOR EVERY INPUT', by the rows' own cells (each row's printed sentence says how): FileWrites: loops, laid · FileReads: laid · FileBack: loops, laid · FileCanon: laid · FileSpoilt: loops, laid · FileOthers: loops, laid · FileKnown: laid.
  DERIVED. THE GIVEN ROWS OF THIS SEAT. 7 by the template 'for every input the law returns true; each argument reads behind the call as it read before'; 0 by the template 'total and deterministic' (their statements: YtncbmdeinohnbaaDoorTotals.lean).
  GIVEN WITH THE SEED: the statements are not yours to turn. If you find one false, say at which input.
  Laid BY PROGRAM, IN A SANDBOX (cutbox-rows.mjs): the forced cells as the released guide's own fill.sh prints them over the translation 8a3cacec300501d7… (all of the seat's roots in one cut). By AI agents, Wed Nov 11 2026. No macro, syntax, notation, axiom, sorry.
-/
import Derived.Test.YtncbmdeinohnbaaDoorChecked
import GoSem.Claim
import GoSem.ClaimJoined
import GoSem.ClaimMapViews
import Derived.JoinedTies
import Derived.KernelRfl
namespace Go.Proofs.YtncbmdeinohnbaaDoor
/- THE CELL 'sum', in the pinned program and in every row, IS THE sha256 OF THE DUMP (.gsa) THAT YtncbmdeinohnbaaDoorProg.lean LOADS. Nothing in Lean hashes anything: it is a label: what it is worth is what the hold of that sum in a sandbox is worth. -/
noncomputable def Tryd.pinned : Pinned := { name := "ytncbmdeinohnbaadoor", sum := "8a3cacec300501d791cf8f28d69ebe63dbf09ebd70f89031d6e6689f050112db", checked := Tryd.checked }
namespace Rows
def none {H : Type} : Left H := { results := [], args := [] }

/- WHAT THE LISTED PACKAGE-LEVEL VARIABLES READ AS WHEN THE CALL BEGINS. Each datum BY PROGRAM (the guide's laid-datum.mjs) off the statement by which the dump's own 'gosem.cut.vars' lays the variable. In a bare row this is a premise. The card (YtncbmdeinohnbaaDoorCards.lean) ties it to the program's text. -/
def laid_sheafworks_file_puts {H : Type} : DataW H := .iface "func table" (.agg [.iface "func" (.lit (.string [40, 115, 104, 101, 97, 102, 119, 111, 114, 107, 115, 47, 102, 105, 108, 101, 46, 116, 104, 105, 110, 103, 41, 46, 112, 117, 116, 86, 97, 108, 117, 101])), .iface "func" (.lit (.string [40, 115, 104, 101, 97, 102, 119, 111, 114, 107, 115, 47, 102, 105, 108, 101, 46, 116, 104, 105, 110, 103, 41, 46, 112, 117, 116, 80, 114, 111, 103])), .iface "func" (.lit (.string [40, 115, 104, 101, 97, 102, 119, 111, 114, 107, 115, 47, 102, 105, 108, 101, 46, 116, 104, 105, 110, 103, 41, 46, 112, 117, 116, 86, 101, 99])), .iface "func" (.lit (.string [40, 115, 104, 101, 97, 102, 119, 111, 114, 107, 115, 47, 102, 105, 108, 101, 46, 116, 104, 105, 110, 103, 41, 46, 112, 117, 116, 76, 111, 103]))])

/-- 'sheafworkslaw33.FileWrites': WHATEVER THE INPUT: true; the input reads as it did. -/
def fileWritesSpec : ChangeSpec := { name := "fileWrites", fn := fun _ => fun
  | [d1, d2, d3, d4] => { results := [.lit (.bool true)], args := [d1, d2, d3, d4] }
  | _ => none }
def fileWritesRow : OpenClaim := { program := "ytncbmdeinohnbaadoor", sum := "8a3cacec300501d791cf8f28d69ebe63dbf09ebd70f89031d6e6689f050112db", func := "sheafworks/sheafworkslaw33.FileWrites", spec := "fileWrites", unfollowed := true, recurses := true, named := ["sheafworks/file.puts"], loops := true, apart := false, laid := [("sheafworks/file.puts", laid_sheafworks_file_puts)] }
def FileWritesSaid : Prop := fileWritesRow.holds Tryd.pinned (OpenSpec.ofChange fileWritesSpec)

/-- ITS FALSE NEIGHBOUR: 'it returns false'. Refute it at one input. -/
def fileWritesWrong : ChangeSpec := { name := "fileWrites", fn := fun _ => fun
  | [d1, d2, d3, d4] => { results := [.lit (.bool false)], args := [d1, d2, d3, d4] }
  | _ => none }
def FileWritesWrongFalsely : Prop := fileWritesRow.holds Tryd.pinned (OpenSpec.ofChange fileWritesWrong)

/-- 'sheafworkslaw33.FileReads': WHATEVER THE INPUT: true; the input reads as it did. -/
def fileReadsSpec : ChangeSpec := { name := "fileReads", fn := fun _ => fun
  | [d1, d2] => { results := [.lit (.bool true)], args := [d1, d2] }
  | _ => none }
def fileReadsRow : OpenClaim := { program := "ytncbmdeinohnbaadoor", sum := "8a3cacec300501d791cf8f28d69ebe63dbf09ebd70f89031d6e6689f050112db", func := "sheafworks/sheafworkslaw33.FileReads", spec := "fileReads", unfollowed := true, recurses := true, named := ["sheafworks/file.puts"], apart := false, laid := [("sheafworks/file.puts", laid_sheafworks_file_puts)] }
def FileReadsSaid : Prop := fileReadsRow.holds Tryd.pinned (OpenSpec.ofChange fileReadsSpec)

/-- ITS FALSE NEIGHBOUR: 'it returns false'. Refute it at one input. -/
def fileReadsWrong : ChangeSpec := { name := "fileReads", fn := fun _ => fun
  | [d1, d2] => { results := [.lit (.bool false)], args := [d1, d2] }
  | _ => none }
def FileReadsWrongFalsely : Prop := fileReadsRow.holds Tryd.pinned (OpenSpec.ofChange fileReadsWrong)

/-- 'sheafworkslaw33.FileBack': WHATEVER THE INPUT: true; the input reads as it did. -/
def fileBackSpec : ChangeSpec := { name := "fileBack", fn := fun _ => fun
  | [d1, d2] => { results := [.lit (.bool true)], args := [d1, d2] }
  | _ => none }
def fileBackRow : OpenClaim := { program := "ytncbmdeinohnbaadoor", sum := "8a3cacec300501d791cf8f28d69ebe63dbf09ebd70f89031d6e6689f050112db", func := "sheafworks/sheafworkslaw33.FileBack", spec := "fileBack", unfollowed := true, recurses := true, named := ["sheafworks/file.puts"], loops := true, apart := false, laid := [("sheafworks/file.puts", laid_sheafworks_file_puts)] }
def FileBackSaid : Prop := fileBackRow.holds Tryd.pinned (OpenSpec.ofChange fileBackSpec)

/-- ITS FALSE NEIGHBOUR: 'it returns false'. Refute it at one input. -/
def fileBackWrong : ChangeSpec := { name := "fileBack", fn := fun _ => fun
  | [d1, d2] => { results := [.lit (.bool false)], args := [d1, d2] }
  | _ => none }
def FileBackWrongFalsely : Prop := fileBackRow.holds Tryd.pinned (OpenSpec.ofChange fileBackWrong)

/-- 'sheafworkslaw33.FileCanon': WHATEVER THE INPUT: true; the input reads as it did. -/
def fileCanonSpec : ChangeSpec := { name := "fileCanon", fn := fun _ => fun
  | [d1, d2] => { results := [.lit (.bool true)], args := [d1, d2] }
  | _ => none }
def fileCanonRow : OpenClaim := { program := "ytncbmdeinohnbaadoor", sum := "8a3cacec300501d791cf8f28d69ebe63dbf09ebd70f89031d6e6689f050112db", func := "sheafworks/sheafworkslaw33.FileCanon", spec := "fileCanon", unfollowed := true, recurses := true, named := ["sheafworks/file.puts"], apart := false, laid := [("sheafworks/file.puts", laid_sheafworks_file_puts)] }
def FileCanonSaid : Prop := fileCanonRow.holds Tryd.pinned (OpenSpec.ofChange fileCanonSpec)

/-- ITS FALSE NEIGHBOUR: 'it returns false'. Refute it at one input. -/
def fileCanonWrong : ChangeSpec := { name := "fileCanon", fn := fun _ => fun
  | [d1, d2] => { results := [.lit (.bool false)], args := [d1, d2] }
  | _ => none }
def FileCanonWrongFalsely : Prop := fileCanonRow.holds Tryd.pinned (OpenSpec.ofChange fileCanonWrong)

/-- 'sheafworkslaw33.FileSpoilt': WHATEVER THE INPUT: true; the input reads as it did. -/
def fileSpoiltSpec : ChangeSpec := { name := "fileSpoilt", fn := fun _ => fun
  | [d1, d2] => { results := [.lit (.bool true)], args := [d1, d2] }
  | _ => none }
def fileSpoiltRow : OpenClaim := { program := "ytncbmdeinohnbaadoor", sum := "8a3cacec300501d791cf8f28d69ebe63dbf09ebd70f89031d6e6689f050112db", func := "sheafworks/sheafworkslaw33.FileSpoilt", spec := "fileSpoilt", unfollowed := true, recurses := true, named := ["sheafworks/file.puts"], loops := true, apart := false, laid := [("sheafworks/file.puts", laid_sheafworks_file_puts)] }
def FileSpoiltSaid : Prop := fileSpoiltRow.holds Tryd.pinned (OpenSpec.ofChange fileSpoiltSpec)

/-- ITS FALSE NEIGHBOUR: 'it returns false'. Refute it at one input. -/
def fileSpoiltWrong : ChangeSpec := { name := "fileSpoilt", fn := fun _ => fun
  | [d1, d2] => { results := [.lit (.bool false)], args := [d1, d2] }
  | _ => none }
def FileSpoiltWrongFalsely : Prop := fileSpoiltRow.holds Tryd.pinned (OpenSpec.ofChange fileSpoiltWrong)

/-- 'sheafworkslaw33.FileOthers': WHATEVER THE INPUT: true; the input reads as it did. -/
def fileOthersSpec : ChangeSpec := { name := "fileOthers", fn := fun _ => fun
  | [d1, d2, d3] => { results := [.lit (.bool true)], args := [d1, d2, d3] }
  | _ => none }
def fileOthersRow : OpenClaim := { program := "ytncbmdeinohnbaadoor", sum := "8a3cacec300501d791cf8f28d69ebe63dbf09ebd70f89031d6e6689f050112db", func := "sheafworks/sheafworkslaw33.FileOthers", spec := "fileOthers", unfollowed := true, recurses := true, named := ["sheafworks/file.puts"], loops := true, apart := false, laid := [("sheafworks/file.puts", laid_sheafworks_file_puts)] }
def FileOthersSaid : Prop := fileOthersRow.holds Tryd.pinned (OpenSpec.ofChange fileOthersSpec)

/-- ITS FALSE NEIGHBOUR: 'it returns false'. Refute it at one input. -/
def fileOthersWrong : ChangeSpec := { name := "fileOthers", fn := fun _ => fun
  | [d1, d2, d3] => { results := [.lit (.bool false)], args := [d1, d2, d3] }
  | _ => none }
def FileOthersWrongFalsely : Prop := fileOthersRow.holds Tryd.pinned (OpenSpec.ofChange fileOthersWrong)

/-- 'sheafworkslaw33.FileKnown': WHATEVER THE INPUT: true; the input reads as it did. -/
def fileKnownSpec : ChangeSpec := { name := "fileKnown", fn := fun _ => fun
  | [] => { results := [.lit (.bool true)], args := [] }
  | _ => none }
def fileKnownRow : OpenClaim := { program := "ytncbmdeinohnbaadoor", sum := "8a3cacec300501d791cf8f28d69ebe63dbf09ebd70f89031d6e6689f050112db", func := "sheafworks/sheafworkslaw33.FileKnown", spec := "fileKnown", unfollowed := true, recurses := true, named := ["sheafworks/file.puts"], apart := false, laid := [("sheafworks/file.puts", laid_sheafworks_file_puts)] }
def FileKnownSaid : Prop := fileKnownRow.holds Tryd.pinned (OpenSpec.ofChange fileKnownSpec)

/-- ITS FALSE NEIGHBOUR: 'it returns false'. Refute it at one input. -/
def fileKnownWrong : ChangeSpec := { name := "fileKnown", fn := fun _ => fun
  | [] => { results := [.lit (.bool false)], args := [] }
  | _ => none }
def FileKnownWrongFalsely : Prop := fileKnownRow.holds Tryd.pinned (OpenSpec.ofChange fileKnownWrong)

/- THE SECOND FORM. 'bulk': how many values and letters a reading holds, each counted each time it is reached (what is shared counts as often as it is met; a slice's spare places count too). A statement '..UptoSaid' is the law's where the arguments, and the package variables that the reading takes, are together of bulk at most 1048576: NARROWER than '..Said'. Prove '..Said' where nothing that the law and all that it calls make is longer than what came in: it says more and counts as full. Else prove '..UptoSaid'. A law counts once. -/
mutual
def uptoBulk {H : Type} : DataW H → Nat
  | .lit (.string bytes) => bytes.length + 1
  | .lit _ => 1
  | .nil => 1
  | .ptr d => uptoBulk d + 1
  | .slice elems spare => uptoBulkAll elems + uptoBulkAll spare + 1
  | .agg parts => uptoBulkAll parts + 1
  | .iface _ d => uptoBulk d + 1
  | .map entries => uptoBulkEntries entries + 1
  | .held _ => 1
def uptoBulkAll {H : Type} : List (DataW H) → Nat
  | [] => 0
  | d :: r => uptoBulk d + uptoBulkAll r
def uptoBulkEntries {H : Type} : List (Lit × DataW H) → Nat
  | [] => 0
  | x :: r => uptoBulkEntry x + uptoBulkEntries r
def uptoBulkEntry {H : Type} : Lit × DataW H → Nat
  | (.string bytes, d) => bytes.length + uptoBulk d + 1
  | (_, d) => uptoBulk d + 1
 end
def uptoSmall : (H : Type) → List (DataW H) → Bool := fun _ ds => decide (uptoBulkAll ds ≤ 1048576)
def OpenSpec.upto (s : _root_.Go.ChangeSpec) : _root_.Go.OpenSpec := { _root_.Go.OpenSpec.ofChange s with cond := some uptoSmall }

/-- 'sheafworkslaw33.FileWrites', WHERE WHAT IT READS IS OF BULK AT MOST 1048576: true; the input reads as it did. -/
def fileWritesUptoRow : OpenClaim := { program := "ytncbmdeinohnbaadoor", sum := "8a3cacec300501d791cf8f28d69ebe63dbf09ebd70f89031d6e6689f050112db", func := "sheafworks/sheafworkslaw33.FileWrites", spec := "fileWrites", unfollowed := true, recurses := true, named := ["sheafworks/file.puts"], loops := true, apart := false, laid := [("sheafworks/file.puts", laid_sheafworks_file_puts)], narrowed := true }
def FileWritesUptoSaid : Prop := fileWritesUptoRow.holds Tryd.pinned (OpenSpec.upto fileWritesSpec)

/-- 'sheafworkslaw33.FileReads', WHERE WHAT IT READS IS OF BULK AT MOST 1048576: true; the input reads as it did. -/
def fileReadsUptoRow : OpenClaim := { program := "ytncbmdeinohnbaadoor", sum := "8a3cacec300501d791cf8f28d69ebe63dbf09ebd70f89031d6e6689f050112db", func := "sheafworks/sheafworkslaw33.FileReads", spec := "fileReads", unfollowed := true, recurses := true, named := ["sheafworks/file.puts"], apart := false, laid := [("sheafworks/file.puts", laid_sheafworks_file_puts)], narrowed := true }
def FileReadsUptoSaid : Prop := fileReadsUptoRow.holds Tryd.pinned (OpenSpec.upto fileReadsSpec)

/-- 'sheafworkslaw33.FileBack', WHERE WHAT IT READS IS OF BULK AT MOST 1048576: true; the input reads as it did. -/
def fileBackUptoRow : OpenClaim := { program := "ytncbmdeinohnbaadoor", sum := "8a3cacec300501d791cf8f28d69ebe63dbf09ebd70f89031d6e6689f050112db", func := "sheafworks/sheafworkslaw33.FileBack", spec := "fileBack", unfollowed := true, recurses := true, named := ["sheafworks/file.puts"], loops := true, apart := false, laid := [("sheafworks/file.puts", laid_sheafworks_file_puts)], narrowed := true }
def FileBackUptoSaid : Prop := fileBackUptoRow.holds Tryd.pinned (OpenSpec.upto fileBackSpec)

/-- 'sheafworkslaw33.FileCanon', WHERE WHAT IT READS IS OF BULK AT MOST 1048576: true; the input reads as it did. -/
def fileCanonUptoRow : OpenClaim := { program := "ytncbmdeinohnbaadoor", sum := "8a3cacec300501d791cf8f28d69ebe63dbf09ebd70f89031d6e6689f050112db", func := "sheafworks/sheafworkslaw33.FileCanon", spec := "fileCanon", unfollowed := true, recurses := true, named := ["sheafworks/file.puts"], apart := false, laid := [("sheafworks/file.puts", laid_sheafworks_file_puts)], narrowed := true }
def FileCanonUptoSaid : Prop := fileCanonUptoRow.holds Tryd.pinned (OpenSpec.upto fileCanonSpec)

/-- 'sheafworkslaw33.FileSpoilt', WHERE WHAT IT READS IS OF BULK AT MOST 1048576: true; the input reads as it did. -/
def fileSpoiltUptoRow : OpenClaim := { program := "ytncbmdeinohnbaadoor", sum := "8a3cacec300501d791cf8f28d69ebe63dbf09ebd70f89031d6e6689f050112db", func := "sheafworks/sheafworkslaw33.FileSpoilt", spec := "fileSpoilt", unfollowed := true, recurses := true, named := ["sheafworks/file.puts"], loops := true, apart := false, laid := [("sheafworks/file.puts", laid_sheafworks_file_puts)], narrowed := true }
def FileSpoiltUptoSaid : Prop := fileSpoiltUptoRow.holds Tryd.pinned (OpenSpec.upto fileSpoiltSpec)

/-- 'sheafworkslaw33.FileOthers', WHERE WHAT IT READS IS OF BULK AT MOST 1048576: true; the input reads as it did. -/
def fileOthersUptoRow : OpenClaim := { program := "ytncbmdeinohnbaadoor", sum := "8a3cacec300501d791cf8f28d69ebe63dbf09ebd70f89031d6e6689f050112db", func := "sheafworks/sheafworkslaw33.FileOthers", spec := "fileOthers", unfollowed := true, recurses := true, named := ["sheafworks/file.puts"], loops := true, apart := false, laid := [("sheafworks/file.puts", laid_sheafworks_file_puts)], narrowed := true }
def FileOthersUptoSaid : Prop := fileOthersUptoRow.holds Tryd.pinned (OpenSpec.upto fileOthersSpec)

/-- 'sheafworkslaw33.FileKnown', WHERE WHAT IT READS IS OF BULK AT MOST 1048576: true; the input reads as it did. -/
def fileKnownUptoRow : OpenClaim := { program := "ytncbmdeinohnbaadoor", sum := "8a3cacec300501d791cf8f28d69ebe63dbf09ebd70f89031d6e6689f050112db", func := "sheafworks/sheafworkslaw33.FileKnown", spec := "fileKnown", unfollowed := true, recurses := true, named := ["sheafworks/file.puts"], apart := false, laid := [("sheafworks/file.puts", laid_sheafworks_file_puts)], narrowed := true }
def FileKnownUptoSaid : Prop := fileKnownUptoRow.holds Tryd.pinned (OpenSpec.upto fileKnownSpec)

end Rows
end Go.Proofs.YtncbmdeinohnbaaDoor
