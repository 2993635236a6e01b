/-
  NARROWER THAN 'FOR EVERY INPUT', by the rows' own cells (each row's printed sentence says how): MeanRuns: loops, laid · MeanCounts: loops, laid · MeanTyped: laid · MeanEach: laid · MeanFolds: laid.
  DERIVED. THE GIVEN ROWS OF THIS SEAT. 5 by the template 'for every input the law returns true; each argument reads behind the call as it read before'; 0 by the template 'total and deterministic' (their statements: YtloeagdggmolcaaGreatDoorTotals.lean).
  GIVEN WITH THE SEED: the statements are not yours to turn. If you find one false, say at which input.
  Laid BY PROGRAM, IN A SANDBOX (cutbox-rows.mjs): the forced cells as the released guide's own fill.sh prints them over the translation 6b4e27309573c85d… (all of the seat's roots in one cut). By AI agents, Wed Nov 11 2026. No macro, syntax, notation, axiom, sorry.
-/
import Derived.Test.YtloeagdggmolcaaGreatDoorChecked
import GoSem.PinnedTables
import GoSem.Claim
import GoSem.ClaimJoined
import GoSem.ClaimMapViews
import Derived.JoinedTies
import Derived.KernelRfl
namespace Go.Proofs.YtloeagdggmolcaaGreatDoor
/- THE CELL 'sum', in the pinned program and in every row, IS THE sha256 OF THE DUMP (.gsa) THAT YtloeagdggmolcaaGreatDoorProg.lean LOADS. Nothing in Lean hashes anything: it is a label: what it is worth is what the hold of that sum in a sandbox is worth. -/
noncomputable def Tryz.pinned : Pinned := { name := "ytloeagdggmolcaagreatdoor", sum := "6b4e27309573c85d761dcc694f4d0dcc49a04be5f1e894e36b014c5b693db1f0", checked := Tryz.checked }
namespace Rows
def none {H : Type} : Left H := { results := [], args := [] }

/- WHAT THE LISTED PACKAGE-LEVEL VARIABLES READ AS WHEN THE CALL BEGINS. Each datum BY PROGRAM (the guide's laid-datum.mjs) off the statement by which the dump's own 'gosem.cut.vars' lays the variable. In a bare row this is a premise. The card (YtloeagdggmolcaaGreatDoorCards.lean) ties it to the program's text. -/
def laid_unicode_utf8_acceptRanges {H : Type} : DataW H := .agg [.agg [.lit (.int .u8 128), .lit (.int .u8 191)], .agg [.lit (.int .u8 160), .lit (.int .u8 191)], .agg [.lit (.int .u8 128), .lit (.int .u8 159)], .agg [.lit (.int .u8 144), .lit (.int .u8 191)], .agg [.lit (.int .u8 128), .lit (.int .u8 143)], .agg [.lit (.int .u8 0), .lit (.int .u8 0)], .agg [.lit (.int .u8 0), .lit (.int .u8 0)], .agg [.lit (.int .u8 0), .lit (.int .u8 0)], .agg [.lit (.int .u8 0), .lit (.int .u8 0)], .agg [.lit (.int .u8 0), .lit (.int .u8 0)], .agg [.lit (.int .u8 0), .lit (.int .u8 0)], .agg [.lit (.int .u8 0), .lit (.int .u8 0)], .agg [.lit (.int .u8 0), .lit (.int .u8 0)], .agg [.lit (.int .u8 0), .lit (.int .u8 0)], .agg [.lit (.int .u8 0), .lit (.int .u8 0)], .agg [.lit (.int .u8 0), .lit (.int .u8 0)]]
def laid_sheafworks_word_deeds {H : Type} : DataW H := .iface "func table" (.agg [.iface "func" (.lit (.string [40, 115, 104, 101, 97, 102, 119, 111, 114, 107, 115, 47, 119, 111, 114, 100, 46, 112, 97, 105, 114, 41, 46, 97, 100, 100])), .iface "func" (.lit (.string [40, 115, 104, 101, 97, 102, 119, 111, 114, 107, 115, 47, 119, 111, 114, 100, 46, 112, 97, 105, 114, 41, 46, 115, 117, 98])), .iface "func" (.lit (.string [40, 115, 104, 101, 97, 102, 119, 111, 114, 107, 115, 47, 119, 111, 114, 100, 46, 112, 97, 105, 114, 41, 46, 109, 117, 108])), .iface "func" (.lit (.string [40, 115, 104, 101, 97, 102, 119, 111, 114, 107, 115, 47, 119, 111, 114, 100, 46, 112, 97, 105, 114, 41, 46, 100, 105, 118])), .iface "func" (.lit (.string [40, 115, 104, 101, 97, 102, 119, 111, 114, 107, 115, 47, 119, 111, 114, 100, 46, 112, 97, 105, 114, 41, 46, 109, 111, 100])), .iface "func" (.lit (.string [40, 115, 104, 101, 97, 102, 119, 111, 114, 107, 115, 47, 119, 111, 114, 100, 46, 112, 97, 105, 114, 41, 46, 108, 101, 115, 115])), .iface "func" (.lit (.string [40, 115, 104, 101, 97, 102, 119, 111, 114, 107, 115, 47, 119, 111, 114, 100, 46, 112, 97, 105, 114, 41, 46, 115, 97, 109, 101])), .iface "func" (.lit (.string [40, 115, 104, 101, 97, 102, 119, 111, 114, 107, 115, 47, 119, 111, 114, 100, 46, 112, 97, 105, 114, 41, 46, 109, 105, 110])), .iface "func" (.lit (.string [40, 115, 104, 101, 97, 102, 119, 111, 114, 107, 115, 47, 119, 111, 114, 100, 46, 112, 97, 105, 114, 41, 46, 109, 97, 120])), .iface "func" (.lit (.string [40, 115, 104, 101, 97, 102, 119, 111, 114, 107, 115, 47, 119, 111, 114, 100, 46, 112, 97, 105, 114, 41, 46, 97, 110, 100])), .iface "func" (.lit (.string [40, 115, 104, 101, 97, 102, 119, 111, 114, 107, 115, 47, 119, 111, 114, 100, 46, 112, 97, 105, 114, 41, 46, 111, 114])), .iface "func" (.lit (.string [40, 115, 104, 101, 97, 102, 119, 111, 114, 107, 115, 47, 119, 111, 114, 100, 46, 112, 97, 105, 114, 41, 46, 120, 111, 114]))])
def laid_sheafworks_word_laws {H : Type} : DataW H := .agg [.agg [.lit (.bool true), .lit (.bool true), .lit (.bool false)], .agg [.lit (.bool false), .lit (.bool false), .lit (.bool false)], .agg [.lit (.bool true), .lit (.bool true), .lit (.bool false)], .agg [.lit (.bool false), .lit (.bool false), .lit (.bool false)], .agg [.lit (.bool false), .lit (.bool false), .lit (.bool false)], .agg [.lit (.bool false), .lit (.bool false), .lit (.bool false)], .agg [.lit (.bool false), .lit (.bool true), .lit (.bool false)], .agg [.lit (.bool true), .lit (.bool true), .lit (.bool true)], .agg [.lit (.bool true), .lit (.bool true), .lit (.bool true)], .agg [.lit (.bool true), .lit (.bool true), .lit (.bool true)], .agg [.lit (.bool true), .lit (.bool true), .lit (.bool true)], .agg [.lit (.bool true), .lit (.bool true), .lit (.bool false)]]
def laid_sheafworks_word_neutrals {H : Type} : DataW H := .agg [.lit (.int .i64 0), .lit (.int .i64 0), .lit (.int .i64 1), .lit (.int .i64 0), .lit (.int .i64 0), .lit (.int .i64 0), .lit (.int .i64 0), .lit (.int .i64 2147483647), .lit (.int .i64 (-2147483648)), .lit (.int .i64 (-1)), .lit (.int .i64 0), .lit (.int .i64 0)]
def laid_unicode_White_Space {H : Type} : DataW H := .ptr (.agg [.slice [.agg [.lit (.int .u16 9), .lit (.int .u16 13), .lit (.int .u16 1)], .agg [.lit (.int .u16 32), .lit (.int .u16 133), .lit (.int .u16 101)], .agg [.lit (.int .u16 160), .lit (.int .u16 5760), .lit (.int .u16 5600)], .agg [.lit (.int .u16 8192), .lit (.int .u16 8202), .lit (.int .u16 1)], .agg [.lit (.int .u16 8232), .lit (.int .u16 8233), .lit (.int .u16 1)], .agg [.lit (.int .u16 8239), .lit (.int .u16 8287), .lit (.int .u16 48)], .agg [.lit (.int .u16 12288), .lit (.int .u16 12288), .lit (.int .u16 1)]] [], .nil, .lit (.int .i64 2)])
def laid_strings_asciiSpace {H : Type} : DataW H := .agg [.lit (.int .u8 0), .lit (.int .u8 0), .lit (.int .u8 0), .lit (.int .u8 0), .lit (.int .u8 0), .lit (.int .u8 0), .lit (.int .u8 0), .lit (.int .u8 0), .lit (.int .u8 0), .lit (.int .u8 1), .lit (.int .u8 1), .lit (.int .u8 1), .lit (.int .u8 1), .lit (.int .u8 1), .lit (.int .u8 0), .lit (.int .u8 0), .lit (.int .u8 0), .lit (.int .u8 0), .lit (.int .u8 0), .lit (.int .u8 0), .lit (.int .u8 0), .lit (.int .u8 0), .lit (.int .u8 0), .lit (.int .u8 0), .lit (.int .u8 0), .lit (.int .u8 0), .lit (.int .u8 0), .lit (.int .u8 0), .lit (.int .u8 0), .lit (.int .u8 0), .lit (.int .u8 0), .lit (.int .u8 0), .lit (.int .u8 1), .lit (.int .u8 0), .lit (.int .u8 0), .lit (.int .u8 0), .lit (.int .u8 0), .lit (.int .u8 0), .lit (.int .u8 0), .lit (.int .u8 0), .lit (.int .u8 0), .lit (.int .u8 0), .lit (.int .u8 0), .lit (.int .u8 0), .lit (.int .u8 0), .lit (.int .u8 0), .lit (.int .u8 0), .lit (.int .u8 0), .lit (.int .u8 0), .lit (.int .u8 0), .lit (.int .u8 0), .lit (.int .u8 0), .lit (.int .u8 0), .lit (.int .u8 0), .lit (.int .u8 0), .lit (.int .u8 0), .lit (.int .u8 0), .lit (.int .u8 0), .lit (.int .u8 0), .lit (.int .u8 0), .lit (.int .u8 0), .lit (.int .u8 0), .lit (.int .u8 0), .lit (.int .u8 0), .lit (.int .u8 0), .lit (.int .u8 0), .lit (.int .u8 0), .lit (.int .u8 0), .lit (.int .u8 0), .lit (.int .u8 0), .lit (.int .u8 0), .lit (.int .u8 0), .lit (.int .u8 0), .lit (.int .u8 0), .lit (.int .u8 0), .lit (.int .u8 0), .lit (.int .u8 0), .lit (.int .u8 0), .lit (.int .u8 0), .lit (.int .u8 0), .lit (.int .u8 0), .lit (.int .u8 0), .lit (.int .u8 0), .lit (.int .u8 0), .lit (.int .u8 0), .lit (.int .u8 0), .lit (.int .u8 0), .lit (.int .u8 0), .lit (.int .u8 0), .lit (.int .u8 0), .lit (.int .u8 0), .lit (.int .u8 0), .lit (.int .u8 0), .lit (.int .u8 0), .lit (.int .u8 0), .lit (.int .u8 0), .lit (.int .u8 0), .lit (.int .u8 0), .lit (.int .u8 0), .lit (.int .u8 0), .lit (.int .u8 0), .lit (.int .u8 0), .lit (.int .u8 0), .lit (.int .u8 0), .lit (.int .u8 0), .lit (.int .u8 0), .lit (.int .u8 0), .lit (.int .u8 0), .lit (.int .u8 0), .lit (.int .u8 0), .lit (.int .u8 0), .lit (.int .u8 0), .lit (.int .u8 0), .lit (.int .u8 0), .lit (.int .u8 0), .lit (.int .u8 0), .lit (.int .u8 0), .lit (.int .u8 0), .lit (.int .u8 0), .lit (.int .u8 0), .lit (.int .u8 0), .lit (.int .u8 0), .lit (.int .u8 0), .lit (.int .u8 0), .lit (.int .u8 0), .lit (.int .u8 0), .lit (.int .u8 0), .lit (.int .u8 0), .lit (.int .u8 0), .lit (.int .u8 0), .lit (.int .u8 0), .lit (.int .u8 0), .lit (.int .u8 0), .lit (.int .u8 0), .lit (.int .u8 0), .lit (.int .u8 0), .lit (.int .u8 0), .lit (.int .u8 0), .lit (.int .u8 0), .lit (.int .u8 0), .lit (.int .u8 0), .lit (.int .u8 0), .lit (.int .u8 0), .lit (.int .u8 0), .lit (.int .u8 0), .lit (.int .u8 0), .lit (.int .u8 0), .lit (.int .u8 0), .lit (.int .u8 0), .lit (.int .u8 0), .lit (.int .u8 0), .lit (.int .u8 0), .lit (.int .u8 0), .lit (.int .u8 0), .lit (.int .u8 0), .lit (.int .u8 0), .lit (.int .u8 0), .lit (.int .u8 0), .lit (.int .u8 0), .lit (.int .u8 0), .lit (.int .u8 0), .lit (.int .u8 0), .lit (.int .u8 0), .lit (.int .u8 0), .lit (.int .u8 0), .lit (.int .u8 0), .lit (.int .u8 0), .lit (.int .u8 0), .lit (.int .u8 0), .lit (.int .u8 0), .lit (.int .u8 0), .lit (.int .u8 0), .lit (.int .u8 0), .lit (.int .u8 0), .lit (.int .u8 0), .lit (.int .u8 0), .lit (.int .u8 0), .lit (.int .u8 0), .lit (.int .u8 0), .lit (.int .u8 0), .lit (.int .u8 0), .lit (.int .u8 0), .lit (.int .u8 0), .lit (.int .u8 0), .lit (.int .u8 0), .lit (.int .u8 0), .lit (.int .u8 0), .lit (.int .u8 0), .lit (.int .u8 0), .lit (.int .u8 0), .lit (.int .u8 0), .lit (.int .u8 0), .lit (.int .u8 0), .lit (.int .u8 0), .lit (.int .u8 0), .lit (.int .u8 0), .lit (.int .u8 0), .lit (.int .u8 0), .lit (.int .u8 0), .lit (.int .u8 0), .lit (.int .u8 0), .lit (.int .u8 0), .lit (.int .u8 0), .lit (.int .u8 0), .lit (.int .u8 0), .lit (.int .u8 0), .lit (.int .u8 0), .lit (.int .u8 0), .lit (.int .u8 0), .lit (.int .u8 0), .lit (.int .u8 0), .lit (.int .u8 0), .lit (.int .u8 0), .lit (.int .u8 0), .lit (.int .u8 0), .lit (.int .u8 0), .lit (.int .u8 0), .lit (.int .u8 0), .lit (.int .u8 0), .lit (.int .u8 0), .lit (.int .u8 0), .lit (.int .u8 0), .lit (.int .u8 0), .lit (.int .u8 0), .lit (.int .u8 0), .lit (.int .u8 0), .lit (.int .u8 0), .lit (.int .u8 0), .lit (.int .u8 0), .lit (.int .u8 0), .lit (.int .u8 0), .lit (.int .u8 0), .lit (.int .u8 0), .lit (.int .u8 0), .lit (.int .u8 0), .lit (.int .u8 0), .lit (.int .u8 0), .lit (.int .u8 0), .lit (.int .u8 0), .lit (.int .u8 0), .lit (.int .u8 0), .lit (.int .u8 0), .lit (.int .u8 0), .lit (.int .u8 0), .lit (.int .u8 0), .lit (.int .u8 0), .lit (.int .u8 0), .lit (.int .u8 0), .lit (.int .u8 0), .lit (.int .u8 0), .lit (.int .u8 0), .lit (.int .u8 0), .lit (.int .u8 0), .lit (.int .u8 0), .lit (.int .u8 0), .lit (.int .u8 0)]
/-- One of Go's own tables, pinned by name: the form's constant. -/
def laid_unicode_utf8_first : DataW Unit := Go.Pinned.utf8First

/-- 'sheafworkslaw13.MeanRuns': WHATEVER THE INPUT: true; the input reads as it did. -/
def meanRunsSpec : ChangeSpec := { name := "meanRuns", fn := fun _ => fun
  | [d1, d2, d3, d4] => { results := [.lit (.bool true)], args := [d1, d2, d3, d4] }
  | _ => none }
def meanRunsRow : OpenClaim := { program := "ytloeagdggmolcaagreatdoor", sum := "6b4e27309573c85d761dcc694f4d0dcc49a04be5f1e894e36b014c5b693db1f0", func := "sheafworks/sheafworkslaw13.MeanRuns", spec := "meanRuns", inPlace := ["internal/bytealg.IndexByteString", "internal/bytealg.IndexString"], unfollowed := true, recurses := true, named := ["unicode/utf8.first", "unicode/utf8.acceptRanges", "strings.asciiSpace", "unicode.White_Space", "sheafworks/word.deeds", "sheafworks/word.neutrals", "sheafworks/word.laws", "internal/bytealg.MaxLen"], loops := true, plainKeys := false, apart := false, laid := [("unicode/utf8.acceptRanges", laid_unicode_utf8_acceptRanges), ("sheafworks/word.deeds", laid_sheafworks_word_deeds), ("sheafworks/word.laws", laid_sheafworks_word_laws), ("sheafworks/word.neutrals", laid_sheafworks_word_neutrals), ("unicode.White_Space", laid_unicode_White_Space), ("strings.asciiSpace", laid_strings_asciiSpace), ("unicode/utf8.first", laid_unicode_utf8_first)] }
def MeanRunsSaid : Prop := meanRunsRow.holds Tryz.pinned (OpenSpec.ofChange meanRunsSpec)

/-- ITS FALSE NEIGHBOUR: 'it returns false'. Refute it at one input. -/
def meanRunsWrong : ChangeSpec := { name := "meanRuns", fn := fun _ => fun
  | [d1, d2, d3, d4] => { results := [.lit (.bool false)], args := [d1, d2, d3, d4] }
  | _ => none }
def MeanRunsWrongFalsely : Prop := meanRunsRow.holds Tryz.pinned (OpenSpec.ofChange meanRunsWrong)

/-- 'sheafworkslaw13.MeanCounts': WHATEVER THE INPUT: true; the input reads as it did. -/
def meanCountsSpec : ChangeSpec := { name := "meanCounts", fn := fun _ => fun
  | [d1, d2, d3] => { results := [.lit (.bool true)], args := [d1, d2, d3] }
  | _ => none }
def meanCountsRow : OpenClaim := { program := "ytloeagdggmolcaagreatdoor", sum := "6b4e27309573c85d761dcc694f4d0dcc49a04be5f1e894e36b014c5b693db1f0", func := "sheafworks/sheafworkslaw13.MeanCounts", spec := "meanCounts", inPlace := ["internal/bytealg.IndexByteString", "internal/bytealg.IndexString"], unfollowed := true, recurses := true, named := ["unicode/utf8.first", "unicode/utf8.acceptRanges", "strings.asciiSpace", "unicode.White_Space", "sheafworks/word.deeds", "sheafworks/word.neutrals", "sheafworks/word.laws", "internal/bytealg.MaxLen"], loops := true, plainKeys := false, apart := false, laid := [("unicode/utf8.acceptRanges", laid_unicode_utf8_acceptRanges), ("sheafworks/word.deeds", laid_sheafworks_word_deeds), ("sheafworks/word.laws", laid_sheafworks_word_laws), ("sheafworks/word.neutrals", laid_sheafworks_word_neutrals), ("unicode.White_Space", laid_unicode_White_Space), ("strings.asciiSpace", laid_strings_asciiSpace), ("unicode/utf8.first", laid_unicode_utf8_first)] }
def MeanCountsSaid : Prop := meanCountsRow.holds Tryz.pinned (OpenSpec.ofChange meanCountsSpec)

/-- ITS FALSE NEIGHBOUR: 'it returns false'. Refute it at one input. -/
def meanCountsWrong : ChangeSpec := { name := "meanCounts", fn := fun _ => fun
  | [d1, d2, d3] => { results := [.lit (.bool false)], args := [d1, d2, d3] }
  | _ => none }
def MeanCountsWrongFalsely : Prop := meanCountsRow.holds Tryz.pinned (OpenSpec.ofChange meanCountsWrong)

/-- 'sheafworkslaw13.MeanTyped': WHATEVER THE INPUT: true; the input reads as it did. -/
def meanTypedSpec : ChangeSpec := { name := "meanTyped", fn := fun _ => fun
  | [d] => { results := [.lit (.bool true)], args := [d] }
  | _ => none }
def meanTypedRow : OpenClaim := { program := "ytloeagdggmolcaagreatdoor", sum := "6b4e27309573c85d761dcc694f4d0dcc49a04be5f1e894e36b014c5b693db1f0", func := "sheafworks/sheafworkslaw13.MeanTyped", spec := "meanTyped", inPlace := ["internal/bytealg.IndexByteString", "internal/bytealg.IndexString"], unfollowed := true, recurses := true, named := ["unicode/utf8.first", "unicode/utf8.acceptRanges", "strings.asciiSpace", "unicode.White_Space", "sheafworks/word.deeds", "sheafworks/word.neutrals", "sheafworks/word.laws", "internal/bytealg.MaxLen"], plainKeys := false, apart := false, laid := [("unicode/utf8.acceptRanges", laid_unicode_utf8_acceptRanges), ("sheafworks/word.deeds", laid_sheafworks_word_deeds), ("sheafworks/word.laws", laid_sheafworks_word_laws), ("sheafworks/word.neutrals", laid_sheafworks_word_neutrals), ("unicode.White_Space", laid_unicode_White_Space), ("strings.asciiSpace", laid_strings_asciiSpace), ("unicode/utf8.first", laid_unicode_utf8_first)] }
def MeanTypedSaid : Prop := meanTypedRow.holds Tryz.pinned (OpenSpec.ofChange meanTypedSpec)

/-- ITS FALSE NEIGHBOUR: 'it returns false'. Refute it at one input. -/
def meanTypedWrong : ChangeSpec := { name := "meanTyped", fn := fun _ => fun
  | [d] => { results := [.lit (.bool false)], args := [d] }
  | _ => none }
def MeanTypedWrongFalsely : Prop := meanTypedRow.holds Tryz.pinned (OpenSpec.ofChange meanTypedWrong)

/-- 'sheafworkslaw13.MeanEach': WHATEVER THE INPUT: true; the input reads as it did. -/
def meanEachSpec : ChangeSpec := { name := "meanEach", fn := fun _ => fun
  | [d1, d2, d3] => { results := [.lit (.bool true)], args := [d1, d2, d3] }
  | _ => none }
def meanEachRow : OpenClaim := { program := "ytloeagdggmolcaagreatdoor", sum := "6b4e27309573c85d761dcc694f4d0dcc49a04be5f1e894e36b014c5b693db1f0", func := "sheafworks/sheafworkslaw13.MeanEach", spec := "meanEach", inPlace := ["internal/bytealg.IndexByteString", "internal/bytealg.IndexString"], unfollowed := true, recurses := true, named := ["unicode/utf8.first", "unicode/utf8.acceptRanges", "strings.asciiSpace", "unicode.White_Space", "sheafworks/word.deeds", "sheafworks/word.neutrals", "sheafworks/word.laws", "internal/bytealg.MaxLen"], plainKeys := false, apart := false, laid := [("unicode/utf8.acceptRanges", laid_unicode_utf8_acceptRanges), ("sheafworks/word.deeds", laid_sheafworks_word_deeds), ("sheafworks/word.laws", laid_sheafworks_word_laws), ("sheafworks/word.neutrals", laid_sheafworks_word_neutrals), ("unicode.White_Space", laid_unicode_White_Space), ("strings.asciiSpace", laid_strings_asciiSpace), ("unicode/utf8.first", laid_unicode_utf8_first)] }
def MeanEachSaid : Prop := meanEachRow.holds Tryz.pinned (OpenSpec.ofChange meanEachSpec)

/-- ITS FALSE NEIGHBOUR: 'it returns false'. Refute it at one input. -/
def meanEachWrong : ChangeSpec := { name := "meanEach", fn := fun _ => fun
  | [d1, d2, d3] => { results := [.lit (.bool false)], args := [d1, d2, d3] }
  | _ => none }
def MeanEachWrongFalsely : Prop := meanEachRow.holds Tryz.pinned (OpenSpec.ofChange meanEachWrong)

/-- 'sheafworkslaw13.MeanFolds': WHATEVER THE INPUT: true; the input reads as it did. -/
def meanFoldsSpec : ChangeSpec := { name := "meanFolds", fn := fun _ => fun
  | [d1, d2] => { results := [.lit (.bool true)], args := [d1, d2] }
  | _ => none }
def meanFoldsRow : OpenClaim := { program := "ytloeagdggmolcaagreatdoor", sum := "6b4e27309573c85d761dcc694f4d0dcc49a04be5f1e894e36b014c5b693db1f0", func := "sheafworks/sheafworkslaw13.MeanFolds", spec := "meanFolds", inPlace := ["internal/bytealg.IndexByteString", "internal/bytealg.IndexString"], unfollowed := true, recurses := true, named := ["unicode/utf8.first", "unicode/utf8.acceptRanges", "strings.asciiSpace", "unicode.White_Space", "sheafworks/word.deeds", "sheafworks/word.neutrals", "sheafworks/word.laws", "internal/bytealg.MaxLen"], plainKeys := false, apart := false, laid := [("unicode/utf8.acceptRanges", laid_unicode_utf8_acceptRanges), ("sheafworks/word.deeds", laid_sheafworks_word_deeds), ("sheafworks/word.laws", laid_sheafworks_word_laws), ("sheafworks/word.neutrals", laid_sheafworks_word_neutrals), ("unicode.White_Space", laid_unicode_White_Space), ("strings.asciiSpace", laid_strings_asciiSpace), ("unicode/utf8.first", laid_unicode_utf8_first)] }
def MeanFoldsSaid : Prop := meanFoldsRow.holds Tryz.pinned (OpenSpec.ofChange meanFoldsSpec)

/-- ITS FALSE NEIGHBOUR: 'it returns false'. Refute it at one input. -/
def meanFoldsWrong : ChangeSpec := { name := "meanFolds", fn := fun _ => fun
  | [d1, d2] => { results := [.lit (.bool false)], args := [d1, d2] }
  | _ => none }
def MeanFoldsWrongFalsely : Prop := meanFoldsRow.holds Tryz.pinned (OpenSpec.ofChange meanFoldsWrong)

/- THE SECOND FORM. 'bulk': how many values and letters a reading holds, each counted each time it is reached (what is shared counts as often as it is met; a slice's spare places count too). A statement '..UptoSaid' is the law's where the arguments, and the package variables that the reading takes, are together of bulk at most 1048576: NARROWER than '..Said'. Prove '..Said' where nothing that the law and all that it calls make is longer than what came in: it says more and counts as full. Else prove '..UptoSaid'. A law counts once. -/
mutual
def uptoBulk {H : Type} : DataW H → Nat
  | .lit (.string bytes) => bytes.length + 1
  | .lit _ => 1
  | .nil => 1
  | .ptr d => uptoBulk d + 1
  | .slice elems spare => uptoBulkAll elems + uptoBulkAll spare + 1
  | .agg parts => uptoBulkAll parts + 1
  | .iface _ d => uptoBulk d + 1
  | .map entries => uptoBulkEntries entries + 1
  | .held _ => 1
def uptoBulkAll {H : Type} : List (DataW H) → Nat
  | [] => 0
  | d :: r => uptoBulk d + uptoBulkAll r
def uptoBulkEntries {H : Type} : List (Lit × DataW H) → Nat
  | [] => 0
  | x :: r => uptoBulkEntry x + uptoBulkEntries r
def uptoBulkEntry {H : Type} : Lit × DataW H → Nat
  | (.string bytes, d) => bytes.length + uptoBulk d + 1
  | (_, d) => uptoBulk d + 1
 end
def uptoSmall : (H : Type) → List (DataW H) → Bool := fun _ ds => decide (uptoBulkAll ds ≤ 1048576)
def OpenSpec.upto (s : _root_.Go.ChangeSpec) : _root_.Go.OpenSpec := { _root_.Go.OpenSpec.ofChange s with cond := some uptoSmall }

/-- 'sheafworkslaw13.MeanRuns', WHERE WHAT IT READS IS OF BULK AT MOST 1048576: true; the input reads as it did. -/
def meanRunsUptoRow : OpenClaim := { program := "ytloeagdggmolcaagreatdoor", sum := "6b4e27309573c85d761dcc694f4d0dcc49a04be5f1e894e36b014c5b693db1f0", func := "sheafworks/sheafworkslaw13.MeanRuns", spec := "meanRuns", inPlace := ["internal/bytealg.IndexByteString", "internal/bytealg.IndexString"], unfollowed := true, recurses := true, named := ["unicode/utf8.first", "unicode/utf8.acceptRanges", "strings.asciiSpace", "unicode.White_Space", "sheafworks/word.deeds", "sheafworks/word.neutrals", "sheafworks/word.laws", "internal/bytealg.MaxLen"], loops := true, plainKeys := false, apart := false, laid := [("unicode/utf8.acceptRanges", laid_unicode_utf8_acceptRanges), ("sheafworks/word.deeds", laid_sheafworks_word_deeds), ("sheafworks/word.laws", laid_sheafworks_word_laws), ("sheafworks/word.neutrals", laid_sheafworks_word_neutrals), ("unicode.White_Space", laid_unicode_White_Space), ("strings.asciiSpace", laid_strings_asciiSpace), ("unicode/utf8.first", laid_unicode_utf8_first)], narrowed := true }
def MeanRunsUptoSaid : Prop := meanRunsUptoRow.holds Tryz.pinned (OpenSpec.upto meanRunsSpec)

/-- 'sheafworkslaw13.MeanCounts', WHERE WHAT IT READS IS OF BULK AT MOST 1048576: true; the input reads as it did. -/
def meanCountsUptoRow : OpenClaim := { program := "ytloeagdggmolcaagreatdoor", sum := "6b4e27309573c85d761dcc694f4d0dcc49a04be5f1e894e36b014c5b693db1f0", func := "sheafworks/sheafworkslaw13.MeanCounts", spec := "meanCounts", inPlace := ["internal/bytealg.IndexByteString", "internal/bytealg.IndexString"], unfollowed := true, recurses := true, named := ["unicode/utf8.first", "unicode/utf8.acceptRanges", "strings.asciiSpace", "unicode.White_Space", "sheafworks/word.deeds", "sheafworks/word.neutrals", "sheafworks/word.laws", "internal/bytealg.MaxLen"], loops := true, plainKeys := false, apart := false, laid := [("unicode/utf8.acceptRanges", laid_unicode_utf8_acceptRanges), ("sheafworks/word.deeds", laid_sheafworks_word_deeds), ("sheafworks/word.laws", laid_sheafworks_word_laws), ("sheafworks/word.neutrals", laid_sheafworks_word_neutrals), ("unicode.White_Space", laid_unicode_White_Space), ("strings.asciiSpace", laid_strings_asciiSpace), ("unicode/utf8.first", laid_unicode_utf8_first)], narrowed := true }
def MeanCountsUptoSaid : Prop := meanCountsUptoRow.holds Tryz.pinned (OpenSpec.upto meanCountsSpec)

/-- 'sheafworkslaw13.MeanTyped', WHERE WHAT IT READS IS OF BULK AT MOST 1048576: true; the input reads as it did. -/
def meanTypedUptoRow : OpenClaim := { program := "ytloeagdggmolcaagreatdoor", sum := "6b4e27309573c85d761dcc694f4d0dcc49a04be5f1e894e36b014c5b693db1f0", func := "sheafworks/sheafworkslaw13.MeanTyped", spec := "meanTyped", inPlace := ["internal/bytealg.IndexByteString", "internal/bytealg.IndexString"], unfollowed := true, recurses := true, named := ["unicode/utf8.first", "unicode/utf8.acceptRanges", "strings.asciiSpace", "unicode.White_Space", "sheafworks/word.deeds", "sheafworks/word.neutrals", "sheafworks/word.laws", "internal/bytealg.MaxLen"], plainKeys := false, apart := false, laid := [("unicode/utf8.acceptRanges", laid_unicode_utf8_acceptRanges), ("sheafworks/word.deeds", laid_sheafworks_word_deeds), ("sheafworks/word.laws", laid_sheafworks_word_laws), ("sheafworks/word.neutrals", laid_sheafworks_word_neutrals), ("unicode.White_Space", laid_unicode_White_Space), ("strings.asciiSpace", laid_strings_asciiSpace), ("unicode/utf8.first", laid_unicode_utf8_first)], narrowed := true }
def MeanTypedUptoSaid : Prop := meanTypedUptoRow.holds Tryz.pinned (OpenSpec.upto meanTypedSpec)

/-- 'sheafworkslaw13.MeanEach', WHERE WHAT IT READS IS OF BULK AT MOST 1048576: true; the input reads as it did. -/
def meanEachUptoRow : OpenClaim := { program := "ytloeagdggmolcaagreatdoor", sum := "6b4e27309573c85d761dcc694f4d0dcc49a04be5f1e894e36b014c5b693db1f0", func := "sheafworks/sheafworkslaw13.MeanEach", spec := "meanEach", inPlace := ["internal/bytealg.IndexByteString", "internal/bytealg.IndexString"], unfollowed := true, recurses := true, named := ["unicode/utf8.first", "unicode/utf8.acceptRanges", "strings.asciiSpace", "unicode.White_Space", "sheafworks/word.deeds", "sheafworks/word.neutrals", "sheafworks/word.laws", "internal/bytealg.MaxLen"], plainKeys := false, apart := false, laid := [("unicode/utf8.acceptRanges", laid_unicode_utf8_acceptRanges), ("sheafworks/word.deeds", laid_sheafworks_word_deeds), ("sheafworks/word.laws", laid_sheafworks_word_laws), ("sheafworks/word.neutrals", laid_sheafworks_word_neutrals), ("unicode.White_Space", laid_unicode_White_Space), ("strings.asciiSpace", laid_strings_asciiSpace), ("unicode/utf8.first", laid_unicode_utf8_first)], narrowed := true }
def MeanEachUptoSaid : Prop := meanEachUptoRow.holds Tryz.pinned (OpenSpec.upto meanEachSpec)

/-- 'sheafworkslaw13.MeanFolds', WHERE WHAT IT READS IS OF BULK AT MOST 1048576: true; the input reads as it did. -/
def meanFoldsUptoRow : OpenClaim := { program := "ytloeagdggmolcaagreatdoor", sum := "6b4e27309573c85d761dcc694f4d0dcc49a04be5f1e894e36b014c5b693db1f0", func := "sheafworks/sheafworkslaw13.MeanFolds", spec := "meanFolds", inPlace := ["internal/bytealg.IndexByteString", "internal/bytealg.IndexString"], unfollowed := true, recurses := true, named := ["unicode/utf8.first", "unicode/utf8.acceptRanges", "strings.asciiSpace", "unicode.White_Space", "sheafworks/word.deeds", "sheafworks/word.neutrals", "sheafworks/word.laws", "internal/bytealg.MaxLen"], plainKeys := false, apart := false, laid := [("unicode/utf8.acceptRanges", laid_unicode_utf8_acceptRanges), ("sheafworks/word.deeds", laid_sheafworks_word_deeds), ("sheafworks/word.laws", laid_sheafworks_word_laws), ("sheafworks/word.neutrals", laid_sheafworks_word_neutrals), ("unicode.White_Space", laid_unicode_White_Space), ("strings.asciiSpace", laid_strings_asciiSpace), ("unicode/utf8.first", laid_unicode_utf8_first)], narrowed := true }
def MeanFoldsUptoSaid : Prop := meanFoldsUptoRow.holds Tryz.pinned (OpenSpec.upto meanFoldsSpec)

end Rows
end Go.Proofs.YtloeagdggmolcaaGreatDoor
