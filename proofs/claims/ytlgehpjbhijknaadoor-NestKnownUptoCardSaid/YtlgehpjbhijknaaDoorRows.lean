/-
  NARROWER THAN 'FOR EVERY INPUT', by the rows' own cells (each row's printed sentence says how): NestTypes: loops, laid · NestFlattens: loops, laid · NestThere: loops, laid · NestContexts: loops, laid · NestNobody: loops, laid · NestParts: loops, laid · NestKnown: laid.
  DERIVED. THE GIVEN ROWS OF THIS SEAT. 7 by the template 'for every input the law returns true; each argument reads behind the call as it read before'; 0 by the template 'total and deterministic' (their statements: YtlgehpjbhijknaaDoorTotals.lean).
  GIVEN WITH THE SEED: the statements are not yours to turn. If you find one false, say at which input.
  Laid BY PROGRAM, IN A SANDBOX (cutbox-rows.mjs): the forced cells as the released guide's own fill.sh prints them over the translation c78fe6d6261866aa… (all of the seat's roots in one cut). By AI agents, Wed Nov 11 2026. No macro, syntax, notation, axiom, sorry.
-/
import Derived.Test.YtlgehpjbhijknaaDoorChecked
import GoSem.Claim
import GoSem.ClaimJoined
import GoSem.ClaimMapViews
import Derived.JoinedTies
import Derived.KernelRfl
namespace Go.Proofs.YtlgehpjbhijknaaDoor
/- THE CELL 'sum', in the pinned program and in every row, IS THE sha256 OF THE DUMP (.gsa) THAT YtlgehpjbhijknaaDoorProg.lean LOADS. Nothing in Lean hashes anything: it is a label: what it is worth is what the hold of that sum in a sandbox is worth. -/
noncomputable def Tryd.pinned : Pinned := { name := "ytlgehpjbhijknaadoor", sum := "c78fe6d6261866aa22aa5c9d3253093593c3f2f2851884b5e53b0f644a997f83", checked := Tryd.checked }
namespace Rows
def none {H : Type} : Left H := { results := [], args := [] }

/- WHAT THE LISTED PACKAGE-LEVEL VARIABLES READ AS WHEN THE CALL BEGINS. Each datum BY PROGRAM (the guide's laid-datum.mjs) off the statement by which the dump's own 'gosem.cut.vars' lays the variable. In a bare row this is a premise. The card (YtlgehpjbhijknaaDoorCards.lean) ties it to the program's text. -/
def laid_sheafworks_nest_counters {H : Type} : DataW H := .iface "func table" (.agg [.iface "func" (.lit (.string [40, 42, 115, 104, 101, 97, 102, 119, 111, 114, 107, 115, 47, 110, 101, 115, 116, 46, 108, 97, 121, 111, 117, 116, 41, 46, 110, 111, 110, 101])), .iface "func" (.lit (.string [40, 42, 115, 104, 101, 97, 102, 119, 111, 114, 107, 115, 47, 110, 101, 115, 116, 46, 108, 97, 121, 111, 117, 116, 41, 46, 111, 110, 101])), .iface "func" (.lit (.string [40, 42, 115, 104, 101, 97, 102, 119, 111, 114, 107, 115, 47, 110, 101, 115, 116, 46, 108, 97, 121, 111, 117, 116, 41, 46, 98, 111, 116, 104])), .iface "func" (.lit (.string [40, 42, 115, 104, 101, 97, 102, 119, 111, 114, 107, 115, 47, 110, 101, 115, 116, 46, 108, 97, 121, 111, 117, 116, 41, 46, 115, 117, 109])), .iface "func" (.lit (.string [40, 42, 115, 104, 101, 97, 102, 119, 111, 114, 107, 115, 47, 110, 101, 115, 116, 46, 108, 97, 121, 111, 117, 116, 41, 46, 115, 101, 113]))])
def laid_sheafworks_nest_arity {H : Type} : DataW H := .agg [.lit (.int .i64 0), .lit (.int .i64 0), .lit (.int .i64 2), .lit (.int .i64 2), .lit (.int .i64 1)]
def laid_sheafworks_nest_kinds {H : Type} : DataW H := .agg [.lit (.int .i64 0), .lit (.int .i64 1), .lit (.int .i64 2), .lit (.int .i64 3), .lit (.int .i64 4)]

/-- 'sheafworkslaw03.NestTypes': WHATEVER THE INPUT: true; the input reads as it did. -/
def nestTypesSpec : ChangeSpec := { name := "nestTypes", fn := fun _ => fun
  | [d1, d2] => { results := [.lit (.bool true)], args := [d1, d2] }
  | _ => none }
def nestTypesRow : OpenClaim := { program := "ytlgehpjbhijknaadoor", sum := "c78fe6d6261866aa22aa5c9d3253093593c3f2f2851884b5e53b0f644a997f83", func := "sheafworks/sheafworkslaw03.NestTypes", spec := "nestTypes", unfollowed := true, recurses := true, named := ["sheafworks/nest.arity", "sheafworks/nest.counters", "sheafworks/nest.kinds"], loops := true, plainKeys := false, apart := false, laid := [("sheafworks/nest.counters", laid_sheafworks_nest_counters), ("sheafworks/nest.arity", laid_sheafworks_nest_arity), ("sheafworks/nest.kinds", laid_sheafworks_nest_kinds)] }
def NestTypesSaid : Prop := nestTypesRow.holds Tryd.pinned (OpenSpec.ofChange nestTypesSpec)

/-- ITS FALSE NEIGHBOUR: 'it returns false'. Refute it at one input. -/
def nestTypesWrong : ChangeSpec := { name := "nestTypes", fn := fun _ => fun
  | [d1, d2] => { results := [.lit (.bool false)], args := [d1, d2] }
  | _ => none }
def NestTypesWrongFalsely : Prop := nestTypesRow.holds Tryd.pinned (OpenSpec.ofChange nestTypesWrong)

/-- 'sheafworkslaw03.NestFlattens': WHATEVER THE INPUT: true; the input reads as it did. -/
def nestFlattensSpec : ChangeSpec := { name := "nestFlattens", fn := fun _ => fun
  | [d1, d2] => { results := [.lit (.bool true)], args := [d1, d2] }
  | _ => none }
def nestFlattensRow : OpenClaim := { program := "ytlgehpjbhijknaadoor", sum := "c78fe6d6261866aa22aa5c9d3253093593c3f2f2851884b5e53b0f644a997f83", func := "sheafworks/sheafworkslaw03.NestFlattens", spec := "nestFlattens", unfollowed := true, recurses := true, named := ["sheafworks/nest.arity", "sheafworks/nest.counters", "sheafworks/nest.kinds"], loops := true, plainKeys := false, apart := false, laid := [("sheafworks/nest.counters", laid_sheafworks_nest_counters), ("sheafworks/nest.arity", laid_sheafworks_nest_arity), ("sheafworks/nest.kinds", laid_sheafworks_nest_kinds)] }
def NestFlattensSaid : Prop := nestFlattensRow.holds Tryd.pinned (OpenSpec.ofChange nestFlattensSpec)

/-- ITS FALSE NEIGHBOUR: 'it returns false'. Refute it at one input. -/
def nestFlattensWrong : ChangeSpec := { name := "nestFlattens", fn := fun _ => fun
  | [d1, d2] => { results := [.lit (.bool false)], args := [d1, d2] }
  | _ => none }
def NestFlattensWrongFalsely : Prop := nestFlattensRow.holds Tryd.pinned (OpenSpec.ofChange nestFlattensWrong)

/-- 'sheafworkslaw03.NestThere': WHATEVER THE INPUT: true; the input reads as it did. -/
def nestThereSpec : ChangeSpec := { name := "nestThere", fn := fun _ => fun
  | [d1, d2, d3] => { results := [.lit (.bool true)], args := [d1, d2, d3] }
  | _ => none }
def nestThereRow : OpenClaim := { program := "ytlgehpjbhijknaadoor", sum := "c78fe6d6261866aa22aa5c9d3253093593c3f2f2851884b5e53b0f644a997f83", func := "sheafworks/sheafworkslaw03.NestThere", spec := "nestThere", unfollowed := true, recurses := true, named := ["sheafworks/nest.arity", "sheafworks/nest.counters", "sheafworks/nest.kinds"], loops := true, plainKeys := false, apart := false, laid := [("sheafworks/nest.counters", laid_sheafworks_nest_counters), ("sheafworks/nest.arity", laid_sheafworks_nest_arity), ("sheafworks/nest.kinds", laid_sheafworks_nest_kinds)] }
def NestThereSaid : Prop := nestThereRow.holds Tryd.pinned (OpenSpec.ofChange nestThereSpec)

/-- ITS FALSE NEIGHBOUR: 'it returns false'. Refute it at one input. -/
def nestThereWrong : ChangeSpec := { name := "nestThere", fn := fun _ => fun
  | [d1, d2, d3] => { results := [.lit (.bool false)], args := [d1, d2, d3] }
  | _ => none }
def NestThereWrongFalsely : Prop := nestThereRow.holds Tryd.pinned (OpenSpec.ofChange nestThereWrong)

/-- 'sheafworkslaw03.NestContexts': WHATEVER THE INPUT: true; the input reads as it did. -/
def nestContextsSpec : ChangeSpec := { name := "nestContexts", fn := fun _ => fun
  | [d1, d2, d3, d4] => { results := [.lit (.bool true)], args := [d1, d2, d3, d4] }
  | _ => none }
def nestContextsRow : OpenClaim := { program := "ytlgehpjbhijknaadoor", sum := "c78fe6d6261866aa22aa5c9d3253093593c3f2f2851884b5e53b0f644a997f83", func := "sheafworks/sheafworkslaw03.NestContexts", spec := "nestContexts", unfollowed := true, recurses := true, named := ["sheafworks/nest.arity", "sheafworks/nest.counters", "sheafworks/nest.kinds"], loops := true, plainKeys := false, apart := false, laid := [("sheafworks/nest.counters", laid_sheafworks_nest_counters), ("sheafworks/nest.arity", laid_sheafworks_nest_arity), ("sheafworks/nest.kinds", laid_sheafworks_nest_kinds)] }
def NestContextsSaid : Prop := nestContextsRow.holds Tryd.pinned (OpenSpec.ofChange nestContextsSpec)

/-- ITS FALSE NEIGHBOUR: 'it returns false'. Refute it at one input. -/
def nestContextsWrong : ChangeSpec := { name := "nestContexts", fn := fun _ => fun
  | [d1, d2, d3, d4] => { results := [.lit (.bool false)], args := [d1, d2, d3, d4] }
  | _ => none }
def NestContextsWrongFalsely : Prop := nestContextsRow.holds Tryd.pinned (OpenSpec.ofChange nestContextsWrong)

/-- 'sheafworkslaw03.NestNobody': WHATEVER THE INPUT: true; the input reads as it did. -/
def nestNobodySpec : ChangeSpec := { name := "nestNobody", fn := fun _ => fun
  | [d1, d2, d3] => { results := [.lit (.bool true)], args := [d1, d2, d3] }
  | _ => none }
def nestNobodyRow : OpenClaim := { program := "ytlgehpjbhijknaadoor", sum := "c78fe6d6261866aa22aa5c9d3253093593c3f2f2851884b5e53b0f644a997f83", func := "sheafworks/sheafworkslaw03.NestNobody", spec := "nestNobody", unfollowed := true, recurses := true, named := ["sheafworks/nest.arity", "sheafworks/nest.counters", "sheafworks/nest.kinds"], loops := true, plainKeys := false, apart := false, laid := [("sheafworks/nest.counters", laid_sheafworks_nest_counters), ("sheafworks/nest.arity", laid_sheafworks_nest_arity), ("sheafworks/nest.kinds", laid_sheafworks_nest_kinds)] }
def NestNobodySaid : Prop := nestNobodyRow.holds Tryd.pinned (OpenSpec.ofChange nestNobodySpec)

/-- ITS FALSE NEIGHBOUR: 'it returns false'. Refute it at one input. -/
def nestNobodyWrong : ChangeSpec := { name := "nestNobody", fn := fun _ => fun
  | [d1, d2, d3] => { results := [.lit (.bool false)], args := [d1, d2, d3] }
  | _ => none }
def NestNobodyWrongFalsely : Prop := nestNobodyRow.holds Tryd.pinned (OpenSpec.ofChange nestNobodyWrong)

/-- 'sheafworkslaw03.NestParts': WHATEVER THE INPUT: true; the input reads as it did. -/
def nestPartsSpec : ChangeSpec := { name := "nestParts", fn := fun _ => fun
  | [d1, d2] => { results := [.lit (.bool true)], args := [d1, d2] }
  | _ => none }
def nestPartsRow : OpenClaim := { program := "ytlgehpjbhijknaadoor", sum := "c78fe6d6261866aa22aa5c9d3253093593c3f2f2851884b5e53b0f644a997f83", func := "sheafworks/sheafworkslaw03.NestParts", spec := "nestParts", unfollowed := true, recurses := true, named := ["sheafworks/nest.arity", "sheafworks/nest.counters", "sheafworks/nest.kinds"], loops := true, plainKeys := false, apart := false, laid := [("sheafworks/nest.counters", laid_sheafworks_nest_counters), ("sheafworks/nest.arity", laid_sheafworks_nest_arity), ("sheafworks/nest.kinds", laid_sheafworks_nest_kinds)] }
def NestPartsSaid : Prop := nestPartsRow.holds Tryd.pinned (OpenSpec.ofChange nestPartsSpec)

/-- ITS FALSE NEIGHBOUR: 'it returns false'. Refute it at one input. -/
def nestPartsWrong : ChangeSpec := { name := "nestParts", fn := fun _ => fun
  | [d1, d2] => { results := [.lit (.bool false)], args := [d1, d2] }
  | _ => none }
def NestPartsWrongFalsely : Prop := nestPartsRow.holds Tryd.pinned (OpenSpec.ofChange nestPartsWrong)

/-- 'sheafworkslaw03.NestKnown': WHATEVER THE INPUT: true; the input reads as it did. -/
def nestKnownSpec : ChangeSpec := { name := "nestKnown", fn := fun _ => fun
  | [] => { results := [.lit (.bool true)], args := [] }
  | _ => none }
def nestKnownRow : OpenClaim := { program := "ytlgehpjbhijknaadoor", sum := "c78fe6d6261866aa22aa5c9d3253093593c3f2f2851884b5e53b0f644a997f83", func := "sheafworks/sheafworkslaw03.NestKnown", spec := "nestKnown", unfollowed := true, recurses := true, named := ["sheafworks/nest.arity", "sheafworks/nest.counters", "sheafworks/nest.kinds"], plainKeys := false, apart := false, laid := [("sheafworks/nest.counters", laid_sheafworks_nest_counters), ("sheafworks/nest.arity", laid_sheafworks_nest_arity), ("sheafworks/nest.kinds", laid_sheafworks_nest_kinds)] }
def NestKnownSaid : Prop := nestKnownRow.holds Tryd.pinned (OpenSpec.ofChange nestKnownSpec)

/-- ITS FALSE NEIGHBOUR: 'it returns false'. Refute it at one input. -/
def nestKnownWrong : ChangeSpec := { name := "nestKnown", fn := fun _ => fun
  | [] => { results := [.lit (.bool false)], args := [] }
  | _ => none }
def NestKnownWrongFalsely : Prop := nestKnownRow.holds Tryd.pinned (OpenSpec.ofChange nestKnownWrong)

/- THE SECOND FORM. 'bulk': how many values and letters a reading holds, each counted each time it is reached (what is shared counts as often as it is met; a slice's spare places count too). A statement '..UptoSaid' is the law's where the arguments, and the package variables that the reading takes, are together of bulk at most 1048576: NARROWER than '..Said'. Prove '..Said' where nothing that the law and all that it calls make is longer than what came in: it says more and counts as full. Else prove '..UptoSaid'. A law counts once. -/
mutual
def uptoBulk {H : Type} : DataW H → Nat
  | .lit (.string bytes) => bytes.length + 1
  | .lit _ => 1
  | .nil => 1
  | .ptr d => uptoBulk d + 1
  | .slice elems spare => uptoBulkAll elems + uptoBulkAll spare + 1
  | .agg parts => uptoBulkAll parts + 1
  | .iface _ d => uptoBulk d + 1
  | .map entries => uptoBulkEntries entries + 1
  | .held _ => 1
def uptoBulkAll {H : Type} : List (DataW H) → Nat
  | [] => 0
  | d :: r => uptoBulk d + uptoBulkAll r
def uptoBulkEntries {H : Type} : List (Lit × DataW H) → Nat
  | [] => 0
  | x :: r => uptoBulkEntry x + uptoBulkEntries r
def uptoBulkEntry {H : Type} : Lit × DataW H → Nat
  | (.string bytes, d) => bytes.length + uptoBulk d + 1
  | (_, d) => uptoBulk d + 1
 end
def uptoSmall : (H : Type) → List (DataW H) → Bool := fun _ ds => decide (uptoBulkAll ds ≤ 1048576)
def OpenSpec.upto (s : _root_.Go.ChangeSpec) : _root_.Go.OpenSpec := { _root_.Go.OpenSpec.ofChange s with cond := some uptoSmall }

/-- 'sheafworkslaw03.NestTypes', WHERE WHAT IT READS IS OF BULK AT MOST 1048576: true; the input reads as it did. -/
def nestTypesUptoRow : OpenClaim := { program := "ytlgehpjbhijknaadoor", sum := "c78fe6d6261866aa22aa5c9d3253093593c3f2f2851884b5e53b0f644a997f83", func := "sheafworks/sheafworkslaw03.NestTypes", spec := "nestTypes", unfollowed := true, recurses := true, named := ["sheafworks/nest.arity", "sheafworks/nest.counters", "sheafworks/nest.kinds"], loops := true, plainKeys := false, apart := false, laid := [("sheafworks/nest.counters", laid_sheafworks_nest_counters), ("sheafworks/nest.arity", laid_sheafworks_nest_arity), ("sheafworks/nest.kinds", laid_sheafworks_nest_kinds)], narrowed := true }
def NestTypesUptoSaid : Prop := nestTypesUptoRow.holds Tryd.pinned (OpenSpec.upto nestTypesSpec)

/-- 'sheafworkslaw03.NestFlattens', WHERE WHAT IT READS IS OF BULK AT MOST 1048576: true; the input reads as it did. -/
def nestFlattensUptoRow : OpenClaim := { program := "ytlgehpjbhijknaadoor", sum := "c78fe6d6261866aa22aa5c9d3253093593c3f2f2851884b5e53b0f644a997f83", func := "sheafworks/sheafworkslaw03.NestFlattens", spec := "nestFlattens", unfollowed := true, recurses := true, named := ["sheafworks/nest.arity", "sheafworks/nest.counters", "sheafworks/nest.kinds"], loops := true, plainKeys := false, apart := false, laid := [("sheafworks/nest.counters", laid_sheafworks_nest_counters), ("sheafworks/nest.arity", laid_sheafworks_nest_arity), ("sheafworks/nest.kinds", laid_sheafworks_nest_kinds)], narrowed := true }
def NestFlattensUptoSaid : Prop := nestFlattensUptoRow.holds Tryd.pinned (OpenSpec.upto nestFlattensSpec)

/-- 'sheafworkslaw03.NestThere', WHERE WHAT IT READS IS OF BULK AT MOST 1048576: true; the input reads as it did. -/
def nestThereUptoRow : OpenClaim := { program := "ytlgehpjbhijknaadoor", sum := "c78fe6d6261866aa22aa5c9d3253093593c3f2f2851884b5e53b0f644a997f83", func := "sheafworks/sheafworkslaw03.NestThere", spec := "nestThere", unfollowed := true, recurses := true, named := ["sheafworks/nest.arity", "sheafworks/nest.counters", "sheafworks/nest.kinds"], loops := true, plainKeys := false, apart := false, laid := [("sheafworks/nest.counters", laid_sheafworks_nest_counters), ("sheafworks/nest.arity", laid_sheafworks_nest_arity), ("sheafworks/nest.kinds", laid_sheafworks_nest_kinds)], narrowed := true }
def NestThereUptoSaid : Prop := nestThereUptoRow.holds Tryd.pinned (OpenSpec.upto nestThereSpec)

/-- 'sheafworkslaw03.NestContexts', WHERE WHAT IT READS IS OF BULK AT MOST 1048576: true; the input reads as it did. -/
def nestContextsUptoRow : OpenClaim := { program := "ytlgehpjbhijknaadoor", sum := "c78fe6d6261866aa22aa5c9d3253093593c3f2f2851884b5e53b0f644a997f83", func := "sheafworks/sheafworkslaw03.NestContexts", spec := "nestContexts", unfollowed := true, recurses := true, named := ["sheafworks/nest.arity", "sheafworks/nest.counters", "sheafworks/nest.kinds"], loops := true, plainKeys := false, apart := false, laid := [("sheafworks/nest.counters", laid_sheafworks_nest_counters), ("sheafworks/nest.arity", laid_sheafworks_nest_arity), ("sheafworks/nest.kinds", laid_sheafworks_nest_kinds)], narrowed := true }
def NestContextsUptoSaid : Prop := nestContextsUptoRow.holds Tryd.pinned (OpenSpec.upto nestContextsSpec)

/-- 'sheafworkslaw03.NestNobody', WHERE WHAT IT READS IS OF BULK AT MOST 1048576: true; the input reads as it did. -/
def nestNobodyUptoRow : OpenClaim := { program := "ytlgehpjbhijknaadoor", sum := "c78fe6d6261866aa22aa5c9d3253093593c3f2f2851884b5e53b0f644a997f83", func := "sheafworks/sheafworkslaw03.NestNobody", spec := "nestNobody", unfollowed := true, recurses := true, named := ["sheafworks/nest.arity", "sheafworks/nest.counters", "sheafworks/nest.kinds"], loops := true, plainKeys := false, apart := false, laid := [("sheafworks/nest.counters", laid_sheafworks_nest_counters), ("sheafworks/nest.arity", laid_sheafworks_nest_arity), ("sheafworks/nest.kinds", laid_sheafworks_nest_kinds)], narrowed := true }
def NestNobodyUptoSaid : Prop := nestNobodyUptoRow.holds Tryd.pinned (OpenSpec.upto nestNobodySpec)

/-- 'sheafworkslaw03.NestParts', WHERE WHAT IT READS IS OF BULK AT MOST 1048576: true; the input reads as it did. -/
def nestPartsUptoRow : OpenClaim := { program := "ytlgehpjbhijknaadoor", sum := "c78fe6d6261866aa22aa5c9d3253093593c3f2f2851884b5e53b0f644a997f83", func := "sheafworks/sheafworkslaw03.NestParts", spec := "nestParts", unfollowed := true, recurses := true, named := ["sheafworks/nest.arity", "sheafworks/nest.counters", "sheafworks/nest.kinds"], loops := true, plainKeys := false, apart := false, laid := [("sheafworks/nest.counters", laid_sheafworks_nest_counters), ("sheafworks/nest.arity", laid_sheafworks_nest_arity), ("sheafworks/nest.kinds", laid_sheafworks_nest_kinds)], narrowed := true }
def NestPartsUptoSaid : Prop := nestPartsUptoRow.holds Tryd.pinned (OpenSpec.upto nestPartsSpec)

/-- 'sheafworkslaw03.NestKnown', WHERE WHAT IT READS IS OF BULK AT MOST 1048576: true; the input reads as it did. -/
def nestKnownUptoRow : OpenClaim := { program := "ytlgehpjbhijknaadoor", sum := "c78fe6d6261866aa22aa5c9d3253093593c3f2f2851884b5e53b0f644a997f83", func := "sheafworks/sheafworkslaw03.NestKnown", spec := "nestKnown", unfollowed := true, recurses := true, named := ["sheafworks/nest.arity", "sheafworks/nest.counters", "sheafworks/nest.kinds"], plainKeys := false, apart := false, laid := [("sheafworks/nest.counters", laid_sheafworks_nest_counters), ("sheafworks/nest.arity", laid_sheafworks_nest_arity), ("sheafworks/nest.kinds", laid_sheafworks_nest_kinds)], narrowed := true }
def NestKnownUptoSaid : Prop := nestKnownUptoRow.holds Tryd.pinned (OpenSpec.upto nestKnownSpec)

end Rows
end Go.Proofs.YtlgehpjbhijknaaDoor
