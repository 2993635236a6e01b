/-
  DERIVED. GIVEN WITH THE SEED: THE PROGRAM's TIES (one call each: nine closed facts by the kernel) AND EACH ROW's TIE, after the 31st guide's Derived/Test/Toyas{Tie, Card}.lean. No idea stands in it: it is a product of the set-up. Laid BY PROGRAM, IN A SANDBOX (cutbox-door.mjs). By AI agents, Wed Nov 11 2026. No macro, syntax, notation, axiom, sorry.
-/
import Derived.Test.YtlgehpjbhijknaaDoorRows
import Derived.LaidByTextLater
import Derived.SevenTiedAt
import Derived.LaidSub
import Derived.LaidOnce
namespace Go.Proofs.YtlgehpjbhijknaaDoor
open Go
set_option maxRecDepth 100000
theorem seatTie1 : Tryd.prog.laidByTextLater [("sheafworks/nest.counters", Rows.laid_sheafworks_nest_counters), ("sheafworks/nest.arity", Rows.laid_sheafworks_nest_arity), ("sheafworks/nest.kinds", Rows.laid_sheafworks_nest_kinds)] [.funcs, .data, .data] true :=
  Program.laidByTextLater_by_one 24 8 6 (by kernel_rfl) (by kernel_rfl) (by kernel_rfl) (by kernel_rfl) (by kernel_rfl) (by kernel_rfl) (fun _ _ => by kernel_rfl)
theorem noOwnUnsafe : Tryd.pinned.checked.prog.headLifts.contains "ownunsafe" = false := by kernel_rfl
theorem tie : Tryd.prog.laidByTextLater [("sheafworks/nest.counters", Rows.laid_sheafworks_nest_counters), ("sheafworks/nest.arity", Rows.laid_sheafworks_nest_arity), ("sheafworks/nest.kinds", Rows.laid_sheafworks_nest_kinds)] [.funcs, .data, .data] true :=
  Program.laidByTextLater.sub seatTie1 ["sheafworks/nest.counters", "sheafworks/nest.arity", "sheafworks/nest.kinds"] (by kernel_rfl) (by kernel_rfl)
theorem nestTypes_row_tie : Rows.nestTypesRow.laidByTextAt .later Tryd.pinned [.funcs, .data, .data] true :=
  OpenClaim.laidByTextAt_later rfl rfl tie noOwnUnsafe
theorem nestFlattens_row_tie : Rows.nestFlattensRow.laidByTextAt .later Tryd.pinned [.funcs, .data, .data] true :=
  OpenClaim.laidByTextAt_later rfl rfl tie noOwnUnsafe
theorem nestThere_row_tie : Rows.nestThereRow.laidByTextAt .later Tryd.pinned [.funcs, .data, .data] true :=
  OpenClaim.laidByTextAt_later rfl rfl tie noOwnUnsafe
theorem nestContexts_row_tie : Rows.nestContextsRow.laidByTextAt .later Tryd.pinned [.funcs, .data, .data] true :=
  OpenClaim.laidByTextAt_later rfl rfl tie noOwnUnsafe
theorem nestNobody_row_tie : Rows.nestNobodyRow.laidByTextAt .later Tryd.pinned [.funcs, .data, .data] true :=
  OpenClaim.laidByTextAt_later rfl rfl tie noOwnUnsafe
theorem nestParts_row_tie : Rows.nestPartsRow.laidByTextAt .later Tryd.pinned [.funcs, .data, .data] true :=
  OpenClaim.laidByTextAt_later rfl rfl tie noOwnUnsafe
theorem nestKnown_row_tie : Rows.nestKnownRow.laidByTextAt .later Tryd.pinned [.funcs, .data, .data] true :=
  OpenClaim.laidByTextAt_later rfl rfl tie noOwnUnsafe
theorem nestTypesUpto_row_tie : Rows.nestTypesUptoRow.laidByTextAt .later Tryd.pinned [.funcs, .data, .data] true :=
  OpenClaim.laidByTextAt_later rfl rfl tie noOwnUnsafe
theorem nestFlattensUpto_row_tie : Rows.nestFlattensUptoRow.laidByTextAt .later Tryd.pinned [.funcs, .data, .data] true :=
  OpenClaim.laidByTextAt_later rfl rfl tie noOwnUnsafe
theorem nestThereUpto_row_tie : Rows.nestThereUptoRow.laidByTextAt .later Tryd.pinned [.funcs, .data, .data] true :=
  OpenClaim.laidByTextAt_later rfl rfl tie noOwnUnsafe
theorem nestContextsUpto_row_tie : Rows.nestContextsUptoRow.laidByTextAt .later Tryd.pinned [.funcs, .data, .data] true :=
  OpenClaim.laidByTextAt_later rfl rfl tie noOwnUnsafe
theorem nestNobodyUpto_row_tie : Rows.nestNobodyUptoRow.laidByTextAt .later Tryd.pinned [.funcs, .data, .data] true :=
  OpenClaim.laidByTextAt_later rfl rfl tie noOwnUnsafe
theorem nestPartsUpto_row_tie : Rows.nestPartsUptoRow.laidByTextAt .later Tryd.pinned [.funcs, .data, .data] true :=
  OpenClaim.laidByTextAt_later rfl rfl tie noOwnUnsafe
theorem nestKnownUpto_row_tie : Rows.nestKnownUptoRow.laidByTextAt .later Tryd.pinned [.funcs, .data, .data] true :=
  OpenClaim.laidByTextAt_later rfl rfl tie noOwnUnsafe
end Go.Proofs.YtlgehpjbhijknaaDoor
