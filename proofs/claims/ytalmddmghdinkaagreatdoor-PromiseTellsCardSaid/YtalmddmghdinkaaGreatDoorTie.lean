/-
  DERIVED. GIVEN WITH THE SEED: THE PROGRAM's TIES (one call each: nine closed facts by the kernel) AND EACH ROW's TIE, after the 31st guide's Derived/Test/Toyas{Tie, Card}.lean. No idea stands in it: it is a product of the set-up. Laid BY PROGRAM, IN A SANDBOX (cutbox-door.mjs). By AI agents, Wed Nov 11 2026. No macro, syntax, notation, axiom, sorry.
-/
import Derived.Test.YtalmddmghdinkaaGreatDoorRows
import Derived.LaidByTextLater
import Derived.SevenTiedAt
import Derived.LaidSub
import Derived.LaidOnce
namespace Go.Proofs.YtalmddmghdinkaaGreatDoor
open Go
set_option maxRecDepth 100000
theorem seatTie1 : Tryz.prog.laidByTextLater [("gantry/broad.axes", Rows.laid_gantry_broad_axes), ("gantry/rows.makers", Rows.laid_gantry_rows_makers)] [.funcsDeep, .funcs] true :=
  Program.laidByTextLater_by_one 39 8 2 (by kernel_rfl) (by kernel_rfl) (by kernel_rfl) (by kernel_rfl) (by kernel_rfl) (by kernel_rfl) (fun _ _ => by kernel_rfl)
theorem noOwnUnsafe : Tryz.pinned.checked.prog.headLifts.contains "ownunsafe" = false := by kernel_rfl
theorem tie : Tryz.prog.laidByTextLater [("gantry/broad.axes", Rows.laid_gantry_broad_axes), ("gantry/rows.makers", Rows.laid_gantry_rows_makers)] [.funcsDeep, .funcs] true :=
  Program.laidByTextLater.sub seatTie1 ["gantry/broad.axes", "gantry/rows.makers"] (by kernel_rfl) (by kernel_rfl)
theorem promiseTells_row_tie : Rows.promiseTellsRow.laidByTextAt .later Tryz.pinned [.funcsDeep, .funcs] true :=
  OpenClaim.laidByTextAt_later rfl rfl tie noOwnUnsafe
theorem promiseBytes_row_tie : Rows.promiseBytesRow.laidByTextAt .later Tryz.pinned [.funcsDeep, .funcs] true :=
  OpenClaim.laidByTextAt_later rfl rfl tie noOwnUnsafe
theorem promiseTellsUpto_row_tie : Rows.promiseTellsUptoRow.laidByTextAt .later Tryz.pinned [.funcsDeep, .funcs] true :=
  OpenClaim.laidByTextAt_later rfl rfl tie noOwnUnsafe
theorem promiseBytesUpto_row_tie : Rows.promiseBytesUptoRow.laidByTextAt .later Tryz.pinned [.funcsDeep, .funcs] true :=
  OpenClaim.laidByTextAt_later rfl rfl tie noOwnUnsafe
end Go.Proofs.YtalmddmghdinkaaGreatDoor
