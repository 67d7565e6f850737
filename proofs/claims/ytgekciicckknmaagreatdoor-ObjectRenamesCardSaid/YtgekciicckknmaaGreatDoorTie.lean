/-
  DERIVED. GIVEN WITH THE SEED: THE PROGRAM's TIES (one call each: nine closed facts by the kernel) AND EACH ROW's TIE, after the 31st guide's Derived/Test/Toyas{Tie, Card}.lean. No idea stands in it: it is a product of the set-up. Laid BY PROGRAM, IN A SANDBOX (cutbox-door.mjs). By AI agents, Wed Nov 11 2026. No macro, syntax, notation, axiom, sorry.
-/
import Derived.Test.YtgekciicckknmaaGreatDoorRows
import Derived.LaidByTextLater
import Derived.SevenTiedAt
import Derived.LaidSub
import Derived.LaidOnce
namespace Go.Proofs.YtgekciicckknmaaGreatDoor
open Go
set_option maxRecDepth 100000
theorem seatTie1 : Tryz.prog.laidByTextLater [("bowline/object.archiveHead", Rows.laid_bowline_object_archiveHead), ("bowline/object.relocations", Rows.laid_bowline_object_relocations)] [.widerDeep, .funcs] true :=
  Program.laidByTextLater_by_one 22 8 5 (by kernel_rfl) (by kernel_rfl) (by kernel_rfl) (by kernel_rfl) (by kernel_rfl) (by kernel_rfl) (fun _ _ => by kernel_rfl)
theorem noOwnUnsafe : Tryz.pinned.checked.prog.headLifts.contains "ownunsafe" = false := by kernel_rfl
theorem tie : Tryz.prog.laidByTextLater [("bowline/object.archiveHead", Rows.laid_bowline_object_archiveHead), ("bowline/object.relocations", Rows.laid_bowline_object_relocations)] [.widerDeep, .funcs] true :=
  Program.laidByTextLater.sub seatTie1 ["bowline/object.archiveHead", "bowline/object.relocations"] (by kernel_rfl) (by kernel_rfl)
theorem objectChecks_row_tie : Rows.objectChecksRow.laidByTextAt .later Tryz.pinned [.widerDeep, .funcs] true :=
  OpenClaim.laidByTextAt_later rfl rfl tie noOwnUnsafe
theorem objectRenames_row_tie : Rows.objectRenamesRow.laidByTextAt .later Tryz.pinned [.widerDeep, .funcs] true :=
  OpenClaim.laidByTextAt_later rfl rfl tie noOwnUnsafe
theorem objectFiles_row_tie : Rows.objectFilesRow.laidByTextAt .later Tryz.pinned [.widerDeep, .funcs] true :=
  OpenClaim.laidByTextAt_later rfl rfl tie noOwnUnsafe
theorem objectArchives_row_tie : Rows.objectArchivesRow.laidByTextAt .later Tryz.pinned [.widerDeep, .funcs] true :=
  OpenClaim.laidByTextAt_later rfl rfl tie noOwnUnsafe
theorem objectChecksUpto_row_tie : Rows.objectChecksUptoRow.laidByTextAt .later Tryz.pinned [.widerDeep, .funcs] true :=
  OpenClaim.laidByTextAt_later rfl rfl tie noOwnUnsafe
theorem objectRenamesUpto_row_tie : Rows.objectRenamesUptoRow.laidByTextAt .later Tryz.pinned [.widerDeep, .funcs] true :=
  OpenClaim.laidByTextAt_later rfl rfl tie noOwnUnsafe
theorem objectFilesUpto_row_tie : Rows.objectFilesUptoRow.laidByTextAt .later Tryz.pinned [.widerDeep, .funcs] true :=
  OpenClaim.laidByTextAt_later rfl rfl tie noOwnUnsafe
theorem objectArchivesUpto_row_tie : Rows.objectArchivesUptoRow.laidByTextAt .later Tryz.pinned [.widerDeep, .funcs] true :=
  OpenClaim.laidByTextAt_later rfl rfl tie noOwnUnsafe
end Go.Proofs.YtgekciicckknmaaGreatDoor
