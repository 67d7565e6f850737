/-
  DERIVED. GIVEN WITH THE SEED: THE CARDS: each row of YtgekciicckknmaaGreatDoorRows.lean that lists a variable, with what it lists TIED to the program's text (the seventh form; the later family's looks); each row that meets fmt, with fmt's text TOLD by the authors' own Lean function (tested against real Go, not proved from fmt's source: count such statements apart). THE CARD IS WHAT COUNTS. Prove the row's statement (the work); the ties are given (YtgekciicckknmaaGreatDoorTie.lean); close each card by the builder's one call (the guide's Derived/Test/ToyasCard.lean, 'card_holds'). Laid BY PROGRAM, IN A SANDBOX (cutbox-door.mjs). By AI agents, Wed Nov 11 2026. No macro, syntax, notation, axiom, sorry.
-/
import Derived.Test.YtgekciicckknmaaGreatDoorRows
import GoSem.ClaimSeven
namespace Go.Proofs.YtgekciicckknmaaGreatDoor
namespace Rows

/-- THE TIED CARD OF 'bowlinelaw28.ObjectChecks'. -/
def objectChecksCard : Claim7 := { stood := { row := objectChecksRow, standIns := [], harness := (true, "26b9fedd0451bf11963c7a0658a4aef2766993ab7c26b6cf6bc60a0e8ad86d52"), looks := false }, kinds := [], alts := [], laidByText := true, laidKinds := [.widerDeep, .funcs], laidTests := true, laidLooks := .later }
def ObjectChecksCardSaid : Prop := Claim7.holds Tryz.pinned (.plain (OpenSpec.ofChange objectChecksSpec)) objectChecksCard

/-- THE TIED CARD OF 'bowlinelaw28.ObjectRenames'. -/
def objectRenamesCard : Claim7 := { stood := { row := objectRenamesRow, standIns := [], harness := (true, "26b9fedd0451bf11963c7a0658a4aef2766993ab7c26b6cf6bc60a0e8ad86d52"), looks := false }, kinds := [], alts := [], laidByText := true, laidKinds := [.widerDeep, .funcs], laidTests := true, laidLooks := .later }
def ObjectRenamesCardSaid : Prop := Claim7.holds Tryz.pinned (.plain (OpenSpec.ofChange objectRenamesSpec)) objectRenamesCard

/-- THE TIED CARD OF 'bowlinelaw28.ObjectFiles'. -/
def objectFilesCard : Claim7 := { stood := { row := objectFilesRow, standIns := [], harness := (true, "26b9fedd0451bf11963c7a0658a4aef2766993ab7c26b6cf6bc60a0e8ad86d52"), looks := false }, kinds := [], alts := [], laidByText := true, laidKinds := [.widerDeep, .funcs], laidTests := true, laidLooks := .later }
def ObjectFilesCardSaid : Prop := Claim7.holds Tryz.pinned (.plain (OpenSpec.ofChange objectFilesSpec)) objectFilesCard

/-- THE TIED CARD OF 'bowlinelaw28.ObjectArchives'. -/
def objectArchivesCard : Claim7 := { stood := { row := objectArchivesRow, standIns := [], harness := (true, "26b9fedd0451bf11963c7a0658a4aef2766993ab7c26b6cf6bc60a0e8ad86d52"), looks := false }, kinds := [], alts := [], laidByText := true, laidKinds := [.widerDeep, .funcs], laidTests := true, laidLooks := .later }
def ObjectArchivesCardSaid : Prop := Claim7.holds Tryz.pinned (.plain (OpenSpec.ofChange objectArchivesSpec)) objectArchivesCard

/-- THE SECOND FORM's CARD OF 'bowlinelaw28.ObjectChecks'. -/
def objectChecksUptoCard : Claim7 := { stood := { row := objectChecksUptoRow, standIns := [], harness := (true, "26b9fedd0451bf11963c7a0658a4aef2766993ab7c26b6cf6bc60a0e8ad86d52"), looks := false }, kinds := [], alts := [], laidByText := true, laidKinds := [.widerDeep, .funcs], laidTests := true, laidLooks := .later }
def ObjectChecksUptoCardSaid : Prop := Claim7.holds Tryz.pinned (.plain (OpenSpec.upto objectChecksSpec)) objectChecksUptoCard

/-- THE SECOND FORM's CARD OF 'bowlinelaw28.ObjectRenames'. -/
def objectRenamesUptoCard : Claim7 := { stood := { row := objectRenamesUptoRow, standIns := [], harness := (true, "26b9fedd0451bf11963c7a0658a4aef2766993ab7c26b6cf6bc60a0e8ad86d52"), looks := false }, kinds := [], alts := [], laidByText := true, laidKinds := [.widerDeep, .funcs], laidTests := true, laidLooks := .later }
def ObjectRenamesUptoCardSaid : Prop := Claim7.holds Tryz.pinned (.plain (OpenSpec.upto objectRenamesSpec)) objectRenamesUptoCard

/-- THE SECOND FORM's CARD OF 'bowlinelaw28.ObjectFiles'. -/
def objectFilesUptoCard : Claim7 := { stood := { row := objectFilesUptoRow, standIns := [], harness := (true, "26b9fedd0451bf11963c7a0658a4aef2766993ab7c26b6cf6bc60a0e8ad86d52"), looks := false }, kinds := [], alts := [], laidByText := true, laidKinds := [.widerDeep, .funcs], laidTests := true, laidLooks := .later }
def ObjectFilesUptoCardSaid : Prop := Claim7.holds Tryz.pinned (.plain (OpenSpec.upto objectFilesSpec)) objectFilesUptoCard

/-- THE SECOND FORM's CARD OF 'bowlinelaw28.ObjectArchives'. -/
def objectArchivesUptoCard : Claim7 := { stood := { row := objectArchivesUptoRow, standIns := [], harness := (true, "26b9fedd0451bf11963c7a0658a4aef2766993ab7c26b6cf6bc60a0e8ad86d52"), looks := false }, kinds := [], alts := [], laidByText := true, laidKinds := [.widerDeep, .funcs], laidTests := true, laidLooks := .later }
def ObjectArchivesUptoCardSaid : Prop := Claim7.holds Tryz.pinned (.plain (OpenSpec.upto objectArchivesSpec)) objectArchivesUptoCard
end Rows
end Go.Proofs.YtgekciicckknmaaGreatDoor
