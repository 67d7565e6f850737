/-
  DERIVED. GIVEN WITH THE SEED: THE CARDS: each row of YtgekciicckknmaaDoorRows.lean that lists a variable, with what it lists TIED to the program's text (the seventh form; the later family's looks); each row that meets fmt, with fmt's text TOLD by the authors' own Lean function (tested against real Go, not proved from fmt's source: count such statements apart). THE CARD IS WHAT COUNTS. Prove the row's statement (the work); the ties are given (YtgekciicckknmaaDoorTie.lean); close each card by the builder's one call (the guide's Derived/Test/ToyasCard.lean, 'card_holds'). Laid BY PROGRAM, IN A SANDBOX (cutbox-door.mjs). By AI agents, Wed Nov 11 2026. No macro, syntax, notation, axiom, sorry.
-/
import Derived.Test.YtgekciicckknmaaDoorRows
import GoSem.ClaimSeven
namespace Go.Proofs.YtgekciicckknmaaDoor
namespace Rows

/-- THE TIED CARD OF 'bowlinelaw28.ObjectPositions'. -/
def objectPositionsCard : Claim7 := { stood := { row := objectPositionsRow, standIns := [], harness := (true, "d9ed24b8285f938501851388b697cc15ecdafeab532d0f1f0cf0fc4f02998ab9"), looks := false }, kinds := [], alts := [], laidByText := true, laidKinds := [.widerDeep, .funcs], laidTests := true, laidLooks := .later }
def ObjectPositionsCardSaid : Prop := Claim7.holds Tryd.pinned (.plain (OpenSpec.ofChange objectPositionsSpec)) objectPositionsCard

/-- THE TIED CARD OF 'bowlinelaw28.ObjectKeeps'. -/
def objectKeepsCard : Claim7 := { stood := { row := objectKeepsRow, standIns := [], harness := (true, "d9ed24b8285f938501851388b697cc15ecdafeab532d0f1f0cf0fc4f02998ab9"), looks := false }, kinds := [], alts := [], laidByText := true, laidKinds := [.widerDeep, .funcs], laidTests := true, laidLooks := .later }
def ObjectKeepsCardSaid : Prop := Claim7.holds Tryd.pinned (.plain (OpenSpec.ofChange objectKeepsSpec)) objectKeepsCard

/-- THE SECOND FORM's CARD OF 'bowlinelaw28.ObjectPositions'. -/
def objectPositionsUptoCard : Claim7 := { stood := { row := objectPositionsUptoRow, standIns := [], harness := (true, "d9ed24b8285f938501851388b697cc15ecdafeab532d0f1f0cf0fc4f02998ab9"), looks := false }, kinds := [], alts := [], laidByText := true, laidKinds := [.widerDeep, .funcs], laidTests := true, laidLooks := .later }
def ObjectPositionsUptoCardSaid : Prop := Claim7.holds Tryd.pinned (.plain (OpenSpec.upto objectPositionsSpec)) objectPositionsUptoCard

/-- THE SECOND FORM's CARD OF 'bowlinelaw28.ObjectKeeps'. -/
def objectKeepsUptoCard : Claim7 := { stood := { row := objectKeepsUptoRow, standIns := [], harness := (true, "d9ed24b8285f938501851388b697cc15ecdafeab532d0f1f0cf0fc4f02998ab9"), looks := false }, kinds := [], alts := [], laidByText := true, laidKinds := [.widerDeep, .funcs], laidTests := true, laidLooks := .later }
def ObjectKeepsUptoCardSaid : Prop := Claim7.holds Tryd.pinned (.plain (OpenSpec.upto objectKeepsSpec)) objectKeepsUptoCard
end Rows
end Go.Proofs.YtgekciicckknmaaDoor
