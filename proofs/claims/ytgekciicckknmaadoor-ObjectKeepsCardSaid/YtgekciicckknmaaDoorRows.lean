/-
  NARROWER THAN 'FOR EVERY INPUT', by the rows' own cells (each row's printed sentence says how): ObjectPositions: laid · ObjectKeeps: laid.
  DERIVED. THE GIVEN ROWS OF THIS SEAT. 2 by the template 'for every input the law returns true; each argument reads behind the call as it read before'; 0 by the template 'total and deterministic' (their statements: YtgekciicckknmaaDoorTotals.lean).
  GIVEN WITH THE SEED: the statements are not yours to turn. If you find one false, say at which input.
  Laid BY PROGRAM, IN A SANDBOX (cutbox-rows.mjs): the forced cells as the released guide's own fill.sh prints them over the translation 317a8ca0b1c59c38… (all of the seat's roots in one cut). By AI agents, Wed Nov 11 2026. No macro, syntax, notation, axiom, sorry.
-/
import Derived.Test.YtgekciicckknmaaDoorChecked
import GoSem.Claim
import GoSem.ClaimJoined
import GoSem.ClaimMapViews
import Derived.JoinedTies
import Derived.KernelRfl
namespace Go.Proofs.YtgekciicckknmaaDoor
/- THE CELL 'sum', in the pinned program and in every row, IS THE sha256 OF THE DUMP (.gsa) THAT YtgekciicckknmaaDoorProg.lean LOADS. Nothing in Lean hashes anything: it is a label: what it is worth is what the hold of that sum in a sandbox is worth. -/
noncomputable def Tryd.pinned : Pinned := { name := "ytgekciicckknmaadoor", sum := "317a8ca0b1c59c3823f0ecc10e8619160fee12389d42dd028d79e5741b5330a6", checked := Tryd.checked }
namespace Rows
def none {H : Type} : Left H := { results := [], args := [] }

/- WHAT THE LISTED PACKAGE-LEVEL VARIABLES READ AS WHEN THE CALL BEGINS. Each datum BY PROGRAM (the guide's laid-datum.mjs) off the statement by which the dump's own 'gosem.cut.vars' lays the variable. In a bare row this is a premise. The card (YtgekciicckknmaaDoorCards.lean) ties it to the program's text. -/
def laid_bowline_object_archiveHead {H : Type} : DataW H := .agg [.lit (.int .u8 66), .lit (.int .u8 87), .lit (.int .u8 65), .lit (.int .u8 1)]
def laid_bowline_object_relocations {H : Type} : DataW H := .iface "func table" (.agg [.agg [.iface "func" (.lit (.string [98, 111, 119, 108, 105, 110, 101, 47, 111, 98, 106, 101, 99, 116, 46, 101, 105, 103, 104, 116]))], .agg [.iface "func" (.lit (.string [98, 111, 119, 108, 105, 110, 101, 47, 111, 98, 106, 101, 99, 116, 46, 102, 111, 117, 114]))], .agg [.iface "func" (.lit (.string [98, 111, 119, 108, 105, 110, 101, 47, 111, 98, 106, 101, 99, 116, 46, 101, 105, 103, 104, 116]))]])

/-- 'bowlinelaw28.ObjectPositions': WHATEVER THE INPUT: true; the input reads as it did. -/
def objectPositionsSpec : ChangeSpec := { name := "objectPositions", fn := fun _ => fun
  | [d1, d2] => { results := [.lit (.bool true)], args := [d1, d2] }
  | _ => none }
def objectPositionsRow : OpenClaim := { program := "ytgekciicckknmaadoor", sum := "317a8ca0b1c59c3823f0ecc10e8619160fee12389d42dd028d79e5741b5330a6", func := "bowline/bowlinelaw28.ObjectPositions", spec := "objectPositions", unfollowed := true, recurses := true, named := ["bowline/object.relocations", "bowline/object.archiveHead"], apart := false, laid := [("bowline/object.archiveHead", laid_bowline_object_archiveHead), ("bowline/object.relocations", laid_bowline_object_relocations)] }
def ObjectPositionsSaid : Prop := objectPositionsRow.holds Tryd.pinned (OpenSpec.ofChange objectPositionsSpec)

/-- ITS FALSE NEIGHBOUR: 'it returns false'. Refute it at one input. -/
def objectPositionsWrong : ChangeSpec := { name := "objectPositions", fn := fun _ => fun
  | [d1, d2] => { results := [.lit (.bool false)], args := [d1, d2] }
  | _ => none }
def ObjectPositionsWrongFalsely : Prop := objectPositionsRow.holds Tryd.pinned (OpenSpec.ofChange objectPositionsWrong)

/-- 'bowlinelaw28.ObjectKeeps': WHATEVER THE INPUT: true; the input reads as it did. -/
def objectKeepsSpec : ChangeSpec := { name := "objectKeeps", fn := fun _ => fun
  | [d1, d2, d3] => { results := [.lit (.bool true)], args := [d1, d2, d3] }
  | _ => none }
def objectKeepsRow : OpenClaim := { program := "ytgekciicckknmaadoor", sum := "317a8ca0b1c59c3823f0ecc10e8619160fee12389d42dd028d79e5741b5330a6", func := "bowline/bowlinelaw28.ObjectKeeps", spec := "objectKeeps", unfollowed := true, recurses := true, named := ["bowline/object.relocations", "bowline/object.archiveHead"], apart := false, laid := [("bowline/object.archiveHead", laid_bowline_object_archiveHead), ("bowline/object.relocations", laid_bowline_object_relocations)] }
def ObjectKeepsSaid : Prop := objectKeepsRow.holds Tryd.pinned (OpenSpec.ofChange objectKeepsSpec)

/-- ITS FALSE NEIGHBOUR: 'it returns false'. Refute it at one input. -/
def objectKeepsWrong : ChangeSpec := { name := "objectKeeps", fn := fun _ => fun
  | [d1, d2, d3] => { results := [.lit (.bool false)], args := [d1, d2, d3] }
  | _ => none }
def ObjectKeepsWrongFalsely : Prop := objectKeepsRow.holds Tryd.pinned (OpenSpec.ofChange objectKeepsWrong)

/- THE SECOND FORM. 'bulk': how many values and letters a reading holds, each counted each time it is reached (what is shared counts as often as it is met; a slice's spare places count too). A statement '..UptoSaid' is the law's where the arguments, and the package variables that the reading takes, are together of bulk at most 1048576: NARROWER than '..Said'. Prove '..Said' where nothing that the law and all that it calls make is longer than what came in: it says more and counts as full. Else prove '..UptoSaid'. A law counts once. -/
mutual
def uptoBulk {H : Type} : DataW H → Nat
  | .lit (.string bytes) => bytes.length + 1
  | .lit _ => 1
  | .nil => 1
  | .ptr d => uptoBulk d + 1
  | .slice elems spare => uptoBulkAll elems + uptoBulkAll spare + 1
  | .agg parts => uptoBulkAll parts + 1
  | .iface _ d => uptoBulk d + 1
  | .map entries => uptoBulkEntries entries + 1
  | .held _ => 1
def uptoBulkAll {H : Type} : List (DataW H) → Nat
  | [] => 0
  | d :: r => uptoBulk d + uptoBulkAll r
def uptoBulkEntries {H : Type} : List (Lit × DataW H) → Nat
  | [] => 0
  | x :: r => uptoBulkEntry x + uptoBulkEntries r
def uptoBulkEntry {H : Type} : Lit × DataW H → Nat
  | (.string bytes, d) => bytes.length + uptoBulk d + 1
  | (_, d) => uptoBulk d + 1
 end
def uptoSmall : (H : Type) → List (DataW H) → Bool := fun _ ds => decide (uptoBulkAll ds ≤ 1048576)
def OpenSpec.upto (s : _root_.Go.ChangeSpec) : _root_.Go.OpenSpec := { _root_.Go.OpenSpec.ofChange s with cond := some uptoSmall }

/-- 'bowlinelaw28.ObjectPositions', WHERE WHAT IT READS IS OF BULK AT MOST 1048576: true; the input reads as it did. -/
def objectPositionsUptoRow : OpenClaim := { program := "ytgekciicckknmaadoor", sum := "317a8ca0b1c59c3823f0ecc10e8619160fee12389d42dd028d79e5741b5330a6", func := "bowline/bowlinelaw28.ObjectPositions", spec := "objectPositions", unfollowed := true, recurses := true, named := ["bowline/object.relocations", "bowline/object.archiveHead"], apart := false, laid := [("bowline/object.archiveHead", laid_bowline_object_archiveHead), ("bowline/object.relocations", laid_bowline_object_relocations)], narrowed := true }
def ObjectPositionsUptoSaid : Prop := objectPositionsUptoRow.holds Tryd.pinned (OpenSpec.upto objectPositionsSpec)

/-- 'bowlinelaw28.ObjectKeeps', WHERE WHAT IT READS IS OF BULK AT MOST 1048576: true; the input reads as it did. -/
def objectKeepsUptoRow : OpenClaim := { program := "ytgekciicckknmaadoor", sum := "317a8ca0b1c59c3823f0ecc10e8619160fee12389d42dd028d79e5741b5330a6", func := "bowline/bowlinelaw28.ObjectKeeps", spec := "objectKeeps", unfollowed := true, recurses := true, named := ["bowline/object.relocations", "bowline/object.archiveHead"], apart := false, laid := [("bowline/object.archiveHead", laid_bowline_object_archiveHead), ("bowline/object.relocations", laid_bowline_object_relocations)], narrowed := true }
def ObjectKeepsUptoSaid : Prop := objectKeepsUptoRow.holds Tryd.pinned (OpenSpec.upto objectKeepsSpec)

end Rows
end Go.Proofs.YtgekciicckknmaaDoor
