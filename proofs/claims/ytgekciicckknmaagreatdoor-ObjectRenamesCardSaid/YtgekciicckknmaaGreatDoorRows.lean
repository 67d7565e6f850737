/-
  NARROWER THAN 'FOR EVERY INPUT', by the rows' own cells (each row's printed sentence says how): ObjectChecks: laid · ObjectRenames: laid · ObjectFiles: laid · ObjectArchives: laid.
  DERIVED. THE GIVEN ROWS OF THIS SEAT. 4 by the template 'for every input the law returns true; each argument reads behind the call as it read before'; 0 by the template 'total and deterministic' (their statements: YtgekciicckknmaaGreatDoorTotals.lean).
  GIVEN WITH THE SEED: the statements are not yours to turn. If you find one false, say at which input.
  Laid BY PROGRAM, IN A SANDBOX (cutbox-rows.mjs): the forced cells as the released guide's own fill.sh prints them over the translation 43211477ddc1be18… (all of the seat's roots in one cut). By AI agents, Wed Nov 11 2026. No macro, syntax, notation, axiom, sorry.
-/
import Derived.Test.YtgekciicckknmaaGreatDoorChecked
import GoSem.Claim
import GoSem.ClaimJoined
import GoSem.ClaimMapViews
import Derived.JoinedTies
import Derived.KernelRfl
namespace Go.Proofs.YtgekciicckknmaaGreatDoor
/- THE CELL 'sum', in the pinned program and in every row, IS THE sha256 OF THE DUMP (.gsa) THAT YtgekciicckknmaaGreatDoorProg.lean LOADS. Nothing in Lean hashes anything: it is a label: what it is worth is what the hold of that sum in a sandbox is worth. -/
noncomputable def Tryz.pinned : Pinned := { name := "ytgekciicckknmaagreatdoor", sum := "43211477ddc1be18f81c4cc4eb4aacab5ec9854b00a319c6725981cecdb435f2", checked := Tryz.checked }
namespace Rows
def none {H : Type} : Left H := { results := [], args := [] }

/- WHAT THE LISTED PACKAGE-LEVEL VARIABLES READ AS WHEN THE CALL BEGINS. Each datum BY PROGRAM (the guide's laid-datum.mjs) off the statement by which the dump's own 'gosem.cut.vars' lays the variable. In a bare row this is a premise. The card (YtgekciicckknmaaGreatDoorCards.lean) ties it to the program's text. -/
def laid_bowline_object_archiveHead {H : Type} : DataW H := .agg [.lit (.int .u8 66), .lit (.int .u8 87), .lit (.int .u8 65), .lit (.int .u8 1)]
def laid_bowline_object_relocations {H : Type} : DataW H := .iface "func table" (.agg [.agg [.iface "func" (.lit (.string [98, 111, 119, 108, 105, 110, 101, 47, 111, 98, 106, 101, 99, 116, 46, 101, 105, 103, 104, 116]))], .agg [.iface "func" (.lit (.string [98, 111, 119, 108, 105, 110, 101, 47, 111, 98, 106, 101, 99, 116, 46, 102, 111, 117, 114]))], .agg [.iface "func" (.lit (.string [98, 111, 119, 108, 105, 110, 101, 47, 111, 98, 106, 101, 99, 116, 46, 101, 105, 103, 104, 116]))]])

/-- 'bowlinelaw28.ObjectChecks': WHATEVER THE INPUT: true; the input reads as it did. -/
def objectChecksSpec : ChangeSpec := { name := "objectChecks", fn := fun _ => fun
  | [d] => { results := [.lit (.bool true)], args := [d] }
  | _ => none }
def objectChecksRow : OpenClaim := { program := "ytgekciicckknmaagreatdoor", sum := "43211477ddc1be18f81c4cc4eb4aacab5ec9854b00a319c6725981cecdb435f2", func := "bowline/bowlinelaw28.ObjectChecks", spec := "objectChecks", unfollowed := true, recurses := true, named := ["bowline/object.relocations", "bowline/object.archiveHead"], apart := false, laid := [("bowline/object.archiveHead", laid_bowline_object_archiveHead), ("bowline/object.relocations", laid_bowline_object_relocations)] }
def ObjectChecksSaid : Prop := objectChecksRow.holds Tryz.pinned (OpenSpec.ofChange objectChecksSpec)

/-- ITS FALSE NEIGHBOUR: 'it returns false'. Refute it at one input. -/
def objectChecksWrong : ChangeSpec := { name := "objectChecks", fn := fun _ => fun
  | [d] => { results := [.lit (.bool false)], args := [d] }
  | _ => none }
def ObjectChecksWrongFalsely : Prop := objectChecksRow.holds Tryz.pinned (OpenSpec.ofChange objectChecksWrong)

/-- 'bowlinelaw28.ObjectRenames': WHATEVER THE INPUT: true; the input reads as it did. -/
def objectRenamesSpec : ChangeSpec := { name := "objectRenames", fn := fun _ => fun
  | [d1, d2, d3] => { results := [.lit (.bool true)], args := [d1, d2, d3] }
  | _ => none }
def objectRenamesRow : OpenClaim := { program := "ytgekciicckknmaagreatdoor", sum := "43211477ddc1be18f81c4cc4eb4aacab5ec9854b00a319c6725981cecdb435f2", func := "bowline/bowlinelaw28.ObjectRenames", spec := "objectRenames", unfollowed := true, recurses := true, named := ["bowline/object.relocations", "bowline/object.archiveHead"], apart := false, laid := [("bowline/object.archiveHead", laid_bowline_object_archiveHead), ("bowline/object.relocations", laid_bowline_object_relocations)] }
def ObjectRenamesSaid : Prop := objectRenamesRow.holds Tryz.pinned (OpenSpec.ofChange objectRenamesSpec)

/-- ITS FALSE NEIGHBOUR: 'it returns false'. Refute it at one input. -/
def objectRenamesWrong : ChangeSpec := { name := "objectRenames", fn := fun _ => fun
  | [d1, d2, d3] => { results := [.lit (.bool false)], args := [d1, d2, d3] }
  | _ => none }
def ObjectRenamesWrongFalsely : Prop := objectRenamesRow.holds Tryz.pinned (OpenSpec.ofChange objectRenamesWrong)

/-- 'bowlinelaw28.ObjectFiles': WHATEVER THE INPUT: true; the input reads as it did. -/
def objectFilesSpec : ChangeSpec := { name := "objectFiles", fn := fun _ => fun
  | [d1, d2] => { results := [.lit (.bool true)], args := [d1, d2] }
  | _ => none }
def objectFilesRow : OpenClaim := { program := "ytgekciicckknmaagreatdoor", sum := "43211477ddc1be18f81c4cc4eb4aacab5ec9854b00a319c6725981cecdb435f2", func := "bowline/bowlinelaw28.ObjectFiles", spec := "objectFiles", unfollowed := true, recurses := true, named := ["bowline/object.relocations", "bowline/object.archiveHead"], apart := false, laid := [("bowline/object.archiveHead", laid_bowline_object_archiveHead), ("bowline/object.relocations", laid_bowline_object_relocations)] }
def ObjectFilesSaid : Prop := objectFilesRow.holds Tryz.pinned (OpenSpec.ofChange objectFilesSpec)

/-- ITS FALSE NEIGHBOUR: 'it returns false'. Refute it at one input. -/
def objectFilesWrong : ChangeSpec := { name := "objectFiles", fn := fun _ => fun
  | [d1, d2] => { results := [.lit (.bool false)], args := [d1, d2] }
  | _ => none }
def ObjectFilesWrongFalsely : Prop := objectFilesRow.holds Tryz.pinned (OpenSpec.ofChange objectFilesWrong)

/-- 'bowlinelaw28.ObjectArchives': WHATEVER THE INPUT: true; the input reads as it did. -/
def objectArchivesSpec : ChangeSpec := { name := "objectArchives", fn := fun _ => fun
  | [d1, d2, d3] => { results := [.lit (.bool true)], args := [d1, d2, d3] }
  | _ => none }
def objectArchivesRow : OpenClaim := { program := "ytgekciicckknmaagreatdoor", sum := "43211477ddc1be18f81c4cc4eb4aacab5ec9854b00a319c6725981cecdb435f2", func := "bowline/bowlinelaw28.ObjectArchives", spec := "objectArchives", unfollowed := true, recurses := true, named := ["bowline/object.relocations", "bowline/object.archiveHead"], apart := false, laid := [("bowline/object.archiveHead", laid_bowline_object_archiveHead), ("bowline/object.relocations", laid_bowline_object_relocations)] }
def ObjectArchivesSaid : Prop := objectArchivesRow.holds Tryz.pinned (OpenSpec.ofChange objectArchivesSpec)

/-- ITS FALSE NEIGHBOUR: 'it returns false'. Refute it at one input. -/
def objectArchivesWrong : ChangeSpec := { name := "objectArchives", fn := fun _ => fun
  | [d1, d2, d3] => { results := [.lit (.bool false)], args := [d1, d2, d3] }
  | _ => none }
def ObjectArchivesWrongFalsely : Prop := objectArchivesRow.holds Tryz.pinned (OpenSpec.ofChange objectArchivesWrong)

/- THE SECOND FORM. 'bulk': how many values and letters a reading holds, each counted each time it is reached (what is shared counts as often as it is met; a slice's spare places count too). A statement '..UptoSaid' is the law's where the arguments, and the package variables that the reading takes, are together of bulk at most 1048576: NARROWER than '..Said'. Prove '..Said' where nothing that the law and all that it calls make is longer than what came in: it says more and counts as full. Else prove '..UptoSaid'. A law counts once. -/
mutual
def uptoBulk {H : Type} : DataW H → Nat
  | .lit (.string bytes) => bytes.length + 1
  | .lit _ => 1
  | .nil => 1
  | .ptr d => uptoBulk d + 1
  | .slice elems spare => uptoBulkAll elems + uptoBulkAll spare + 1
  | .agg parts => uptoBulkAll parts + 1
  | .iface _ d => uptoBulk d + 1
  | .map entries => uptoBulkEntries entries + 1
  | .held _ => 1
def uptoBulkAll {H : Type} : List (DataW H) → Nat
  | [] => 0
  | d :: r => uptoBulk d + uptoBulkAll r
def uptoBulkEntries {H : Type} : List (Lit × DataW H) → Nat
  | [] => 0
  | x :: r => uptoBulkEntry x + uptoBulkEntries r
def uptoBulkEntry {H : Type} : Lit × DataW H → Nat
  | (.string bytes, d) => bytes.length + uptoBulk d + 1
  | (_, d) => uptoBulk d + 1
 end
def uptoSmall : (H : Type) → List (DataW H) → Bool := fun _ ds => decide (uptoBulkAll ds ≤ 1048576)
def OpenSpec.upto (s : _root_.Go.ChangeSpec) : _root_.Go.OpenSpec := { _root_.Go.OpenSpec.ofChange s with cond := some uptoSmall }

/-- 'bowlinelaw28.ObjectChecks', WHERE WHAT IT READS IS OF BULK AT MOST 1048576: true; the input reads as it did. -/
def objectChecksUptoRow : OpenClaim := { program := "ytgekciicckknmaagreatdoor", sum := "43211477ddc1be18f81c4cc4eb4aacab5ec9854b00a319c6725981cecdb435f2", func := "bowline/bowlinelaw28.ObjectChecks", spec := "objectChecks", unfollowed := true, recurses := true, named := ["bowline/object.relocations", "bowline/object.archiveHead"], apart := false, laid := [("bowline/object.archiveHead", laid_bowline_object_archiveHead), ("bowline/object.relocations", laid_bowline_object_relocations)], narrowed := true }
def ObjectChecksUptoSaid : Prop := objectChecksUptoRow.holds Tryz.pinned (OpenSpec.upto objectChecksSpec)

/-- 'bowlinelaw28.ObjectRenames', WHERE WHAT IT READS IS OF BULK AT MOST 1048576: true; the input reads as it did. -/
def objectRenamesUptoRow : OpenClaim := { program := "ytgekciicckknmaagreatdoor", sum := "43211477ddc1be18f81c4cc4eb4aacab5ec9854b00a319c6725981cecdb435f2", func := "bowline/bowlinelaw28.ObjectRenames", spec := "objectRenames", unfollowed := true, recurses := true, named := ["bowline/object.relocations", "bowline/object.archiveHead"], apart := false, laid := [("bowline/object.archiveHead", laid_bowline_object_archiveHead), ("bowline/object.relocations", laid_bowline_object_relocations)], narrowed := true }
def ObjectRenamesUptoSaid : Prop := objectRenamesUptoRow.holds Tryz.pinned (OpenSpec.upto objectRenamesSpec)

/-- 'bowlinelaw28.ObjectFiles', WHERE WHAT IT READS IS OF BULK AT MOST 1048576: true; the input reads as it did. -/
def objectFilesUptoRow : OpenClaim := { program := "ytgekciicckknmaagreatdoor", sum := "43211477ddc1be18f81c4cc4eb4aacab5ec9854b00a319c6725981cecdb435f2", func := "bowline/bowlinelaw28.ObjectFiles", spec := "objectFiles", unfollowed := true, recurses := true, named := ["bowline/object.relocations", "bowline/object.archiveHead"], apart := false, laid := [("bowline/object.archiveHead", laid_bowline_object_archiveHead), ("bowline/object.relocations", laid_bowline_object_relocations)], narrowed := true }
def ObjectFilesUptoSaid : Prop := objectFilesUptoRow.holds Tryz.pinned (OpenSpec.upto objectFilesSpec)

/-- 'bowlinelaw28.ObjectArchives', WHERE WHAT IT READS IS OF BULK AT MOST 1048576: true; the input reads as it did. -/
def objectArchivesUptoRow : OpenClaim := { program := "ytgekciicckknmaagreatdoor", sum := "43211477ddc1be18f81c4cc4eb4aacab5ec9854b00a319c6725981cecdb435f2", func := "bowline/bowlinelaw28.ObjectArchives", spec := "objectArchives", unfollowed := true, recurses := true, named := ["bowline/object.relocations", "bowline/object.archiveHead"], apart := false, laid := [("bowline/object.archiveHead", laid_bowline_object_archiveHead), ("bowline/object.relocations", laid_bowline_object_relocations)], narrowed := true }
def ObjectArchivesUptoSaid : Prop := objectArchivesUptoRow.holds Tryz.pinned (OpenSpec.upto objectArchivesSpec)

end Rows
end Go.Proofs.YtgekciicckknmaaGreatDoor
