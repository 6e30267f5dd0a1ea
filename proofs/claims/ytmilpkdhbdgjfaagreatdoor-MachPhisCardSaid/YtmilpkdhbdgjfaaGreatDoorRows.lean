/-
  NARROWER THAN 'FOR EVERY INPUT', by the rows' own cells (each row's printed sentence says how): MachNames: laid · MachDoes: laid · MachPhis: laid · MachSets: laid · MachCalls: laid.
  DERIVED. THE GIVEN ROWS OF THIS SEAT. 5 by the template 'for every input the law returns true; each argument reads behind the call as it read before'; 0 by the template 'total and deterministic' (their statements: YtmilpkdhbdgjfaaGreatDoorTotals.lean).
  GIVEN WITH THE SEED: the statements are not yours to turn. If you find one false, say at which input.
  Laid BY PROGRAM, IN A SANDBOX (cutbox-rows.mjs): the forced cells as the released guide's own fill.sh prints them over the translation ca8a5c16d004f667… (all of the seat's roots in one cut). By AI agents, Wed Nov 11 2026. No macro, syntax, notation, axiom, sorry.
-/
import Derived.Test.YtmilpkdhbdgjfaaGreatDoorChecked
import GoSem.Claim
import GoSem.ClaimJoined
import GoSem.ClaimMapViews
import Derived.JoinedTies
import Derived.KernelRfl
namespace Go.Proofs.YtmilpkdhbdgjfaaGreatDoor
/- THE CELL 'sum', in the pinned program and in every row, IS THE sha256 OF THE DUMP (.gsa) THAT YtmilpkdhbdgjfaaGreatDoorProg.lean LOADS. Nothing in Lean hashes anything: it is a label: what it is worth is what the hold of that sum in a sandbox is worth. -/
noncomputable def Tryz.pinned : Pinned := { name := "ytmilpkdhbdgjfaagreatdoor", sum := "ca8a5c16d004f667662c3bd753223972732584accb8d57a6500ddc2dee21d8e4", checked := Tryz.checked }
namespace Rows
def none {H : Type} : Left H := { results := [], args := [] }

/- WHAT THE LISTED PACKAGE-LEVEL VARIABLES READ AS WHEN THE CALL BEGINS. Each datum BY PROGRAM (the guide's laid-datum.mjs) off the statement by which the dump's own 'gosem.cut.vars' lays the variable. In a bare row this is a premise. The card (YtmilpkdhbdgjfaaGreatDoorCards.lean) ties it to the program's text. -/
def laid_fescue_shape_table {H : Type} : DataW H := .agg [.agg [.lit (.bool false), .lit (.bool false), .lit (.bool false), .lit (.bool false), .lit (.bool false), .lit (.bool false)], .agg [.lit (.bool false), .lit (.bool false), .lit (.bool true), .lit (.bool false), .lit (.bool false), .lit (.bool true)], .agg [.lit (.bool false), .lit (.bool false), .lit (.bool false), .lit (.bool false), .lit (.bool false), .lit (.bool true)], .agg [.lit (.bool false), .lit (.bool false), .lit (.bool true), .lit (.bool false), .lit (.bool false), .lit (.bool true)], .agg [.lit (.bool true), .lit (.bool true), .lit (.bool false), .lit (.bool false), .lit (.bool false), .lit (.bool true)], .agg [.lit (.bool true), .lit (.bool true), .lit (.bool false), .lit (.bool false), .lit (.bool false), .lit (.bool true)], .agg [.lit (.bool true), .lit (.bool true), .lit (.bool false), .lit (.bool false), .lit (.bool false), .lit (.bool true)], .agg [.lit (.bool true), .lit (.bool true), .lit (.bool false), .lit (.bool false), .lit (.bool false), .lit (.bool true)], .agg [.lit (.bool true), .lit (.bool true), .lit (.bool false), .lit (.bool false), .lit (.bool false), .lit (.bool true)], .agg [.lit (.bool true), .lit (.bool true), .lit (.bool false), .lit (.bool false), .lit (.bool false), .lit (.bool true)], .agg [.lit (.bool true), .lit (.bool true), .lit (.bool false), .lit (.bool false), .lit (.bool false), .lit (.bool true)], .agg [.lit (.bool false), .lit (.bool false), .lit (.bool false), .lit (.bool false), .lit (.bool false), .lit (.bool true)], .agg [.lit (.bool false), .lit (.bool false), .lit (.bool false), .lit (.bool false), .lit (.bool false), .lit (.bool true)], .agg [.lit (.bool true), .lit (.bool false), .lit (.bool false), .lit (.bool false), .lit (.bool false), .lit (.bool false)], .agg [.lit (.bool true), .lit (.bool false), .lit (.bool true), .lit (.bool false), .lit (.bool false), .lit (.bool true)], .agg [.lit (.bool true), .lit (.bool true), .lit (.bool false), .lit (.bool false), .lit (.bool false), .lit (.bool true)], .agg [.lit (.bool true), .lit (.bool false), .lit (.bool false), .lit (.bool false), .lit (.bool false), .lit (.bool true)], .agg [.lit (.bool true), .lit (.bool true), .lit (.bool false), .lit (.bool false), .lit (.bool false), .lit (.bool false)], .agg [.lit (.bool false), .lit (.bool false), .lit (.bool true), .lit (.bool true), .lit (.bool false), .lit (.bool true)], .agg [.lit (.bool true), .lit (.bool false), .lit (.bool false), .lit (.bool true), .lit (.bool false), .lit (.bool true)], .agg [.lit (.bool false), .lit (.bool false), .lit (.bool false), .lit (.bool false), .lit (.bool false), .lit (.bool true)], .agg [.lit (.bool true), .lit (.bool false), .lit (.bool false), .lit (.bool false), .lit (.bool false), .lit (.bool false)], .agg [.lit (.bool false), .lit (.bool false), .lit (.bool false), .lit (.bool true), .lit (.bool true), .lit (.bool true)]]

/-- 'fescuelaw15.MachNames': WHATEVER THE INPUT: true; the input reads as it did. -/
def machNamesSpec : ChangeSpec := { name := "machNames", fn := fun _ => fun
  | [] => { results := [.lit (.bool true)], args := [] }
  | _ => none }
def machNamesRow : OpenClaim := { program := "ytmilpkdhbdgjfaagreatdoor", sum := "ca8a5c16d004f667662c3bd753223972732584accb8d57a6500ddc2dee21d8e4", func := "fescue/fescuelaw15.MachNames", spec := "machNames", inPlace := ["internal/reflectlite.TypeOf"], unfollowed := true, recurses := true, named := ["fescue/shape.table"], apart := false, laid := [("fescue/shape.table", laid_fescue_shape_table)] }
def MachNamesSaid : Prop := machNamesRow.holds Tryz.pinned (OpenSpec.ofChange machNamesSpec)

/-- ITS FALSE NEIGHBOUR: 'it returns false'. Refute it at one input. -/
def machNamesWrong : ChangeSpec := { name := "machNames", fn := fun _ => fun
  | [] => { results := [.lit (.bool false)], args := [] }
  | _ => none }
def MachNamesWrongFalsely : Prop := machNamesRow.holds Tryz.pinned (OpenSpec.ofChange machNamesWrong)

/-- 'fescuelaw15.MachDoes': WHATEVER THE INPUT: true; the input reads as it did. -/
def machDoesSpec : ChangeSpec := { name := "machDoes", fn := fun _ => fun
  | [d1, d2, d3] => { results := [.lit (.bool true)], args := [d1, d2, d3] }
  | _ => none }
def machDoesRow : OpenClaim := { program := "ytmilpkdhbdgjfaagreatdoor", sum := "ca8a5c16d004f667662c3bd753223972732584accb8d57a6500ddc2dee21d8e4", func := "fescue/fescuelaw15.MachDoes", spec := "machDoes", inPlace := ["internal/reflectlite.TypeOf"], unfollowed := true, recurses := true, named := ["fescue/shape.table"], apart := false, laid := [("fescue/shape.table", laid_fescue_shape_table)] }
def MachDoesSaid : Prop := machDoesRow.holds Tryz.pinned (OpenSpec.ofChange machDoesSpec)

/-- ITS FALSE NEIGHBOUR: 'it returns false'. Refute it at one input. -/
def machDoesWrong : ChangeSpec := { name := "machDoes", fn := fun _ => fun
  | [d1, d2, d3] => { results := [.lit (.bool false)], args := [d1, d2, d3] }
  | _ => none }
def MachDoesWrongFalsely : Prop := machDoesRow.holds Tryz.pinned (OpenSpec.ofChange machDoesWrong)

/-- 'fescuelaw15.MachPhis': WHATEVER THE INPUT: true; the input reads as it did. -/
def machPhisSpec : ChangeSpec := { name := "machPhis", fn := fun _ => fun
  | [d1, d2, d3] => { results := [.lit (.bool true)], args := [d1, d2, d3] }
  | _ => none }
def machPhisRow : OpenClaim := { program := "ytmilpkdhbdgjfaagreatdoor", sum := "ca8a5c16d004f667662c3bd753223972732584accb8d57a6500ddc2dee21d8e4", func := "fescue/fescuelaw15.MachPhis", spec := "machPhis", inPlace := ["internal/reflectlite.TypeOf"], unfollowed := true, recurses := true, named := ["fescue/shape.table"], apart := false, laid := [("fescue/shape.table", laid_fescue_shape_table)] }
def MachPhisSaid : Prop := machPhisRow.holds Tryz.pinned (OpenSpec.ofChange machPhisSpec)

/-- ITS FALSE NEIGHBOUR: 'it returns false'. Refute it at one input. -/
def machPhisWrong : ChangeSpec := { name := "machPhis", fn := fun _ => fun
  | [d1, d2, d3] => { results := [.lit (.bool false)], args := [d1, d2, d3] }
  | _ => none }
def MachPhisWrongFalsely : Prop := machPhisRow.holds Tryz.pinned (OpenSpec.ofChange machPhisWrong)

/-- 'fescuelaw15.MachSets': WHATEVER THE INPUT: true; the input reads as it did. -/
def machSetsSpec : ChangeSpec := { name := "machSets", fn := fun _ => fun
  | [d1, d2, d3, d4] => { results := [.lit (.bool true)], args := [d1, d2, d3, d4] }
  | _ => none }
def machSetsRow : OpenClaim := { program := "ytmilpkdhbdgjfaagreatdoor", sum := "ca8a5c16d004f667662c3bd753223972732584accb8d57a6500ddc2dee21d8e4", func := "fescue/fescuelaw15.MachSets", spec := "machSets", inPlace := ["internal/reflectlite.TypeOf"], unfollowed := true, recurses := true, named := ["fescue/shape.table"], apart := false, laid := [("fescue/shape.table", laid_fescue_shape_table)] }
def MachSetsSaid : Prop := machSetsRow.holds Tryz.pinned (OpenSpec.ofChange machSetsSpec)

/-- ITS FALSE NEIGHBOUR: 'it returns false'. Refute it at one input. -/
def machSetsWrong : ChangeSpec := { name := "machSets", fn := fun _ => fun
  | [d1, d2, d3, d4] => { results := [.lit (.bool false)], args := [d1, d2, d3, d4] }
  | _ => none }
def MachSetsWrongFalsely : Prop := machSetsRow.holds Tryz.pinned (OpenSpec.ofChange machSetsWrong)

/-- 'fescuelaw15.MachCalls': WHATEVER THE INPUT: true; the input reads as it did. -/
def machCallsSpec : ChangeSpec := { name := "machCalls", fn := fun _ => fun
  | [d1, d2, d3, d4] => { results := [.lit (.bool true)], args := [d1, d2, d3, d4] }
  | _ => none }
def machCallsRow : OpenClaim := { program := "ytmilpkdhbdgjfaagreatdoor", sum := "ca8a5c16d004f667662c3bd753223972732584accb8d57a6500ddc2dee21d8e4", func := "fescue/fescuelaw15.MachCalls", spec := "machCalls", inPlace := ["internal/reflectlite.TypeOf"], unfollowed := true, recurses := true, named := ["fescue/shape.table"], apart := false, laid := [("fescue/shape.table", laid_fescue_shape_table)] }
def MachCallsSaid : Prop := machCallsRow.holds Tryz.pinned (OpenSpec.ofChange machCallsSpec)

/-- ITS FALSE NEIGHBOUR: 'it returns false'. Refute it at one input. -/
def machCallsWrong : ChangeSpec := { name := "machCalls", fn := fun _ => fun
  | [d1, d2, d3, d4] => { results := [.lit (.bool false)], args := [d1, d2, d3, d4] }
  | _ => none }
def MachCallsWrongFalsely : Prop := machCallsRow.holds Tryz.pinned (OpenSpec.ofChange machCallsWrong)

/- THE SECOND FORM. 'bulk': how many values and letters a reading holds, each counted each time it is reached (what is shared counts as often as it is met; a slice's spare places count too). A statement '..UptoSaid' is the law's where the arguments, and the package variables that the reading takes, are together of bulk at most 1048576: NARROWER than '..Said'. Prove '..Said' where nothing that the law and all that it calls make is longer than what came in: it says more and counts as full. Else prove '..UptoSaid'. A law counts once. -/
mutual
def uptoBulk {H : Type} : DataW H → Nat
  | .lit (.string bytes) => bytes.length + 1
  | .lit _ => 1
  | .nil => 1
  | .ptr d => uptoBulk d + 1
  | .slice elems spare => uptoBulkAll elems + uptoBulkAll spare + 1
  | .agg parts => uptoBulkAll parts + 1
  | .iface _ d => uptoBulk d + 1
  | .map entries => uptoBulkEntries entries + 1
  | .held _ => 1
def uptoBulkAll {H : Type} : List (DataW H) → Nat
  | [] => 0
  | d :: r => uptoBulk d + uptoBulkAll r
def uptoBulkEntries {H : Type} : List (Lit × DataW H) → Nat
  | [] => 0
  | x :: r => uptoBulkEntry x + uptoBulkEntries r
def uptoBulkEntry {H : Type} : Lit × DataW H → Nat
  | (.string bytes, d) => bytes.length + uptoBulk d + 1
  | (_, d) => uptoBulk d + 1
 end
def uptoSmall : (H : Type) → List (DataW H) → Bool := fun _ ds => decide (uptoBulkAll ds ≤ 1048576)
def OpenSpec.upto (s : _root_.Go.ChangeSpec) : _root_.Go.OpenSpec := { _root_.Go.OpenSpec.ofChange s with cond := some uptoSmall }

/-- 'fescuelaw15.MachNames', WHERE WHAT IT READS IS OF BULK AT MOST 1048576: true; the input reads as it did. -/
def machNamesUptoRow : OpenClaim := { program := "ytmilpkdhbdgjfaagreatdoor", sum := "ca8a5c16d004f667662c3bd753223972732584accb8d57a6500ddc2dee21d8e4", func := "fescue/fescuelaw15.MachNames", spec := "machNames", inPlace := ["internal/reflectlite.TypeOf"], unfollowed := true, recurses := true, named := ["fescue/shape.table"], apart := false, laid := [("fescue/shape.table", laid_fescue_shape_table)], narrowed := true }
def MachNamesUptoSaid : Prop := machNamesUptoRow.holds Tryz.pinned (OpenSpec.upto machNamesSpec)

/-- 'fescuelaw15.MachDoes', WHERE WHAT IT READS IS OF BULK AT MOST 1048576: true; the input reads as it did. -/
def machDoesUptoRow : OpenClaim := { program := "ytmilpkdhbdgjfaagreatdoor", sum := "ca8a5c16d004f667662c3bd753223972732584accb8d57a6500ddc2dee21d8e4", func := "fescue/fescuelaw15.MachDoes", spec := "machDoes", inPlace := ["internal/reflectlite.TypeOf"], unfollowed := true, recurses := true, named := ["fescue/shape.table"], apart := false, laid := [("fescue/shape.table", laid_fescue_shape_table)], narrowed := true }
def MachDoesUptoSaid : Prop := machDoesUptoRow.holds Tryz.pinned (OpenSpec.upto machDoesSpec)

/-- 'fescuelaw15.MachPhis', WHERE WHAT IT READS IS OF BULK AT MOST 1048576: true; the input reads as it did. -/
def machPhisUptoRow : OpenClaim := { program := "ytmilpkdhbdgjfaagreatdoor", sum := "ca8a5c16d004f667662c3bd753223972732584accb8d57a6500ddc2dee21d8e4", func := "fescue/fescuelaw15.MachPhis", spec := "machPhis", inPlace := ["internal/reflectlite.TypeOf"], unfollowed := true, recurses := true, named := ["fescue/shape.table"], apart := false, laid := [("fescue/shape.table", laid_fescue_shape_table)], narrowed := true }
def MachPhisUptoSaid : Prop := machPhisUptoRow.holds Tryz.pinned (OpenSpec.upto machPhisSpec)

/-- 'fescuelaw15.MachSets', WHERE WHAT IT READS IS OF BULK AT MOST 1048576: true; the input reads as it did. -/
def machSetsUptoRow : OpenClaim := { program := "ytmilpkdhbdgjfaagreatdoor", sum := "ca8a5c16d004f667662c3bd753223972732584accb8d57a6500ddc2dee21d8e4", func := "fescue/fescuelaw15.MachSets", spec := "machSets", inPlace := ["internal/reflectlite.TypeOf"], unfollowed := true, recurses := true, named := ["fescue/shape.table"], apart := false, laid := [("fescue/shape.table", laid_fescue_shape_table)], narrowed := true }
def MachSetsUptoSaid : Prop := machSetsUptoRow.holds Tryz.pinned (OpenSpec.upto machSetsSpec)

/-- 'fescuelaw15.MachCalls', WHERE WHAT IT READS IS OF BULK AT MOST 1048576: true; the input reads as it did. -/
def machCallsUptoRow : OpenClaim := { program := "ytmilpkdhbdgjfaagreatdoor", sum := "ca8a5c16d004f667662c3bd753223972732584accb8d57a6500ddc2dee21d8e4", func := "fescue/fescuelaw15.MachCalls", spec := "machCalls", inPlace := ["internal/reflectlite.TypeOf"], unfollowed := true, recurses := true, named := ["fescue/shape.table"], apart := false, laid := [("fescue/shape.table", laid_fescue_shape_table)], narrowed := true }
def MachCallsUptoSaid : Prop := machCallsUptoRow.holds Tryz.pinned (OpenSpec.upto machCallsSpec)

end Rows
end Go.Proofs.YtmilpkdhbdgjfaaGreatDoor
