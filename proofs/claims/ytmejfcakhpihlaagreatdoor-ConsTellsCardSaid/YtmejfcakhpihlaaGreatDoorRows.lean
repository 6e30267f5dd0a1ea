/-
  NARROWER THAN 'FOR EVERY INPUT', by the rows' own cells (each row's printed sentence says how): ConsTells: laid · ConsNames: laid · ConsCount: laid · ConsNodes: laid · ConsPlain: laid.
  DERIVED. THE GIVEN ROWS OF THIS SEAT. 5 by the template 'for every input the law returns true; each argument reads behind the call as it read before'; 0 by the template 'total and deterministic' (their statements: YtmejfcakhpihlaaGreatDoorTotals.lean).
  GIVEN WITH THE SEED: the statements are not yours to turn. If you find one false, say at which input.
  Laid BY PROGRAM, IN A SANDBOX (cutbox-rows.mjs): the forced cells as the released guide's own fill.sh prints them over the translation 89391abeb9fa534f… (all of the seat's roots in one cut). By AI agents, Wed Nov 11 2026. No macro, syntax, notation, axiom, sorry.
-/
import Derived.Test.YtmejfcakhpihlaaGreatDoorChecked
import GoSem.Claim
import GoSem.ClaimJoined
import GoSem.ClaimMapViews
import Derived.JoinedTies
import Derived.KernelRfl
namespace Go.Proofs.YtmejfcakhpihlaaGreatDoor
/- THE CELL 'sum', in the pinned program and in every row, IS THE sha256 OF THE DUMP (.gsa) THAT YtmejfcakhpihlaaGreatDoorProg.lean LOADS. Nothing in Lean hashes anything: it is a label: what it is worth is what the hold of that sum in a sandbox is worth. -/
noncomputable def Tryz.pinned : Pinned := { name := "ytmejfcakhpihlaagreatdoor", sum := "89391abeb9fa534f645354e0eaa12ff61deb3b39eef16477d7558b71b59c0bc2", checked := Tryz.checked }
namespace Rows
def none {H : Type} : Left H := { results := [], args := [] }

/- WHAT THE LISTED PACKAGE-LEVEL VARIABLES READ AS WHEN THE CALL BEGINS. Each datum BY PROGRAM (the guide's laid-datum.mjs) off the statement by which the dump's own 'gosem.cut.vars' lays the variable. In a bare row this is a premise. The card (YtmejfcakhpihlaaGreatDoorCards.lean) ties it to the program's text. -/
def laid_fescue_shape_table {H : Type} : DataW H := .agg [.agg [.lit (.bool false), .lit (.bool false), .lit (.bool false), .lit (.bool false), .lit (.bool false), .lit (.bool false)], .agg [.lit (.bool false), .lit (.bool false), .lit (.bool true), .lit (.bool false), .lit (.bool false), .lit (.bool true)], .agg [.lit (.bool false), .lit (.bool false), .lit (.bool false), .lit (.bool false), .lit (.bool false), .lit (.bool true)], .agg [.lit (.bool false), .lit (.bool false), .lit (.bool true), .lit (.bool false), .lit (.bool false), .lit (.bool true)], .agg [.lit (.bool true), .lit (.bool true), .lit (.bool false), .lit (.bool false), .lit (.bool false), .lit (.bool true)], .agg [.lit (.bool true), .lit (.bool true), .lit (.bool false), .lit (.bool false), .lit (.bool false), .lit (.bool true)], .agg [.lit (.bool true), .lit (.bool true), .lit (.bool false), .lit (.bool false), .lit (.bool false), .lit (.bool true)], .agg [.lit (.bool true), .lit (.bool true), .lit (.bool false), .lit (.bool false), .lit (.bool false), .lit (.bool true)], .agg [.lit (.bool true), .lit (.bool true), .lit (.bool false), .lit (.bool false), .lit (.bool false), .lit (.bool true)], .agg [.lit (.bool true), .lit (.bool true), .lit (.bool false), .lit (.bool false), .lit (.bool false), .lit (.bool true)], .agg [.lit (.bool true), .lit (.bool true), .lit (.bool false), .lit (.bool false), .lit (.bool false), .lit (.bool true)], .agg [.lit (.bool false), .lit (.bool false), .lit (.bool false), .lit (.bool false), .lit (.bool false), .lit (.bool true)], .agg [.lit (.bool false), .lit (.bool false), .lit (.bool false), .lit (.bool false), .lit (.bool false), .lit (.bool true)], .agg [.lit (.bool true), .lit (.bool false), .lit (.bool false), .lit (.bool false), .lit (.bool false), .lit (.bool false)], .agg [.lit (.bool true), .lit (.bool false), .lit (.bool true), .lit (.bool false), .lit (.bool false), .lit (.bool true)], .agg [.lit (.bool true), .lit (.bool true), .lit (.bool false), .lit (.bool false), .lit (.bool false), .lit (.bool true)], .agg [.lit (.bool true), .lit (.bool false), .lit (.bool false), .lit (.bool false), .lit (.bool false), .lit (.bool true)], .agg [.lit (.bool true), .lit (.bool true), .lit (.bool false), .lit (.bool false), .lit (.bool false), .lit (.bool false)], .agg [.lit (.bool false), .lit (.bool false), .lit (.bool true), .lit (.bool true), .lit (.bool false), .lit (.bool true)], .agg [.lit (.bool true), .lit (.bool false), .lit (.bool false), .lit (.bool true), .lit (.bool false), .lit (.bool true)], .agg [.lit (.bool false), .lit (.bool false), .lit (.bool false), .lit (.bool false), .lit (.bool false), .lit (.bool true)], .agg [.lit (.bool true), .lit (.bool false), .lit (.bool false), .lit (.bool false), .lit (.bool false), .lit (.bool false)], .agg [.lit (.bool false), .lit (.bool false), .lit (.bool false), .lit (.bool true), .lit (.bool true), .lit (.bool true)]]

/-- 'fescuelaw19.ConsTells': WHATEVER THE INPUT: true; the input reads as it did. -/
def consTellsSpec : ChangeSpec := { name := "consTells", fn := fun _ => fun
  | [d] => { results := [.lit (.bool true)], args := [d] }
  | _ => none }
def consTellsRow : OpenClaim := { program := "ytmejfcakhpihlaagreatdoor", sum := "89391abeb9fa534f645354e0eaa12ff61deb3b39eef16477d7558b71b59c0bc2", func := "fescue/fescuelaw19.ConsTells", spec := "consTells", inPlace := ["internal/reflectlite.TypeOf"], unfollowed := true, recurses := true, named := ["fescue/shape.table"], apart := false, laid := [("fescue/shape.table", laid_fescue_shape_table)] }
def ConsTellsSaid : Prop := consTellsRow.holds Tryz.pinned (OpenSpec.ofChange consTellsSpec)

/-- ITS FALSE NEIGHBOUR: 'it returns false'. Refute it at one input. -/
def consTellsWrong : ChangeSpec := { name := "consTells", fn := fun _ => fun
  | [d] => { results := [.lit (.bool false)], args := [d] }
  | _ => none }
def ConsTellsWrongFalsely : Prop := consTellsRow.holds Tryz.pinned (OpenSpec.ofChange consTellsWrong)

/-- 'fescuelaw19.ConsNames': WHATEVER THE INPUT: true; the input reads as it did. -/
def consNamesSpec : ChangeSpec := { name := "consNames", fn := fun _ => fun
  | [] => { results := [.lit (.bool true)], args := [] }
  | _ => none }
def consNamesRow : OpenClaim := { program := "ytmejfcakhpihlaagreatdoor", sum := "89391abeb9fa534f645354e0eaa12ff61deb3b39eef16477d7558b71b59c0bc2", func := "fescue/fescuelaw19.ConsNames", spec := "consNames", inPlace := ["internal/reflectlite.TypeOf"], unfollowed := true, recurses := true, named := ["fescue/shape.table"], apart := false, laid := [("fescue/shape.table", laid_fescue_shape_table)] }
def ConsNamesSaid : Prop := consNamesRow.holds Tryz.pinned (OpenSpec.ofChange consNamesSpec)

/-- ITS FALSE NEIGHBOUR: 'it returns false'. Refute it at one input. -/
def consNamesWrong : ChangeSpec := { name := "consNames", fn := fun _ => fun
  | [] => { results := [.lit (.bool false)], args := [] }
  | _ => none }
def ConsNamesWrongFalsely : Prop := consNamesRow.holds Tryz.pinned (OpenSpec.ofChange consNamesWrong)

/-- 'fescuelaw19.ConsCount': WHATEVER THE INPUT: true; the input reads as it did. -/
def consCountSpec : ChangeSpec := { name := "consCount", fn := fun _ => fun
  | [d] => { results := [.lit (.bool true)], args := [d] }
  | _ => none }
def consCountRow : OpenClaim := { program := "ytmejfcakhpihlaagreatdoor", sum := "89391abeb9fa534f645354e0eaa12ff61deb3b39eef16477d7558b71b59c0bc2", func := "fescue/fescuelaw19.ConsCount", spec := "consCount", inPlace := ["internal/reflectlite.TypeOf"], unfollowed := true, recurses := true, named := ["fescue/shape.table"], apart := false, laid := [("fescue/shape.table", laid_fescue_shape_table)] }
def ConsCountSaid : Prop := consCountRow.holds Tryz.pinned (OpenSpec.ofChange consCountSpec)

/-- ITS FALSE NEIGHBOUR: 'it returns false'. Refute it at one input. -/
def consCountWrong : ChangeSpec := { name := "consCount", fn := fun _ => fun
  | [d] => { results := [.lit (.bool false)], args := [d] }
  | _ => none }
def ConsCountWrongFalsely : Prop := consCountRow.holds Tryz.pinned (OpenSpec.ofChange consCountWrong)

/-- 'fescuelaw19.ConsNodes': WHATEVER THE INPUT: true; the input reads as it did. -/
def consNodesSpec : ChangeSpec := { name := "consNodes", fn := fun _ => fun
  | [d1, d2] => { results := [.lit (.bool true)], args := [d1, d2] }
  | _ => none }
def consNodesRow : OpenClaim := { program := "ytmejfcakhpihlaagreatdoor", sum := "89391abeb9fa534f645354e0eaa12ff61deb3b39eef16477d7558b71b59c0bc2", func := "fescue/fescuelaw19.ConsNodes", spec := "consNodes", inPlace := ["internal/reflectlite.TypeOf"], unfollowed := true, recurses := true, named := ["fescue/shape.table"], apart := false, laid := [("fescue/shape.table", laid_fescue_shape_table)] }
def ConsNodesSaid : Prop := consNodesRow.holds Tryz.pinned (OpenSpec.ofChange consNodesSpec)

/-- ITS FALSE NEIGHBOUR: 'it returns false'. Refute it at one input. -/
def consNodesWrong : ChangeSpec := { name := "consNodes", fn := fun _ => fun
  | [d1, d2] => { results := [.lit (.bool false)], args := [d1, d2] }
  | _ => none }
def ConsNodesWrongFalsely : Prop := consNodesRow.holds Tryz.pinned (OpenSpec.ofChange consNodesWrong)

/-- 'fescuelaw19.ConsPlain': WHATEVER THE INPUT: true; the input reads as it did. -/
def consPlainSpec : ChangeSpec := { name := "consPlain", fn := fun _ => fun
  | [d1, d2, d3, d4] => { results := [.lit (.bool true)], args := [d1, d2, d3, d4] }
  | _ => none }
def consPlainRow : OpenClaim := { program := "ytmejfcakhpihlaagreatdoor", sum := "89391abeb9fa534f645354e0eaa12ff61deb3b39eef16477d7558b71b59c0bc2", func := "fescue/fescuelaw19.ConsPlain", spec := "consPlain", inPlace := ["internal/reflectlite.TypeOf"], unfollowed := true, recurses := true, named := ["fescue/shape.table"], apart := false, laid := [("fescue/shape.table", laid_fescue_shape_table)] }
def ConsPlainSaid : Prop := consPlainRow.holds Tryz.pinned (OpenSpec.ofChange consPlainSpec)

/-- ITS FALSE NEIGHBOUR: 'it returns false'. Refute it at one input. -/
def consPlainWrong : ChangeSpec := { name := "consPlain", fn := fun _ => fun
  | [d1, d2, d3, d4] => { results := [.lit (.bool false)], args := [d1, d2, d3, d4] }
  | _ => none }
def ConsPlainWrongFalsely : Prop := consPlainRow.holds Tryz.pinned (OpenSpec.ofChange consPlainWrong)

/- THE SECOND FORM. 'bulk': how many values and letters a reading holds, each counted each time it is reached (what is shared counts as often as it is met; a slice's spare places count too). A statement '..UptoSaid' is the law's where the arguments, and the package variables that the reading takes, are together of bulk at most 1048576: NARROWER than '..Said'. Prove '..Said' where nothing that the law and all that it calls make is longer than what came in: it says more and counts as full. Else prove '..UptoSaid'. A law counts once. -/
mutual
def uptoBulk {H : Type} : DataW H → Nat
  | .lit (.string bytes) => bytes.length + 1
  | .lit _ => 1
  | .nil => 1
  | .ptr d => uptoBulk d + 1
  | .slice elems spare => uptoBulkAll elems + uptoBulkAll spare + 1
  | .agg parts => uptoBulkAll parts + 1
  | .iface _ d => uptoBulk d + 1
  | .map entries => uptoBulkEntries entries + 1
  | .held _ => 1
def uptoBulkAll {H : Type} : List (DataW H) → Nat
  | [] => 0
  | d :: r => uptoBulk d + uptoBulkAll r
def uptoBulkEntries {H : Type} : List (Lit × DataW H) → Nat
  | [] => 0
  | x :: r => uptoBulkEntry x + uptoBulkEntries r
def uptoBulkEntry {H : Type} : Lit × DataW H → Nat
  | (.string bytes, d) => bytes.length + uptoBulk d + 1
  | (_, d) => uptoBulk d + 1
 end
def uptoSmall : (H : Type) → List (DataW H) → Bool := fun _ ds => decide (uptoBulkAll ds ≤ 1048576)
def OpenSpec.upto (s : _root_.Go.ChangeSpec) : _root_.Go.OpenSpec := { _root_.Go.OpenSpec.ofChange s with cond := some uptoSmall }

/-- 'fescuelaw19.ConsTells', WHERE WHAT IT READS IS OF BULK AT MOST 1048576: true; the input reads as it did. -/
def consTellsUptoRow : OpenClaim := { program := "ytmejfcakhpihlaagreatdoor", sum := "89391abeb9fa534f645354e0eaa12ff61deb3b39eef16477d7558b71b59c0bc2", func := "fescue/fescuelaw19.ConsTells", spec := "consTells", inPlace := ["internal/reflectlite.TypeOf"], unfollowed := true, recurses := true, named := ["fescue/shape.table"], apart := false, laid := [("fescue/shape.table", laid_fescue_shape_table)], narrowed := true }
def ConsTellsUptoSaid : Prop := consTellsUptoRow.holds Tryz.pinned (OpenSpec.upto consTellsSpec)

/-- 'fescuelaw19.ConsNames', WHERE WHAT IT READS IS OF BULK AT MOST 1048576: true; the input reads as it did. -/
def consNamesUptoRow : OpenClaim := { program := "ytmejfcakhpihlaagreatdoor", sum := "89391abeb9fa534f645354e0eaa12ff61deb3b39eef16477d7558b71b59c0bc2", func := "fescue/fescuelaw19.ConsNames", spec := "consNames", inPlace := ["internal/reflectlite.TypeOf"], unfollowed := true, recurses := true, named := ["fescue/shape.table"], apart := false, laid := [("fescue/shape.table", laid_fescue_shape_table)], narrowed := true }
def ConsNamesUptoSaid : Prop := consNamesUptoRow.holds Tryz.pinned (OpenSpec.upto consNamesSpec)

/-- 'fescuelaw19.ConsCount', WHERE WHAT IT READS IS OF BULK AT MOST 1048576: true; the input reads as it did. -/
def consCountUptoRow : OpenClaim := { program := "ytmejfcakhpihlaagreatdoor", sum := "89391abeb9fa534f645354e0eaa12ff61deb3b39eef16477d7558b71b59c0bc2", func := "fescue/fescuelaw19.ConsCount", spec := "consCount", inPlace := ["internal/reflectlite.TypeOf"], unfollowed := true, recurses := true, named := ["fescue/shape.table"], apart := false, laid := [("fescue/shape.table", laid_fescue_shape_table)], narrowed := true }
def ConsCountUptoSaid : Prop := consCountUptoRow.holds Tryz.pinned (OpenSpec.upto consCountSpec)

/-- 'fescuelaw19.ConsNodes', WHERE WHAT IT READS IS OF BULK AT MOST 1048576: true; the input reads as it did. -/
def consNodesUptoRow : OpenClaim := { program := "ytmejfcakhpihlaagreatdoor", sum := "89391abeb9fa534f645354e0eaa12ff61deb3b39eef16477d7558b71b59c0bc2", func := "fescue/fescuelaw19.ConsNodes", spec := "consNodes", inPlace := ["internal/reflectlite.TypeOf"], unfollowed := true, recurses := true, named := ["fescue/shape.table"], apart := false, laid := [("fescue/shape.table", laid_fescue_shape_table)], narrowed := true }
def ConsNodesUptoSaid : Prop := consNodesUptoRow.holds Tryz.pinned (OpenSpec.upto consNodesSpec)

/-- 'fescuelaw19.ConsPlain', WHERE WHAT IT READS IS OF BULK AT MOST 1048576: true; the input reads as it did. -/
def consPlainUptoRow : OpenClaim := { program := "ytmejfcakhpihlaagreatdoor", sum := "89391abeb9fa534f645354e0eaa12ff61deb3b39eef16477d7558b71b59c0bc2", func := "fescue/fescuelaw19.ConsPlain", spec := "consPlain", inPlace := ["internal/reflectlite.TypeOf"], unfollowed := true, recurses := true, named := ["fescue/shape.table"], apart := false, laid := [("fescue/shape.table", laid_fescue_shape_table)], narrowed := true }
def ConsPlainUptoSaid : Prop := consPlainUptoRow.holds Tryz.pinned (OpenSpec.upto consPlainSpec)

end Rows
end Go.Proofs.YtmejfcakhpihlaaGreatDoor
