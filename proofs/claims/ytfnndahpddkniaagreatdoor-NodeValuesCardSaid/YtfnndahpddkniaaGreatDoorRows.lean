/-
  NARROWER THAN 'FOR EVERY INPUT', by the rows' own cells (each row's printed sentence says how): NodeValues: laid · NodeTells: laid · NodeApart: laid · NodeNames: laid · NodeBack: laid.
  DERIVED. THE GIVEN ROWS OF THIS SEAT. 5 by the template 'for every input the law returns true; each argument reads behind the call as it read before'; 0 by the template 'total and deterministic' (their statements: YtfnndahpddkniaaGreatDoorTotals.lean).
  GIVEN WITH THE SEED: the statements are not yours to turn. If you find one false, say at which input.
  Laid BY PROGRAM, IN A SANDBOX (cutbox-rows.mjs): the forced cells as the released guide's own fill.sh prints them over the translation ed625282cce494dc… (all of the seat's roots in one cut). By AI agents, Wed Nov 11 2026. No macro, syntax, notation, axiom, sorry.
-/
import Derived.Test.YtfnndahpddkniaaGreatDoorChecked
import GoSem.Claim
import GoSem.ClaimJoined
import GoSem.ClaimMapViews
import Derived.JoinedTies
import Derived.KernelRfl
namespace Go.Proofs.YtfnndahpddkniaaGreatDoor
/- THE CELL 'sum', in the pinned program and in every row, IS THE sha256 OF THE DUMP (.gsa) THAT YtfnndahpddkniaaGreatDoorProg.lean LOADS. Nothing in Lean hashes anything: it is a label: what it is worth is what the hold of that sum in a sandbox is worth. -/
noncomputable def Tryz.pinned : Pinned := { name := "ytfnndahpddkniaagreatdoor", sum := "ed625282cce494dc1cbf83eff360108bafbcb974806ed2fa3e708e9800a2a18e", checked := Tryz.checked }
namespace Rows
def none {H : Type} : Left H := { results := [], args := [] }

/- WHAT THE LISTED PACKAGE-LEVEL VARIABLES READ AS WHEN THE CALL BEGINS. Each datum BY PROGRAM (the guide's laid-datum.mjs) off the statement by which the dump's own 'gosem.cut.vars' lays the variable. In a bare row this is a premise. The card (YtfnndahpddkniaaGreatDoorCards.lean) ties it to the program's text. -/
def laid_fescue_shape_table {H : Type} : DataW H := .agg [.agg [.lit (.bool false), .lit (.bool false), .lit (.bool false), .lit (.bool false), .lit (.bool false), .lit (.bool false)], .agg [.lit (.bool false), .lit (.bool false), .lit (.bool true), .lit (.bool false), .lit (.bool false), .lit (.bool true)], .agg [.lit (.bool false), .lit (.bool false), .lit (.bool false), .lit (.bool false), .lit (.bool false), .lit (.bool true)], .agg [.lit (.bool false), .lit (.bool false), .lit (.bool true), .lit (.bool false), .lit (.bool false), .lit (.bool true)], .agg [.lit (.bool true), .lit (.bool true), .lit (.bool false), .lit (.bool false), .lit (.bool false), .lit (.bool true)], .agg [.lit (.bool true), .lit (.bool true), .lit (.bool false), .lit (.bool false), .lit (.bool false), .lit (.bool true)], .agg [.lit (.bool true), .lit (.bool true), .lit (.bool false), .lit (.bool false), .lit (.bool false), .lit (.bool true)], .agg [.lit (.bool true), .lit (.bool true), .lit (.bool false), .lit (.bool false), .lit (.bool false), .lit (.bool true)], .agg [.lit (.bool true), .lit (.bool true), .lit (.bool false), .lit (.bool false), .lit (.bool false), .lit (.bool true)], .agg [.lit (.bool true), .lit (.bool true), .lit (.bool false), .lit (.bool false), .lit (.bool false), .lit (.bool true)], .agg [.lit (.bool true), .lit (.bool true), .lit (.bool false), .lit (.bool false), .lit (.bool false), .lit (.bool true)], .agg [.lit (.bool false), .lit (.bool false), .lit (.bool false), .lit (.bool false), .lit (.bool false), .lit (.bool true)], .agg [.lit (.bool false), .lit (.bool false), .lit (.bool false), .lit (.bool false), .lit (.bool false), .lit (.bool true)], .agg [.lit (.bool true), .lit (.bool false), .lit (.bool false), .lit (.bool false), .lit (.bool false), .lit (.bool false)], .agg [.lit (.bool true), .lit (.bool false), .lit (.bool true), .lit (.bool false), .lit (.bool false), .lit (.bool true)], .agg [.lit (.bool true), .lit (.bool true), .lit (.bool false), .lit (.bool false), .lit (.bool false), .lit (.bool true)], .agg [.lit (.bool true), .lit (.bool false), .lit (.bool false), .lit (.bool false), .lit (.bool false), .lit (.bool true)], .agg [.lit (.bool true), .lit (.bool true), .lit (.bool false), .lit (.bool false), .lit (.bool false), .lit (.bool false)], .agg [.lit (.bool false), .lit (.bool false), .lit (.bool true), .lit (.bool true), .lit (.bool false), .lit (.bool true)], .agg [.lit (.bool true), .lit (.bool false), .lit (.bool false), .lit (.bool true), .lit (.bool false), .lit (.bool true)], .agg [.lit (.bool false), .lit (.bool false), .lit (.bool false), .lit (.bool false), .lit (.bool false), .lit (.bool true)], .agg [.lit (.bool true), .lit (.bool false), .lit (.bool false), .lit (.bool false), .lit (.bool false), .lit (.bool false)], .agg [.lit (.bool false), .lit (.bool false), .lit (.bool false), .lit (.bool true), .lit (.bool true), .lit (.bool true)]]

/-- 'fescuelaw18.NodeValues': WHATEVER THE INPUT: true; the input reads as it did. -/
def nodeValuesSpec : ChangeSpec := { name := "nodeValues", fn := fun _ => fun
  | [d1, d2, d3] => { results := [.lit (.bool true)], args := [d1, d2, d3] }
  | _ => none }
def nodeValuesRow : OpenClaim := { program := "ytfnndahpddkniaagreatdoor", sum := "ed625282cce494dc1cbf83eff360108bafbcb974806ed2fa3e708e9800a2a18e", func := "fescue/fescuelaw18.NodeValues", spec := "nodeValues", inPlace := ["internal/reflectlite.TypeOf"], unfollowed := true, recurses := true, named := ["fescue/shape.table"], apart := false, laid := [("fescue/shape.table", laid_fescue_shape_table)] }
def NodeValuesSaid : Prop := nodeValuesRow.holds Tryz.pinned (OpenSpec.ofChange nodeValuesSpec)

/-- ITS FALSE NEIGHBOUR: 'it returns false'. Refute it at one input. -/
def nodeValuesWrong : ChangeSpec := { name := "nodeValues", fn := fun _ => fun
  | [d1, d2, d3] => { results := [.lit (.bool false)], args := [d1, d2, d3] }
  | _ => none }
def NodeValuesWrongFalsely : Prop := nodeValuesRow.holds Tryz.pinned (OpenSpec.ofChange nodeValuesWrong)

/-- 'fescuelaw18.NodeTells': WHATEVER THE INPUT: true; the input reads as it did. -/
def nodeTellsSpec : ChangeSpec := { name := "nodeTells", fn := fun _ => fun
  | [d1, d2, d3] => { results := [.lit (.bool true)], args := [d1, d2, d3] }
  | _ => none }
def nodeTellsRow : OpenClaim := { program := "ytfnndahpddkniaagreatdoor", sum := "ed625282cce494dc1cbf83eff360108bafbcb974806ed2fa3e708e9800a2a18e", func := "fescue/fescuelaw18.NodeTells", spec := "nodeTells", inPlace := ["internal/reflectlite.TypeOf"], unfollowed := true, recurses := true, named := ["fescue/shape.table"], apart := false, laid := [("fescue/shape.table", laid_fescue_shape_table)] }
def NodeTellsSaid : Prop := nodeTellsRow.holds Tryz.pinned (OpenSpec.ofChange nodeTellsSpec)

/-- ITS FALSE NEIGHBOUR: 'it returns false'. Refute it at one input. -/
def nodeTellsWrong : ChangeSpec := { name := "nodeTells", fn := fun _ => fun
  | [d1, d2, d3] => { results := [.lit (.bool false)], args := [d1, d2, d3] }
  | _ => none }
def NodeTellsWrongFalsely : Prop := nodeTellsRow.holds Tryz.pinned (OpenSpec.ofChange nodeTellsWrong)

/-- 'fescuelaw18.NodeApart': WHATEVER THE INPUT: true; the input reads as it did. -/
def nodeApartSpec : ChangeSpec := { name := "nodeApart", fn := fun _ => fun
  | [d1, d2, d3, d4] => { results := [.lit (.bool true)], args := [d1, d2, d3, d4] }
  | _ => none }
def nodeApartRow : OpenClaim := { program := "ytfnndahpddkniaagreatdoor", sum := "ed625282cce494dc1cbf83eff360108bafbcb974806ed2fa3e708e9800a2a18e", func := "fescue/fescuelaw18.NodeApart", spec := "nodeApart", inPlace := ["internal/reflectlite.TypeOf"], unfollowed := true, recurses := true, named := ["fescue/shape.table"], apart := false, laid := [("fescue/shape.table", laid_fescue_shape_table)] }
def NodeApartSaid : Prop := nodeApartRow.holds Tryz.pinned (OpenSpec.ofChange nodeApartSpec)

/-- ITS FALSE NEIGHBOUR: 'it returns false'. Refute it at one input. -/
def nodeApartWrong : ChangeSpec := { name := "nodeApart", fn := fun _ => fun
  | [d1, d2, d3, d4] => { results := [.lit (.bool false)], args := [d1, d2, d3, d4] }
  | _ => none }
def NodeApartWrongFalsely : Prop := nodeApartRow.holds Tryz.pinned (OpenSpec.ofChange nodeApartWrong)

/-- 'fescuelaw18.NodeNames': WHATEVER THE INPUT: true; the input reads as it did. -/
def nodeNamesSpec : ChangeSpec := { name := "nodeNames", fn := fun _ => fun
  | [] => { results := [.lit (.bool true)], args := [] }
  | _ => none }
def nodeNamesRow : OpenClaim := { program := "ytfnndahpddkniaagreatdoor", sum := "ed625282cce494dc1cbf83eff360108bafbcb974806ed2fa3e708e9800a2a18e", func := "fescue/fescuelaw18.NodeNames", spec := "nodeNames", inPlace := ["internal/reflectlite.TypeOf"], unfollowed := true, recurses := true, named := ["fescue/shape.table"], apart := false, laid := [("fescue/shape.table", laid_fescue_shape_table)] }
def NodeNamesSaid : Prop := nodeNamesRow.holds Tryz.pinned (OpenSpec.ofChange nodeNamesSpec)

/-- ITS FALSE NEIGHBOUR: 'it returns false'. Refute it at one input. -/
def nodeNamesWrong : ChangeSpec := { name := "nodeNames", fn := fun _ => fun
  | [] => { results := [.lit (.bool false)], args := [] }
  | _ => none }
def NodeNamesWrongFalsely : Prop := nodeNamesRow.holds Tryz.pinned (OpenSpec.ofChange nodeNamesWrong)

/-- 'fescuelaw18.NodeBack': WHATEVER THE INPUT: true; the input reads as it did. -/
def nodeBackSpec : ChangeSpec := { name := "nodeBack", fn := fun _ => fun
  | [d1, d2] => { results := [.lit (.bool true)], args := [d1, d2] }
  | _ => none }
def nodeBackRow : OpenClaim := { program := "ytfnndahpddkniaagreatdoor", sum := "ed625282cce494dc1cbf83eff360108bafbcb974806ed2fa3e708e9800a2a18e", func := "fescue/fescuelaw18.NodeBack", spec := "nodeBack", inPlace := ["internal/reflectlite.TypeOf"], unfollowed := true, recurses := true, named := ["fescue/shape.table"], apart := false, laid := [("fescue/shape.table", laid_fescue_shape_table)] }
def NodeBackSaid : Prop := nodeBackRow.holds Tryz.pinned (OpenSpec.ofChange nodeBackSpec)

/-- ITS FALSE NEIGHBOUR: 'it returns false'. Refute it at one input. -/
def nodeBackWrong : ChangeSpec := { name := "nodeBack", fn := fun _ => fun
  | [d1, d2] => { results := [.lit (.bool false)], args := [d1, d2] }
  | _ => none }
def NodeBackWrongFalsely : Prop := nodeBackRow.holds Tryz.pinned (OpenSpec.ofChange nodeBackWrong)

/- THE SECOND FORM. 'bulk': how many values and letters a reading holds, each counted each time it is reached (what is shared counts as often as it is met; a slice's spare places count too). A statement '..UptoSaid' is the law's where the arguments, and the package variables that the reading takes, are together of bulk at most 1048576: NARROWER than '..Said'. Prove '..Said' where nothing that the law and all that it calls make is longer than what came in: it says more and counts as full. Else prove '..UptoSaid'. A law counts once. -/
mutual
def uptoBulk {H : Type} : DataW H → Nat
  | .lit (.string bytes) => bytes.length + 1
  | .lit _ => 1
  | .nil => 1
  | .ptr d => uptoBulk d + 1
  | .slice elems spare => uptoBulkAll elems + uptoBulkAll spare + 1
  | .agg parts => uptoBulkAll parts + 1
  | .iface _ d => uptoBulk d + 1
  | .map entries => uptoBulkEntries entries + 1
  | .held _ => 1
def uptoBulkAll {H : Type} : List (DataW H) → Nat
  | [] => 0
  | d :: r => uptoBulk d + uptoBulkAll r
def uptoBulkEntries {H : Type} : List (Lit × DataW H) → Nat
  | [] => 0
  | x :: r => uptoBulkEntry x + uptoBulkEntries r
def uptoBulkEntry {H : Type} : Lit × DataW H → Nat
  | (.string bytes, d) => bytes.length + uptoBulk d + 1
  | (_, d) => uptoBulk d + 1
 end
def uptoSmall : (H : Type) → List (DataW H) → Bool := fun _ ds => decide (uptoBulkAll ds ≤ 1048576)
def OpenSpec.upto (s : _root_.Go.ChangeSpec) : _root_.Go.OpenSpec := { _root_.Go.OpenSpec.ofChange s with cond := some uptoSmall }

/-- 'fescuelaw18.NodeValues', WHERE WHAT IT READS IS OF BULK AT MOST 1048576: true; the input reads as it did. -/
def nodeValuesUptoRow : OpenClaim := { program := "ytfnndahpddkniaagreatdoor", sum := "ed625282cce494dc1cbf83eff360108bafbcb974806ed2fa3e708e9800a2a18e", func := "fescue/fescuelaw18.NodeValues", spec := "nodeValues", inPlace := ["internal/reflectlite.TypeOf"], unfollowed := true, recurses := true, named := ["fescue/shape.table"], apart := false, laid := [("fescue/shape.table", laid_fescue_shape_table)], narrowed := true }
def NodeValuesUptoSaid : Prop := nodeValuesUptoRow.holds Tryz.pinned (OpenSpec.upto nodeValuesSpec)

/-- 'fescuelaw18.NodeTells', WHERE WHAT IT READS IS OF BULK AT MOST 1048576: true; the input reads as it did. -/
def nodeTellsUptoRow : OpenClaim := { program := "ytfnndahpddkniaagreatdoor", sum := "ed625282cce494dc1cbf83eff360108bafbcb974806ed2fa3e708e9800a2a18e", func := "fescue/fescuelaw18.NodeTells", spec := "nodeTells", inPlace := ["internal/reflectlite.TypeOf"], unfollowed := true, recurses := true, named := ["fescue/shape.table"], apart := false, laid := [("fescue/shape.table", laid_fescue_shape_table)], narrowed := true }
def NodeTellsUptoSaid : Prop := nodeTellsUptoRow.holds Tryz.pinned (OpenSpec.upto nodeTellsSpec)

/-- 'fescuelaw18.NodeApart', WHERE WHAT IT READS IS OF BULK AT MOST 1048576: true; the input reads as it did. -/
def nodeApartUptoRow : OpenClaim := { program := "ytfnndahpddkniaagreatdoor", sum := "ed625282cce494dc1cbf83eff360108bafbcb974806ed2fa3e708e9800a2a18e", func := "fescue/fescuelaw18.NodeApart", spec := "nodeApart", inPlace := ["internal/reflectlite.TypeOf"], unfollowed := true, recurses := true, named := ["fescue/shape.table"], apart := false, laid := [("fescue/shape.table", laid_fescue_shape_table)], narrowed := true }
def NodeApartUptoSaid : Prop := nodeApartUptoRow.holds Tryz.pinned (OpenSpec.upto nodeApartSpec)

/-- 'fescuelaw18.NodeNames', WHERE WHAT IT READS IS OF BULK AT MOST 1048576: true; the input reads as it did. -/
def nodeNamesUptoRow : OpenClaim := { program := "ytfnndahpddkniaagreatdoor", sum := "ed625282cce494dc1cbf83eff360108bafbcb974806ed2fa3e708e9800a2a18e", func := "fescue/fescuelaw18.NodeNames", spec := "nodeNames", inPlace := ["internal/reflectlite.TypeOf"], unfollowed := true, recurses := true, named := ["fescue/shape.table"], apart := false, laid := [("fescue/shape.table", laid_fescue_shape_table)], narrowed := true }
def NodeNamesUptoSaid : Prop := nodeNamesUptoRow.holds Tryz.pinned (OpenSpec.upto nodeNamesSpec)

/-- 'fescuelaw18.NodeBack', WHERE WHAT IT READS IS OF BULK AT MOST 1048576: true; the input reads as it did. -/
def nodeBackUptoRow : OpenClaim := { program := "ytfnndahpddkniaagreatdoor", sum := "ed625282cce494dc1cbf83eff360108bafbcb974806ed2fa3e708e9800a2a18e", func := "fescue/fescuelaw18.NodeBack", spec := "nodeBack", inPlace := ["internal/reflectlite.TypeOf"], unfollowed := true, recurses := true, named := ["fescue/shape.table"], apart := false, laid := [("fescue/shape.table", laid_fescue_shape_table)], narrowed := true }
def NodeBackUptoSaid : Prop := nodeBackUptoRow.holds Tryz.pinned (OpenSpec.upto nodeBackSpec)

end Rows
end Go.Proofs.YtfnndahpddkniaaGreatDoor
