/-
  NARROWER THAN 'FOR EVERY INPUT', by the rows' own cells (each row's printed sentence says how): LeastAsks: laid · LeastTells: laid · LeastNames: laid · LeastAmong: laid · LeastNull: laid.
  DERIVED. THE GIVEN ROWS OF THIS SEAT. 5 by the template 'for every input the law returns true; each argument reads behind the call as it read before'; 0 by the template 'total and deterministic' (their statements: YtndffgfnndoifaaGreatDoorTotals.lean).
  GIVEN WITH THE SEED: the statements are not yours to turn. If you find one false, say at which input.
  Laid BY PROGRAM, IN A SANDBOX (cutbox-rows.mjs): the forced cells as the released guide's own fill.sh prints them over the translation d3374b4e604ff388… (all of the seat's roots in one cut). By AI agents, Wed Nov 11 2026. No macro, syntax, notation, axiom, sorry.
-/
import Derived.Test.YtndffgfnndoifaaGreatDoorChecked
import GoSem.Claim
import GoSem.ClaimJoined
import GoSem.ClaimMapViews
import Derived.JoinedTies
import Derived.KernelRfl
namespace Go.Proofs.YtndffgfnndoifaaGreatDoor
/- THE CELL 'sum', in the pinned program and in every row, IS THE sha256 OF THE DUMP (.gsa) THAT YtndffgfnndoifaaGreatDoorProg.lean LOADS. Nothing in Lean hashes anything: it is a label: what it is worth is what the hold of that sum in a sandbox is worth. -/
noncomputable def Tryz.pinned : Pinned := { name := "ytndffgfnndoifaagreatdoor", sum := "d3374b4e604ff3883df77e168acdabbb1586b296961a175f6bc46b66983468d0", checked := Tryz.checked }
namespace Rows
def none {H : Type} : Left H := { results := [], args := [] }

/- WHAT THE LISTED PACKAGE-LEVEL VARIABLES READ AS WHEN THE CALL BEGINS. Each datum BY PROGRAM (the guide's laid-datum.mjs) off the statement by which the dump's own 'gosem.cut.vars' lays the variable. In a bare row this is a premise. The card (YtndffgfnndoifaaGreatDoorCards.lean) ties it to the program's text. -/
def laid_math_bits_deBruijn64tab {H : Type} : DataW H := .agg [.lit (.int .u8 0), .lit (.int .u8 1), .lit (.int .u8 56), .lit (.int .u8 2), .lit (.int .u8 57), .lit (.int .u8 49), .lit (.int .u8 28), .lit (.int .u8 3), .lit (.int .u8 61), .lit (.int .u8 58), .lit (.int .u8 42), .lit (.int .u8 50), .lit (.int .u8 38), .lit (.int .u8 29), .lit (.int .u8 17), .lit (.int .u8 4), .lit (.int .u8 62), .lit (.int .u8 47), .lit (.int .u8 59), .lit (.int .u8 36), .lit (.int .u8 45), .lit (.int .u8 43), .lit (.int .u8 51), .lit (.int .u8 22), .lit (.int .u8 53), .lit (.int .u8 39), .lit (.int .u8 33), .lit (.int .u8 30), .lit (.int .u8 24), .lit (.int .u8 18), .lit (.int .u8 12), .lit (.int .u8 5), .lit (.int .u8 63), .lit (.int .u8 55), .lit (.int .u8 48), .lit (.int .u8 27), .lit (.int .u8 60), .lit (.int .u8 41), .lit (.int .u8 37), .lit (.int .u8 16), .lit (.int .u8 46), .lit (.int .u8 35), .lit (.int .u8 44), .lit (.int .u8 21), .lit (.int .u8 52), .lit (.int .u8 32), .lit (.int .u8 23), .lit (.int .u8 11), .lit (.int .u8 54), .lit (.int .u8 26), .lit (.int .u8 40), .lit (.int .u8 15), .lit (.int .u8 34), .lit (.int .u8 20), .lit (.int .u8 31), .lit (.int .u8 10), .lit (.int .u8 25), .lit (.int .u8 14), .lit (.int .u8 19), .lit (.int .u8 9), .lit (.int .u8 13), .lit (.int .u8 8), .lit (.int .u8 7), .lit (.int .u8 6)]
def laid_fescue_shape_table {H : Type} : DataW H := .agg [.agg [.lit (.bool false), .lit (.bool false), .lit (.bool false), .lit (.bool false), .lit (.bool false), .lit (.bool false)], .agg [.lit (.bool false), .lit (.bool false), .lit (.bool true), .lit (.bool false), .lit (.bool false), .lit (.bool true)], .agg [.lit (.bool false), .lit (.bool false), .lit (.bool false), .lit (.bool false), .lit (.bool false), .lit (.bool true)], .agg [.lit (.bool false), .lit (.bool false), .lit (.bool true), .lit (.bool false), .lit (.bool false), .lit (.bool true)], .agg [.lit (.bool true), .lit (.bool true), .lit (.bool false), .lit (.bool false), .lit (.bool false), .lit (.bool true)], .agg [.lit (.bool true), .lit (.bool true), .lit (.bool false), .lit (.bool false), .lit (.bool false), .lit (.bool true)], .agg [.lit (.bool true), .lit (.bool true), .lit (.bool false), .lit (.bool false), .lit (.bool false), .lit (.bool true)], .agg [.lit (.bool true), .lit (.bool true), .lit (.bool false), .lit (.bool false), .lit (.bool false), .lit (.bool true)], .agg [.lit (.bool true), .lit (.bool true), .lit (.bool false), .lit (.bool false), .lit (.bool false), .lit (.bool true)], .agg [.lit (.bool true), .lit (.bool true), .lit (.bool false), .lit (.bool false), .lit (.bool false), .lit (.bool true)], .agg [.lit (.bool true), .lit (.bool true), .lit (.bool false), .lit (.bool false), .lit (.bool false), .lit (.bool true)], .agg [.lit (.bool false), .lit (.bool false), .lit (.bool false), .lit (.bool false), .lit (.bool false), .lit (.bool true)], .agg [.lit (.bool false), .lit (.bool false), .lit (.bool false), .lit (.bool false), .lit (.bool false), .lit (.bool true)], .agg [.lit (.bool true), .lit (.bool false), .lit (.bool false), .lit (.bool false), .lit (.bool false), .lit (.bool false)], .agg [.lit (.bool true), .lit (.bool false), .lit (.bool true), .lit (.bool false), .lit (.bool false), .lit (.bool true)], .agg [.lit (.bool true), .lit (.bool true), .lit (.bool false), .lit (.bool false), .lit (.bool false), .lit (.bool true)], .agg [.lit (.bool true), .lit (.bool false), .lit (.bool false), .lit (.bool false), .lit (.bool false), .lit (.bool true)], .agg [.lit (.bool true), .lit (.bool true), .lit (.bool false), .lit (.bool false), .lit (.bool false), .lit (.bool false)], .agg [.lit (.bool false), .lit (.bool false), .lit (.bool true), .lit (.bool true), .lit (.bool false), .lit (.bool true)], .agg [.lit (.bool true), .lit (.bool false), .lit (.bool false), .lit (.bool true), .lit (.bool false), .lit (.bool true)], .agg [.lit (.bool false), .lit (.bool false), .lit (.bool false), .lit (.bool false), .lit (.bool false), .lit (.bool true)], .agg [.lit (.bool true), .lit (.bool false), .lit (.bool false), .lit (.bool false), .lit (.bool false), .lit (.bool false)], .agg [.lit (.bool false), .lit (.bool false), .lit (.bool false), .lit (.bool true), .lit (.bool true), .lit (.bool true)]]

/-- 'fescuelaw20.LeastAsks': WHATEVER THE INPUT: true; the input reads as it did. -/
def leastAsksSpec : ChangeSpec := { name := "leastAsks", fn := fun _ => fun
  | [d1, d2, d3, d4] => { results := [.lit (.bool true)], args := [d1, d2, d3, d4] }
  | _ => none }
def leastAsksRow : OpenClaim := { program := "ytndffgfnndoifaagreatdoor", sum := "d3374b4e604ff3883df77e168acdabbb1586b296961a175f6bc46b66983468d0", func := "fescue/fescuelaw20.LeastAsks", spec := "leastAsks", inPlace := ["internal/reflectlite.TypeOf"], unfollowed := true, recurses := true, named := ["fescue/shape.table", "math/bits.deBruijn64tab"], apart := false, laid := [("math/bits.deBruijn64tab", laid_math_bits_deBruijn64tab), ("fescue/shape.table", laid_fescue_shape_table)] }
def LeastAsksSaid : Prop := leastAsksRow.holds Tryz.pinned (OpenSpec.ofChange leastAsksSpec)

/-- ITS FALSE NEIGHBOUR: 'it returns false'. Refute it at one input. -/
def leastAsksWrong : ChangeSpec := { name := "leastAsks", fn := fun _ => fun
  | [d1, d2, d3, d4] => { results := [.lit (.bool false)], args := [d1, d2, d3, d4] }
  | _ => none }
def LeastAsksWrongFalsely : Prop := leastAsksRow.holds Tryz.pinned (OpenSpec.ofChange leastAsksWrong)

/-- 'fescuelaw20.LeastTells': WHATEVER THE INPUT: true; the input reads as it did. -/
def leastTellsSpec : ChangeSpec := { name := "leastTells", fn := fun _ => fun
  | [d] => { results := [.lit (.bool true)], args := [d] }
  | _ => none }
def leastTellsRow : OpenClaim := { program := "ytndffgfnndoifaagreatdoor", sum := "d3374b4e604ff3883df77e168acdabbb1586b296961a175f6bc46b66983468d0", func := "fescue/fescuelaw20.LeastTells", spec := "leastTells", inPlace := ["internal/reflectlite.TypeOf"], unfollowed := true, recurses := true, named := ["fescue/shape.table", "math/bits.deBruijn64tab"], apart := false, laid := [("math/bits.deBruijn64tab", laid_math_bits_deBruijn64tab), ("fescue/shape.table", laid_fescue_shape_table)] }
def LeastTellsSaid : Prop := leastTellsRow.holds Tryz.pinned (OpenSpec.ofChange leastTellsSpec)

/-- ITS FALSE NEIGHBOUR: 'it returns false'. Refute it at one input. -/
def leastTellsWrong : ChangeSpec := { name := "leastTells", fn := fun _ => fun
  | [d] => { results := [.lit (.bool false)], args := [d] }
  | _ => none }
def LeastTellsWrongFalsely : Prop := leastTellsRow.holds Tryz.pinned (OpenSpec.ofChange leastTellsWrong)

/-- 'fescuelaw20.LeastNames': WHATEVER THE INPUT: true; the input reads as it did. -/
def leastNamesSpec : ChangeSpec := { name := "leastNames", fn := fun _ => fun
  | [] => { results := [.lit (.bool true)], args := [] }
  | _ => none }
def leastNamesRow : OpenClaim := { program := "ytndffgfnndoifaagreatdoor", sum := "d3374b4e604ff3883df77e168acdabbb1586b296961a175f6bc46b66983468d0", func := "fescue/fescuelaw20.LeastNames", spec := "leastNames", inPlace := ["internal/reflectlite.TypeOf"], unfollowed := true, recurses := true, named := ["fescue/shape.table", "math/bits.deBruijn64tab"], apart := false, laid := [("math/bits.deBruijn64tab", laid_math_bits_deBruijn64tab), ("fescue/shape.table", laid_fescue_shape_table)] }
def LeastNamesSaid : Prop := leastNamesRow.holds Tryz.pinned (OpenSpec.ofChange leastNamesSpec)

/-- ITS FALSE NEIGHBOUR: 'it returns false'. Refute it at one input. -/
def leastNamesWrong : ChangeSpec := { name := "leastNames", fn := fun _ => fun
  | [] => { results := [.lit (.bool false)], args := [] }
  | _ => none }
def LeastNamesWrongFalsely : Prop := leastNamesRow.holds Tryz.pinned (OpenSpec.ofChange leastNamesWrong)

/-- 'fescuelaw20.LeastAmong': WHATEVER THE INPUT: true; the input reads as it did. -/
def leastAmongSpec : ChangeSpec := { name := "leastAmong", fn := fun _ => fun
  | [d1, d2] => { results := [.lit (.bool true)], args := [d1, d2] }
  | _ => none }
def leastAmongRow : OpenClaim := { program := "ytndffgfnndoifaagreatdoor", sum := "d3374b4e604ff3883df77e168acdabbb1586b296961a175f6bc46b66983468d0", func := "fescue/fescuelaw20.LeastAmong", spec := "leastAmong", inPlace := ["internal/reflectlite.TypeOf"], unfollowed := true, recurses := true, named := ["fescue/shape.table", "math/bits.deBruijn64tab"], apart := false, laid := [("math/bits.deBruijn64tab", laid_math_bits_deBruijn64tab), ("fescue/shape.table", laid_fescue_shape_table)] }
def LeastAmongSaid : Prop := leastAmongRow.holds Tryz.pinned (OpenSpec.ofChange leastAmongSpec)

/-- ITS FALSE NEIGHBOUR: 'it returns false'. Refute it at one input. -/
def leastAmongWrong : ChangeSpec := { name := "leastAmong", fn := fun _ => fun
  | [d1, d2] => { results := [.lit (.bool false)], args := [d1, d2] }
  | _ => none }
def LeastAmongWrongFalsely : Prop := leastAmongRow.holds Tryz.pinned (OpenSpec.ofChange leastAmongWrong)

/-- 'fescuelaw20.LeastNull': WHATEVER THE INPUT: true; the input reads as it did. -/
def leastNullSpec : ChangeSpec := { name := "leastNull", fn := fun _ => fun
  | [d1, d2, d3] => { results := [.lit (.bool true)], args := [d1, d2, d3] }
  | _ => none }
def leastNullRow : OpenClaim := { program := "ytndffgfnndoifaagreatdoor", sum := "d3374b4e604ff3883df77e168acdabbb1586b296961a175f6bc46b66983468d0", func := "fescue/fescuelaw20.LeastNull", spec := "leastNull", inPlace := ["internal/reflectlite.TypeOf"], unfollowed := true, recurses := true, named := ["fescue/shape.table", "math/bits.deBruijn64tab"], apart := false, laid := [("math/bits.deBruijn64tab", laid_math_bits_deBruijn64tab), ("fescue/shape.table", laid_fescue_shape_table)] }
def LeastNullSaid : Prop := leastNullRow.holds Tryz.pinned (OpenSpec.ofChange leastNullSpec)

/-- ITS FALSE NEIGHBOUR: 'it returns false'. Refute it at one input. -/
def leastNullWrong : ChangeSpec := { name := "leastNull", fn := fun _ => fun
  | [d1, d2, d3] => { results := [.lit (.bool false)], args := [d1, d2, d3] }
  | _ => none }
def LeastNullWrongFalsely : Prop := leastNullRow.holds Tryz.pinned (OpenSpec.ofChange leastNullWrong)

/- THE SECOND FORM. 'bulk': how many values and letters a reading holds, each counted each time it is reached (what is shared counts as often as it is met; a slice's spare places count too). A statement '..UptoSaid' is the law's where the arguments, and the package variables that the reading takes, are together of bulk at most 1048576: NARROWER than '..Said'. Prove '..Said' where nothing that the law and all that it calls make is longer than what came in: it says more and counts as full. Else prove '..UptoSaid'. A law counts once. -/
mutual
def uptoBulk {H : Type} : DataW H → Nat
  | .lit (.string bytes) => bytes.length + 1
  | .lit _ => 1
  | .nil => 1
  | .ptr d => uptoBulk d + 1
  | .slice elems spare => uptoBulkAll elems + uptoBulkAll spare + 1
  | .agg parts => uptoBulkAll parts + 1
  | .iface _ d => uptoBulk d + 1
  | .map entries => uptoBulkEntries entries + 1
  | .held _ => 1
def uptoBulkAll {H : Type} : List (DataW H) → Nat
  | [] => 0
  | d :: r => uptoBulk d + uptoBulkAll r
def uptoBulkEntries {H : Type} : List (Lit × DataW H) → Nat
  | [] => 0
  | x :: r => uptoBulkEntry x + uptoBulkEntries r
def uptoBulkEntry {H : Type} : Lit × DataW H → Nat
  | (.string bytes, d) => bytes.length + uptoBulk d + 1
  | (_, d) => uptoBulk d + 1
 end
def uptoSmall : (H : Type) → List (DataW H) → Bool := fun _ ds => decide (uptoBulkAll ds ≤ 1048576)
def OpenSpec.upto (s : _root_.Go.ChangeSpec) : _root_.Go.OpenSpec := { _root_.Go.OpenSpec.ofChange s with cond := some uptoSmall }

/-- 'fescuelaw20.LeastAsks', WHERE WHAT IT READS IS OF BULK AT MOST 1048576: true; the input reads as it did. -/
def leastAsksUptoRow : OpenClaim := { program := "ytndffgfnndoifaagreatdoor", sum := "d3374b4e604ff3883df77e168acdabbb1586b296961a175f6bc46b66983468d0", func := "fescue/fescuelaw20.LeastAsks", spec := "leastAsks", inPlace := ["internal/reflectlite.TypeOf"], unfollowed := true, recurses := true, named := ["fescue/shape.table", "math/bits.deBruijn64tab"], apart := false, laid := [("math/bits.deBruijn64tab", laid_math_bits_deBruijn64tab), ("fescue/shape.table", laid_fescue_shape_table)], narrowed := true }
def LeastAsksUptoSaid : Prop := leastAsksUptoRow.holds Tryz.pinned (OpenSpec.upto leastAsksSpec)

/-- 'fescuelaw20.LeastTells', WHERE WHAT IT READS IS OF BULK AT MOST 1048576: true; the input reads as it did. -/
def leastTellsUptoRow : OpenClaim := { program := "ytndffgfnndoifaagreatdoor", sum := "d3374b4e604ff3883df77e168acdabbb1586b296961a175f6bc46b66983468d0", func := "fescue/fescuelaw20.LeastTells", spec := "leastTells", inPlace := ["internal/reflectlite.TypeOf"], unfollowed := true, recurses := true, named := ["fescue/shape.table", "math/bits.deBruijn64tab"], apart := false, laid := [("math/bits.deBruijn64tab", laid_math_bits_deBruijn64tab), ("fescue/shape.table", laid_fescue_shape_table)], narrowed := true }
def LeastTellsUptoSaid : Prop := leastTellsUptoRow.holds Tryz.pinned (OpenSpec.upto leastTellsSpec)

/-- 'fescuelaw20.LeastNames', WHERE WHAT IT READS IS OF BULK AT MOST 1048576: true; the input reads as it did. -/
def leastNamesUptoRow : OpenClaim := { program := "ytndffgfnndoifaagreatdoor", sum := "d3374b4e604ff3883df77e168acdabbb1586b296961a175f6bc46b66983468d0", func := "fescue/fescuelaw20.LeastNames", spec := "leastNames", inPlace := ["internal/reflectlite.TypeOf"], unfollowed := true, recurses := true, named := ["fescue/shape.table", "math/bits.deBruijn64tab"], apart := false, laid := [("math/bits.deBruijn64tab", laid_math_bits_deBruijn64tab), ("fescue/shape.table", laid_fescue_shape_table)], narrowed := true }
def LeastNamesUptoSaid : Prop := leastNamesUptoRow.holds Tryz.pinned (OpenSpec.upto leastNamesSpec)

/-- 'fescuelaw20.LeastAmong', WHERE WHAT IT READS IS OF BULK AT MOST 1048576: true; the input reads as it did. -/
def leastAmongUptoRow : OpenClaim := { program := "ytndffgfnndoifaagreatdoor", sum := "d3374b4e604ff3883df77e168acdabbb1586b296961a175f6bc46b66983468d0", func := "fescue/fescuelaw20.LeastAmong", spec := "leastAmong", inPlace := ["internal/reflectlite.TypeOf"], unfollowed := true, recurses := true, named := ["fescue/shape.table", "math/bits.deBruijn64tab"], apart := false, laid := [("math/bits.deBruijn64tab", laid_math_bits_deBruijn64tab), ("fescue/shape.table", laid_fescue_shape_table)], narrowed := true }
def LeastAmongUptoSaid : Prop := leastAmongUptoRow.holds Tryz.pinned (OpenSpec.upto leastAmongSpec)

/-- 'fescuelaw20.LeastNull', WHERE WHAT IT READS IS OF BULK AT MOST 1048576: true; the input reads as it did. -/
def leastNullUptoRow : OpenClaim := { program := "ytndffgfnndoifaagreatdoor", sum := "d3374b4e604ff3883df77e168acdabbb1586b296961a175f6bc46b66983468d0", func := "fescue/fescuelaw20.LeastNull", spec := "leastNull", inPlace := ["internal/reflectlite.TypeOf"], unfollowed := true, recurses := true, named := ["fescue/shape.table", "math/bits.deBruijn64tab"], apart := false, laid := [("math/bits.deBruijn64tab", laid_math_bits_deBruijn64tab), ("fescue/shape.table", laid_fescue_shape_table)], narrowed := true }
def LeastNullUptoSaid : Prop := leastNullUptoRow.holds Tryz.pinned (OpenSpec.upto leastNullSpec)

end Rows
end Go.Proofs.YtndffgfnndoifaaGreatDoor
