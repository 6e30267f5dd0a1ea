/-
  NARROWER THAN 'FOR EVERY INPUT', by the rows' own cells (each row's printed sentence says how): SoundTells: laid · SoundKinds: laid · SoundBlocks: laid · SoundLive: laid · SoundNames: laid.
  DERIVED. THE GIVEN ROWS OF THIS SEAT. 5 by the template 'for every input the law returns true; each argument reads behind the call as it read before'; 0 by the template 'total and deterministic' (their statements: YteekipjpghikkaaGreatDoorTotals.lean).
  GIVEN WITH THE SEED: the statements are not yours to turn. If you find one false, say at which input.
  Laid BY PROGRAM, IN A SANDBOX (cutbox-rows.mjs): the forced cells as the released guide's own fill.sh prints them over the translation c18b247c2453d35e… (all of the seat's roots in one cut). By AI agents, Wed Nov 11 2026. No macro, syntax, notation, axiom, sorry.
-/
import Derived.Test.YteekipjpghikkaaGreatDoorChecked
import GoSem.Claim
import GoSem.ClaimJoined
import GoSem.ClaimMapViews
import Derived.JoinedTies
import Derived.KernelRfl
namespace Go.Proofs.YteekipjpghikkaaGreatDoor
/- THE CELL 'sum', in the pinned program and in every row, IS THE sha256 OF THE DUMP (.gsa) THAT YteekipjpghikkaaGreatDoorProg.lean LOADS. Nothing in Lean hashes anything: it is a label: what it is worth is what the hold of that sum in a sandbox is worth. -/
noncomputable def Tryz.pinned : Pinned := { name := "yteekipjpghikkaagreatdoor", sum := "c18b247c2453d35e071fe69060459cff5ef0c493c7c60adea6f0d9ed5af731df", checked := Tryz.checked }
namespace Rows
def none {H : Type} : Left H := { results := [], args := [] }

/- WHAT THE LISTED PACKAGE-LEVEL VARIABLES READ AS WHEN THE CALL BEGINS. Each datum BY PROGRAM (the guide's laid-datum.mjs) off the statement by which the dump's own 'gosem.cut.vars' lays the variable. In a bare row this is a premise. The card (YteekipjpghikkaaGreatDoorCards.lean) ties it to the program's text. -/
def laid_fescue_shape_table {H : Type} : DataW H := .agg [.agg [.lit (.bool false), .lit (.bool false), .lit (.bool false), .lit (.bool false), .lit (.bool false), .lit (.bool false)], .agg [.lit (.bool false), .lit (.bool false), .lit (.bool true), .lit (.bool false), .lit (.bool false), .lit (.bool true)], .agg [.lit (.bool false), .lit (.bool false), .lit (.bool false), .lit (.bool false), .lit (.bool false), .lit (.bool true)], .agg [.lit (.bool false), .lit (.bool false), .lit (.bool true), .lit (.bool false), .lit (.bool false), .lit (.bool true)], .agg [.lit (.bool true), .lit (.bool true), .lit (.bool false), .lit (.bool false), .lit (.bool false), .lit (.bool true)], .agg [.lit (.bool true), .lit (.bool true), .lit (.bool false), .lit (.bool false), .lit (.bool false), .lit (.bool true)], .agg [.lit (.bool true), .lit (.bool true), .lit (.bool false), .lit (.bool false), .lit (.bool false), .lit (.bool true)], .agg [.lit (.bool true), .lit (.bool true), .lit (.bool false), .lit (.bool false), .lit (.bool false), .lit (.bool true)], .agg [.lit (.bool true), .lit (.bool true), .lit (.bool false), .lit (.bool false), .lit (.bool false), .lit (.bool true)], .agg [.lit (.bool true), .lit (.bool true), .lit (.bool false), .lit (.bool false), .lit (.bool false), .lit (.bool true)], .agg [.lit (.bool true), .lit (.bool true), .lit (.bool false), .lit (.bool false), .lit (.bool false), .lit (.bool true)], .agg [.lit (.bool false), .lit (.bool false), .lit (.bool false), .lit (.bool false), .lit (.bool false), .lit (.bool true)], .agg [.lit (.bool false), .lit (.bool false), .lit (.bool false), .lit (.bool false), .lit (.bool false), .lit (.bool true)], .agg [.lit (.bool true), .lit (.bool false), .lit (.bool false), .lit (.bool false), .lit (.bool false), .lit (.bool false)], .agg [.lit (.bool true), .lit (.bool false), .lit (.bool true), .lit (.bool false), .lit (.bool false), .lit (.bool true)], .agg [.lit (.bool true), .lit (.bool true), .lit (.bool false), .lit (.bool false), .lit (.bool false), .lit (.bool true)], .agg [.lit (.bool true), .lit (.bool false), .lit (.bool false), .lit (.bool false), .lit (.bool false), .lit (.bool true)], .agg [.lit (.bool true), .lit (.bool true), .lit (.bool false), .lit (.bool false), .lit (.bool false), .lit (.bool false)], .agg [.lit (.bool false), .lit (.bool false), .lit (.bool true), .lit (.bool true), .lit (.bool false), .lit (.bool true)], .agg [.lit (.bool true), .lit (.bool false), .lit (.bool false), .lit (.bool true), .lit (.bool false), .lit (.bool true)], .agg [.lit (.bool false), .lit (.bool false), .lit (.bool false), .lit (.bool false), .lit (.bool false), .lit (.bool true)], .agg [.lit (.bool true), .lit (.bool false), .lit (.bool false), .lit (.bool false), .lit (.bool false), .lit (.bool false)], .agg [.lit (.bool false), .lit (.bool false), .lit (.bool false), .lit (.bool true), .lit (.bool true), .lit (.bool true)]]
def laid_math_bits_deBruijn64tab {H : Type} : DataW H := .agg [.lit (.int .u8 0), .lit (.int .u8 1), .lit (.int .u8 56), .lit (.int .u8 2), .lit (.int .u8 57), .lit (.int .u8 49), .lit (.int .u8 28), .lit (.int .u8 3), .lit (.int .u8 61), .lit (.int .u8 58), .lit (.int .u8 42), .lit (.int .u8 50), .lit (.int .u8 38), .lit (.int .u8 29), .lit (.int .u8 17), .lit (.int .u8 4), .lit (.int .u8 62), .lit (.int .u8 47), .lit (.int .u8 59), .lit (.int .u8 36), .lit (.int .u8 45), .lit (.int .u8 43), .lit (.int .u8 51), .lit (.int .u8 22), .lit (.int .u8 53), .lit (.int .u8 39), .lit (.int .u8 33), .lit (.int .u8 30), .lit (.int .u8 24), .lit (.int .u8 18), .lit (.int .u8 12), .lit (.int .u8 5), .lit (.int .u8 63), .lit (.int .u8 55), .lit (.int .u8 48), .lit (.int .u8 27), .lit (.int .u8 60), .lit (.int .u8 41), .lit (.int .u8 37), .lit (.int .u8 16), .lit (.int .u8 46), .lit (.int .u8 35), .lit (.int .u8 44), .lit (.int .u8 21), .lit (.int .u8 52), .lit (.int .u8 32), .lit (.int .u8 23), .lit (.int .u8 11), .lit (.int .u8 54), .lit (.int .u8 26), .lit (.int .u8 40), .lit (.int .u8 15), .lit (.int .u8 34), .lit (.int .u8 20), .lit (.int .u8 31), .lit (.int .u8 10), .lit (.int .u8 25), .lit (.int .u8 14), .lit (.int .u8 19), .lit (.int .u8 9), .lit (.int .u8 13), .lit (.int .u8 8), .lit (.int .u8 7), .lit (.int .u8 6)]

/-- 'fescuelaw12.SoundTells': WHATEVER THE INPUT: true; the input reads as it did. -/
def soundTellsSpec : ChangeSpec := { name := "soundTells", fn := fun _ => fun
  | [d1, d2, d3] => { results := [.lit (.bool true)], args := [d1, d2, d3] }
  | _ => none }
def soundTellsRow : OpenClaim := { program := "yteekipjpghikkaagreatdoor", sum := "c18b247c2453d35e071fe69060459cff5ef0c493c7c60adea6f0d9ed5af731df", func := "fescue/fescuelaw12.SoundTells", spec := "soundTells", inPlace := ["internal/reflectlite.TypeOf"], unfollowed := true, recurses := true, named := ["fescue/shape.table"], apart := false, laid := [("fescue/shape.table", laid_fescue_shape_table)] }
def SoundTellsSaid : Prop := soundTellsRow.holds Tryz.pinned (OpenSpec.ofChange soundTellsSpec)

/-- ITS FALSE NEIGHBOUR: 'it returns false'. Refute it at one input. -/
def soundTellsWrong : ChangeSpec := { name := "soundTells", fn := fun _ => fun
  | [d1, d2, d3] => { results := [.lit (.bool false)], args := [d1, d2, d3] }
  | _ => none }
def SoundTellsWrongFalsely : Prop := soundTellsRow.holds Tryz.pinned (OpenSpec.ofChange soundTellsWrong)

/-- 'fescuelaw12.SoundKinds': WHATEVER THE INPUT: true; the input reads as it did. -/
def soundKindsSpec : ChangeSpec := { name := "soundKinds", fn := fun _ => fun
  | [d1, d2, d3] => { results := [.lit (.bool true)], args := [d1, d2, d3] }
  | _ => none }
def soundKindsRow : OpenClaim := { program := "yteekipjpghikkaagreatdoor", sum := "c18b247c2453d35e071fe69060459cff5ef0c493c7c60adea6f0d9ed5af731df", func := "fescue/fescuelaw12.SoundKinds", spec := "soundKinds", inPlace := ["internal/reflectlite.TypeOf"], unfollowed := true, recurses := true, named := ["fescue/shape.table"], apart := false, laid := [("fescue/shape.table", laid_fescue_shape_table)] }
def SoundKindsSaid : Prop := soundKindsRow.holds Tryz.pinned (OpenSpec.ofChange soundKindsSpec)

/-- ITS FALSE NEIGHBOUR: 'it returns false'. Refute it at one input. -/
def soundKindsWrong : ChangeSpec := { name := "soundKinds", fn := fun _ => fun
  | [d1, d2, d3] => { results := [.lit (.bool false)], args := [d1, d2, d3] }
  | _ => none }
def SoundKindsWrongFalsely : Prop := soundKindsRow.holds Tryz.pinned (OpenSpec.ofChange soundKindsWrong)

/-- 'fescuelaw12.SoundBlocks': WHATEVER THE INPUT: true; the input reads as it did. -/
def soundBlocksSpec : ChangeSpec := { name := "soundBlocks", fn := fun _ => fun
  | [d1, d2, d3] => { results := [.lit (.bool true)], args := [d1, d2, d3] }
  | _ => none }
def soundBlocksRow : OpenClaim := { program := "yteekipjpghikkaagreatdoor", sum := "c18b247c2453d35e071fe69060459cff5ef0c493c7c60adea6f0d9ed5af731df", func := "fescue/fescuelaw12.SoundBlocks", spec := "soundBlocks", inPlace := ["internal/reflectlite.TypeOf"], unfollowed := true, recurses := true, named := ["fescue/shape.table", "math/bits.deBruijn64tab"], apart := false, laid := [("math/bits.deBruijn64tab", laid_math_bits_deBruijn64tab), ("fescue/shape.table", laid_fescue_shape_table)] }
def SoundBlocksSaid : Prop := soundBlocksRow.holds Tryz.pinned (OpenSpec.ofChange soundBlocksSpec)

/-- ITS FALSE NEIGHBOUR: 'it returns false'. Refute it at one input. -/
def soundBlocksWrong : ChangeSpec := { name := "soundBlocks", fn := fun _ => fun
  | [d1, d2, d3] => { results := [.lit (.bool false)], args := [d1, d2, d3] }
  | _ => none }
def SoundBlocksWrongFalsely : Prop := soundBlocksRow.holds Tryz.pinned (OpenSpec.ofChange soundBlocksWrong)

/-- 'fescuelaw12.SoundLive': WHATEVER THE INPUT: true; the input reads as it did. -/
def soundLiveSpec : ChangeSpec := { name := "soundLive", fn := fun _ => fun
  | [d1, d2, d3, d4] => { results := [.lit (.bool true)], args := [d1, d2, d3, d4] }
  | _ => none }
def soundLiveRow : OpenClaim := { program := "yteekipjpghikkaagreatdoor", sum := "c18b247c2453d35e071fe69060459cff5ef0c493c7c60adea6f0d9ed5af731df", func := "fescue/fescuelaw12.SoundLive", spec := "soundLive", inPlace := ["internal/reflectlite.TypeOf"], unfollowed := true, recurses := true, named := ["fescue/shape.table", "math/bits.deBruijn64tab"], apart := false, laid := [("math/bits.deBruijn64tab", laid_math_bits_deBruijn64tab), ("fescue/shape.table", laid_fescue_shape_table)] }
def SoundLiveSaid : Prop := soundLiveRow.holds Tryz.pinned (OpenSpec.ofChange soundLiveSpec)

/-- ITS FALSE NEIGHBOUR: 'it returns false'. Refute it at one input. -/
def soundLiveWrong : ChangeSpec := { name := "soundLive", fn := fun _ => fun
  | [d1, d2, d3, d4] => { results := [.lit (.bool false)], args := [d1, d2, d3, d4] }
  | _ => none }
def SoundLiveWrongFalsely : Prop := soundLiveRow.holds Tryz.pinned (OpenSpec.ofChange soundLiveWrong)

/-- 'fescuelaw12.SoundNames': WHATEVER THE INPUT: true; the input reads as it did. -/
def soundNamesSpec : ChangeSpec := { name := "soundNames", fn := fun _ => fun
  | [] => { results := [.lit (.bool true)], args := [] }
  | _ => none }
def soundNamesRow : OpenClaim := { program := "yteekipjpghikkaagreatdoor", sum := "c18b247c2453d35e071fe69060459cff5ef0c493c7c60adea6f0d9ed5af731df", func := "fescue/fescuelaw12.SoundNames", spec := "soundNames", inPlace := ["internal/reflectlite.TypeOf"], unfollowed := true, recurses := true, named := ["fescue/shape.table"], apart := false, laid := [("fescue/shape.table", laid_fescue_shape_table)] }
def SoundNamesSaid : Prop := soundNamesRow.holds Tryz.pinned (OpenSpec.ofChange soundNamesSpec)

/-- ITS FALSE NEIGHBOUR: 'it returns false'. Refute it at one input. -/
def soundNamesWrong : ChangeSpec := { name := "soundNames", fn := fun _ => fun
  | [] => { results := [.lit (.bool false)], args := [] }
  | _ => none }
def SoundNamesWrongFalsely : Prop := soundNamesRow.holds Tryz.pinned (OpenSpec.ofChange soundNamesWrong)

/- THE SECOND FORM. 'bulk': how many values and letters a reading holds, each counted each time it is reached (what is shared counts as often as it is met; a slice's spare places count too). A statement '..UptoSaid' is the law's where the arguments, and the package variables that the reading takes, are together of bulk at most 1048576: NARROWER than '..Said'. Prove '..Said' where nothing that the law and all that it calls make is longer than what came in: it says more and counts as full. Else prove '..UptoSaid'. A law counts once. -/
mutual
def uptoBulk {H : Type} : DataW H → Nat
  | .lit (.string bytes) => bytes.length + 1
  | .lit _ => 1
  | .nil => 1
  | .ptr d => uptoBulk d + 1
  | .slice elems spare => uptoBulkAll elems + uptoBulkAll spare + 1
  | .agg parts => uptoBulkAll parts + 1
  | .iface _ d => uptoBulk d + 1
  | .map entries => uptoBulkEntries entries + 1
  | .held _ => 1
def uptoBulkAll {H : Type} : List (DataW H) → Nat
  | [] => 0
  | d :: r => uptoBulk d + uptoBulkAll r
def uptoBulkEntries {H : Type} : List (Lit × DataW H) → Nat
  | [] => 0
  | x :: r => uptoBulkEntry x + uptoBulkEntries r
def uptoBulkEntry {H : Type} : Lit × DataW H → Nat
  | (.string bytes, d) => bytes.length + uptoBulk d + 1
  | (_, d) => uptoBulk d + 1
 end
def uptoSmall : (H : Type) → List (DataW H) → Bool := fun _ ds => decide (uptoBulkAll ds ≤ 1048576)
def OpenSpec.upto (s : _root_.Go.ChangeSpec) : _root_.Go.OpenSpec := { _root_.Go.OpenSpec.ofChange s with cond := some uptoSmall }

/-- 'fescuelaw12.SoundTells', WHERE WHAT IT READS IS OF BULK AT MOST 1048576: true; the input reads as it did. -/
def soundTellsUptoRow : OpenClaim := { program := "yteekipjpghikkaagreatdoor", sum := "c18b247c2453d35e071fe69060459cff5ef0c493c7c60adea6f0d9ed5af731df", func := "fescue/fescuelaw12.SoundTells", spec := "soundTells", inPlace := ["internal/reflectlite.TypeOf"], unfollowed := true, recurses := true, named := ["fescue/shape.table"], apart := false, laid := [("fescue/shape.table", laid_fescue_shape_table)], narrowed := true }
def SoundTellsUptoSaid : Prop := soundTellsUptoRow.holds Tryz.pinned (OpenSpec.upto soundTellsSpec)

/-- 'fescuelaw12.SoundKinds', WHERE WHAT IT READS IS OF BULK AT MOST 1048576: true; the input reads as it did. -/
def soundKindsUptoRow : OpenClaim := { program := "yteekipjpghikkaagreatdoor", sum := "c18b247c2453d35e071fe69060459cff5ef0c493c7c60adea6f0d9ed5af731df", func := "fescue/fescuelaw12.SoundKinds", spec := "soundKinds", inPlace := ["internal/reflectlite.TypeOf"], unfollowed := true, recurses := true, named := ["fescue/shape.table"], apart := false, laid := [("fescue/shape.table", laid_fescue_shape_table)], narrowed := true }
def SoundKindsUptoSaid : Prop := soundKindsUptoRow.holds Tryz.pinned (OpenSpec.upto soundKindsSpec)

/-- 'fescuelaw12.SoundBlocks', WHERE WHAT IT READS IS OF BULK AT MOST 1048576: true; the input reads as it did. -/
def soundBlocksUptoRow : OpenClaim := { program := "yteekipjpghikkaagreatdoor", sum := "c18b247c2453d35e071fe69060459cff5ef0c493c7c60adea6f0d9ed5af731df", func := "fescue/fescuelaw12.SoundBlocks", spec := "soundBlocks", inPlace := ["internal/reflectlite.TypeOf"], unfollowed := true, recurses := true, named := ["fescue/shape.table", "math/bits.deBruijn64tab"], apart := false, laid := [("math/bits.deBruijn64tab", laid_math_bits_deBruijn64tab), ("fescue/shape.table", laid_fescue_shape_table)], narrowed := true }
def SoundBlocksUptoSaid : Prop := soundBlocksUptoRow.holds Tryz.pinned (OpenSpec.upto soundBlocksSpec)

/-- 'fescuelaw12.SoundLive', WHERE WHAT IT READS IS OF BULK AT MOST 1048576: true; the input reads as it did. -/
def soundLiveUptoRow : OpenClaim := { program := "yteekipjpghikkaagreatdoor", sum := "c18b247c2453d35e071fe69060459cff5ef0c493c7c60adea6f0d9ed5af731df", func := "fescue/fescuelaw12.SoundLive", spec := "soundLive", inPlace := ["internal/reflectlite.TypeOf"], unfollowed := true, recurses := true, named := ["fescue/shape.table", "math/bits.deBruijn64tab"], apart := false, laid := [("math/bits.deBruijn64tab", laid_math_bits_deBruijn64tab), ("fescue/shape.table", laid_fescue_shape_table)], narrowed := true }
def SoundLiveUptoSaid : Prop := soundLiveUptoRow.holds Tryz.pinned (OpenSpec.upto soundLiveSpec)

/-- 'fescuelaw12.SoundNames', WHERE WHAT IT READS IS OF BULK AT MOST 1048576: true; the input reads as it did. -/
def soundNamesUptoRow : OpenClaim := { program := "yteekipjpghikkaagreatdoor", sum := "c18b247c2453d35e071fe69060459cff5ef0c493c7c60adea6f0d9ed5af731df", func := "fescue/fescuelaw12.SoundNames", spec := "soundNames", inPlace := ["internal/reflectlite.TypeOf"], unfollowed := true, recurses := true, named := ["fescue/shape.table"], apart := false, laid := [("fescue/shape.table", laid_fescue_shape_table)], narrowed := true }
def SoundNamesUptoSaid : Prop := soundNamesUptoRow.holds Tryz.pinned (OpenSpec.upto soundNamesSpec)

end Rows
end Go.Proofs.YteekipjpghikkaaGreatDoor
