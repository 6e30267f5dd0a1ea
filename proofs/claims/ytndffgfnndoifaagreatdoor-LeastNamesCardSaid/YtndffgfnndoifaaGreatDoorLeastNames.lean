/- LeastNames: whatever memory it is called in, where the program's own tables stand as its text lays them, the function returns true, and leaves all that was there as it was. It has no arguments: shown by the kernel's evaluation of an abstract machine, which is proved sound against the model (the texts beside this one). -/
import Derived.Test.YtndffgfnndoifaaGreatDoorCards
import Derived.Test.YtndffgfnndoifaaGreatDoorTie
import Derived.WalkKit
import Derived.ProofKit
import Derived.LaidMore
import Derived.OpenShut
import Derived.Stop.Joined
import Derived.SevenTiedAt
import Derived.Test.YtndffgfnndoifaaGreatDoorLeastNamesW
namespace Go.Proofs.YtndffgfnndoifaaGreatDoor.leastNames
open Go.ChangeShapes Go.WideShapes Go.ChangeAt Go.WideMaps Go.WideElems Go.RowKit Go.Am
set_option linter.unusedVariables false
set_option linter.unusedSimpArgs false

/-- ████ THE STATEMENT ████ -/
theorem proved : Rows.LeastNamesCardSaid :=
  Claim7.holds_tied_plain_at .later [] [.data, .data] true (true, "3b2b5eea4feda7850e0925c23c088e04fbcb91f4f84152bf62a3f15e8c7b9e63") true
    row_holds (fun _ h => by cases h) (by kernel_rfl) (fun _ h => by cases h) leastNames_row_tie rfl ⟨rfl, rfl⟩ (by kernel_rfl) rfl
    (fun f fn hf hfn => by
      obtain rfl : f = 5 := Option.some.inj ((show Tryz.prog.funcNamed "fescue/fescuelaw20.LeastNames" = some 5 by kernel_rfl).symm.trans hf) |>.symm
      obtain rfl : fn = Tryz.f5 := (Option.some.inj (Tryz.func5.symm.trans hfn)).symm
      exact ⟨by kernel_rfl, fun j t ht => by
        rw [Tryz.params5] at ht
        simp at ht⟩)
    (by kernel_rfl)
#print axioms proved
end Go.Proofs.YtndffgfnndoifaaGreatDoor.leastNames
