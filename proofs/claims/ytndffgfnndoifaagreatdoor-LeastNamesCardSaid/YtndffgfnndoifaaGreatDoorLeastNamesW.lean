/- LeastNames: the row's statement, from the contract. -/
import Derived.Test.YtndffgfnndoifaaGreatDoorCards
import Derived.Test.YtndffgfnndoifaaGreatDoorTie
import Derived.WalkKit
import Derived.ProofKit
import Derived.LaidMore
import Derived.OpenShut
import Derived.Stop.Joined
import Derived.SevenTiedAt
import Derived.Test.YtndffgfnndoifaaGreatDoorLeastNamesZ
namespace Go.Proofs.YtndffgfnndoifaaGreatDoor.leastNames
open Go.ChangeShapes Go.WideShapes Go.ChangeAt Go.WideMaps Go.WideElems Go.RowKit Go.Am
set_option linter.unusedVariables false
set_option linter.unusedSimpArgs false

theorem row_holds : Rows.LeastNamesSaid :=
  OpenClaim.holds_of_wide 5 Tryz.f5 rfl rfl rfl rfl rfl rfl rfl ⟨rfl, rfl, rfl, rfl, rfl⟩ rfl rfl rfl rfl rfl (by kernel_rfl) Tryz.func5 (by kernel_rfl)
    (of_decide_eq_true (by kernel_rfl)) (by unfold Func.isWrapper; first | (rw [if_pos (by decide +kernel)]; kernel_rfl) | (rw [if_neg (by decide +kernel)]; exact ⟨rfl, rfl⟩))
    (fun os started H enc _ => lifted os started H enc)


end Go.Proofs.YtndffgfnndoifaaGreatDoor.leastNames
