/- LeastAmong: what its row asks of the program, worked out by the kernel; no statement of the seat is proved in this text. -/
import Derived.Test.YtndffgfnndoifaaGreatDoorRows
import Derived.WalkKit
import Derived.ProofKit
import Derived.Stop.Joined
import Derived.SevenTiedAt
namespace Go.Proofs.YtndffgfnndoifaaGreatDoor.leastAmong
open Go.ChangeShapes Go.WideShapes Go.ChangeAt Go.WideMaps Go.WideElems Go.RowKit

theorem row_a : (Rows.leastAmongRow.inPlace == Tryz.checked.prog.inPlace 6) = true := by kernel_rfl
theorem row_b : (Rows.leastAmongRow.unfollowed == Tryz.checked.prog.unfollowed 6) = true := by kernel_rfl
theorem row_c : (Rows.leastAmongRow.recurses == Tryz.checked.prog.recurses 6) = true := by kernel_rfl
theorem row_d : (Rows.leastAmongRow.named == Tryz.checked.prog.varsNamed 6) = true := by kernel_rfl
theorem row_named : Tryz.checked.prog.funcNamed Rows.leastAmongRow.func = some 6 := by kernel_rfl
theorem row_facts : joinedFacts Tryz.checked.prog 6 Tryz.f6 Rows.leastAmongSpec Rows.leastAmongRow = true := by
  unfold joinedFacts
  rw [row_a, row_b, row_c, row_d]
  kernel_rfl
theorem row_inst : Tryz.f6.isInstance Tryz.checked.prog Rows.leastAmongRow.origin Rows.leastAmongRow.targs := of_decide_eq_true (by kernel_rfl)
theorem row_wrap : Tryz.f6.isWrapper Tryz.checked.prog Rows.leastAmongRow.wrapper Rows.leastAmongRow.mainSum := by unfold Func.isWrapper; first | (rw [if_pos (by decide +kernel)]; kernel_rfl) | (rw [if_neg (by decide +kernel)]; exact ⟨rfl, rfl⟩)
end Go.Proofs.YtndffgfnndoifaaGreatDoor.leastAmong
