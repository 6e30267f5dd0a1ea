/- The table of the chapter's functions in the abstract machine. -/
import Derived.Test.YtbhdfhiecgebnaaDoorTypesDef
import Derived.Test.YtbhdfhiecgebnaaDoorRows
namespace Go.Proofs.YtbhdfhiecgebnaaDoor
open Go.Am
set_option linter.unusedVariables false
set_option linter.unusedSimpArgs false
set_option maxHeartbeats 4000000

/-- The program's functions; the chapter's own example is known as a whole. -/
noncomputable def tb : Tab := ⟨cFunc Tryd.prog, fun f => if f = 18 then some (known [(0, tblV)] (.bool true)) else none⟩
theorem nostub (f : Nat) (hf : Nat.beq f 18 = false := by rfl) : tb.stub f = none := if_neg (Nat.ne_of_beq_eq_false hf)
theorem alive_ok (h : AHeap) (ht : rowOf h 0 = some tblV) : WC Tryd.prog tb 18 [] h fun r h' => r = .bool true ∧ h = h' := by
  refine WC.stub (s := known [(0, tblV)] (.bool true)) (by show (if 18 = 18 then some (known [(0, tblV)] (.bool true)) else none) = _; exact if_pos rfl) (v := .bool true) (h' := h) ?_ ⟨rfl, rfl⟩
  have hl : laidIn h [(0, tblV)] = true := by
    unfold rowOf at ht
    unfold laidIn
    simp only [List.all_cons, List.all_nil, Bool.and_true]
    split at ht
    · rename_i c o lo hg
      cases ht
      rw [hg]
      show sameCells tblV tblV = true
      kernel_rfl
    · cases ht
  unfold known
  rw [hl]; rfl

end Go.Proofs.YtbhdfhiecgebnaaDoor
