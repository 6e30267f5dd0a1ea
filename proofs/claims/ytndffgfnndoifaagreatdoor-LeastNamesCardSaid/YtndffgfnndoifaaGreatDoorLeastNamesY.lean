/- LeastNames: whatever memory it is called in, where the program's own tables stand as its text lays them, the function returns true, and leaves all that was there as it was. It has no arguments: shown by the kernel's evaluation of an abstract machine, which is proved sound against the model (the texts beside this one). -/
import Derived.Test.YtndffgfnndoifaaGreatDoorLeastNamesC
import Derived.Test.YtndffgfnndoifaaGreatDoorCards
import Derived.Test.YtndffgfnndoifaaGreatDoorTie
import Derived.WalkKit
import Derived.ProofKit
import Derived.LaidMore
import Derived.OpenShut
import Derived.Stop.Joined
import Derived.SevenTiedAt
namespace Go.Proofs.YtndffgfnndoifaaGreatDoor.leastNames
open Go.ChangeShapes Go.WideShapes Go.ChangeAt Go.WideMaps Go.WideElems Go.RowKit Go.Am
set_option linter.unusedVariables false
set_option linter.unusedSimpArgs false

theorem own : ownKnob Tryz.prog.godebug = none := by kernel_rfl
theorem bigger : Nat.ble (Tryz.prog.globals.size + 1) (begin Tryz.prog (fun _ _ => 0) default).world.heap.size = true := by kernel_rfl
theorem room {w : World} (h : w.ShapedOpen Tryz.prog) : Tryz.prog.globals.size ≤ w.heap.size := by
  obtain ⟨o, _, h1, _⟩ := h.2 Tryz.prog.globals.size (Nat.le_refl _) (Nat.le_of_ble_eq_true bigger)
  exact Nat.le_of_lt (Array.getElem?_eq_some_iff.1 h1).1
set_option maxRecDepth 1000000 in
theorem ev0 : (aexK Tryz.prog tab17 700).call 5 [] (heapL Tryz.prog.globals.size laidL) (fun v _ => some v) = some (.bool true) := by kernel_rfl
theorem ev1 : ((aex Tryz.prog tab17 700).call 5 [] (heapL Tryz.prog.globals.size laidL)).map (·.1) = some (.bool true) := run_fast ev0

/-- The door's own heap meets the condition: closed facts. -/
theorem door_met (os : Os) (args : Array Value) : laidMetH Tryz.prog laids ((World.doorLaid Tryz.prog 4000 os).forCall (fun _ _ => 0) ⟨#[], args, []⟩).memory :=
  laidMetH_of_parts3 (fuel := 8) (laidMet_of_run' 8 (by kernel_rfl) (by kernel_rfl)) (by kernel_rfl) (by kernel_rfl)
theorem of_laid {W : World} (h : laidMetH Tryz.prog laids W) : ∀ x ∈ laidL, ∃ elem fr, W.heap[x.1]? = some (.cells x.2.toArray elem fr) := by
  rw [MakeChecks.laidMetH_plain _ _ _ (by kernel_rfl)] at h
  obtain ⟨ps, ⟨G0, T0, cs0, f0, p0, q0, hg0, ht0, hv0, hd0, ⟨G1, T1, cs1, f1, p1, q1, hg1, ht1, hv1, hd1, _, _⟩, _⟩, _, _⟩ := h
  obtain rfl := Option.some.inj ((show Tryz.prog.globalNamed "math/bits.deBruijn64tab" = some 0 by kernel_rfl).symm.trans hg0)
  obtain ⟨E0, hE0⟩ : ∃ E, (Tryz.prog.globals[0]?).map (·.type) = some E ∧ dataT Tryz.prog 16 E = true := ⟨((Tryz.prog.globals[0]?).map (·.type)).getD 0, by kernel_rfl, by kernel_rfl⟩
  obtain rfl := Option.some.inj (hE0.1.symm.trans ht0)
  have b0 := laid_block hg0 hv0 hd0 hE0.2
  obtain rfl := Option.some.inj ((show Tryz.prog.globalNamed "fescue/shape.table" = some 1 by kernel_rfl).symm.trans hg1)
  obtain ⟨E1, hE1⟩ : ∃ E, (Tryz.prog.globals[1]?).map (·.type) = some E ∧ dataT Tryz.prog 16 E = true := ⟨((Tryz.prog.globals[1]?).map (·.type)).getD 0, by kernel_rfl, by kernel_rfl⟩
  obtain rfl := Option.some.inj (hE1.1.symm.trans ht1)
  have b1 := laid_block hg1 hv1 hd1 hE1.2
  intro x hx
  simp only [laidL, List.mem_cons, List.mem_nil_iff, or_false] at hx
  rcases hx with rfl | rfl
  · exact b0
  · exact b1


end Go.Proofs.YtndffgfnndoifaaGreatDoor.leastNames
