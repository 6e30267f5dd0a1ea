/-
  The abstract machine: where a run begins: the program's variables, nothing else.
-/
import Derived.Test.YtdhpgfhidldmgaaAmTop
namespace Go.Am
open Go.RowKit

section
variable {P : Program} {w : World}

def s0 (P : Program) (w : World) : Nat → Option Pl := fun g => if g < P.globals.size then some ⟨g, 0, match w.heap[g]? with | some (.cells c _ _) => c.size | _ => 0⟩ else none

def heap0 (n : Nat) : AHeap := { n := n, tab := .leaf, mark := 0, wr := [] }

theorem hrel0 (hg : P.globals.size ≤ w.heap.size) : HRel P w.heap.size (s0 P w) (heap0 P.globals.size) w := by
  refine ⟨fun g h => ⟨⟨g, 0, match w.heap[g]? with | some (.cells c _ _) => c.size | _ => 0⟩, if_pos h, rfl, rfl⟩, fun g pl hp => ?_, fun g o hg => ?_, fun g o g' o' pl pl' hg => ?_, Nat.le_refl _⟩
  · unfold s0 at hp
    split at hp
    · cases hp; exact ⟨by assumption, by show g < w.heap.size; omega⟩
    · cases hp
  · cases hg
  · cases hg
end
end Go.Am
