/-
  DERIVED. GIVEN WITH THE SEED: THE CARDS: each row of YtndffgfnndoifaaGreatDoorRows.lean that lists a variable, with what it lists TIED to the program's text (the seventh form; the later family's looks); each row that meets fmt, with fmt's text TOLD by the authors' own Lean function (tested against real Go, not proved from fmt's source: count such statements apart). THE CARD IS WHAT COUNTS. Prove the row's statement (the work); the ties are given (YtndffgfnndoifaaGreatDoorTie.lean); close each card by the builder's one call (the guide's Derived/Test/ToyasCard.lean, 'card_holds'). Laid BY PROGRAM, IN A SANDBOX (cutbox-door.mjs). By AI agents, Wed Nov 11 2026. No macro, syntax, notation, axiom, sorry.
-/
import Derived.Test.YtndffgfnndoifaaGreatDoorRows
import GoSem.ClaimSeven
namespace Go.Proofs.YtndffgfnndoifaaGreatDoor
namespace Rows

/-- THE TIED CARD OF 'fescuelaw20.LeastAsks'. -/
def leastAsksCard : Claim7 := { stood := { row := leastAsksRow, standIns := [], harness := (true, "3b2b5eea4feda7850e0925c23c088e04fbcb91f4f84152bf62a3f15e8c7b9e63"), looks := true }, kinds := [], alts := [], laidByText := true, laidKinds := [.data, .data], laidTests := true, laidLooks := .later }
def LeastAsksCardSaid : Prop := Claim7.holds Tryz.pinned (.plain (OpenSpec.ofChange leastAsksSpec)) leastAsksCard

/-- THE TIED CARD OF 'fescuelaw20.LeastTells'. -/
def leastTellsCard : Claim7 := { stood := { row := leastTellsRow, standIns := [], harness := (true, "3b2b5eea4feda7850e0925c23c088e04fbcb91f4f84152bf62a3f15e8c7b9e63"), looks := true }, kinds := [], alts := [], laidByText := true, laidKinds := [.data, .data], laidTests := true, laidLooks := .later }
def LeastTellsCardSaid : Prop := Claim7.holds Tryz.pinned (.plain (OpenSpec.ofChange leastTellsSpec)) leastTellsCard

/-- THE TIED CARD OF 'fescuelaw20.LeastNames'. -/
def leastNamesCard : Claim7 := { stood := { row := leastNamesRow, standIns := [], harness := (true, "3b2b5eea4feda7850e0925c23c088e04fbcb91f4f84152bf62a3f15e8c7b9e63"), looks := true }, kinds := [], alts := [], laidByText := true, laidKinds := [.data, .data], laidTests := true, laidLooks := .later }
def LeastNamesCardSaid : Prop := Claim7.holds Tryz.pinned (.plain (OpenSpec.ofChange leastNamesSpec)) leastNamesCard

/-- THE TIED CARD OF 'fescuelaw20.LeastAmong'. -/
def leastAmongCard : Claim7 := { stood := { row := leastAmongRow, standIns := [], harness := (true, "3b2b5eea4feda7850e0925c23c088e04fbcb91f4f84152bf62a3f15e8c7b9e63"), looks := true }, kinds := [], alts := [], laidByText := true, laidKinds := [.data, .data], laidTests := true, laidLooks := .later }
def LeastAmongCardSaid : Prop := Claim7.holds Tryz.pinned (.plain (OpenSpec.ofChange leastAmongSpec)) leastAmongCard

/-- THE TIED CARD OF 'fescuelaw20.LeastNull'. -/
def leastNullCard : Claim7 := { stood := { row := leastNullRow, standIns := [], harness := (true, "3b2b5eea4feda7850e0925c23c088e04fbcb91f4f84152bf62a3f15e8c7b9e63"), looks := true }, kinds := [], alts := [], laidByText := true, laidKinds := [.data, .data], laidTests := true, laidLooks := .later }
def LeastNullCardSaid : Prop := Claim7.holds Tryz.pinned (.plain (OpenSpec.ofChange leastNullSpec)) leastNullCard

/-- THE SECOND FORM's CARD OF 'fescuelaw20.LeastAsks'. -/
def leastAsksUptoCard : Claim7 := { stood := { row := leastAsksUptoRow, standIns := [], harness := (true, "3b2b5eea4feda7850e0925c23c088e04fbcb91f4f84152bf62a3f15e8c7b9e63"), looks := true }, kinds := [], alts := [], laidByText := true, laidKinds := [.data, .data], laidTests := true, laidLooks := .later }
def LeastAsksUptoCardSaid : Prop := Claim7.holds Tryz.pinned (.plain (OpenSpec.upto leastAsksSpec)) leastAsksUptoCard

/-- THE SECOND FORM's CARD OF 'fescuelaw20.LeastTells'. -/
def leastTellsUptoCard : Claim7 := { stood := { row := leastTellsUptoRow, standIns := [], harness := (true, "3b2b5eea4feda7850e0925c23c088e04fbcb91f4f84152bf62a3f15e8c7b9e63"), looks := true }, kinds := [], alts := [], laidByText := true, laidKinds := [.data, .data], laidTests := true, laidLooks := .later }
def LeastTellsUptoCardSaid : Prop := Claim7.holds Tryz.pinned (.plain (OpenSpec.upto leastTellsSpec)) leastTellsUptoCard

/-- THE SECOND FORM's CARD OF 'fescuelaw20.LeastNames'. -/
def leastNamesUptoCard : Claim7 := { stood := { row := leastNamesUptoRow, standIns := [], harness := (true, "3b2b5eea4feda7850e0925c23c088e04fbcb91f4f84152bf62a3f15e8c7b9e63"), looks := true }, kinds := [], alts := [], laidByText := true, laidKinds := [.data, .data], laidTests := true, laidLooks := .later }
def LeastNamesUptoCardSaid : Prop := Claim7.holds Tryz.pinned (.plain (OpenSpec.upto leastNamesSpec)) leastNamesUptoCard

/-- THE SECOND FORM's CARD OF 'fescuelaw20.LeastAmong'. -/
def leastAmongUptoCard : Claim7 := { stood := { row := leastAmongUptoRow, standIns := [], harness := (true, "3b2b5eea4feda7850e0925c23c088e04fbcb91f4f84152bf62a3f15e8c7b9e63"), looks := true }, kinds := [], alts := [], laidByText := true, laidKinds := [.data, .data], laidTests := true, laidLooks := .later }
def LeastAmongUptoCardSaid : Prop := Claim7.holds Tryz.pinned (.plain (OpenSpec.upto leastAmongSpec)) leastAmongUptoCard

/-- THE SECOND FORM's CARD OF 'fescuelaw20.LeastNull'. -/
def leastNullUptoCard : Claim7 := { stood := { row := leastNullUptoRow, standIns := [], harness := (true, "3b2b5eea4feda7850e0925c23c088e04fbcb91f4f84152bf62a3f15e8c7b9e63"), looks := true }, kinds := [], alts := [], laidByText := true, laidKinds := [.data, .data], laidTests := true, laidLooks := .later }
def LeastNullUptoCardSaid : Prop := Claim7.holds Tryz.pinned (.plain (OpenSpec.upto leastNullSpec)) leastNullUptoCard
end Rows
end Go.Proofs.YtndffgfnndoifaaGreatDoor
