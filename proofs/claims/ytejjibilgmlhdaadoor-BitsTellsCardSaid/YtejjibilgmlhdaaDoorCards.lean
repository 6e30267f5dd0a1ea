/-
  DERIVED. GIVEN WITH THE SEED: THE CARDS: each row of YtejjibilgmlhdaaDoorRows.lean that lists a variable, with what it lists TIED to the program's text (the seventh form; the later family's looks); each row that meets fmt, with fmt's text TOLD by the authors' own Lean function (tested against real Go, not proved from fmt's source: count such statements apart). THE CARD IS WHAT COUNTS. Prove the row's statement (the work); the ties are given (YtejjibilgmlhdaaDoorTie.lean); close each card by the builder's one call (the guide's Derived/Test/ToyasCard.lean, 'card_holds'). Laid BY PROGRAM, IN A SANDBOX (cutbox-door.mjs). By AI agents, Wed Nov 11 2026. No macro, syntax, notation, axiom, sorry.
-/
import Derived.Test.YtejjibilgmlhdaaDoorRows
import GoSem.ClaimSeven
namespace Go.Proofs.YtejjibilgmlhdaaDoor
namespace Rows

/-- THE TIED CARD OF 'fescuelaw02.BitsTells'. -/
def bitsTellsCard : Claim7 := { stood := { row := bitsTellsRow, standIns := [], harness := (true, "ee1ea3d142ffbebdd2ac9ea02c5f6e5e0c339a0411b58484fe983110ce1fafee"), looks := false }, kinds := [], alts := [], laidByText := true, laidKinds := [.data], laidTests := true, laidLooks := .later }
def BitsTellsCardSaid : Prop := Claim7.holds Tryd.pinned (.plain (OpenSpec.ofChange bitsTellsSpec)) bitsTellsCard

/-- THE TIED CARD OF 'fescuelaw02.BitsMembers'. -/
def bitsMembersCard : Claim7 := { stood := { row := bitsMembersRow, standIns := [], harness := (true, "ee1ea3d142ffbebdd2ac9ea02c5f6e5e0c339a0411b58484fe983110ce1fafee"), looks := false }, kinds := [], alts := [], laidByText := true, laidKinds := [.data], laidTests := true, laidLooks := .later }
def BitsMembersCardSaid : Prop := Claim7.holds Tryd.pinned (.plain (OpenSpec.ofChange bitsMembersSpec)) bitsMembersCard

/-- THE TIED CARD OF 'fescuelaw02.BitsBack'. -/
def bitsBackCard : Claim7 := { stood := { row := bitsBackRow, standIns := [], harness := (true, "ee1ea3d142ffbebdd2ac9ea02c5f6e5e0c339a0411b58484fe983110ce1fafee"), looks := false }, kinds := [], alts := [], laidByText := true, laidKinds := [.data], laidTests := true, laidLooks := .later }
def BitsBackCardSaid : Prop := Claim7.holds Tryd.pinned (.plain (OpenSpec.ofChange bitsBackSpec)) bitsBackCard

/-- THE TIED CARD OF 'fescuelaw02.BitsLaws'. -/
def bitsLawsCard : Claim7 := { stood := { row := bitsLawsRow, standIns := [], harness := (true, "ee1ea3d142ffbebdd2ac9ea02c5f6e5e0c339a0411b58484fe983110ce1fafee"), looks := false }, kinds := [], alts := [], laidByText := true, laidKinds := [.data], laidTests := true, laidLooks := .later }
def BitsLawsCardSaid : Prop := Claim7.holds Tryd.pinned (.plain (OpenSpec.ofChange bitsLawsSpec)) bitsLawsCard

/-- THE TIED CARD OF 'fescuelaw02.BitsNames'. -/
def bitsNamesCard : Claim7 := { stood := { row := bitsNamesRow, standIns := [], harness := (true, "ee1ea3d142ffbebdd2ac9ea02c5f6e5e0c339a0411b58484fe983110ce1fafee"), looks := false }, kinds := [], alts := [], laidByText := true, laidKinds := [.data], laidTests := true, laidLooks := .later }
def BitsNamesCardSaid : Prop := Claim7.holds Tryd.pinned (.plain (OpenSpec.ofChange bitsNamesSpec)) bitsNamesCard

/-- THE SECOND FORM's CARD OF 'fescuelaw02.BitsTells'. -/
def bitsTellsUptoCard : Claim7 := { stood := { row := bitsTellsUptoRow, standIns := [], harness := (true, "ee1ea3d142ffbebdd2ac9ea02c5f6e5e0c339a0411b58484fe983110ce1fafee"), looks := false }, kinds := [], alts := [], laidByText := true, laidKinds := [.data], laidTests := true, laidLooks := .later }
def BitsTellsUptoCardSaid : Prop := Claim7.holds Tryd.pinned (.plain (OpenSpec.upto bitsTellsSpec)) bitsTellsUptoCard

/-- THE SECOND FORM's CARD OF 'fescuelaw02.BitsMembers'. -/
def bitsMembersUptoCard : Claim7 := { stood := { row := bitsMembersUptoRow, standIns := [], harness := (true, "ee1ea3d142ffbebdd2ac9ea02c5f6e5e0c339a0411b58484fe983110ce1fafee"), looks := false }, kinds := [], alts := [], laidByText := true, laidKinds := [.data], laidTests := true, laidLooks := .later }
def BitsMembersUptoCardSaid : Prop := Claim7.holds Tryd.pinned (.plain (OpenSpec.upto bitsMembersSpec)) bitsMembersUptoCard

/-- THE SECOND FORM's CARD OF 'fescuelaw02.BitsBack'. -/
def bitsBackUptoCard : Claim7 := { stood := { row := bitsBackUptoRow, standIns := [], harness := (true, "ee1ea3d142ffbebdd2ac9ea02c5f6e5e0c339a0411b58484fe983110ce1fafee"), looks := false }, kinds := [], alts := [], laidByText := true, laidKinds := [.data], laidTests := true, laidLooks := .later }
def BitsBackUptoCardSaid : Prop := Claim7.holds Tryd.pinned (.plain (OpenSpec.upto bitsBackSpec)) bitsBackUptoCard

/-- THE SECOND FORM's CARD OF 'fescuelaw02.BitsLaws'. -/
def bitsLawsUptoCard : Claim7 := { stood := { row := bitsLawsUptoRow, standIns := [], harness := (true, "ee1ea3d142ffbebdd2ac9ea02c5f6e5e0c339a0411b58484fe983110ce1fafee"), looks := false }, kinds := [], alts := [], laidByText := true, laidKinds := [.data], laidTests := true, laidLooks := .later }
def BitsLawsUptoCardSaid : Prop := Claim7.holds Tryd.pinned (.plain (OpenSpec.upto bitsLawsSpec)) bitsLawsUptoCard

/-- THE SECOND FORM's CARD OF 'fescuelaw02.BitsNames'. -/
def bitsNamesUptoCard : Claim7 := { stood := { row := bitsNamesUptoRow, standIns := [], harness := (true, "ee1ea3d142ffbebdd2ac9ea02c5f6e5e0c339a0411b58484fe983110ce1fafee"), looks := false }, kinds := [], alts := [], laidByText := true, laidKinds := [.data], laidTests := true, laidLooks := .later }
def BitsNamesUptoCardSaid : Prop := Claim7.holds Tryd.pinned (.plain (OpenSpec.upto bitsNamesSpec)) bitsNamesUptoCard
end Rows
end Go.Proofs.YtejjibilgmlhdaaDoor
