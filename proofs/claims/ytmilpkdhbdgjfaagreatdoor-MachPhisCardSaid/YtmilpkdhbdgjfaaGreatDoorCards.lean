/-
  DERIVED. GIVEN WITH THE SEED: THE CARDS: each row of YtmilpkdhbdgjfaaGreatDoorRows.lean that lists a variable, with what it lists TIED to the program's text (the seventh form; the later family's looks); each row that meets fmt, with fmt's text TOLD by the authors' own Lean function (tested against real Go, not proved from fmt's source: count such statements apart). THE CARD IS WHAT COUNTS. Prove the row's statement (the work); the ties are given (YtmilpkdhbdgjfaaGreatDoorTie.lean); close each card by the builder's one call (the guide's Derived/Test/ToyasCard.lean, 'card_holds'). Laid BY PROGRAM, IN A SANDBOX (cutbox-door.mjs). By AI agents, Wed Nov 11 2026. No macro, syntax, notation, axiom, sorry.
-/
import Derived.Test.YtmilpkdhbdgjfaaGreatDoorRows
import GoSem.ClaimSeven
namespace Go.Proofs.YtmilpkdhbdgjfaaGreatDoor
namespace Rows

/-- THE TIED CARD OF 'fescuelaw15.MachNames'. -/
def machNamesCard : Claim7 := { stood := { row := machNamesRow, standIns := [], harness := (true, "2f9f6c0b3c2de81906776dd94da15008e22d5ca9f51bda1fc08dc53776c5bfb8"), looks := true }, kinds := [], alts := [], laidByText := true, laidKinds := [.data], laidTests := true, laidLooks := .later }
def MachNamesCardSaid : Prop := Claim7.holds Tryz.pinned (.plain (OpenSpec.ofChange machNamesSpec)) machNamesCard

/-- THE TIED CARD OF 'fescuelaw15.MachDoes'. -/
def machDoesCard : Claim7 := { stood := { row := machDoesRow, standIns := [], harness := (true, "2f9f6c0b3c2de81906776dd94da15008e22d5ca9f51bda1fc08dc53776c5bfb8"), looks := true }, kinds := [], alts := [], laidByText := true, laidKinds := [.data], laidTests := true, laidLooks := .later }
def MachDoesCardSaid : Prop := Claim7.holds Tryz.pinned (.plain (OpenSpec.ofChange machDoesSpec)) machDoesCard

/-- THE TIED CARD OF 'fescuelaw15.MachPhis'. -/
def machPhisCard : Claim7 := { stood := { row := machPhisRow, standIns := [], harness := (true, "2f9f6c0b3c2de81906776dd94da15008e22d5ca9f51bda1fc08dc53776c5bfb8"), looks := true }, kinds := [], alts := [], laidByText := true, laidKinds := [.data], laidTests := true, laidLooks := .later }
def MachPhisCardSaid : Prop := Claim7.holds Tryz.pinned (.plain (OpenSpec.ofChange machPhisSpec)) machPhisCard

/-- THE TIED CARD OF 'fescuelaw15.MachSets'. -/
def machSetsCard : Claim7 := { stood := { row := machSetsRow, standIns := [], harness := (true, "2f9f6c0b3c2de81906776dd94da15008e22d5ca9f51bda1fc08dc53776c5bfb8"), looks := true }, kinds := [], alts := [], laidByText := true, laidKinds := [.data], laidTests := true, laidLooks := .later }
def MachSetsCardSaid : Prop := Claim7.holds Tryz.pinned (.plain (OpenSpec.ofChange machSetsSpec)) machSetsCard

/-- THE TIED CARD OF 'fescuelaw15.MachCalls'. -/
def machCallsCard : Claim7 := { stood := { row := machCallsRow, standIns := [], harness := (true, "2f9f6c0b3c2de81906776dd94da15008e22d5ca9f51bda1fc08dc53776c5bfb8"), looks := true }, kinds := [], alts := [], laidByText := true, laidKinds := [.data], laidTests := true, laidLooks := .later }
def MachCallsCardSaid : Prop := Claim7.holds Tryz.pinned (.plain (OpenSpec.ofChange machCallsSpec)) machCallsCard

/-- THE SECOND FORM's CARD OF 'fescuelaw15.MachNames'. -/
def machNamesUptoCard : Claim7 := { stood := { row := machNamesUptoRow, standIns := [], harness := (true, "2f9f6c0b3c2de81906776dd94da15008e22d5ca9f51bda1fc08dc53776c5bfb8"), looks := true }, kinds := [], alts := [], laidByText := true, laidKinds := [.data], laidTests := true, laidLooks := .later }
def MachNamesUptoCardSaid : Prop := Claim7.holds Tryz.pinned (.plain (OpenSpec.upto machNamesSpec)) machNamesUptoCard

/-- THE SECOND FORM's CARD OF 'fescuelaw15.MachDoes'. -/
def machDoesUptoCard : Claim7 := { stood := { row := machDoesUptoRow, standIns := [], harness := (true, "2f9f6c0b3c2de81906776dd94da15008e22d5ca9f51bda1fc08dc53776c5bfb8"), looks := true }, kinds := [], alts := [], laidByText := true, laidKinds := [.data], laidTests := true, laidLooks := .later }
def MachDoesUptoCardSaid : Prop := Claim7.holds Tryz.pinned (.plain (OpenSpec.upto machDoesSpec)) machDoesUptoCard

/-- THE SECOND FORM's CARD OF 'fescuelaw15.MachPhis'. -/
def machPhisUptoCard : Claim7 := { stood := { row := machPhisUptoRow, standIns := [], harness := (true, "2f9f6c0b3c2de81906776dd94da15008e22d5ca9f51bda1fc08dc53776c5bfb8"), looks := true }, kinds := [], alts := [], laidByText := true, laidKinds := [.data], laidTests := true, laidLooks := .later }
def MachPhisUptoCardSaid : Prop := Claim7.holds Tryz.pinned (.plain (OpenSpec.upto machPhisSpec)) machPhisUptoCard

/-- THE SECOND FORM's CARD OF 'fescuelaw15.MachSets'. -/
def machSetsUptoCard : Claim7 := { stood := { row := machSetsUptoRow, standIns := [], harness := (true, "2f9f6c0b3c2de81906776dd94da15008e22d5ca9f51bda1fc08dc53776c5bfb8"), looks := true }, kinds := [], alts := [], laidByText := true, laidKinds := [.data], laidTests := true, laidLooks := .later }
def MachSetsUptoCardSaid : Prop := Claim7.holds Tryz.pinned (.plain (OpenSpec.upto machSetsSpec)) machSetsUptoCard

/-- THE SECOND FORM's CARD OF 'fescuelaw15.MachCalls'. -/
def machCallsUptoCard : Claim7 := { stood := { row := machCallsUptoRow, standIns := [], harness := (true, "2f9f6c0b3c2de81906776dd94da15008e22d5ca9f51bda1fc08dc53776c5bfb8"), looks := true }, kinds := [], alts := [], laidByText := true, laidKinds := [.data], laidTests := true, laidLooks := .later }
def MachCallsUptoCardSaid : Prop := Claim7.holds Tryz.pinned (.plain (OpenSpec.upto machCallsSpec)) machCallsUptoCard
end Rows
end Go.Proofs.YtmilpkdhbdgjfaaGreatDoor
