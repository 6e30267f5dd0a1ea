/-
  DERIVED. GIVEN WITH THE SEED: THE CARDS: each row of YtmejfcakhpihlaaGreatDoorRows.lean that lists a variable, with what it lists TIED to the program's text (the seventh form; the later family's looks); each row that meets fmt, with fmt's text TOLD by the authors' own Lean function (tested against real Go, not proved from fmt's source: count such statements apart). THE CARD IS WHAT COUNTS. Prove the row's statement (the work); the ties are given (YtmejfcakhpihlaaGreatDoorTie.lean); close each card by the builder's one call (the guide's Derived/Test/ToyasCard.lean, 'card_holds'). Laid BY PROGRAM, IN A SANDBOX (cutbox-door.mjs). By AI agents, Wed Nov 11 2026. No macro, syntax, notation, axiom, sorry.
-/
import Derived.Test.YtmejfcakhpihlaaGreatDoorRows
import GoSem.ClaimSeven
namespace Go.Proofs.YtmejfcakhpihlaaGreatDoor
namespace Rows

/-- THE TIED CARD OF 'fescuelaw19.ConsTells'. -/
def consTellsCard : Claim7 := { stood := { row := consTellsRow, standIns := [], harness := (true, "2287c5c85fa43a31fa31d1426d54e8659a15e3ebae0809714f81fa8e5def58ff"), looks := true }, kinds := [], alts := [], laidByText := true, laidKinds := [.data], laidTests := true, laidLooks := .later }
def ConsTellsCardSaid : Prop := Claim7.holds Tryz.pinned (.plain (OpenSpec.ofChange consTellsSpec)) consTellsCard

/-- THE TIED CARD OF 'fescuelaw19.ConsNames'. -/
def consNamesCard : Claim7 := { stood := { row := consNamesRow, standIns := [], harness := (true, "2287c5c85fa43a31fa31d1426d54e8659a15e3ebae0809714f81fa8e5def58ff"), looks := true }, kinds := [], alts := [], laidByText := true, laidKinds := [.data], laidTests := true, laidLooks := .later }
def ConsNamesCardSaid : Prop := Claim7.holds Tryz.pinned (.plain (OpenSpec.ofChange consNamesSpec)) consNamesCard

/-- THE TIED CARD OF 'fescuelaw19.ConsCount'. -/
def consCountCard : Claim7 := { stood := { row := consCountRow, standIns := [], harness := (true, "2287c5c85fa43a31fa31d1426d54e8659a15e3ebae0809714f81fa8e5def58ff"), looks := true }, kinds := [], alts := [], laidByText := true, laidKinds := [.data], laidTests := true, laidLooks := .later }
def ConsCountCardSaid : Prop := Claim7.holds Tryz.pinned (.plain (OpenSpec.ofChange consCountSpec)) consCountCard

/-- THE TIED CARD OF 'fescuelaw19.ConsNodes'. -/
def consNodesCard : Claim7 := { stood := { row := consNodesRow, standIns := [], harness := (true, "2287c5c85fa43a31fa31d1426d54e8659a15e3ebae0809714f81fa8e5def58ff"), looks := true }, kinds := [], alts := [], laidByText := true, laidKinds := [.data], laidTests := true, laidLooks := .later }
def ConsNodesCardSaid : Prop := Claim7.holds Tryz.pinned (.plain (OpenSpec.ofChange consNodesSpec)) consNodesCard

/-- THE TIED CARD OF 'fescuelaw19.ConsPlain'. -/
def consPlainCard : Claim7 := { stood := { row := consPlainRow, standIns := [], harness := (true, "2287c5c85fa43a31fa31d1426d54e8659a15e3ebae0809714f81fa8e5def58ff"), looks := true }, kinds := [], alts := [], laidByText := true, laidKinds := [.data], laidTests := true, laidLooks := .later }
def ConsPlainCardSaid : Prop := Claim7.holds Tryz.pinned (.plain (OpenSpec.ofChange consPlainSpec)) consPlainCard

/-- THE SECOND FORM's CARD OF 'fescuelaw19.ConsTells'. -/
def consTellsUptoCard : Claim7 := { stood := { row := consTellsUptoRow, standIns := [], harness := (true, "2287c5c85fa43a31fa31d1426d54e8659a15e3ebae0809714f81fa8e5def58ff"), looks := true }, kinds := [], alts := [], laidByText := true, laidKinds := [.data], laidTests := true, laidLooks := .later }
def ConsTellsUptoCardSaid : Prop := Claim7.holds Tryz.pinned (.plain (OpenSpec.upto consTellsSpec)) consTellsUptoCard

/-- THE SECOND FORM's CARD OF 'fescuelaw19.ConsNames'. -/
def consNamesUptoCard : Claim7 := { stood := { row := consNamesUptoRow, standIns := [], harness := (true, "2287c5c85fa43a31fa31d1426d54e8659a15e3ebae0809714f81fa8e5def58ff"), looks := true }, kinds := [], alts := [], laidByText := true, laidKinds := [.data], laidTests := true, laidLooks := .later }
def ConsNamesUptoCardSaid : Prop := Claim7.holds Tryz.pinned (.plain (OpenSpec.upto consNamesSpec)) consNamesUptoCard

/-- THE SECOND FORM's CARD OF 'fescuelaw19.ConsCount'. -/
def consCountUptoCard : Claim7 := { stood := { row := consCountUptoRow, standIns := [], harness := (true, "2287c5c85fa43a31fa31d1426d54e8659a15e3ebae0809714f81fa8e5def58ff"), looks := true }, kinds := [], alts := [], laidByText := true, laidKinds := [.data], laidTests := true, laidLooks := .later }
def ConsCountUptoCardSaid : Prop := Claim7.holds Tryz.pinned (.plain (OpenSpec.upto consCountSpec)) consCountUptoCard

/-- THE SECOND FORM's CARD OF 'fescuelaw19.ConsNodes'. -/
def consNodesUptoCard : Claim7 := { stood := { row := consNodesUptoRow, standIns := [], harness := (true, "2287c5c85fa43a31fa31d1426d54e8659a15e3ebae0809714f81fa8e5def58ff"), looks := true }, kinds := [], alts := [], laidByText := true, laidKinds := [.data], laidTests := true, laidLooks := .later }
def ConsNodesUptoCardSaid : Prop := Claim7.holds Tryz.pinned (.plain (OpenSpec.upto consNodesSpec)) consNodesUptoCard

/-- THE SECOND FORM's CARD OF 'fescuelaw19.ConsPlain'. -/
def consPlainUptoCard : Claim7 := { stood := { row := consPlainUptoRow, standIns := [], harness := (true, "2287c5c85fa43a31fa31d1426d54e8659a15e3ebae0809714f81fa8e5def58ff"), looks := true }, kinds := [], alts := [], laidByText := true, laidKinds := [.data], laidTests := true, laidLooks := .later }
def ConsPlainUptoCardSaid : Prop := Claim7.holds Tryz.pinned (.plain (OpenSpec.upto consPlainSpec)) consPlainUptoCard
end Rows
end Go.Proofs.YtmejfcakhpihlaaGreatDoor
