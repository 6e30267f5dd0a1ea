/-
  DERIVED. GIVEN WITH THE SEED: THE CARDS: each row of YtfnndahpddkniaaGreatDoorRows.lean that lists a variable, with what it lists TIED to the program's text (the seventh form; the later family's looks); each row that meets fmt, with fmt's text TOLD by the authors' own Lean function (tested against real Go, not proved from fmt's source: count such statements apart). THE CARD IS WHAT COUNTS. Prove the row's statement (the work); the ties are given (YtfnndahpddkniaaGreatDoorTie.lean); close each card by the builder's one call (the guide's Derived/Test/ToyasCard.lean, 'card_holds'). Laid BY PROGRAM, IN A SANDBOX (cutbox-door.mjs). By AI agents, Wed Nov 11 2026. No macro, syntax, notation, axiom, sorry.
-/
import Derived.Test.YtfnndahpddkniaaGreatDoorRows
import GoSem.ClaimSeven
namespace Go.Proofs.YtfnndahpddkniaaGreatDoor
namespace Rows

/-- THE TIED CARD OF 'fescuelaw18.NodeValues'. -/
def nodeValuesCard : Claim7 := { stood := { row := nodeValuesRow, standIns := [], harness := (true, "aa8cc59f4dd9731bcf0b13e0edb9834b3ed6a84869d6777b79fcf284f9a0c67e"), looks := true }, kinds := [], alts := [], laidByText := true, laidKinds := [.data], laidTests := true, laidLooks := .later }
def NodeValuesCardSaid : Prop := Claim7.holds Tryz.pinned (.plain (OpenSpec.ofChange nodeValuesSpec)) nodeValuesCard

/-- THE TIED CARD OF 'fescuelaw18.NodeTells'. -/
def nodeTellsCard : Claim7 := { stood := { row := nodeTellsRow, standIns := [], harness := (true, "aa8cc59f4dd9731bcf0b13e0edb9834b3ed6a84869d6777b79fcf284f9a0c67e"), looks := true }, kinds := [], alts := [], laidByText := true, laidKinds := [.data], laidTests := true, laidLooks := .later }
def NodeTellsCardSaid : Prop := Claim7.holds Tryz.pinned (.plain (OpenSpec.ofChange nodeTellsSpec)) nodeTellsCard

/-- THE TIED CARD OF 'fescuelaw18.NodeApart'. -/
def nodeApartCard : Claim7 := { stood := { row := nodeApartRow, standIns := [], harness := (true, "aa8cc59f4dd9731bcf0b13e0edb9834b3ed6a84869d6777b79fcf284f9a0c67e"), looks := true }, kinds := [], alts := [], laidByText := true, laidKinds := [.data], laidTests := true, laidLooks := .later }
def NodeApartCardSaid : Prop := Claim7.holds Tryz.pinned (.plain (OpenSpec.ofChange nodeApartSpec)) nodeApartCard

/-- THE TIED CARD OF 'fescuelaw18.NodeNames'. -/
def nodeNamesCard : Claim7 := { stood := { row := nodeNamesRow, standIns := [], harness := (true, "aa8cc59f4dd9731bcf0b13e0edb9834b3ed6a84869d6777b79fcf284f9a0c67e"), looks := true }, kinds := [], alts := [], laidByText := true, laidKinds := [.data], laidTests := true, laidLooks := .later }
def NodeNamesCardSaid : Prop := Claim7.holds Tryz.pinned (.plain (OpenSpec.ofChange nodeNamesSpec)) nodeNamesCard

/-- THE TIED CARD OF 'fescuelaw18.NodeBack'. -/
def nodeBackCard : Claim7 := { stood := { row := nodeBackRow, standIns := [], harness := (true, "aa8cc59f4dd9731bcf0b13e0edb9834b3ed6a84869d6777b79fcf284f9a0c67e"), looks := true }, kinds := [], alts := [], laidByText := true, laidKinds := [.data], laidTests := true, laidLooks := .later }
def NodeBackCardSaid : Prop := Claim7.holds Tryz.pinned (.plain (OpenSpec.ofChange nodeBackSpec)) nodeBackCard

/-- THE SECOND FORM's CARD OF 'fescuelaw18.NodeValues'. -/
def nodeValuesUptoCard : Claim7 := { stood := { row := nodeValuesUptoRow, standIns := [], harness := (true, "aa8cc59f4dd9731bcf0b13e0edb9834b3ed6a84869d6777b79fcf284f9a0c67e"), looks := true }, kinds := [], alts := [], laidByText := true, laidKinds := [.data], laidTests := true, laidLooks := .later }
def NodeValuesUptoCardSaid : Prop := Claim7.holds Tryz.pinned (.plain (OpenSpec.upto nodeValuesSpec)) nodeValuesUptoCard

/-- THE SECOND FORM's CARD OF 'fescuelaw18.NodeTells'. -/
def nodeTellsUptoCard : Claim7 := { stood := { row := nodeTellsUptoRow, standIns := [], harness := (true, "aa8cc59f4dd9731bcf0b13e0edb9834b3ed6a84869d6777b79fcf284f9a0c67e"), looks := true }, kinds := [], alts := [], laidByText := true, laidKinds := [.data], laidTests := true, laidLooks := .later }
def NodeTellsUptoCardSaid : Prop := Claim7.holds Tryz.pinned (.plain (OpenSpec.upto nodeTellsSpec)) nodeTellsUptoCard

/-- THE SECOND FORM's CARD OF 'fescuelaw18.NodeApart'. -/
def nodeApartUptoCard : Claim7 := { stood := { row := nodeApartUptoRow, standIns := [], harness := (true, "aa8cc59f4dd9731bcf0b13e0edb9834b3ed6a84869d6777b79fcf284f9a0c67e"), looks := true }, kinds := [], alts := [], laidByText := true, laidKinds := [.data], laidTests := true, laidLooks := .later }
def NodeApartUptoCardSaid : Prop := Claim7.holds Tryz.pinned (.plain (OpenSpec.upto nodeApartSpec)) nodeApartUptoCard

/-- THE SECOND FORM's CARD OF 'fescuelaw18.NodeNames'. -/
def nodeNamesUptoCard : Claim7 := { stood := { row := nodeNamesUptoRow, standIns := [], harness := (true, "aa8cc59f4dd9731bcf0b13e0edb9834b3ed6a84869d6777b79fcf284f9a0c67e"), looks := true }, kinds := [], alts := [], laidByText := true, laidKinds := [.data], laidTests := true, laidLooks := .later }
def NodeNamesUptoCardSaid : Prop := Claim7.holds Tryz.pinned (.plain (OpenSpec.upto nodeNamesSpec)) nodeNamesUptoCard

/-- THE SECOND FORM's CARD OF 'fescuelaw18.NodeBack'. -/
def nodeBackUptoCard : Claim7 := { stood := { row := nodeBackUptoRow, standIns := [], harness := (true, "aa8cc59f4dd9731bcf0b13e0edb9834b3ed6a84869d6777b79fcf284f9a0c67e"), looks := true }, kinds := [], alts := [], laidByText := true, laidKinds := [.data], laidTests := true, laidLooks := .later }
def NodeBackUptoCardSaid : Prop := Claim7.holds Tryz.pinned (.plain (OpenSpec.upto nodeBackSpec)) nodeBackUptoCard
end Rows
end Go.Proofs.YtfnndahpddkniaaGreatDoor
