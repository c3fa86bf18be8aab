/-
  DERIVED. GIVEN WITH THE SEED: THE CARDS: each row of YtfkbagnbkppmjaaGreatDoorRows.lean that lists a variable, with what it lists TIED to the program's text (the seventh form; the later family's looks); each row that meets fmt, with fmt's text TOLD by the authors' own Lean function (tested against real Go, not proved from fmt's source: count such statements apart). THE CARD IS WHAT COUNTS. Prove the row's statement (the work); the ties are given (YtfkbagnbkppmjaaGreatDoorTie.lean); close each card by the builder's one call (the guide's Derived/Test/ToyasCard.lean, 'card_holds'). Laid BY PROGRAM, IN A SANDBOX (cutbox-door.mjs). By AI agents, Wed Nov 11 2026. No macro, syntax, notation, axiom, sorry.
-/
import Derived.Test.YtfkbagnbkppmjaaGreatDoorRows
import GoSem.ClaimSeven
namespace Go.Proofs.YtfkbagnbkppmjaaGreatDoor
namespace Rows

/-- THE TIED CARD OF 'dialtonelaw05.BodiesSingle'. -/
def bodiesSingleCard : Claim7 := { stood := { row := bodiesSingleRow, standIns := [], harness := (true, "1c44b8cb00fa562b596dbc9c4da550af935bab0028cde4a3681d76fa12b3e5ad"), looks := false }, kinds := [], alts := [], laidByText := true, laidKinds := [.data, .data, .data, .data, .data, .data, .data, .pinned], laidTests := true, laidLooks := .later }
def BodiesSingleCardSaid : Prop := Claim7.holds Tryz.pinned (.plain (OpenSpec.ofChange bodiesSingleSpec)) bodiesSingleCard

/-- THE TIED CARD OF 'dialtonelaw04.MessageKeeps'. -/
def messageKeepsCard : Claim7 := { stood := { row := messageKeepsRow, standIns := [], harness := (true, "1c44b8cb00fa562b596dbc9c4da550af935bab0028cde4a3681d76fa12b3e5ad"), looks := false }, kinds := [], alts := [], laidByText := true, laidKinds := [.data, .data, .data, .data, .data], laidTests := true, laidLooks := .later }
def MessageKeepsCardSaid : Prop := Claim7.holds Tryz.pinned (.plain (OpenSpec.ofChange messageKeepsSpec)) messageKeepsCard

/-- THE SECOND FORM's CARD OF 'dialtonelaw05.BodiesSingle'. -/
def bodiesSingleUptoCard : Claim7 := { stood := { row := bodiesSingleUptoRow, standIns := [], harness := (true, "1c44b8cb00fa562b596dbc9c4da550af935bab0028cde4a3681d76fa12b3e5ad"), looks := false }, kinds := [], alts := [], laidByText := true, laidKinds := [.data, .data, .data, .data, .data, .data, .data, .pinned], laidTests := true, laidLooks := .later }
def BodiesSingleUptoCardSaid : Prop := Claim7.holds Tryz.pinned (.plain (OpenSpec.upto bodiesSingleSpec)) bodiesSingleUptoCard

/-- THE SECOND FORM's CARD OF 'dialtonelaw04.MessageKeeps'. -/
def messageKeepsUptoCard : Claim7 := { stood := { row := messageKeepsUptoRow, standIns := [], harness := (true, "1c44b8cb00fa562b596dbc9c4da550af935bab0028cde4a3681d76fa12b3e5ad"), looks := false }, kinds := [], alts := [], laidByText := true, laidKinds := [.data, .data, .data, .data, .data], laidTests := true, laidLooks := .later }
def MessageKeepsUptoCardSaid : Prop := Claim7.holds Tryz.pinned (.plain (OpenSpec.upto messageKeepsSpec)) messageKeepsUptoCard
end Rows
end Go.Proofs.YtfkbagnbkppmjaaGreatDoor
