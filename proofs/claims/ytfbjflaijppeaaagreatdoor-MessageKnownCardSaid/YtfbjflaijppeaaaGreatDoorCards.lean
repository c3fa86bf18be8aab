/-
  DERIVED. GIVEN WITH THE SEED: THE CARDS: each row of YtfbjflaijppeaaaGreatDoorRows.lean that lists a variable, with what it lists TIED to the program's text (the seventh form; the later family's looks); each row that meets fmt, with fmt's text TOLD by the authors' own Lean function (tested against real Go, not proved from fmt's source: count such statements apart). THE CARD IS WHAT COUNTS. Prove the row's statement (the work); the ties are given (YtfbjflaijppeaaaGreatDoorTie.lean); close each card by the builder's one call (the guide's Derived/Test/ToyasCard.lean, 'card_holds'). Laid BY PROGRAM, IN A SANDBOX (cutbox-door.mjs). By AI agents, Wed Nov 11 2026. No macro, syntax, notation, axiom, sorry.
-/
import Derived.Test.YtfbjflaijppeaaaGreatDoorRows
import GoSem.ClaimSeven
namespace Go.Proofs.YtfbjflaijppeaaaGreatDoor
namespace Rows

/-- THE TIED CARD OF 'dialtonelaw05.BodiesSingle'. -/
def bodiesSingleCard : Claim7 := { stood := { row := bodiesSingleRow, standIns := [], harness := (true, "a0971e6ce69b2718a0988bdd3d57a8c543ef8a65b7d96f5efde42e435e2053b6"), looks := false }, kinds := [], alts := [], laidByText := true, laidKinds := [.data, .data, .data, .data, .data, .data, .data, .pinned], laidTests := true, laidLooks := .later }
def BodiesSingleCardSaid : Prop := Claim7.holds Tryz.pinned (.plain (OpenSpec.ofChange bodiesSingleSpec)) bodiesSingleCard

/-- THE TIED CARD OF 'dialtonelaw04.MessageChanges'. -/
def messageChangesCard : Claim7 := { stood := { row := messageChangesRow, standIns := [], harness := (true, "a0971e6ce69b2718a0988bdd3d57a8c543ef8a65b7d96f5efde42e435e2053b6"), looks := false }, kinds := [], alts := [], laidByText := true, laidKinds := [.data, .data, .data, .data, .data], laidTests := true, laidLooks := .later }
def MessageChangesCardSaid : Prop := Claim7.holds Tryz.pinned (.plain (OpenSpec.ofChange messageChangesSpec)) messageChangesCard

/-- THE TIED CARD OF 'dialtonelaw04.MessageKeeps'. -/
def messageKeepsCard : Claim7 := { stood := { row := messageKeepsRow, standIns := [], harness := (true, "a0971e6ce69b2718a0988bdd3d57a8c543ef8a65b7d96f5efde42e435e2053b6"), looks := false }, kinds := [], alts := [], laidByText := true, laidKinds := [.data, .data, .data, .data, .data], laidTests := true, laidLooks := .later }
def MessageKeepsCardSaid : Prop := Claim7.holds Tryz.pinned (.plain (OpenSpec.ofChange messageKeepsSpec)) messageKeepsCard

/-- THE TIED CARD OF 'dialtonelaw04.MessageKnown'. -/
def messageKnownCard : Claim7 := { stood := { row := messageKnownRow, standIns := [], harness := (true, "a0971e6ce69b2718a0988bdd3d57a8c543ef8a65b7d96f5efde42e435e2053b6"), looks := false }, kinds := [], alts := [], laidByText := true, laidKinds := [.data, .data, .data, .data, .data], laidTests := true, laidLooks := .later }
def MessageKnownCardSaid : Prop := Claim7.holds Tryz.pinned (.plain (OpenSpec.ofChange messageKnownSpec)) messageKnownCard

/-- THE SECOND FORM's CARD OF 'dialtonelaw05.BodiesSingle'. -/
def bodiesSingleUptoCard : Claim7 := { stood := { row := bodiesSingleUptoRow, standIns := [], harness := (true, "a0971e6ce69b2718a0988bdd3d57a8c543ef8a65b7d96f5efde42e435e2053b6"), looks := false }, kinds := [], alts := [], laidByText := true, laidKinds := [.data, .data, .data, .data, .data, .data, .data, .pinned], laidTests := true, laidLooks := .later }
def BodiesSingleUptoCardSaid : Prop := Claim7.holds Tryz.pinned (.plain (OpenSpec.upto bodiesSingleSpec)) bodiesSingleUptoCard

/-- THE SECOND FORM's CARD OF 'dialtonelaw04.MessageChanges'. -/
def messageChangesUptoCard : Claim7 := { stood := { row := messageChangesUptoRow, standIns := [], harness := (true, "a0971e6ce69b2718a0988bdd3d57a8c543ef8a65b7d96f5efde42e435e2053b6"), looks := false }, kinds := [], alts := [], laidByText := true, laidKinds := [.data, .data, .data, .data, .data], laidTests := true, laidLooks := .later }
def MessageChangesUptoCardSaid : Prop := Claim7.holds Tryz.pinned (.plain (OpenSpec.upto messageChangesSpec)) messageChangesUptoCard

/-- THE SECOND FORM's CARD OF 'dialtonelaw04.MessageKeeps'. -/
def messageKeepsUptoCard : Claim7 := { stood := { row := messageKeepsUptoRow, standIns := [], harness := (true, "a0971e6ce69b2718a0988bdd3d57a8c543ef8a65b7d96f5efde42e435e2053b6"), looks := false }, kinds := [], alts := [], laidByText := true, laidKinds := [.data, .data, .data, .data, .data], laidTests := true, laidLooks := .later }
def MessageKeepsUptoCardSaid : Prop := Claim7.holds Tryz.pinned (.plain (OpenSpec.upto messageKeepsSpec)) messageKeepsUptoCard

/-- THE SECOND FORM's CARD OF 'dialtonelaw04.MessageKnown'. -/
def messageKnownUptoCard : Claim7 := { stood := { row := messageKnownUptoRow, standIns := [], harness := (true, "a0971e6ce69b2718a0988bdd3d57a8c543ef8a65b7d96f5efde42e435e2053b6"), looks := false }, kinds := [], alts := [], laidByText := true, laidKinds := [.data, .data, .data, .data, .data], laidTests := true, laidLooks := .later }
def MessageKnownUptoCardSaid : Prop := Claim7.holds Tryz.pinned (.plain (OpenSpec.upto messageKnownSpec)) messageKnownUptoCard
end Rows
end Go.Proofs.YtfbjflaijppeaaaGreatDoor
