/-
  DERIVED. GIVEN WITH THE SEED: THE CARDS: each row of YtlobmefcflhmaaaGreatDoorRows.lean that lists a variable, with what it lists TIED to the program's text (the seventh form; the later family's looks); each row that meets fmt, with fmt's text TOLD by the authors' own Lean function (tested against real Go, not proved from fmt's source: count such statements apart). THE CARD IS WHAT COUNTS. Prove the row's statement (the work); the ties are given (YtlobmefcflhmaaaGreatDoorTie.lean); close each card by the builder's one call (the guide's Derived/Test/ToyasCard.lean, 'card_holds'). Laid BY PROGRAM, IN A SANDBOX (cutbox-door.mjs). By AI agents, Wed Nov 11 2026. No macro, syntax, notation, axiom, sorry.
-/
import Derived.Test.YtlobmefcflhmaaaGreatDoorRows
import GoSem.ClaimSeven
namespace Go.Proofs.YtlobmefcflhmaaaGreatDoor
namespace Rows

/-- THE TIED CARD OF 'dialtonelaw05.BodiesSplits'. -/
def bodiesSplitsCard : Claim7 := { stood := { row := bodiesSplitsRow, standIns := [], harness := (true, "71e9b11fbf4e3da1b96ec8e3c8c3f42c40432c2951a6fd655d06d9dfb493f977"), looks := false }, kinds := [], alts := [], laidByText := true, laidKinds := [.data, .data, .data, .data, .data, .data, .data, .pinned], laidTests := true, laidLooks := .later }
def BodiesSplitsCardSaid : Prop := Claim7.holds Tryz.pinned (.plain (OpenSpec.ofChange bodiesSplitsSpec)) bodiesSplitsCard

/-- THE TIED CARD OF 'dialtonelaw05.BodiesJoins'. -/
def bodiesJoinsCard : Claim7 := { stood := { row := bodiesJoinsRow, standIns := [], harness := (true, "71e9b11fbf4e3da1b96ec8e3c8c3f42c40432c2951a6fd655d06d9dfb493f977"), looks := false }, kinds := [], alts := [], laidByText := true, laidKinds := [.data, .data, .data, .data, .data, .data, .data, .pinned], laidTests := true, laidLooks := .later }
def BodiesJoinsCardSaid : Prop := Claim7.holds Tryz.pinned (.plain (OpenSpec.ofChange bodiesJoinsSpec)) bodiesJoinsCard

/-- THE SECOND FORM's CARD OF 'dialtonelaw05.BodiesSplits'. -/
def bodiesSplitsUptoCard : Claim7 := { stood := { row := bodiesSplitsUptoRow, standIns := [], harness := (true, "71e9b11fbf4e3da1b96ec8e3c8c3f42c40432c2951a6fd655d06d9dfb493f977"), looks := false }, kinds := [], alts := [], laidByText := true, laidKinds := [.data, .data, .data, .data, .data, .data, .data, .pinned], laidTests := true, laidLooks := .later }
def BodiesSplitsUptoCardSaid : Prop := Claim7.holds Tryz.pinned (.plain (OpenSpec.upto bodiesSplitsSpec)) bodiesSplitsUptoCard

/-- THE SECOND FORM's CARD OF 'dialtonelaw05.BodiesJoins'. -/
def bodiesJoinsUptoCard : Claim7 := { stood := { row := bodiesJoinsUptoRow, standIns := [], harness := (true, "71e9b11fbf4e3da1b96ec8e3c8c3f42c40432c2951a6fd655d06d9dfb493f977"), looks := false }, kinds := [], alts := [], laidByText := true, laidKinds := [.data, .data, .data, .data, .data, .data, .data, .pinned], laidTests := true, laidLooks := .later }
def BodiesJoinsUptoCardSaid : Prop := Claim7.holds Tryz.pinned (.plain (OpenSpec.upto bodiesJoinsSpec)) bodiesJoinsUptoCard
end Rows
end Go.Proofs.YtlobmefcflhmaaaGreatDoor
