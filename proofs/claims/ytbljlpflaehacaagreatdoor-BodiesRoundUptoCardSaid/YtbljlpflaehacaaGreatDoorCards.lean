/-
  DERIVED. GIVEN WITH THE SEED: THE CARDS: each row of YtbljlpflaehacaaGreatDoorRows.lean that lists a variable, with what it lists TIED to the program's text (the seventh form; the later family's looks); each row that meets fmt, with fmt's text TOLD by the authors' own Lean function (tested against real Go, not proved from fmt's source: count such statements apart). THE CARD IS WHAT COUNTS. Prove the row's statement (the work); the ties are given (YtbljlpflaehacaaGreatDoorTie.lean); close each card by the builder's one call (the guide's Derived/Test/ToyasCard.lean, 'card_holds'). Laid BY PROGRAM, IN A SANDBOX (cutbox-door.mjs). By AI agents, Wed Nov 11 2026. No macro, syntax, notation, axiom, sorry.
-/
import Derived.Test.YtbljlpflaehacaaGreatDoorRows
import GoSem.ClaimSeven
namespace Go.Proofs.YtbljlpflaehacaaGreatDoor
namespace Rows

/-- THE TIED CARD OF 'dialtonelaw05.BodiesRound'. -/
def bodiesRoundCard : Claim7 := { stood := { row := bodiesRoundRow, standIns := [], harness := (true, "ff9d83e525614a8fc6d32b63c9aa39ff0679903f8daf609232b030ab499cd44d"), looks := false }, kinds := [], alts := [], laidByText := true, laidKinds := [.data, .data, .data, .data, .data, .data, .data, .pinned], laidTests := true, laidLooks := .later }
def BodiesRoundCardSaid : Prop := Claim7.holds Tryz.pinned (.plain (OpenSpec.ofChange bodiesRoundSpec)) bodiesRoundCard

/-- THE TIED CARD OF 'dialtonelaw05.BodiesApart'. -/
def bodiesApartCard : Claim7 := { stood := { row := bodiesApartRow, standIns := [], harness := (true, "ff9d83e525614a8fc6d32b63c9aa39ff0679903f8daf609232b030ab499cd44d"), looks := false }, kinds := [], alts := [], laidByText := true, laidKinds := [.data, .data, .data, .data, .data, .data, .data, .pinned], laidTests := true, laidLooks := .later }
def BodiesApartCardSaid : Prop := Claim7.holds Tryz.pinned (.plain (OpenSpec.ofChange bodiesApartSpec)) bodiesApartCard

/-- THE TIED CARD OF 'dialtonelaw05.BodiesBack'. -/
def bodiesBackCard : Claim7 := { stood := { row := bodiesBackRow, standIns := [], harness := (true, "ff9d83e525614a8fc6d32b63c9aa39ff0679903f8daf609232b030ab499cd44d"), looks := false }, kinds := [], alts := [], laidByText := true, laidKinds := [.data, .data, .data, .data, .data, .data, .data, .pinned], laidTests := true, laidLooks := .later }
def BodiesBackCardSaid : Prop := Claim7.holds Tryz.pinned (.plain (OpenSpec.ofChange bodiesBackSpec)) bodiesBackCard

/-- THE SECOND FORM's CARD OF 'dialtonelaw05.BodiesRound'. -/
def bodiesRoundUptoCard : Claim7 := { stood := { row := bodiesRoundUptoRow, standIns := [], harness := (true, "ff9d83e525614a8fc6d32b63c9aa39ff0679903f8daf609232b030ab499cd44d"), looks := false }, kinds := [], alts := [], laidByText := true, laidKinds := [.data, .data, .data, .data, .data, .data, .data, .pinned], laidTests := true, laidLooks := .later }
def BodiesRoundUptoCardSaid : Prop := Claim7.holds Tryz.pinned (.plain (OpenSpec.upto bodiesRoundSpec)) bodiesRoundUptoCard

/-- THE SECOND FORM's CARD OF 'dialtonelaw05.BodiesApart'. -/
def bodiesApartUptoCard : Claim7 := { stood := { row := bodiesApartUptoRow, standIns := [], harness := (true, "ff9d83e525614a8fc6d32b63c9aa39ff0679903f8daf609232b030ab499cd44d"), looks := false }, kinds := [], alts := [], laidByText := true, laidKinds := [.data, .data, .data, .data, .data, .data, .data, .pinned], laidTests := true, laidLooks := .later }
def BodiesApartUptoCardSaid : Prop := Claim7.holds Tryz.pinned (.plain (OpenSpec.upto bodiesApartSpec)) bodiesApartUptoCard

/-- THE SECOND FORM's CARD OF 'dialtonelaw05.BodiesBack'. -/
def bodiesBackUptoCard : Claim7 := { stood := { row := bodiesBackUptoRow, standIns := [], harness := (true, "ff9d83e525614a8fc6d32b63c9aa39ff0679903f8daf609232b030ab499cd44d"), looks := false }, kinds := [], alts := [], laidByText := true, laidKinds := [.data, .data, .data, .data, .data, .data, .data, .pinned], laidTests := true, laidLooks := .later }
def BodiesBackUptoCardSaid : Prop := Claim7.holds Tryz.pinned (.plain (OpenSpec.upto bodiesBackSpec)) bodiesBackUptoCard
end Rows
end Go.Proofs.YtbljlpflaehacaaGreatDoor
