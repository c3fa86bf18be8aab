/-
  DERIVED. GIVEN WITH THE SEED: THE CARDS: each row of YtomjpealmhpciaaGreatDoorRows.lean that lists a variable, with what it lists TIED to the program's text (the seventh form; the later family's looks); each row that meets fmt, with fmt's text TOLD by the authors' own Lean function (tested against real Go, not proved from fmt's source: count such statements apart). THE CARD IS WHAT COUNTS. Prove the row's statement (the work); the ties are given (YtomjpealmhpciaaGreatDoorTie.lean); close each card by the builder's one call (the guide's Derived/Test/ToyasCard.lean, 'card_holds'). Laid BY PROGRAM, IN A SANDBOX (cutbox-door.mjs). By AI agents, Wed Nov 11 2026. No macro, syntax, notation, axiom, sorry.
-/
import Derived.Test.YtomjpealmhpciaaGreatDoorRows
import GoSem.ClaimSeven
namespace Go.Proofs.YtomjpealmhpciaaGreatDoor
namespace Rows

/-- THE TIED CARD OF 'dialtonelaw05.BodiesBack'. -/
def bodiesBackCard : Claim7 := { stood := { row := bodiesBackRow, standIns := [], harness := (true, "cb7c10a5780fcdf6cb496eea78c97879ee9426f10991430e3a540f29b2d9d60a"), looks := false }, kinds := [], alts := [], laidByText := true, laidKinds := [.data, .data, .data, .data, .data, .data, .data, .pinned], laidTests := true, laidLooks := .later }
def BodiesBackCardSaid : Prop := Claim7.holds Tryz.pinned (.plain (OpenSpec.ofChange bodiesBackSpec)) bodiesBackCard

/-- THE SECOND FORM's CARD OF 'dialtonelaw05.BodiesBack'. -/
def bodiesBackUptoCard : Claim7 := { stood := { row := bodiesBackUptoRow, standIns := [], harness := (true, "cb7c10a5780fcdf6cb496eea78c97879ee9426f10991430e3a540f29b2d9d60a"), looks := false }, kinds := [], alts := [], laidByText := true, laidKinds := [.data, .data, .data, .data, .data, .data, .data, .pinned], laidTests := true, laidLooks := .later }
def BodiesBackUptoCardSaid : Prop := Claim7.holds Tryz.pinned (.plain (OpenSpec.upto bodiesBackSpec)) bodiesBackUptoCard
end Rows
end Go.Proofs.YtomjpealmhpciaaGreatDoor
