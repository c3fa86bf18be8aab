/-
  DERIVED. GIVEN WITH THE SEED: THE CARDS: each row of YtcejgbgpflkedaaGreatDoorRows.lean that lists a variable, with what it lists TIED to the program's text (the seventh form; the later family's looks); each row that meets fmt, with fmt's text TOLD by the authors' own Lean function (tested against real Go, not proved from fmt's source: count such statements apart). THE CARD IS WHAT COUNTS. Prove the row's statement (the work); the ties are given (YtcejgbgpflkedaaGreatDoorTie.lean); close each card by the builder's one call (the guide's Derived/Test/ToyasCard.lean, 'card_holds'). Laid BY PROGRAM, IN A SANDBOX (cutbox-door.mjs). By AI agents, Wed Nov 11 2026. No macro, syntax, notation, axiom, sorry.
-/
import Derived.Test.YtcejgbgpflkedaaGreatDoorRows
import GoSem.ClaimSeven
namespace Go.Proofs.YtcejgbgpflkedaaGreatDoor
namespace Rows

/-- THE TIED CARD OF 'dialtonelaw21.RoutingBacks'. -/
def routingBacksCard : Claim7 := { stood := { row := routingBacksRow, standIns := [], harness := (true, "6c5f904c4a69142d63581827347f9b832fdc11b59b66962e69d2b2d0df8b7513"), looks := true }, kinds := [], alts := [], laidByText := true, laidKinds := [.data, .data, .data, .data, .data, .sentinel, .sentinel, .data, .data, .data, .pinned], laidTests := true, laidLooks := .later }
def RoutingBacksCardSaid : Prop := Claim7.holds Tryz.pinned (.plain (OpenSpec.ofChange routingBacksSpec)) routingBacksCard

/-- THE SECOND FORM's CARD OF 'dialtonelaw21.RoutingBacks'. -/
def routingBacksUptoCard : Claim7 := { stood := { row := routingBacksUptoRow, standIns := [], harness := (true, "6c5f904c4a69142d63581827347f9b832fdc11b59b66962e69d2b2d0df8b7513"), looks := true }, kinds := [], alts := [], laidByText := true, laidKinds := [.data, .data, .data, .data, .data, .sentinel, .sentinel, .data, .data, .data, .pinned], laidTests := true, laidLooks := .later }
def RoutingBacksUptoCardSaid : Prop := Claim7.holds Tryz.pinned (.plain (OpenSpec.upto routingBacksSpec)) routingBacksUptoCard
end Rows
end Go.Proofs.YtcejgbgpflkedaaGreatDoor
