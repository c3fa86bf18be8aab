/-
  DERIVED. GIVEN WITH THE SEED: THE CARDS: each row of YtiefafeoagcedaaGreatDoorRows.lean that lists a variable, with what it lists TIED to the program's text (the seventh form; the later family's looks); each row that meets fmt, with fmt's text TOLD by the authors' own Lean function (tested against real Go, not proved from fmt's source: count such statements apart). THE CARD IS WHAT COUNTS. Prove the row's statement (the work); the ties are given (YtiefafeoagcedaaGreatDoorTie.lean); close each card by the builder's one call (the guide's Derived/Test/ToyasCard.lean, 'card_holds'). Laid BY PROGRAM, IN A SANDBOX (cutbox-door.mjs). By AI agents, Wed Nov 11 2026. No macro, syntax, notation, axiom, sorry.
-/
import Derived.Test.YtiefafeoagcedaaGreatDoorRows
import GoSem.ClaimSeven
namespace Go.Proofs.YtiefafeoagcedaaGreatDoor
namespace Rows

/-- THE TIED CARD OF 'dialtonelaw21.RoutingForwards'. -/
def routingForwardsCard : Claim7 := { stood := { row := routingForwardsRow, standIns := [], harness := (true, "285c8af284f514edcb37abe0f5abb629b35b90ade082c55b1b455fe76fed3a3a"), looks := true }, kinds := [], alts := [], laidByText := true, laidKinds := [.data, .data, .data, .data, .data, .sentinel, .sentinel, .data, .data, .data, .pinned], laidTests := true, laidLooks := .later }
def RoutingForwardsCardSaid : Prop := Claim7.holds Tryz.pinned (.plain (OpenSpec.ofChange routingForwardsSpec)) routingForwardsCard

/-- THE TIED CARD OF 'dialtonelaw21.RoutingReads'. -/
def routingReadsCard : Claim7 := { stood := { row := routingReadsRow, standIns := [], harness := (true, "285c8af284f514edcb37abe0f5abb629b35b90ade082c55b1b455fe76fed3a3a"), looks := true }, kinds := [], alts := [], laidByText := true, laidKinds := [.data, .data, .data, .data, .data, .sentinel, .sentinel, .data, .data, .data, .pinned], laidTests := true, laidLooks := .later }
def RoutingReadsCardSaid : Prop := Claim7.holds Tryz.pinned (.plain (OpenSpec.ofChange routingReadsSpec)) routingReadsCard

/-- THE TIED CARD OF 'dialtonelaw21.RoutingArrives'. -/
def routingArrivesCard : Claim7 := { stood := { row := routingArrivesRow, standIns := [], harness := (true, "285c8af284f514edcb37abe0f5abb629b35b90ade082c55b1b455fe76fed3a3a"), looks := true }, kinds := [], alts := [], laidByText := true, laidKinds := [.data, .data, .data, .data, .data, .sentinel, .sentinel, .data, .data, .data, .pinned], laidTests := true, laidLooks := .later }
def RoutingArrivesCardSaid : Prop := Claim7.holds Tryz.pinned (.plain (OpenSpec.ofChange routingArrivesSpec)) routingArrivesCard

/-- THE SECOND FORM's CARD OF 'dialtonelaw21.RoutingForwards'. -/
def routingForwardsUptoCard : Claim7 := { stood := { row := routingForwardsUptoRow, standIns := [], harness := (true, "285c8af284f514edcb37abe0f5abb629b35b90ade082c55b1b455fe76fed3a3a"), looks := true }, kinds := [], alts := [], laidByText := true, laidKinds := [.data, .data, .data, .data, .data, .sentinel, .sentinel, .data, .data, .data, .pinned], laidTests := true, laidLooks := .later }
def RoutingForwardsUptoCardSaid : Prop := Claim7.holds Tryz.pinned (.plain (OpenSpec.upto routingForwardsSpec)) routingForwardsUptoCard

/-- THE SECOND FORM's CARD OF 'dialtonelaw21.RoutingReads'. -/
def routingReadsUptoCard : Claim7 := { stood := { row := routingReadsUptoRow, standIns := [], harness := (true, "285c8af284f514edcb37abe0f5abb629b35b90ade082c55b1b455fe76fed3a3a"), looks := true }, kinds := [], alts := [], laidByText := true, laidKinds := [.data, .data, .data, .data, .data, .sentinel, .sentinel, .data, .data, .data, .pinned], laidTests := true, laidLooks := .later }
def RoutingReadsUptoCardSaid : Prop := Claim7.holds Tryz.pinned (.plain (OpenSpec.upto routingReadsSpec)) routingReadsUptoCard

/-- THE SECOND FORM's CARD OF 'dialtonelaw21.RoutingArrives'. -/
def routingArrivesUptoCard : Claim7 := { stood := { row := routingArrivesUptoRow, standIns := [], harness := (true, "285c8af284f514edcb37abe0f5abb629b35b90ade082c55b1b455fe76fed3a3a"), looks := true }, kinds := [], alts := [], laidByText := true, laidKinds := [.data, .data, .data, .data, .data, .sentinel, .sentinel, .data, .data, .data, .pinned], laidTests := true, laidLooks := .later }
def RoutingArrivesUptoCardSaid : Prop := Claim7.holds Tryz.pinned (.plain (OpenSpec.upto routingArrivesSpec)) routingArrivesUptoCard
end Rows
end Go.Proofs.YtiefafeoagcedaaGreatDoor
