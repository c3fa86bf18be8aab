/-
  DERIVED. GIVEN WITH THE SEED: THE CARDS: each row of YtogikccgcnhofaaGreatDoorRows.lean that lists a variable, with what it lists TIED to the program's text (the seventh form; the later family's looks); each row that meets fmt, with fmt's text TOLD by the authors' own Lean function (tested against real Go, not proved from fmt's source: count such statements apart). THE CARD IS WHAT COUNTS. Prove the row's statement (the work); the ties are given (YtogikccgcnhofaaGreatDoorTie.lean); close each card by the builder's one call (the guide's Derived/Test/ToyasCard.lean, 'card_holds'). Laid BY PROGRAM, IN A SANDBOX (cutbox-door.mjs). By AI agents, Wed Nov 11 2026. No macro, syntax, notation, axiom, sorry.
-/
import Derived.Test.YtogikccgcnhofaaGreatDoorRows
import GoSem.ClaimSeven
namespace Go.Proofs.YtogikccgcnhofaaGreatDoor
namespace Rows

/-- THE TIED CARD OF 'dialtonelaw24.ProxyKnown'. -/
def proxyKnownCard : Claim7 := { stood := { row := proxyKnownRow, standIns := [], harness := (true, "78d6c46e301f111fdbe44a9ed7cf4201436d6e192e679c643f5852b750723965"), looks := true }, kinds := [], alts := [], laidByText := true, laidKinds := [.data, .data, .data, .data, .data, .sentinel, .sentinel, .data, .data, .data, .pinned], laidTests := true, laidLooks := .later }
def ProxyKnownCardSaid : Prop := Claim7.holds Tryz.pinned (.plain (OpenSpec.ofChange proxyKnownSpec)) proxyKnownCard

/-- THE SECOND FORM's CARD OF 'dialtonelaw24.ProxyKnown'. -/
def proxyKnownUptoCard : Claim7 := { stood := { row := proxyKnownUptoRow, standIns := [], harness := (true, "78d6c46e301f111fdbe44a9ed7cf4201436d6e192e679c643f5852b750723965"), looks := true }, kinds := [], alts := [], laidByText := true, laidKinds := [.data, .data, .data, .data, .data, .sentinel, .sentinel, .data, .data, .data, .pinned], laidTests := true, laidLooks := .later }
def ProxyKnownUptoCardSaid : Prop := Claim7.holds Tryz.pinned (.plain (OpenSpec.upto proxyKnownSpec)) proxyKnownUptoCard
end Rows
end Go.Proofs.YtogikccgcnhofaaGreatDoor
