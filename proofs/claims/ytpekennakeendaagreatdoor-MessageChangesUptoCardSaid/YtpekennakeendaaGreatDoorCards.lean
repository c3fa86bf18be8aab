/-
  DERIVED. GIVEN WITH THE SEED: THE CARDS: each row of YtpekennakeendaaGreatDoorRows.lean that lists a variable, with what it lists TIED to the program's text (the seventh form; the later family's looks); each row that meets fmt, with fmt's text TOLD by the authors' own Lean function (tested against real Go, not proved from fmt's source: count such statements apart). THE CARD IS WHAT COUNTS. Prove the row's statement (the work); the ties are given (YtpekennakeendaaGreatDoorTie.lean); close each card by the builder's one call (the guide's Derived/Test/ToyasCard.lean, 'card_holds'). Laid BY PROGRAM, IN A SANDBOX (cutbox-door.mjs). By AI agents, Wed Nov 11 2026. No macro, syntax, notation, axiom, sorry.
-/
import Derived.Test.YtpekennakeendaaGreatDoorRows
import GoSem.ClaimSeven
namespace Go.Proofs.YtpekennakeendaaGreatDoor
namespace Rows

/-- THE TIED CARD OF 'dialtonelaw04.MessageChanges'. -/
def messageChangesCard : Claim7 := { stood := { row := messageChangesRow, standIns := [], harness := (true, "fdb2b7256128905f67ea0fa9dcc9d082c8cad6e41747b2f32430104bb09dc127"), looks := false }, kinds := [], alts := [], laidByText := true, laidKinds := [.data, .data, .data, .data, .data], laidTests := true, laidLooks := .later }
def MessageChangesCardSaid : Prop := Claim7.holds Tryz.pinned (.plain (OpenSpec.ofChange messageChangesSpec)) messageChangesCard

/-- THE TIED CARD OF 'dialtonelaw04.MessageKeeps'. -/
def messageKeepsCard : Claim7 := { stood := { row := messageKeepsRow, standIns := [], harness := (true, "fdb2b7256128905f67ea0fa9dcc9d082c8cad6e41747b2f32430104bb09dc127"), looks := false }, kinds := [], alts := [], laidByText := true, laidKinds := [.data, .data, .data, .data, .data], laidTests := true, laidLooks := .later }
def MessageKeepsCardSaid : Prop := Claim7.holds Tryz.pinned (.plain (OpenSpec.ofChange messageKeepsSpec)) messageKeepsCard

/-- THE SECOND FORM's CARD OF 'dialtonelaw04.MessageChanges'. -/
def messageChangesUptoCard : Claim7 := { stood := { row := messageChangesUptoRow, standIns := [], harness := (true, "fdb2b7256128905f67ea0fa9dcc9d082c8cad6e41747b2f32430104bb09dc127"), looks := false }, kinds := [], alts := [], laidByText := true, laidKinds := [.data, .data, .data, .data, .data], laidTests := true, laidLooks := .later }
def MessageChangesUptoCardSaid : Prop := Claim7.holds Tryz.pinned (.plain (OpenSpec.upto messageChangesSpec)) messageChangesUptoCard
end Rows
end Go.Proofs.YtpekennakeendaaGreatDoor
