/-
  DERIVED. GIVEN WITH THE SEED: THE CARDS: each row of YtpbfkeakaefenaaGreatDoorRows.lean that lists a variable, with what it lists TIED to the program's text (the seventh form; the later family's looks); each row that meets fmt, with fmt's text TOLD by the authors' own Lean function (tested against real Go, not proved from fmt's source: count such statements apart). THE CARD IS WHAT COUNTS. Prove the row's statement (the work); the ties are given (YtpbfkeakaefenaaGreatDoorTie.lean); close each card by the builder's one call (the guide's Derived/Test/ToyasCard.lean, 'card_holds'). Laid BY PROGRAM, IN A SANDBOX (cutbox-door.mjs). By AI agents, Wed Nov 11 2026. No macro, syntax, notation, axiom, sorry.
-/
import Derived.Test.YtpbfkeakaefenaaGreatDoorRows
import GoSem.ClaimSeven
namespace Go.Proofs.YtpbfkeakaefenaaGreatDoor
namespace Rows

/-- THE TIED CARD OF 'dialtonelaw03.HeaderVias'. -/
def headerViasCard : Claim7 := { stood := { row := headerViasRow, standIns := [], harness := (true, "45e7fd8bd84c4d48e6c16f32c76628527975360a20ca6fb4e14c4fd5b8e3c666"), looks := false }, kinds := [], alts := [], laidByText := true, laidKinds := [.data, .data, .data, .data, .data, .data, .data, .pinned], laidTests := true, laidLooks := .later }
def HeaderViasCardSaid : Prop := Claim7.holds Tryz.pinned (.plain (OpenSpec.ofChange headerViasSpec)) headerViasCard

/-- THE TIED CARD OF 'dialtonelaw03.HeaderStable'. -/
def headerStableCard : Claim7 := { stood := { row := headerStableRow, standIns := [], harness := (true, "45e7fd8bd84c4d48e6c16f32c76628527975360a20ca6fb4e14c4fd5b8e3c666"), looks := false }, kinds := [], alts := [], laidByText := true, laidKinds := [.data, .data, .data, .data, .data, .data, .data, .pinned], laidTests := true, laidLooks := .later }
def HeaderStableCardSaid : Prop := Claim7.holds Tryz.pinned (.plain (OpenSpec.ofChange headerStableSpec)) headerStableCard

/-- THE TIED CARD OF 'dialtonelaw03.HeaderAddresses'. -/
def headerAddressesCard : Claim7 := { stood := { row := headerAddressesRow, standIns := [], harness := (true, "45e7fd8bd84c4d48e6c16f32c76628527975360a20ca6fb4e14c4fd5b8e3c666"), looks := false }, kinds := [], alts := [], laidByText := true, laidKinds := [.data, .data, .data, .data, .data, .data, .data, .pinned], laidTests := true, laidLooks := .later }
def HeaderAddressesCardSaid : Prop := Claim7.holds Tryz.pinned (.plain (OpenSpec.ofChange headerAddressesSpec)) headerAddressesCard

/-- THE TIED CARD OF 'dialtonelaw03.HeaderTagged'. -/
def headerTaggedCard : Claim7 := { stood := { row := headerTaggedRow, standIns := [], harness := (true, "45e7fd8bd84c4d48e6c16f32c76628527975360a20ca6fb4e14c4fd5b8e3c666"), looks := false }, kinds := [], alts := [], laidByText := true, laidKinds := [.data, .data, .data, .data, .data, .data, .data, .pinned], laidTests := true, laidLooks := .later }
def HeaderTaggedCardSaid : Prop := Claim7.holds Tryz.pinned (.plain (OpenSpec.ofChange headerTaggedSpec)) headerTaggedCard

/-- THE SECOND FORM's CARD OF 'dialtonelaw03.HeaderVias'. -/
def headerViasUptoCard : Claim7 := { stood := { row := headerViasUptoRow, standIns := [], harness := (true, "45e7fd8bd84c4d48e6c16f32c76628527975360a20ca6fb4e14c4fd5b8e3c666"), looks := false }, kinds := [], alts := [], laidByText := true, laidKinds := [.data, .data, .data, .data, .data, .data, .data, .pinned], laidTests := true, laidLooks := .later }
def HeaderViasUptoCardSaid : Prop := Claim7.holds Tryz.pinned (.plain (OpenSpec.upto headerViasSpec)) headerViasUptoCard

/-- THE SECOND FORM's CARD OF 'dialtonelaw03.HeaderStable'. -/
def headerStableUptoCard : Claim7 := { stood := { row := headerStableUptoRow, standIns := [], harness := (true, "45e7fd8bd84c4d48e6c16f32c76628527975360a20ca6fb4e14c4fd5b8e3c666"), looks := false }, kinds := [], alts := [], laidByText := true, laidKinds := [.data, .data, .data, .data, .data, .data, .data, .pinned], laidTests := true, laidLooks := .later }
def HeaderStableUptoCardSaid : Prop := Claim7.holds Tryz.pinned (.plain (OpenSpec.upto headerStableSpec)) headerStableUptoCard

/-- THE SECOND FORM's CARD OF 'dialtonelaw03.HeaderAddresses'. -/
def headerAddressesUptoCard : Claim7 := { stood := { row := headerAddressesUptoRow, standIns := [], harness := (true, "45e7fd8bd84c4d48e6c16f32c76628527975360a20ca6fb4e14c4fd5b8e3c666"), looks := false }, kinds := [], alts := [], laidByText := true, laidKinds := [.data, .data, .data, .data, .data, .data, .data, .pinned], laidTests := true, laidLooks := .later }
def HeaderAddressesUptoCardSaid : Prop := Claim7.holds Tryz.pinned (.plain (OpenSpec.upto headerAddressesSpec)) headerAddressesUptoCard

/-- THE SECOND FORM's CARD OF 'dialtonelaw03.HeaderTagged'. -/
def headerTaggedUptoCard : Claim7 := { stood := { row := headerTaggedUptoRow, standIns := [], harness := (true, "45e7fd8bd84c4d48e6c16f32c76628527975360a20ca6fb4e14c4fd5b8e3c666"), looks := false }, kinds := [], alts := [], laidByText := true, laidKinds := [.data, .data, .data, .data, .data, .data, .data, .pinned], laidTests := true, laidLooks := .later }
def HeaderTaggedUptoCardSaid : Prop := Claim7.holds Tryz.pinned (.plain (OpenSpec.upto headerTaggedSpec)) headerTaggedUptoCard
end Rows
end Go.Proofs.YtpbfkeakaefenaaGreatDoor
