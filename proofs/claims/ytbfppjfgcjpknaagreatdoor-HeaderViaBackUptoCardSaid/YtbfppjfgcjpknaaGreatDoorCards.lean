/-
  DERIVED. GIVEN WITH THE SEED: THE CARDS: each row of YtbfppjfgcjpknaaGreatDoorRows.lean that lists a variable, with what it lists TIED to the program's text (the seventh form; the later family's looks); each row that meets fmt, with fmt's text TOLD by the authors' own Lean function (tested against real Go, not proved from fmt's source: count such statements apart). THE CARD IS WHAT COUNTS. Prove the row's statement (the work); the ties are given (YtbfppjfgcjpknaaGreatDoorTie.lean); close each card by the builder's one call (the guide's Derived/Test/ToyasCard.lean, 'card_holds'). Laid BY PROGRAM, IN A SANDBOX (cutbox-door.mjs). By AI agents, Wed Nov 11 2026. No macro, syntax, notation, axiom, sorry.
-/
import Derived.Test.YtbfppjfgcjpknaaGreatDoorRows
import GoSem.ClaimSeven
namespace Go.Proofs.YtbfppjfgcjpknaaGreatDoor
namespace Rows

/-- THE TIED CARD OF 'dialtonelaw03.HeaderVias'. -/
def headerViasCard : Claim7 := { stood := { row := headerViasRow, standIns := [], harness := (true, "40ed2f25382f6187d72465cc01ee8767ae3b9b1401fc6b6a51771e952dd26605"), looks := false }, kinds := [], alts := [], laidByText := true, laidKinds := [.data, .data, .data, .data, .data, .data, .data, .pinned], laidTests := true, laidLooks := .later }
def HeaderViasCardSaid : Prop := Claim7.holds Tryz.pinned (.plain (OpenSpec.ofChange headerViasSpec)) headerViasCard

/-- THE TIED CARD OF 'dialtonelaw03.HeaderItems'. -/
def headerItemsCard : Claim7 := { stood := { row := headerItemsRow, standIns := [], harness := (true, "40ed2f25382f6187d72465cc01ee8767ae3b9b1401fc6b6a51771e952dd26605"), looks := false }, kinds := [], alts := [], laidByText := true, laidKinds := [.data, .data, .data, .data, .data, .data, .data, .pinned], laidTests := true, laidLooks := .later }
def HeaderItemsCardSaid : Prop := Claim7.holds Tryz.pinned (.plain (OpenSpec.ofChange headerItemsSpec)) headerItemsCard

/-- THE TIED CARD OF 'dialtonelaw03.HeaderStable'. -/
def headerStableCard : Claim7 := { stood := { row := headerStableRow, standIns := [], harness := (true, "40ed2f25382f6187d72465cc01ee8767ae3b9b1401fc6b6a51771e952dd26605"), looks := false }, kinds := [], alts := [], laidByText := true, laidKinds := [.data, .data, .data, .data, .data, .data, .data, .pinned], laidTests := true, laidLooks := .later }
def HeaderStableCardSaid : Prop := Claim7.holds Tryz.pinned (.plain (OpenSpec.ofChange headerStableSpec)) headerStableCard

/-- THE TIED CARD OF 'dialtonelaw03.HeaderViaBack'. -/
def headerViaBackCard : Claim7 := { stood := { row := headerViaBackRow, standIns := [], harness := (true, "40ed2f25382f6187d72465cc01ee8767ae3b9b1401fc6b6a51771e952dd26605"), looks := false }, kinds := [], alts := [], laidByText := true, laidKinds := [.data, .data, .data, .data, .data, .data, .data, .pinned], laidTests := true, laidLooks := .later }
def HeaderViaBackCardSaid : Prop := Claim7.holds Tryz.pinned (.plain (OpenSpec.ofChange headerViaBackSpec)) headerViaBackCard

/-- THE TIED CARD OF 'dialtonelaw03.HeaderItemBack'. -/
def headerItemBackCard : Claim7 := { stood := { row := headerItemBackRow, standIns := [], harness := (true, "40ed2f25382f6187d72465cc01ee8767ae3b9b1401fc6b6a51771e952dd26605"), looks := false }, kinds := [], alts := [], laidByText := true, laidKinds := [.data, .data, .data, .data, .data, .data, .data, .pinned], laidTests := true, laidLooks := .later }
def HeaderItemBackCardSaid : Prop := Claim7.holds Tryz.pinned (.plain (OpenSpec.ofChange headerItemBackSpec)) headerItemBackCard

/-- THE TIED CARD OF 'dialtonelaw03.HeaderElements'. -/
def headerElementsCard : Claim7 := { stood := { row := headerElementsRow, standIns := [], harness := (true, "40ed2f25382f6187d72465cc01ee8767ae3b9b1401fc6b6a51771e952dd26605"), looks := false }, kinds := [], alts := [], laidByText := true, laidKinds := [.data, .data, .data, .data, .data, .data, .data, .pinned], laidTests := true, laidLooks := .later }
def HeaderElementsCardSaid : Prop := Claim7.holds Tryz.pinned (.plain (OpenSpec.ofChange headerElementsSpec)) headerElementsCard

/-- THE TIED CARD OF 'dialtonelaw03.HeaderNames'. -/
def headerNamesCard : Claim7 := { stood := { row := headerNamesRow, standIns := [], harness := (true, "40ed2f25382f6187d72465cc01ee8767ae3b9b1401fc6b6a51771e952dd26605"), looks := false }, kinds := [], alts := [], laidByText := true, laidKinds := [.data, .data, .data, .data, .data, .data, .data, .pinned], laidTests := true, laidLooks := .later }
def HeaderNamesCardSaid : Prop := Claim7.holds Tryz.pinned (.plain (OpenSpec.ofChange headerNamesSpec)) headerNamesCard

/-- THE TIED CARD OF 'dialtonelaw03.HeaderCanon'. -/
def headerCanonCard : Claim7 := { stood := { row := headerCanonRow, standIns := [], harness := (true, "40ed2f25382f6187d72465cc01ee8767ae3b9b1401fc6b6a51771e952dd26605"), looks := false }, kinds := [], alts := [], laidByText := true, laidKinds := [.data, .data, .data, .data, .data, .data, .data, .pinned], laidTests := true, laidLooks := .later }
def HeaderCanonCardSaid : Prop := Claim7.holds Tryz.pinned (.plain (OpenSpec.ofChange headerCanonSpec)) headerCanonCard

/-- THE TIED CARD OF 'dialtonelaw03.HeaderKnown'. -/
def headerKnownCard : Claim7 := { stood := { row := headerKnownRow, standIns := [], harness := (true, "40ed2f25382f6187d72465cc01ee8767ae3b9b1401fc6b6a51771e952dd26605"), looks := false }, kinds := [], alts := [], laidByText := true, laidKinds := [.data, .data, .data, .data, .data, .data, .data, .pinned], laidTests := true, laidLooks := .later }
def HeaderKnownCardSaid : Prop := Claim7.holds Tryz.pinned (.plain (OpenSpec.ofChange headerKnownSpec)) headerKnownCard

/-- THE TIED CARD OF 'dialtonelaw03.HeaderAddresses'. -/
def headerAddressesCard : Claim7 := { stood := { row := headerAddressesRow, standIns := [], harness := (true, "40ed2f25382f6187d72465cc01ee8767ae3b9b1401fc6b6a51771e952dd26605"), looks := false }, kinds := [], alts := [], laidByText := true, laidKinds := [.data, .data, .data, .data, .data, .data, .data, .pinned], laidTests := true, laidLooks := .later }
def HeaderAddressesCardSaid : Prop := Claim7.holds Tryz.pinned (.plain (OpenSpec.ofChange headerAddressesSpec)) headerAddressesCard

/-- THE TIED CARD OF 'dialtonelaw03.HeaderTagged'. -/
def headerTaggedCard : Claim7 := { stood := { row := headerTaggedRow, standIns := [], harness := (true, "40ed2f25382f6187d72465cc01ee8767ae3b9b1401fc6b6a51771e952dd26605"), looks := false }, kinds := [], alts := [], laidByText := true, laidKinds := [.data, .data, .data, .data, .data, .data, .data, .pinned], laidTests := true, laidLooks := .later }
def HeaderTaggedCardSaid : Prop := Claim7.holds Tryz.pinned (.plain (OpenSpec.ofChange headerTaggedSpec)) headerTaggedCard

/-- THE SECOND FORM's CARD OF 'dialtonelaw03.HeaderVias'. -/
def headerViasUptoCard : Claim7 := { stood := { row := headerViasUptoRow, standIns := [], harness := (true, "40ed2f25382f6187d72465cc01ee8767ae3b9b1401fc6b6a51771e952dd26605"), looks := false }, kinds := [], alts := [], laidByText := true, laidKinds := [.data, .data, .data, .data, .data, .data, .data, .pinned], laidTests := true, laidLooks := .later }
def HeaderViasUptoCardSaid : Prop := Claim7.holds Tryz.pinned (.plain (OpenSpec.upto headerViasSpec)) headerViasUptoCard

/-- THE SECOND FORM's CARD OF 'dialtonelaw03.HeaderItems'. -/
def headerItemsUptoCard : Claim7 := { stood := { row := headerItemsUptoRow, standIns := [], harness := (true, "40ed2f25382f6187d72465cc01ee8767ae3b9b1401fc6b6a51771e952dd26605"), looks := false }, kinds := [], alts := [], laidByText := true, laidKinds := [.data, .data, .data, .data, .data, .data, .data, .pinned], laidTests := true, laidLooks := .later }
def HeaderItemsUptoCardSaid : Prop := Claim7.holds Tryz.pinned (.plain (OpenSpec.upto headerItemsSpec)) headerItemsUptoCard

/-- THE SECOND FORM's CARD OF 'dialtonelaw03.HeaderStable'. -/
def headerStableUptoCard : Claim7 := { stood := { row := headerStableUptoRow, standIns := [], harness := (true, "40ed2f25382f6187d72465cc01ee8767ae3b9b1401fc6b6a51771e952dd26605"), looks := false }, kinds := [], alts := [], laidByText := true, laidKinds := [.data, .data, .data, .data, .data, .data, .data, .pinned], laidTests := true, laidLooks := .later }
def HeaderStableUptoCardSaid : Prop := Claim7.holds Tryz.pinned (.plain (OpenSpec.upto headerStableSpec)) headerStableUptoCard

/-- THE SECOND FORM's CARD OF 'dialtonelaw03.HeaderViaBack'. -/
def headerViaBackUptoCard : Claim7 := { stood := { row := headerViaBackUptoRow, standIns := [], harness := (true, "40ed2f25382f6187d72465cc01ee8767ae3b9b1401fc6b6a51771e952dd26605"), looks := false }, kinds := [], alts := [], laidByText := true, laidKinds := [.data, .data, .data, .data, .data, .data, .data, .pinned], laidTests := true, laidLooks := .later }
def HeaderViaBackUptoCardSaid : Prop := Claim7.holds Tryz.pinned (.plain (OpenSpec.upto headerViaBackSpec)) headerViaBackUptoCard

/-- THE SECOND FORM's CARD OF 'dialtonelaw03.HeaderItemBack'. -/
def headerItemBackUptoCard : Claim7 := { stood := { row := headerItemBackUptoRow, standIns := [], harness := (true, "40ed2f25382f6187d72465cc01ee8767ae3b9b1401fc6b6a51771e952dd26605"), looks := false }, kinds := [], alts := [], laidByText := true, laidKinds := [.data, .data, .data, .data, .data, .data, .data, .pinned], laidTests := true, laidLooks := .later }
def HeaderItemBackUptoCardSaid : Prop := Claim7.holds Tryz.pinned (.plain (OpenSpec.upto headerItemBackSpec)) headerItemBackUptoCard

/-- THE SECOND FORM's CARD OF 'dialtonelaw03.HeaderElements'. -/
def headerElementsUptoCard : Claim7 := { stood := { row := headerElementsUptoRow, standIns := [], harness := (true, "40ed2f25382f6187d72465cc01ee8767ae3b9b1401fc6b6a51771e952dd26605"), looks := false }, kinds := [], alts := [], laidByText := true, laidKinds := [.data, .data, .data, .data, .data, .data, .data, .pinned], laidTests := true, laidLooks := .later }
def HeaderElementsUptoCardSaid : Prop := Claim7.holds Tryz.pinned (.plain (OpenSpec.upto headerElementsSpec)) headerElementsUptoCard

/-- THE SECOND FORM's CARD OF 'dialtonelaw03.HeaderNames'. -/
def headerNamesUptoCard : Claim7 := { stood := { row := headerNamesUptoRow, standIns := [], harness := (true, "40ed2f25382f6187d72465cc01ee8767ae3b9b1401fc6b6a51771e952dd26605"), looks := false }, kinds := [], alts := [], laidByText := true, laidKinds := [.data, .data, .data, .data, .data, .data, .data, .pinned], laidTests := true, laidLooks := .later }
def HeaderNamesUptoCardSaid : Prop := Claim7.holds Tryz.pinned (.plain (OpenSpec.upto headerNamesSpec)) headerNamesUptoCard

/-- THE SECOND FORM's CARD OF 'dialtonelaw03.HeaderCanon'. -/
def headerCanonUptoCard : Claim7 := { stood := { row := headerCanonUptoRow, standIns := [], harness := (true, "40ed2f25382f6187d72465cc01ee8767ae3b9b1401fc6b6a51771e952dd26605"), looks := false }, kinds := [], alts := [], laidByText := true, laidKinds := [.data, .data, .data, .data, .data, .data, .data, .pinned], laidTests := true, laidLooks := .later }
def HeaderCanonUptoCardSaid : Prop := Claim7.holds Tryz.pinned (.plain (OpenSpec.upto headerCanonSpec)) headerCanonUptoCard

/-- THE SECOND FORM's CARD OF 'dialtonelaw03.HeaderKnown'. -/
def headerKnownUptoCard : Claim7 := { stood := { row := headerKnownUptoRow, standIns := [], harness := (true, "40ed2f25382f6187d72465cc01ee8767ae3b9b1401fc6b6a51771e952dd26605"), looks := false }, kinds := [], alts := [], laidByText := true, laidKinds := [.data, .data, .data, .data, .data, .data, .data, .pinned], laidTests := true, laidLooks := .later }
def HeaderKnownUptoCardSaid : Prop := Claim7.holds Tryz.pinned (.plain (OpenSpec.upto headerKnownSpec)) headerKnownUptoCard

/-- THE SECOND FORM's CARD OF 'dialtonelaw03.HeaderAddresses'. -/
def headerAddressesUptoCard : Claim7 := { stood := { row := headerAddressesUptoRow, standIns := [], harness := (true, "40ed2f25382f6187d72465cc01ee8767ae3b9b1401fc6b6a51771e952dd26605"), looks := false }, kinds := [], alts := [], laidByText := true, laidKinds := [.data, .data, .data, .data, .data, .data, .data, .pinned], laidTests := true, laidLooks := .later }
def HeaderAddressesUptoCardSaid : Prop := Claim7.holds Tryz.pinned (.plain (OpenSpec.upto headerAddressesSpec)) headerAddressesUptoCard

/-- THE SECOND FORM's CARD OF 'dialtonelaw03.HeaderTagged'. -/
def headerTaggedUptoCard : Claim7 := { stood := { row := headerTaggedUptoRow, standIns := [], harness := (true, "40ed2f25382f6187d72465cc01ee8767ae3b9b1401fc6b6a51771e952dd26605"), looks := false }, kinds := [], alts := [], laidByText := true, laidKinds := [.data, .data, .data, .data, .data, .data, .data, .pinned], laidTests := true, laidLooks := .later }
def HeaderTaggedUptoCardSaid : Prop := Claim7.holds Tryz.pinned (.plain (OpenSpec.upto headerTaggedSpec)) headerTaggedUptoCard
end Rows
end Go.Proofs.YtbfppjfgcjpknaaGreatDoor
