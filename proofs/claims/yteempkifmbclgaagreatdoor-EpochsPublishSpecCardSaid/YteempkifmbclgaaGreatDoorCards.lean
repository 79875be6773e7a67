/-
  DERIVED. GIVEN WITH THE SEED: THE CARDS: each row of YteempkifmbclgaaGreatDoorRows.lean that lists a variable, with what it lists TIED to the program's text (the seventh form; the later family's looks); each row that meets fmt, with fmt's text TOLD by the authors' own Lean function (tested against real Go, not proved from fmt's source: count such statements apart). THE CARD IS WHAT COUNTS. Prove the row's statement (the work); the ties are given (YteempkifmbclgaaGreatDoorTie.lean); close each card by the builder's one call (the guide's Derived/Test/ToyasCard.lean, 'card_holds'). Laid BY PROGRAM, IN A SANDBOX (cutbox-door.mjs). By AI agents, Wed Nov 11 2026. No macro, syntax, notation, axiom, sorry.
-/
import Derived.Test.YteempkifmbclgaaGreatDoorRows
import GoSem.ClaimSeven
namespace Go.Proofs.YteempkifmbclgaaGreatDoor
namespace Rows

/-- THE TIED CARD OF 'testamurlaw35.EpochsCheckSpec'. -/
def epochsCheckSpecCard : Claim7 := { stood := { row := epochsCheckSpecRow, standIns := [], harness := (true, "873cf31b8586f9e7bf06305572a0240db29cbf2ff5a6a10f516cec1777ee1043"), looks := true }, kinds := [], alts := [], laidByText := true, laidKinds := [.data], laidTests := true, laidLooks := .later }
def EpochsCheckSpecCardSaid : Prop := Claim7.holds Tryz.pinned (.plain (OpenSpec.ofChange epochsCheckSpecSpec)) epochsCheckSpecCard

/-- THE TIED CARD OF 'testamurlaw35.EpochsPublishSpec'. -/
def epochsPublishSpecCard : Claim7 := { stood := { row := epochsPublishSpecRow, standIns := [], harness := (true, "873cf31b8586f9e7bf06305572a0240db29cbf2ff5a6a10f516cec1777ee1043"), looks := true }, kinds := [], alts := [], laidByText := true, laidKinds := [.data], laidTests := true, laidLooks := .later }
def EpochsPublishSpecCardSaid : Prop := Claim7.holds Tryz.pinned (.plain (OpenSpec.ofChange epochsPublishSpecSpec)) epochsPublishSpecCard

/-- THE TIED CARD OF 'testamurlaw35.EpochsStatesSpec'. -/
def epochsStatesSpecCard : Claim7 := { stood := { row := epochsStatesSpecRow, standIns := [], harness := (true, "873cf31b8586f9e7bf06305572a0240db29cbf2ff5a6a10f516cec1777ee1043"), looks := true }, kinds := [], alts := [], laidByText := true, laidKinds := [.data], laidTests := true, laidLooks := .later }
def EpochsStatesSpecCardSaid : Prop := Claim7.holds Tryz.pinned (.plain (OpenSpec.ofChange epochsStatesSpecSpec)) epochsStatesSpecCard

/-- THE TIED CARD OF 'testamurlaw35.EpochsPublished'. -/
def epochsPublishedCard : Claim7 := { stood := { row := epochsPublishedRow, standIns := [], harness := (true, "873cf31b8586f9e7bf06305572a0240db29cbf2ff5a6a10f516cec1777ee1043"), looks := true }, kinds := [], alts := [], laidByText := true, laidKinds := [.data], laidTests := true, laidLooks := .later }
def EpochsPublishedCardSaid : Prop := Claim7.holds Tryz.pinned (.plain (OpenSpec.ofChange epochsPublishedSpec)) epochsPublishedCard

/-- THE TIED CARD OF 'testamurlaw35.EpochsAt'. -/
def epochsAtCard : Claim7 := { stood := { row := epochsAtRow, standIns := [], harness := (true, "873cf31b8586f9e7bf06305572a0240db29cbf2ff5a6a10f516cec1777ee1043"), looks := true }, kinds := [], alts := [], laidByText := true, laidKinds := [.data], laidTests := true, laidLooks := .later }
def EpochsAtCardSaid : Prop := Claim7.holds Tryz.pinned (.plain (OpenSpec.ofChange epochsAtSpec)) epochsAtCard

/-- THE TIED CARD OF 'testamurlaw35.EpochsExact'. -/
def epochsExactCard : Claim7 := { stood := { row := epochsExactRow, standIns := [], harness := (true, "873cf31b8586f9e7bf06305572a0240db29cbf2ff5a6a10f516cec1777ee1043"), looks := true }, kinds := [], alts := [], laidByText := true, laidKinds := [.data], laidTests := true, laidLooks := .later }
def EpochsExactCardSaid : Prop := Claim7.holds Tryz.pinned (.plain (OpenSpec.ofChange epochsExactSpec)) epochsExactCard

/-- THE TIED CARD OF 'testamurlaw35.EpochsTrue'. -/
def epochsTrueCard : Claim7 := { stood := { row := epochsTrueRow, standIns := [], harness := (true, "873cf31b8586f9e7bf06305572a0240db29cbf2ff5a6a10f516cec1777ee1043"), looks := true }, kinds := [], alts := [], laidByText := true, laidKinds := [.data], laidTests := true, laidLooks := .later }
def EpochsTrueCardSaid : Prop := Claim7.holds Tryz.pinned (.plain (OpenSpec.ofChange epochsTrueSpec)) epochsTrueCard

/-- THE TIED CARD OF 'testamurlaw35.EpochsLinked'. -/
def epochsLinkedCard : Claim7 := { stood := { row := epochsLinkedRow, standIns := [], harness := (true, "873cf31b8586f9e7bf06305572a0240db29cbf2ff5a6a10f516cec1777ee1043"), looks := true }, kinds := [], alts := [], laidByText := true, laidKinds := [.data], laidTests := true, laidLooks := .later }
def EpochsLinkedCardSaid : Prop := Claim7.holds Tryz.pinned (.plain (OpenSpec.ofChange epochsLinkedSpec)) epochsLinkedCard

/-- THE SECOND FORM's CARD OF 'testamurlaw35.EpochsCheckSpec'. -/
def epochsCheckSpecUptoCard : Claim7 := { stood := { row := epochsCheckSpecUptoRow, standIns := [], harness := (true, "873cf31b8586f9e7bf06305572a0240db29cbf2ff5a6a10f516cec1777ee1043"), looks := true }, kinds := [], alts := [], laidByText := true, laidKinds := [.data], laidTests := true, laidLooks := .later }
def EpochsCheckSpecUptoCardSaid : Prop := Claim7.holds Tryz.pinned (.plain (OpenSpec.upto epochsCheckSpecSpec)) epochsCheckSpecUptoCard

/-- THE SECOND FORM's CARD OF 'testamurlaw35.EpochsPublishSpec'. -/
def epochsPublishSpecUptoCard : Claim7 := { stood := { row := epochsPublishSpecUptoRow, standIns := [], harness := (true, "873cf31b8586f9e7bf06305572a0240db29cbf2ff5a6a10f516cec1777ee1043"), looks := true }, kinds := [], alts := [], laidByText := true, laidKinds := [.data], laidTests := true, laidLooks := .later }
def EpochsPublishSpecUptoCardSaid : Prop := Claim7.holds Tryz.pinned (.plain (OpenSpec.upto epochsPublishSpecSpec)) epochsPublishSpecUptoCard

/-- THE SECOND FORM's CARD OF 'testamurlaw35.EpochsStatesSpec'. -/
def epochsStatesSpecUptoCard : Claim7 := { stood := { row := epochsStatesSpecUptoRow, standIns := [], harness := (true, "873cf31b8586f9e7bf06305572a0240db29cbf2ff5a6a10f516cec1777ee1043"), looks := true }, kinds := [], alts := [], laidByText := true, laidKinds := [.data], laidTests := true, laidLooks := .later }
def EpochsStatesSpecUptoCardSaid : Prop := Claim7.holds Tryz.pinned (.plain (OpenSpec.upto epochsStatesSpecSpec)) epochsStatesSpecUptoCard

/-- THE SECOND FORM's CARD OF 'testamurlaw35.EpochsPublished'. -/
def epochsPublishedUptoCard : Claim7 := { stood := { row := epochsPublishedUptoRow, standIns := [], harness := (true, "873cf31b8586f9e7bf06305572a0240db29cbf2ff5a6a10f516cec1777ee1043"), looks := true }, kinds := [], alts := [], laidByText := true, laidKinds := [.data], laidTests := true, laidLooks := .later }
def EpochsPublishedUptoCardSaid : Prop := Claim7.holds Tryz.pinned (.plain (OpenSpec.upto epochsPublishedSpec)) epochsPublishedUptoCard

/-- THE SECOND FORM's CARD OF 'testamurlaw35.EpochsAt'. -/
def epochsAtUptoCard : Claim7 := { stood := { row := epochsAtUptoRow, standIns := [], harness := (true, "873cf31b8586f9e7bf06305572a0240db29cbf2ff5a6a10f516cec1777ee1043"), looks := true }, kinds := [], alts := [], laidByText := true, laidKinds := [.data], laidTests := true, laidLooks := .later }
def EpochsAtUptoCardSaid : Prop := Claim7.holds Tryz.pinned (.plain (OpenSpec.upto epochsAtSpec)) epochsAtUptoCard

/-- THE SECOND FORM's CARD OF 'testamurlaw35.EpochsExact'. -/
def epochsExactUptoCard : Claim7 := { stood := { row := epochsExactUptoRow, standIns := [], harness := (true, "873cf31b8586f9e7bf06305572a0240db29cbf2ff5a6a10f516cec1777ee1043"), looks := true }, kinds := [], alts := [], laidByText := true, laidKinds := [.data], laidTests := true, laidLooks := .later }
def EpochsExactUptoCardSaid : Prop := Claim7.holds Tryz.pinned (.plain (OpenSpec.upto epochsExactSpec)) epochsExactUptoCard

/-- THE SECOND FORM's CARD OF 'testamurlaw35.EpochsTrue'. -/
def epochsTrueUptoCard : Claim7 := { stood := { row := epochsTrueUptoRow, standIns := [], harness := (true, "873cf31b8586f9e7bf06305572a0240db29cbf2ff5a6a10f516cec1777ee1043"), looks := true }, kinds := [], alts := [], laidByText := true, laidKinds := [.data], laidTests := true, laidLooks := .later }
def EpochsTrueUptoCardSaid : Prop := Claim7.holds Tryz.pinned (.plain (OpenSpec.upto epochsTrueSpec)) epochsTrueUptoCard

/-- THE SECOND FORM's CARD OF 'testamurlaw35.EpochsLinked'. -/
def epochsLinkedUptoCard : Claim7 := { stood := { row := epochsLinkedUptoRow, standIns := [], harness := (true, "873cf31b8586f9e7bf06305572a0240db29cbf2ff5a6a10f516cec1777ee1043"), looks := true }, kinds := [], alts := [], laidByText := true, laidKinds := [.data], laidTests := true, laidLooks := .later }
def EpochsLinkedUptoCardSaid : Prop := Claim7.holds Tryz.pinned (.plain (OpenSpec.upto epochsLinkedSpec)) epochsLinkedUptoCard
end Rows
end Go.Proofs.YteempkifmbclgaaGreatDoor
