/-
  DERIVED. GIVEN WITH THE SEED: THE CARDS: each row of YtapmhjkfnedbmaaDoorRows.lean that lists a variable, with what it lists TIED to the program's text (the seventh form; the later family's looks); each row that meets fmt, with fmt's text TOLD by the authors' own Lean function (tested against real Go, not proved from fmt's source: count such statements apart). THE CARD IS WHAT COUNTS. Prove the row's statement (the work); the ties are given (YtapmhjkfnedbmaaDoorTie.lean); close each card by the builder's one call (the guide's Derived/Test/ToyasCard.lean, 'card_holds'). Laid BY PROGRAM, IN A SANDBOX (cutbox-door.mjs). By AI agents, Wed Nov 11 2026. No macro, syntax, notation, axiom, sorry.
-/
import Derived.Test.YtapmhjkfnedbmaaDoorRows
import GoSem.ClaimSeven
namespace Go.Proofs.YtapmhjkfnedbmaaDoor
namespace Rows

/-- THE TIED CARD OF 'testamurlaw05.ChainsDigitsSpec'. -/
def chainsDigitsSpecCard : Claim7 := { stood := { row := chainsDigitsSpecRow, standIns := [], harness := (true, "942ae163937a024f5623843f599d5b3186787366987f3aa9e03e212a87bc7393"), looks := false }, kinds := [], alts := [], laidByText := true, laidKinds := [.data], laidTests := true, laidLooks := .later }
def ChainsDigitsSpecCardSaid : Prop := Claim7.holds Tryd.pinned (.plain (OpenSpec.ofChange chainsDigitsSpecSpec)) chainsDigitsSpecCard

/-- THE TIED CARD OF 'testamurlaw05.ChainsSpec'. -/
def chainsSpecCard : Claim7 := { stood := { row := chainsSpecRow, standIns := [], harness := (true, "942ae163937a024f5623843f599d5b3186787366987f3aa9e03e212a87bc7393"), looks := false }, kinds := [], alts := [], laidByText := true, laidKinds := [.data], laidTests := true, laidLooks := .later }
def ChainsSpecCardSaid : Prop := Claim7.holds Tryd.pinned (.plain (OpenSpec.ofChange chainsSpecSpec)) chainsSpecCard

/-- THE TIED CARD OF 'testamurlaw05.ChainsSigned'. -/
def chainsSignedCard : Claim7 := { stood := { row := chainsSignedRow, standIns := [], harness := (true, "942ae163937a024f5623843f599d5b3186787366987f3aa9e03e212a87bc7393"), looks := false }, kinds := [], alts := [], laidByText := true, laidKinds := [.data], laidTests := true, laidLooks := .later }
def ChainsSignedCardSaid : Prop := Claim7.holds Tryd.pinned (.plain (OpenSpec.ofChange chainsSignedSpec)) chainsSignedCard

/-- THE TIED CARD OF 'testamurlaw05.ChainsApart'. -/
def chainsApartCard : Claim7 := { stood := { row := chainsApartRow, standIns := [], harness := (true, "942ae163937a024f5623843f599d5b3186787366987f3aa9e03e212a87bc7393"), looks := false }, kinds := [], alts := [], laidByText := true, laidKinds := [.data], laidTests := true, laidLooks := .later }
def ChainsApartCardSaid : Prop := Claim7.holds Tryd.pinned (.plain (OpenSpec.ofChange chainsApartSpec)) chainsApartCard

/-- THE TIED CARD OF 'testamurlaw05.ChainsSteps'. -/
def chainsStepsCard : Claim7 := { stood := { row := chainsStepsRow, standIns := [], harness := (true, "942ae163937a024f5623843f599d5b3186787366987f3aa9e03e212a87bc7393"), looks := false }, kinds := [], alts := [], laidByText := true, laidKinds := [.data], laidTests := true, laidLooks := .later }
def ChainsStepsCardSaid : Prop := Claim7.holds Tryd.pinned (.plain (OpenSpec.ofChange chainsStepsSpec)) chainsStepsCard

/-- THE TIED CARD OF 'testamurlaw05.ChainsOnly'. -/
def chainsOnlyCard : Claim7 := { stood := { row := chainsOnlyRow, standIns := [], harness := (true, "942ae163937a024f5623843f599d5b3186787366987f3aa9e03e212a87bc7393"), looks := false }, kinds := [], alts := [], laidByText := true, laidKinds := [.data], laidTests := true, laidLooks := .later }
def ChainsOnlyCardSaid : Prop := Claim7.holds Tryd.pinned (.plain (OpenSpec.ofChange chainsOnlySpec)) chainsOnlyCard

/-- THE TIED CARD OF 'testamurlaw05.ChainsForge'. -/
def chainsForgeCard : Claim7 := { stood := { row := chainsForgeRow, standIns := [], harness := (true, "942ae163937a024f5623843f599d5b3186787366987f3aa9e03e212a87bc7393"), looks := false }, kinds := [], alts := [], laidByText := true, laidKinds := [.data], laidTests := true, laidLooks := .later }
def ChainsForgeCardSaid : Prop := Claim7.holds Tryd.pinned (.plain (OpenSpec.ofChange chainsForgeSpec)) chainsForgeCard

/-- THE SECOND FORM's CARD OF 'testamurlaw05.ChainsDigitsSpec'. -/
def chainsDigitsSpecUptoCard : Claim7 := { stood := { row := chainsDigitsSpecUptoRow, standIns := [], harness := (true, "942ae163937a024f5623843f599d5b3186787366987f3aa9e03e212a87bc7393"), looks := false }, kinds := [], alts := [], laidByText := true, laidKinds := [.data], laidTests := true, laidLooks := .later }
def ChainsDigitsSpecUptoCardSaid : Prop := Claim7.holds Tryd.pinned (.plain (OpenSpec.upto chainsDigitsSpecSpec)) chainsDigitsSpecUptoCard

/-- THE SECOND FORM's CARD OF 'testamurlaw05.ChainsSpec'. -/
def chainsSpecUptoCard : Claim7 := { stood := { row := chainsSpecUptoRow, standIns := [], harness := (true, "942ae163937a024f5623843f599d5b3186787366987f3aa9e03e212a87bc7393"), looks := false }, kinds := [], alts := [], laidByText := true, laidKinds := [.data], laidTests := true, laidLooks := .later }
def ChainsSpecUptoCardSaid : Prop := Claim7.holds Tryd.pinned (.plain (OpenSpec.upto chainsSpecSpec)) chainsSpecUptoCard

/-- THE SECOND FORM's CARD OF 'testamurlaw05.ChainsSigned'. -/
def chainsSignedUptoCard : Claim7 := { stood := { row := chainsSignedUptoRow, standIns := [], harness := (true, "942ae163937a024f5623843f599d5b3186787366987f3aa9e03e212a87bc7393"), looks := false }, kinds := [], alts := [], laidByText := true, laidKinds := [.data], laidTests := true, laidLooks := .later }
def ChainsSignedUptoCardSaid : Prop := Claim7.holds Tryd.pinned (.plain (OpenSpec.upto chainsSignedSpec)) chainsSignedUptoCard

/-- THE SECOND FORM's CARD OF 'testamurlaw05.ChainsApart'. -/
def chainsApartUptoCard : Claim7 := { stood := { row := chainsApartUptoRow, standIns := [], harness := (true, "942ae163937a024f5623843f599d5b3186787366987f3aa9e03e212a87bc7393"), looks := false }, kinds := [], alts := [], laidByText := true, laidKinds := [.data], laidTests := true, laidLooks := .later }
def ChainsApartUptoCardSaid : Prop := Claim7.holds Tryd.pinned (.plain (OpenSpec.upto chainsApartSpec)) chainsApartUptoCard

/-- THE SECOND FORM's CARD OF 'testamurlaw05.ChainsSteps'. -/
def chainsStepsUptoCard : Claim7 := { stood := { row := chainsStepsUptoRow, standIns := [], harness := (true, "942ae163937a024f5623843f599d5b3186787366987f3aa9e03e212a87bc7393"), looks := false }, kinds := [], alts := [], laidByText := true, laidKinds := [.data], laidTests := true, laidLooks := .later }
def ChainsStepsUptoCardSaid : Prop := Claim7.holds Tryd.pinned (.plain (OpenSpec.upto chainsStepsSpec)) chainsStepsUptoCard

/-- THE SECOND FORM's CARD OF 'testamurlaw05.ChainsOnly'. -/
def chainsOnlyUptoCard : Claim7 := { stood := { row := chainsOnlyUptoRow, standIns := [], harness := (true, "942ae163937a024f5623843f599d5b3186787366987f3aa9e03e212a87bc7393"), looks := false }, kinds := [], alts := [], laidByText := true, laidKinds := [.data], laidTests := true, laidLooks := .later }
def ChainsOnlyUptoCardSaid : Prop := Claim7.holds Tryd.pinned (.plain (OpenSpec.upto chainsOnlySpec)) chainsOnlyUptoCard

/-- THE SECOND FORM's CARD OF 'testamurlaw05.ChainsForge'. -/
def chainsForgeUptoCard : Claim7 := { stood := { row := chainsForgeUptoRow, standIns := [], harness := (true, "942ae163937a024f5623843f599d5b3186787366987f3aa9e03e212a87bc7393"), looks := false }, kinds := [], alts := [], laidByText := true, laidKinds := [.data], laidTests := true, laidLooks := .later }
def ChainsForgeUptoCardSaid : Prop := Claim7.holds Tryd.pinned (.plain (OpenSpec.upto chainsForgeSpec)) chainsForgeUptoCard
end Rows
end Go.Proofs.YtapmhjkfnedbmaaDoor
