/-
  DERIVED. GIVEN WITH THE SEED: THE CARDS: each row of YtjlkadndgajleaaGreatDoorRows.lean that lists a variable, with what it lists TIED to the program's text (the seventh form; the later family's looks); each row that meets fmt, with fmt's text TOLD by the authors' own Lean function (tested against real Go, not proved from fmt's source: count such statements apart). THE CARD IS WHAT COUNTS. Prove the row's statement (the work); the ties are given (YtjlkadndgajleaaGreatDoorTie.lean); close each card by the builder's one call (the guide's Derived/Test/ToyasCard.lean, 'card_holds'). Laid BY PROGRAM, IN A SANDBOX (cutbox-door.mjs). By AI agents, Wed Nov 11 2026. No macro, syntax, notation, axiom, sorry.
-/
import Derived.Test.YtjlkadndgajleaaGreatDoorRows
import GoSem.ClaimSeven
namespace Go.Proofs.YtjlkadndgajleaaGreatDoor
namespace Rows

/-- THE TIED CARD OF 'testamurtop.TopStatus'. -/
def topStatusCard : Claim7 := { stood := { row := topStatusRow, standIns := [], harness := (true, "78b64926809ad20b1227c1ac54f4b1bd12fd22b2398fbe83233a5601e7973ac1"), looks := true }, kinds := [], alts := [], laidByText := true, laidKinds := [.data], laidTests := true, laidLooks := .later }
def TopStatusCardSaid : Prop := Claim7.holds Tryz.pinned (.plain (OpenSpec.ofChange topStatusSpec)) topStatusCard

/-- THE SECOND FORM's CARD OF 'testamurtop.TopStatus'. -/
def topStatusUptoCard : Claim7 := { stood := { row := topStatusUptoRow, standIns := [], harness := (true, "78b64926809ad20b1227c1ac54f4b1bd12fd22b2398fbe83233a5601e7973ac1"), looks := true }, kinds := [], alts := [], laidByText := true, laidKinds := [.data], laidTests := true, laidLooks := .later }
def TopStatusUptoCardSaid : Prop := Claim7.holds Tryz.pinned (.plain (OpenSpec.upto topStatusSpec)) topStatusUptoCard
end Rows
end Go.Proofs.YtjlkadndgajleaaGreatDoor
