/-
  DERIVED. GIVEN WITH THE SEED: THE CARDS: each row of YtfdkilgkefiggaaDoorRows.lean that lists a variable, with what it lists TIED to the program's text (the seventh form; the later family's looks); each row that meets fmt, with fmt's text TOLD by the authors' own Lean function (tested against real Go, not proved from fmt's source: count such statements apart). THE CARD IS WHAT COUNTS. Prove the row's statement (the work); the ties are given (YtfdkilgkefiggaaDoorTie.lean); close each card by the builder's one call (the guide's Derived/Test/ToyasCard.lean, 'card_holds'). Laid BY PROGRAM, IN A SANDBOX (cutbox-door.mjs). By AI agents, Wed Nov 11 2026. No macro, syntax, notation, axiom, sorry.
-/
import Derived.Test.YtfdkilgkefiggaaDoorRows
import GoSem.ClaimSeven
namespace Go.Proofs.YtfdkilgkefiggaaDoor
namespace Rows

/-- THE TIED CARD OF 'testamurlaw34.CascadesBuildSpec'. -/
def cascadesBuildSpecCard : Claim7 := { stood := { row := cascadesBuildSpecRow, standIns := [], harness := (true, "423747f61e0777a55edda1cd834c6e9bfcce0abf3414477831d684e3a27bbf1e"), looks := true }, kinds := [], alts := [], laidByText := true, laidKinds := [.data], laidTests := true, laidLooks := .later }
def CascadesBuildSpecCardSaid : Prop := Claim7.holds Tryd.pinned (.plain (OpenSpec.ofChange cascadesBuildSpecSpec)) cascadesBuildSpecCard

/-- THE TIED CARD OF 'testamurlaw34.CascadesHasSpec'. -/
def cascadesHasSpecCard : Claim7 := { stood := { row := cascadesHasSpecRow, standIns := [], harness := (true, "423747f61e0777a55edda1cd834c6e9bfcce0abf3414477831d684e3a27bbf1e"), looks := true }, kinds := [], alts := [], laidByText := true, laidKinds := [.data], laidTests := true, laidLooks := .later }
def CascadesHasSpecCardSaid : Prop := Claim7.holds Tryd.pinned (.plain (OpenSpec.ofChange cascadesHasSpecSpec)) cascadesHasSpecCard

/-- THE TIED CARD OF 'testamurlaw34.CascadesCodeSpec'. -/
def cascadesCodeSpecCard : Claim7 := { stood := { row := cascadesCodeSpecRow, standIns := [], harness := (true, "423747f61e0777a55edda1cd834c6e9bfcce0abf3414477831d684e3a27bbf1e"), looks := true }, kinds := [], alts := [], laidByText := true, laidKinds := [.data], laidTests := true, laidLooks := .later }
def CascadesCodeSpecCardSaid : Prop := Claim7.holds Tryd.pinned (.plain (OpenSpec.ofChange cascadesCodeSpecSpec)) cascadesCodeSpecCard

/-- THE TIED CARD OF 'testamurlaw34.CascadesExact'. -/
def cascadesExactCard : Claim7 := { stood := { row := cascadesExactRow, standIns := [], harness := (true, "423747f61e0777a55edda1cd834c6e9bfcce0abf3414477831d684e3a27bbf1e"), looks := true }, kinds := [], alts := [], laidByText := true, laidKinds := [.data], laidTests := true, laidLooks := .later }
def CascadesExactCardSaid : Prop := Claim7.holds Tryd.pinned (.plain (OpenSpec.ofChange cascadesExactSpec)) cascadesExactCard

/-- THE TIED CARD OF 'testamurlaw34.CascadesLevels'. -/
def cascadesLevelsCard : Claim7 := { stood := { row := cascadesLevelsRow, standIns := [], harness := (true, "423747f61e0777a55edda1cd834c6e9bfcce0abf3414477831d684e3a27bbf1e"), looks := true }, kinds := [], alts := [], laidByText := true, laidKinds := [.data], laidTests := true, laidLooks := .later }
def CascadesLevelsCardSaid : Prop := Claim7.holds Tryd.pinned (.plain (OpenSpec.ofChange cascadesLevelsSpec)) cascadesLevelsCard

/-- THE TIED CARD OF 'testamurlaw34.CascadesTurned'. -/
def cascadesTurnedCard : Claim7 := { stood := { row := cascadesTurnedRow, standIns := [], harness := (true, "423747f61e0777a55edda1cd834c6e9bfcce0abf3414477831d684e3a27bbf1e"), looks := true }, kinds := [], alts := [], laidByText := true, laidKinds := [.data], laidTests := true, laidLooks := .later }
def CascadesTurnedCardSaid : Prop := Claim7.holds Tryd.pinned (.plain (OpenSpec.ofChange cascadesTurnedSpec)) cascadesTurnedCard

/-- THE TIED CARD OF 'testamurlaw34.CascadesBack'. -/
def cascadesBackCard : Claim7 := { stood := { row := cascadesBackRow, standIns := [], harness := (true, "423747f61e0777a55edda1cd834c6e9bfcce0abf3414477831d684e3a27bbf1e"), looks := true }, kinds := [], alts := [], laidByText := true, laidKinds := [.data], laidTests := true, laidLooks := .later }
def CascadesBackCardSaid : Prop := Claim7.holds Tryd.pinned (.plain (OpenSpec.ofChange cascadesBackSpec)) cascadesBackCard

/-- THE TIED CARD OF 'testamurlaw34.CascadesDigest'. -/
def cascadesDigestCard : Claim7 := { stood := { row := cascadesDigestRow, standIns := [], harness := (true, "423747f61e0777a55edda1cd834c6e9bfcce0abf3414477831d684e3a27bbf1e"), looks := true }, kinds := [], alts := [], laidByText := true, laidKinds := [.data], laidTests := true, laidLooks := .later }
def CascadesDigestCardSaid : Prop := Claim7.holds Tryd.pinned (.plain (OpenSpec.ofChange cascadesDigestSpec)) cascadesDigestCard

/-- THE SECOND FORM's CARD OF 'testamurlaw34.CascadesBuildSpec'. -/
def cascadesBuildSpecUptoCard : Claim7 := { stood := { row := cascadesBuildSpecUptoRow, standIns := [], harness := (true, "423747f61e0777a55edda1cd834c6e9bfcce0abf3414477831d684e3a27bbf1e"), looks := true }, kinds := [], alts := [], laidByText := true, laidKinds := [.data], laidTests := true, laidLooks := .later }
def CascadesBuildSpecUptoCardSaid : Prop := Claim7.holds Tryd.pinned (.plain (OpenSpec.upto cascadesBuildSpecSpec)) cascadesBuildSpecUptoCard

/-- THE SECOND FORM's CARD OF 'testamurlaw34.CascadesHasSpec'. -/
def cascadesHasSpecUptoCard : Claim7 := { stood := { row := cascadesHasSpecUptoRow, standIns := [], harness := (true, "423747f61e0777a55edda1cd834c6e9bfcce0abf3414477831d684e3a27bbf1e"), looks := true }, kinds := [], alts := [], laidByText := true, laidKinds := [.data], laidTests := true, laidLooks := .later }
def CascadesHasSpecUptoCardSaid : Prop := Claim7.holds Tryd.pinned (.plain (OpenSpec.upto cascadesHasSpecSpec)) cascadesHasSpecUptoCard

/-- THE SECOND FORM's CARD OF 'testamurlaw34.CascadesCodeSpec'. -/
def cascadesCodeSpecUptoCard : Claim7 := { stood := { row := cascadesCodeSpecUptoRow, standIns := [], harness := (true, "423747f61e0777a55edda1cd834c6e9bfcce0abf3414477831d684e3a27bbf1e"), looks := true }, kinds := [], alts := [], laidByText := true, laidKinds := [.data], laidTests := true, laidLooks := .later }
def CascadesCodeSpecUptoCardSaid : Prop := Claim7.holds Tryd.pinned (.plain (OpenSpec.upto cascadesCodeSpecSpec)) cascadesCodeSpecUptoCard

/-- THE SECOND FORM's CARD OF 'testamurlaw34.CascadesExact'. -/
def cascadesExactUptoCard : Claim7 := { stood := { row := cascadesExactUptoRow, standIns := [], harness := (true, "423747f61e0777a55edda1cd834c6e9bfcce0abf3414477831d684e3a27bbf1e"), looks := true }, kinds := [], alts := [], laidByText := true, laidKinds := [.data], laidTests := true, laidLooks := .later }
def CascadesExactUptoCardSaid : Prop := Claim7.holds Tryd.pinned (.plain (OpenSpec.upto cascadesExactSpec)) cascadesExactUptoCard

/-- THE SECOND FORM's CARD OF 'testamurlaw34.CascadesLevels'. -/
def cascadesLevelsUptoCard : Claim7 := { stood := { row := cascadesLevelsUptoRow, standIns := [], harness := (true, "423747f61e0777a55edda1cd834c6e9bfcce0abf3414477831d684e3a27bbf1e"), looks := true }, kinds := [], alts := [], laidByText := true, laidKinds := [.data], laidTests := true, laidLooks := .later }
def CascadesLevelsUptoCardSaid : Prop := Claim7.holds Tryd.pinned (.plain (OpenSpec.upto cascadesLevelsSpec)) cascadesLevelsUptoCard

/-- THE SECOND FORM's CARD OF 'testamurlaw34.CascadesTurned'. -/
def cascadesTurnedUptoCard : Claim7 := { stood := { row := cascadesTurnedUptoRow, standIns := [], harness := (true, "423747f61e0777a55edda1cd834c6e9bfcce0abf3414477831d684e3a27bbf1e"), looks := true }, kinds := [], alts := [], laidByText := true, laidKinds := [.data], laidTests := true, laidLooks := .later }
def CascadesTurnedUptoCardSaid : Prop := Claim7.holds Tryd.pinned (.plain (OpenSpec.upto cascadesTurnedSpec)) cascadesTurnedUptoCard

/-- THE SECOND FORM's CARD OF 'testamurlaw34.CascadesBack'. -/
def cascadesBackUptoCard : Claim7 := { stood := { row := cascadesBackUptoRow, standIns := [], harness := (true, "423747f61e0777a55edda1cd834c6e9bfcce0abf3414477831d684e3a27bbf1e"), looks := true }, kinds := [], alts := [], laidByText := true, laidKinds := [.data], laidTests := true, laidLooks := .later }
def CascadesBackUptoCardSaid : Prop := Claim7.holds Tryd.pinned (.plain (OpenSpec.upto cascadesBackSpec)) cascadesBackUptoCard

/-- THE SECOND FORM's CARD OF 'testamurlaw34.CascadesDigest'. -/
def cascadesDigestUptoCard : Claim7 := { stood := { row := cascadesDigestUptoRow, standIns := [], harness := (true, "423747f61e0777a55edda1cd834c6e9bfcce0abf3414477831d684e3a27bbf1e"), looks := true }, kinds := [], alts := [], laidByText := true, laidKinds := [.data], laidTests := true, laidLooks := .later }
def CascadesDigestUptoCardSaid : Prop := Claim7.holds Tryd.pinned (.plain (OpenSpec.upto cascadesDigestSpec)) cascadesDigestUptoCard
end Rows
end Go.Proofs.YtfdkilgkefiggaaDoor
