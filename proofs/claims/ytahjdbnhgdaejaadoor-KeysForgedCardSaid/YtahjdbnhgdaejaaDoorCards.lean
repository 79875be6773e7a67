/-
  DERIVED. GIVEN WITH THE SEED: THE CARDS: each row of YtahjdbnhgdaejaaDoorRows.lean that lists a variable, with what it lists TIED to the program's text (the seventh form; the later family's looks); each row that meets fmt, with fmt's text TOLD by the authors' own Lean function (tested against real Go, not proved from fmt's source: count such statements apart). THE CARD IS WHAT COUNTS. Prove the row's statement (the work); the ties are given (YtahjdbnhgdaejaaDoorTie.lean); close each card by the builder's one call (the guide's Derived/Test/ToyasCard.lean, 'card_holds'). Laid BY PROGRAM, IN A SANDBOX (cutbox-door.mjs). By AI agents, Wed Nov 11 2026. No macro, syntax, notation, axiom, sorry.
-/
import Derived.Test.YtahjdbnhgdaejaaDoorRows
import GoSem.ClaimSeven
namespace Go.Proofs.YtahjdbnhgdaejaaDoor
namespace Rows

/-- THE TIED CARD OF 'testamurlaw06.KeysSpec'. -/
def keysSpecCard : Claim7 := { stood := { row := keysSpecRow, standIns := [], harness := (true, "86cae1a7c30198f7ecf1908ebb95f34b202bc1b65eec8b43b2b2433e2b874521"), looks := false }, kinds := [], alts := [], laidByText := true, laidKinds := [.data], laidTests := true, laidLooks := .later }
def KeysSpecCardSaid : Prop := Claim7.holds Tryd.pinned (.plain (OpenSpec.ofChange keysSpecSpec)) keysSpecCard

/-- THE TIED CARD OF 'testamurlaw06.KeysVerifySpec'. -/
def keysVerifySpecCard : Claim7 := { stood := { row := keysVerifySpecRow, standIns := [], harness := (true, "86cae1a7c30198f7ecf1908ebb95f34b202bc1b65eec8b43b2b2433e2b874521"), looks := false }, kinds := [], alts := [], laidByText := true, laidKinds := [.data], laidTests := true, laidLooks := .later }
def KeysVerifySpecCardSaid : Prop := Claim7.holds Tryd.pinned (.plain (OpenSpec.ofChange keysVerifySpecSpec)) keysVerifySpecCard

/-- THE TIED CARD OF 'testamurlaw06.KeysForgedSpec'. -/
def keysForgedSpecCard : Claim7 := { stood := { row := keysForgedSpecRow, standIns := [], harness := (true, "86cae1a7c30198f7ecf1908ebb95f34b202bc1b65eec8b43b2b2433e2b874521"), looks := false }, kinds := [], alts := [], laidByText := true, laidKinds := [.data], laidTests := true, laidLooks := .later }
def KeysForgedSpecCardSaid : Prop := Claim7.holds Tryd.pinned (.plain (OpenSpec.ofChange keysForgedSpecSpec)) keysForgedSpecCard

/-- THE TIED CARD OF 'testamurlaw06.KeysForged'. -/
def keysForgedCard : Claim7 := { stood := { row := keysForgedRow, standIns := [], harness := (true, "86cae1a7c30198f7ecf1908ebb95f34b202bc1b65eec8b43b2b2433e2b874521"), looks := false }, kinds := [], alts := [], laidByText := true, laidKinds := [.data], laidTests := true, laidLooks := .later }
def KeysForgedCardSaid : Prop := Claim7.holds Tryd.pinned (.plain (OpenSpec.ofChange keysForgedSpec)) keysForgedCard

/-- THE TIED CARD OF 'testamurlaw06.KeysAccept'. -/
def keysAcceptCard : Claim7 := { stood := { row := keysAcceptRow, standIns := [], harness := (true, "86cae1a7c30198f7ecf1908ebb95f34b202bc1b65eec8b43b2b2433e2b874521"), looks := false }, kinds := [], alts := [], laidByText := true, laidKinds := [.data], laidTests := true, laidLooks := .later }
def KeysAcceptCardSaid : Prop := Claim7.holds Tryd.pinned (.plain (OpenSpec.ofChange keysAcceptSpec)) keysAcceptCard

/-- THE TIED CARD OF 'testamurlaw06.KeysPath'. -/
def keysPathCard : Claim7 := { stood := { row := keysPathRow, standIns := [], harness := (true, "86cae1a7c30198f7ecf1908ebb95f34b202bc1b65eec8b43b2b2433e2b874521"), looks := false }, kinds := [], alts := [], laidByText := true, laidKinds := [.data], laidTests := true, laidLooks := .later }
def KeysPathCardSaid : Prop := Claim7.holds Tryd.pinned (.plain (OpenSpec.ofChange keysPathSpec)) keysPathCard

/-- THE TIED CARD OF 'testamurlaw06.KeysTree'. -/
def keysTreeCard : Claim7 := { stood := { row := keysTreeRow, standIns := [], harness := (true, "86cae1a7c30198f7ecf1908ebb95f34b202bc1b65eec8b43b2b2433e2b874521"), looks := false }, kinds := [], alts := [], laidByText := true, laidKinds := [.data], laidTests := true, laidLooks := .later }
def KeysTreeCardSaid : Prop := Claim7.holds Tryd.pinned (.plain (OpenSpec.ofChange keysTreeSpec)) keysTreeCard

/-- THE SECOND FORM's CARD OF 'testamurlaw06.KeysSpec'. -/
def keysSpecUptoCard : Claim7 := { stood := { row := keysSpecUptoRow, standIns := [], harness := (true, "86cae1a7c30198f7ecf1908ebb95f34b202bc1b65eec8b43b2b2433e2b874521"), looks := false }, kinds := [], alts := [], laidByText := true, laidKinds := [.data], laidTests := true, laidLooks := .later }
def KeysSpecUptoCardSaid : Prop := Claim7.holds Tryd.pinned (.plain (OpenSpec.upto keysSpecSpec)) keysSpecUptoCard

/-- THE SECOND FORM's CARD OF 'testamurlaw06.KeysVerifySpec'. -/
def keysVerifySpecUptoCard : Claim7 := { stood := { row := keysVerifySpecUptoRow, standIns := [], harness := (true, "86cae1a7c30198f7ecf1908ebb95f34b202bc1b65eec8b43b2b2433e2b874521"), looks := false }, kinds := [], alts := [], laidByText := true, laidKinds := [.data], laidTests := true, laidLooks := .later }
def KeysVerifySpecUptoCardSaid : Prop := Claim7.holds Tryd.pinned (.plain (OpenSpec.upto keysVerifySpecSpec)) keysVerifySpecUptoCard

/-- THE SECOND FORM's CARD OF 'testamurlaw06.KeysForgedSpec'. -/
def keysForgedSpecUptoCard : Claim7 := { stood := { row := keysForgedSpecUptoRow, standIns := [], harness := (true, "86cae1a7c30198f7ecf1908ebb95f34b202bc1b65eec8b43b2b2433e2b874521"), looks := false }, kinds := [], alts := [], laidByText := true, laidKinds := [.data], laidTests := true, laidLooks := .later }
def KeysForgedSpecUptoCardSaid : Prop := Claim7.holds Tryd.pinned (.plain (OpenSpec.upto keysForgedSpecSpec)) keysForgedSpecUptoCard

/-- THE SECOND FORM's CARD OF 'testamurlaw06.KeysForged'. -/
def keysForgedUptoCard : Claim7 := { stood := { row := keysForgedUptoRow, standIns := [], harness := (true, "86cae1a7c30198f7ecf1908ebb95f34b202bc1b65eec8b43b2b2433e2b874521"), looks := false }, kinds := [], alts := [], laidByText := true, laidKinds := [.data], laidTests := true, laidLooks := .later }
def KeysForgedUptoCardSaid : Prop := Claim7.holds Tryd.pinned (.plain (OpenSpec.upto keysForgedSpec)) keysForgedUptoCard

/-- THE SECOND FORM's CARD OF 'testamurlaw06.KeysAccept'. -/
def keysAcceptUptoCard : Claim7 := { stood := { row := keysAcceptUptoRow, standIns := [], harness := (true, "86cae1a7c30198f7ecf1908ebb95f34b202bc1b65eec8b43b2b2433e2b874521"), looks := false }, kinds := [], alts := [], laidByText := true, laidKinds := [.data], laidTests := true, laidLooks := .later }
def KeysAcceptUptoCardSaid : Prop := Claim7.holds Tryd.pinned (.plain (OpenSpec.upto keysAcceptSpec)) keysAcceptUptoCard

/-- THE SECOND FORM's CARD OF 'testamurlaw06.KeysPath'. -/
def keysPathUptoCard : Claim7 := { stood := { row := keysPathUptoRow, standIns := [], harness := (true, "86cae1a7c30198f7ecf1908ebb95f34b202bc1b65eec8b43b2b2433e2b874521"), looks := false }, kinds := [], alts := [], laidByText := true, laidKinds := [.data], laidTests := true, laidLooks := .later }
def KeysPathUptoCardSaid : Prop := Claim7.holds Tryd.pinned (.plain (OpenSpec.upto keysPathSpec)) keysPathUptoCard

/-- THE SECOND FORM's CARD OF 'testamurlaw06.KeysTree'. -/
def keysTreeUptoCard : Claim7 := { stood := { row := keysTreeUptoRow, standIns := [], harness := (true, "86cae1a7c30198f7ecf1908ebb95f34b202bc1b65eec8b43b2b2433e2b874521"), looks := false }, kinds := [], alts := [], laidByText := true, laidKinds := [.data], laidTests := true, laidLooks := .later }
def KeysTreeUptoCardSaid : Prop := Claim7.holds Tryd.pinned (.plain (OpenSpec.upto keysTreeSpec)) keysTreeUptoCard
end Rows
end Go.Proofs.YtahjdbnhgdaejaaDoor
