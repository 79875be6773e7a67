/-
  DERIVED. GIVEN WITH THE SEED: THE CARDS: each row of YtbjfpoafphggnaaDoorRows.lean that lists a variable, with what it lists TIED to the program's text (the seventh form; the later family's looks); each row that meets fmt, with fmt's text TOLD by the authors' own Lean function (tested against real Go, not proved from fmt's source: count such statements apart). THE CARD IS WHAT COUNTS. Prove the row's statement (the work); the ties are given (YtbjfpoafphggnaaDoorTie.lean); close each card by the builder's one call (the guide's Derived/Test/ToyasCard.lean, 'card_holds'). Laid BY PROGRAM, IN A SANDBOX (cutbox-door.mjs). By AI agents, Wed Nov 11 2026. No macro, syntax, notation, axiom, sorry.
-/
import Derived.Test.YtbjfpoafphggnaaDoorRows
import GoSem.ClaimSeven
namespace Go.Proofs.YtbjfpoafphggnaaDoor
namespace Rows

/-- THE TIED CARD OF 'testamurlaw33.FiltersSpec'. -/
def filtersSpecCard : Claim7 := { stood := { row := filtersSpecRow, standIns := [], harness := (true, "49e3c24fc06e6a73315b5949443d1b0785a72520d26e247e7852186cc3f861f2"), looks := true }, kinds := [], alts := [], laidByText := true, laidKinds := [.data], laidTests := true, laidLooks := .later }
def FiltersSpecCardSaid : Prop := Claim7.holds Tryd.pinned (.plain (OpenSpec.ofChange filtersSpecSpec)) filtersSpecCard

/-- THE TIED CARD OF 'testamurlaw33.FiltersAddSpec'. -/
def filtersAddSpecCard : Claim7 := { stood := { row := filtersAddSpecRow, standIns := [], harness := (true, "49e3c24fc06e6a73315b5949443d1b0785a72520d26e247e7852186cc3f861f2"), looks := true }, kinds := [], alts := [], laidByText := true, laidKinds := [.data], laidTests := true, laidLooks := .later }
def FiltersAddSpecCardSaid : Prop := Claim7.holds Tryd.pinned (.plain (OpenSpec.ofChange filtersAddSpecSpec)) filtersAddSpecCard

/-- THE TIED CARD OF 'testamurlaw33.FiltersHas'. -/
def filtersHasCard : Claim7 := { stood := { row := filtersHasRow, standIns := [], harness := (true, "49e3c24fc06e6a73315b5949443d1b0785a72520d26e247e7852186cc3f861f2"), looks := true }, kinds := [], alts := [], laidByText := true, laidKinds := [.data], laidTests := true, laidLooks := .later }
def FiltersHasCardSaid : Prop := Claim7.holds Tryd.pinned (.plain (OpenSpec.ofChange filtersHasSpec)) filtersHasCard

/-- THE TIED CARD OF 'testamurlaw33.FiltersOrder'. -/
def filtersOrderCard : Claim7 := { stood := { row := filtersOrderRow, standIns := [], harness := (true, "49e3c24fc06e6a73315b5949443d1b0785a72520d26e247e7852186cc3f861f2"), looks := true }, kinds := [], alts := [], laidByText := true, laidKinds := [.data], laidTests := true, laidLooks := .later }
def FiltersOrderCardSaid : Prop := Claim7.holds Tryd.pinned (.plain (OpenSpec.ofChange filtersOrderSpec)) filtersOrderCard

/-- THE TIED CARD OF 'testamurlaw33.FiltersFalse'. -/
def filtersFalseCard : Claim7 := { stood := { row := filtersFalseRow, standIns := [], harness := (true, "49e3c24fc06e6a73315b5949443d1b0785a72520d26e247e7852186cc3f861f2"), looks := true }, kinds := [], alts := [], laidByText := true, laidKinds := [.data], laidTests := true, laidLooks := .later }
def FiltersFalseCardSaid : Prop := Claim7.holds Tryd.pinned (.plain (OpenSpec.ofChange filtersFalseSpec)) filtersFalseCard

/-- THE TIED CARD OF 'testamurlaw33.FiltersDetermined'. -/
def filtersDeterminedCard : Claim7 := { stood := { row := filtersDeterminedRow, standIns := [], harness := (true, "49e3c24fc06e6a73315b5949443d1b0785a72520d26e247e7852186cc3f861f2"), looks := true }, kinds := [], alts := [], laidByText := true, laidKinds := [.data], laidTests := true, laidLooks := .later }
def FiltersDeterminedCardSaid : Prop := Claim7.holds Tryd.pinned (.plain (OpenSpec.ofChange filtersDeterminedSpec)) filtersDeterminedCard

/-- THE SECOND FORM's CARD OF 'testamurlaw33.FiltersSpec'. -/
def filtersSpecUptoCard : Claim7 := { stood := { row := filtersSpecUptoRow, standIns := [], harness := (true, "49e3c24fc06e6a73315b5949443d1b0785a72520d26e247e7852186cc3f861f2"), looks := true }, kinds := [], alts := [], laidByText := true, laidKinds := [.data], laidTests := true, laidLooks := .later }
def FiltersSpecUptoCardSaid : Prop := Claim7.holds Tryd.pinned (.plain (OpenSpec.upto filtersSpecSpec)) filtersSpecUptoCard

/-- THE SECOND FORM's CARD OF 'testamurlaw33.FiltersAddSpec'. -/
def filtersAddSpecUptoCard : Claim7 := { stood := { row := filtersAddSpecUptoRow, standIns := [], harness := (true, "49e3c24fc06e6a73315b5949443d1b0785a72520d26e247e7852186cc3f861f2"), looks := true }, kinds := [], alts := [], laidByText := true, laidKinds := [.data], laidTests := true, laidLooks := .later }
def FiltersAddSpecUptoCardSaid : Prop := Claim7.holds Tryd.pinned (.plain (OpenSpec.upto filtersAddSpecSpec)) filtersAddSpecUptoCard

/-- THE SECOND FORM's CARD OF 'testamurlaw33.FiltersHas'. -/
def filtersHasUptoCard : Claim7 := { stood := { row := filtersHasUptoRow, standIns := [], harness := (true, "49e3c24fc06e6a73315b5949443d1b0785a72520d26e247e7852186cc3f861f2"), looks := true }, kinds := [], alts := [], laidByText := true, laidKinds := [.data], laidTests := true, laidLooks := .later }
def FiltersHasUptoCardSaid : Prop := Claim7.holds Tryd.pinned (.plain (OpenSpec.upto filtersHasSpec)) filtersHasUptoCard

/-- THE SECOND FORM's CARD OF 'testamurlaw33.FiltersOrder'. -/
def filtersOrderUptoCard : Claim7 := { stood := { row := filtersOrderUptoRow, standIns := [], harness := (true, "49e3c24fc06e6a73315b5949443d1b0785a72520d26e247e7852186cc3f861f2"), looks := true }, kinds := [], alts := [], laidByText := true, laidKinds := [.data], laidTests := true, laidLooks := .later }
def FiltersOrderUptoCardSaid : Prop := Claim7.holds Tryd.pinned (.plain (OpenSpec.upto filtersOrderSpec)) filtersOrderUptoCard

/-- THE SECOND FORM's CARD OF 'testamurlaw33.FiltersFalse'. -/
def filtersFalseUptoCard : Claim7 := { stood := { row := filtersFalseUptoRow, standIns := [], harness := (true, "49e3c24fc06e6a73315b5949443d1b0785a72520d26e247e7852186cc3f861f2"), looks := true }, kinds := [], alts := [], laidByText := true, laidKinds := [.data], laidTests := true, laidLooks := .later }
def FiltersFalseUptoCardSaid : Prop := Claim7.holds Tryd.pinned (.plain (OpenSpec.upto filtersFalseSpec)) filtersFalseUptoCard

/-- THE SECOND FORM's CARD OF 'testamurlaw33.FiltersDetermined'. -/
def filtersDeterminedUptoCard : Claim7 := { stood := { row := filtersDeterminedUptoRow, standIns := [], harness := (true, "49e3c24fc06e6a73315b5949443d1b0785a72520d26e247e7852186cc3f861f2"), looks := true }, kinds := [], alts := [], laidByText := true, laidKinds := [.data], laidTests := true, laidLooks := .later }
def FiltersDeterminedUptoCardSaid : Prop := Claim7.holds Tryd.pinned (.plain (OpenSpec.upto filtersDeterminedSpec)) filtersDeterminedUptoCard
end Rows
end Go.Proofs.YtbjfpoafphggnaaDoor
