/-
  DERIVED. GIVEN WITH THE SEED: THE CARDS: each row of YtbcbmadmbbimlaaDoorRows.lean that lists a variable, with what it lists TIED to the program's text (the seventh form; the later family's looks); each row that meets fmt, with fmt's text TOLD by the authors' own Lean function (tested against real Go, not proved from fmt's source: count such statements apart). THE CARD IS WHAT COUNTS. Prove the row's statement (the work); the ties are given (YtbcbmadmbbimlaaDoorTie.lean); close each card by the builder's one call (the guide's Derived/Test/ToyasCard.lean, 'card_holds'). Laid BY PROGRAM, IN A SANDBOX (cutbox-door.mjs). By AI agents, Wed Nov 11 2026. No macro, syntax, notation, axiom, sorry.
-/
import Derived.Test.YtbcbmadmbbimlaaDoorRows
import GoSem.ClaimSeven
namespace Go.Proofs.YtbcbmadmbbimlaaDoor
namespace Rows

/-- THE TIED CARD OF 'testamurlaw37.StatusSpec'. -/
def statusSpecCard : Claim7 := { stood := { row := statusSpecRow, standIns := [], harness := (true, "7df7053220615d6257157c4d95b8f9a185b316c293f2a3f7fb1ce40f676f9cff"), looks := true }, kinds := [], alts := [], laidByText := true, laidKinds := [.data], laidTests := true, laidLooks := .later }
def StatusSpecCardSaid : Prop := Claim7.holds Tryd.pinned (.plain (OpenSpec.ofChange statusSpecSpec)) statusSpecCard

/-- THE TIED CARD OF 'testamurlaw37.StatusAskSpec'. -/
def statusAskSpecCard : Claim7 := { stood := { row := statusAskSpecRow, standIns := [], harness := (true, "7df7053220615d6257157c4d95b8f9a185b316c293f2a3f7fb1ce40f676f9cff"), looks := true }, kinds := [], alts := [], laidByText := true, laidKinds := [.data], laidTests := true, laidLooks := .later }
def StatusAskSpecCardSaid : Prop := Claim7.holds Tryd.pinned (.plain (OpenSpec.ofChange statusAskSpecSpec)) statusAskSpecCard

/-- THE TIED CARD OF 'testamurlaw37.StatusFreshSpec'. -/
def statusFreshSpecCard : Claim7 := { stood := { row := statusFreshSpecRow, standIns := [], harness := (true, "7df7053220615d6257157c4d95b8f9a185b316c293f2a3f7fb1ce40f676f9cff"), looks := true }, kinds := [], alts := [], laidByText := true, laidKinds := [.data], laidTests := true, laidLooks := .later }
def StatusFreshSpecCardSaid : Prop := Claim7.holds Tryd.pinned (.plain (OpenSpec.ofChange statusFreshSpecSpec)) statusFreshSpecCard

/-- THE TIED CARD OF 'testamurlaw37.StatusHead'. -/
def statusHeadCard : Claim7 := { stood := { row := statusHeadRow, standIns := [], harness := (true, "7df7053220615d6257157c4d95b8f9a185b316c293f2a3f7fb1ce40f676f9cff"), looks := true }, kinds := [], alts := [], laidByText := true, laidKinds := [.data], laidTests := true, laidLooks := .later }
def StatusHeadCardSaid : Prop := Claim7.holds Tryd.pinned (.plain (OpenSpec.ofChange statusHeadSpec)) statusHeadCard

/-- THE TIED CARD OF 'testamurlaw37.StatusPrivate'. -/
def statusPrivateCard : Claim7 := { stood := { row := statusPrivateRow, standIns := [], harness := (true, "7df7053220615d6257157c4d95b8f9a185b316c293f2a3f7fb1ce40f676f9cff"), looks := true }, kinds := [], alts := [], laidByText := true, laidKinds := [.data], laidTests := true, laidLooks := .later }
def StatusPrivateCardSaid : Prop := Claim7.holds Tryd.pinned (.plain (OpenSpec.ofChange statusPrivateSpec)) statusPrivateCard

/-- THE TIED CARD OF 'testamurlaw37.StatusHas'. -/
def statusHasCard : Claim7 := { stood := { row := statusHasRow, standIns := [], harness := (true, "7df7053220615d6257157c4d95b8f9a185b316c293f2a3f7fb1ce40f676f9cff"), looks := true }, kinds := [], alts := [], laidByText := true, laidKinds := [.data], laidTests := true, laidLooks := .later }
def StatusHasCardSaid : Prop := Claim7.holds Tryd.pinned (.plain (OpenSpec.ofChange statusHasSpec)) statusHasCard

/-- THE TIED CARD OF 'testamurlaw37.StatusExact'. -/
def statusExactCard : Claim7 := { stood := { row := statusExactRow, standIns := [], harness := (true, "7df7053220615d6257157c4d95b8f9a185b316c293f2a3f7fb1ce40f676f9cff"), looks := true }, kinds := [], alts := [], laidByText := true, laidKinds := [.data], laidTests := true, laidLooks := .later }
def StatusExactCardSaid : Prop := Claim7.holds Tryd.pinned (.plain (OpenSpec.ofChange statusExactSpec)) statusExactCard

/-- THE SECOND FORM's CARD OF 'testamurlaw37.StatusSpec'. -/
def statusSpecUptoCard : Claim7 := { stood := { row := statusSpecUptoRow, standIns := [], harness := (true, "7df7053220615d6257157c4d95b8f9a185b316c293f2a3f7fb1ce40f676f9cff"), looks := true }, kinds := [], alts := [], laidByText := true, laidKinds := [.data], laidTests := true, laidLooks := .later }
def StatusSpecUptoCardSaid : Prop := Claim7.holds Tryd.pinned (.plain (OpenSpec.upto statusSpecSpec)) statusSpecUptoCard

/-- THE SECOND FORM's CARD OF 'testamurlaw37.StatusAskSpec'. -/
def statusAskSpecUptoCard : Claim7 := { stood := { row := statusAskSpecUptoRow, standIns := [], harness := (true, "7df7053220615d6257157c4d95b8f9a185b316c293f2a3f7fb1ce40f676f9cff"), looks := true }, kinds := [], alts := [], laidByText := true, laidKinds := [.data], laidTests := true, laidLooks := .later }
def StatusAskSpecUptoCardSaid : Prop := Claim7.holds Tryd.pinned (.plain (OpenSpec.upto statusAskSpecSpec)) statusAskSpecUptoCard

/-- THE SECOND FORM's CARD OF 'testamurlaw37.StatusFreshSpec'. -/
def statusFreshSpecUptoCard : Claim7 := { stood := { row := statusFreshSpecUptoRow, standIns := [], harness := (true, "7df7053220615d6257157c4d95b8f9a185b316c293f2a3f7fb1ce40f676f9cff"), looks := true }, kinds := [], alts := [], laidByText := true, laidKinds := [.data], laidTests := true, laidLooks := .later }
def StatusFreshSpecUptoCardSaid : Prop := Claim7.holds Tryd.pinned (.plain (OpenSpec.upto statusFreshSpecSpec)) statusFreshSpecUptoCard

/-- THE SECOND FORM's CARD OF 'testamurlaw37.StatusHead'. -/
def statusHeadUptoCard : Claim7 := { stood := { row := statusHeadUptoRow, standIns := [], harness := (true, "7df7053220615d6257157c4d95b8f9a185b316c293f2a3f7fb1ce40f676f9cff"), looks := true }, kinds := [], alts := [], laidByText := true, laidKinds := [.data], laidTests := true, laidLooks := .later }
def StatusHeadUptoCardSaid : Prop := Claim7.holds Tryd.pinned (.plain (OpenSpec.upto statusHeadSpec)) statusHeadUptoCard

/-- THE SECOND FORM's CARD OF 'testamurlaw37.StatusPrivate'. -/
def statusPrivateUptoCard : Claim7 := { stood := { row := statusPrivateUptoRow, standIns := [], harness := (true, "7df7053220615d6257157c4d95b8f9a185b316c293f2a3f7fb1ce40f676f9cff"), looks := true }, kinds := [], alts := [], laidByText := true, laidKinds := [.data], laidTests := true, laidLooks := .later }
def StatusPrivateUptoCardSaid : Prop := Claim7.holds Tryd.pinned (.plain (OpenSpec.upto statusPrivateSpec)) statusPrivateUptoCard

/-- THE SECOND FORM's CARD OF 'testamurlaw37.StatusHas'. -/
def statusHasUptoCard : Claim7 := { stood := { row := statusHasUptoRow, standIns := [], harness := (true, "7df7053220615d6257157c4d95b8f9a185b316c293f2a3f7fb1ce40f676f9cff"), looks := true }, kinds := [], alts := [], laidByText := true, laidKinds := [.data], laidTests := true, laidLooks := .later }
def StatusHasUptoCardSaid : Prop := Claim7.holds Tryd.pinned (.plain (OpenSpec.upto statusHasSpec)) statusHasUptoCard

/-- THE SECOND FORM's CARD OF 'testamurlaw37.StatusExact'. -/
def statusExactUptoCard : Claim7 := { stood := { row := statusExactUptoRow, standIns := [], harness := (true, "7df7053220615d6257157c4d95b8f9a185b316c293f2a3f7fb1ce40f676f9cff"), looks := true }, kinds := [], alts := [], laidByText := true, laidKinds := [.data], laidTests := true, laidLooks := .later }
def StatusExactUptoCardSaid : Prop := Claim7.holds Tryd.pinned (.plain (OpenSpec.upto statusExactSpec)) statusExactUptoCard
end Rows
end Go.Proofs.YtbcbmadmbbimlaaDoor
