/-
  DERIVED. GIVEN WITH THE SEED: THE CARDS: each row of YtpchamaioceahaaDoorRows.lean that lists a variable, with what it lists TIED to the program's text (the seventh form; the later family's looks); each row that meets fmt, with fmt's text TOLD by the authors' own Lean function (tested against real Go, not proved from fmt's source: count such statements apart). THE CARD IS WHAT COUNTS. Prove the row's statement (the work); the ties are given (YtpchamaioceahaaDoorTie.lean); close each card by the builder's one call (the guide's Derived/Test/ToyasCard.lean, 'card_holds'). Laid BY PROGRAM, IN A SANDBOX (cutbox-door.mjs). By AI agents, Wed Nov 11 2026. No macro, syntax, notation, axiom, sorry.
-/
import Derived.Test.YtpchamaioceahaaDoorRows
import GoSem.ClaimSeven
namespace Go.Proofs.YtpchamaioceahaaDoor
namespace Rows

/-- THE TIED CARD OF 'testamurlaw02.DigestSumSpec'. -/
def digestSumSpecCard : Claim7 := { stood := { row := digestSumSpecRow, standIns := [], harness := (true, "a9e10fe03c3e02b896c70bb91217b0666b87983dc814c0191f040ffc767ca7c5"), looks := false }, kinds := [], alts := [], laidByText := true, laidKinds := [.data], laidTests := true, laidLooks := .later }
def DigestSumSpecCardSaid : Prop := Claim7.holds Tryd.pinned (.plain (OpenSpec.ofChange digestSumSpecSpec)) digestSumSpecCard

/-- THE TIED CARD OF 'testamurlaw02.DigestTreeSpec'. -/
def digestTreeSpecCard : Claim7 := { stood := { row := digestTreeSpecRow, standIns := [], harness := (true, "a9e10fe03c3e02b896c70bb91217b0666b87983dc814c0191f040ffc767ca7c5"), looks := false }, kinds := [], alts := [], laidByText := true, laidKinds := [.data], laidTests := true, laidLooks := .later }
def DigestTreeSpecCardSaid : Prop := Claim7.holds Tryd.pinned (.plain (OpenSpec.ofChange digestTreeSpecSpec)) digestTreeSpecCard

/-- THE TIED CARD OF 'testamurlaw02.DigestTags'. -/
def digestTagsCard : Claim7 := { stood := { row := digestTagsRow, standIns := [], harness := (true, "a9e10fe03c3e02b896c70bb91217b0666b87983dc814c0191f040ffc767ca7c5"), looks := false }, kinds := [], alts := [], laidByText := true, laidKinds := [.data], laidTests := true, laidLooks := .later }
def DigestTagsCardSaid : Prop := Claim7.holds Tryd.pinned (.plain (OpenSpec.ofChange digestTagsSpec)) digestTagsCard

/-- THE TIED CARD OF 'testamurlaw02.DigestClimbs'. -/
def digestClimbsCard : Claim7 := { stood := { row := digestClimbsRow, standIns := [], harness := (true, "a9e10fe03c3e02b896c70bb91217b0666b87983dc814c0191f040ffc767ca7c5"), looks := false }, kinds := [], alts := [], laidByText := true, laidKinds := [.data], laidTests := true, laidLooks := .later }
def DigestClimbsCardSaid : Prop := Claim7.holds Tryd.pinned (.plain (OpenSpec.ofChange digestClimbsSpec)) digestClimbsCard

/-- THE TIED CARD OF 'testamurlaw02.DigestHalves'. -/
def digestHalvesCard : Claim7 := { stood := { row := digestHalvesRow, standIns := [], harness := (true, "a9e10fe03c3e02b896c70bb91217b0666b87983dc814c0191f040ffc767ca7c5"), looks := false }, kinds := [], alts := [], laidByText := true, laidKinds := [.data], laidTests := true, laidLooks := .later }
def DigestHalvesCardSaid : Prop := Claim7.holds Tryd.pinned (.plain (OpenSpec.ofChange digestHalvesSpec)) digestHalvesCard

/-- THE TIED CARD OF 'testamurlaw02.DigestNext'. -/
def digestNextCard : Claim7 := { stood := { row := digestNextRow, standIns := [], harness := (true, "a9e10fe03c3e02b896c70bb91217b0666b87983dc814c0191f040ffc767ca7c5"), looks := false }, kinds := [], alts := [], laidByText := true, laidKinds := [.data], laidTests := true, laidLooks := .later }
def DigestNextCardSaid : Prop := Claim7.holds Tryd.pinned (.plain (OpenSpec.ofChange digestNextSpec)) digestNextCard

/-- THE TIED CARD OF 'testamurlaw02.DigestPlaces'. -/
def digestPlacesCard : Claim7 := { stood := { row := digestPlacesRow, standIns := [], harness := (true, "a9e10fe03c3e02b896c70bb91217b0666b87983dc814c0191f040ffc767ca7c5"), looks := false }, kinds := [], alts := [], laidByText := true, laidKinds := [.data], laidTests := true, laidLooks := .later }
def DigestPlacesCardSaid : Prop := Claim7.holds Tryd.pinned (.plain (OpenSpec.ofChange digestPlacesSpec)) digestPlacesCard

/-- THE TIED CARD OF 'testamurlaw02.DigestChains'. -/
def digestChainsCard : Claim7 := { stood := { row := digestChainsRow, standIns := [], harness := (true, "a9e10fe03c3e02b896c70bb91217b0666b87983dc814c0191f040ffc767ca7c5"), looks := false }, kinds := [], alts := [], laidByText := true, laidKinds := [.data], laidTests := true, laidLooks := .later }
def DigestChainsCardSaid : Prop := Claim7.holds Tryd.pinned (.plain (OpenSpec.ofChange digestChainsSpec)) digestChainsCard

/-- THE SECOND FORM's CARD OF 'testamurlaw02.DigestSumSpec'. -/
def digestSumSpecUptoCard : Claim7 := { stood := { row := digestSumSpecUptoRow, standIns := [], harness := (true, "a9e10fe03c3e02b896c70bb91217b0666b87983dc814c0191f040ffc767ca7c5"), looks := false }, kinds := [], alts := [], laidByText := true, laidKinds := [.data], laidTests := true, laidLooks := .later }
def DigestSumSpecUptoCardSaid : Prop := Claim7.holds Tryd.pinned (.plain (OpenSpec.upto digestSumSpecSpec)) digestSumSpecUptoCard

/-- THE SECOND FORM's CARD OF 'testamurlaw02.DigestTreeSpec'. -/
def digestTreeSpecUptoCard : Claim7 := { stood := { row := digestTreeSpecUptoRow, standIns := [], harness := (true, "a9e10fe03c3e02b896c70bb91217b0666b87983dc814c0191f040ffc767ca7c5"), looks := false }, kinds := [], alts := [], laidByText := true, laidKinds := [.data], laidTests := true, laidLooks := .later }
def DigestTreeSpecUptoCardSaid : Prop := Claim7.holds Tryd.pinned (.plain (OpenSpec.upto digestTreeSpecSpec)) digestTreeSpecUptoCard

/-- THE SECOND FORM's CARD OF 'testamurlaw02.DigestTags'. -/
def digestTagsUptoCard : Claim7 := { stood := { row := digestTagsUptoRow, standIns := [], harness := (true, "a9e10fe03c3e02b896c70bb91217b0666b87983dc814c0191f040ffc767ca7c5"), looks := false }, kinds := [], alts := [], laidByText := true, laidKinds := [.data], laidTests := true, laidLooks := .later }
def DigestTagsUptoCardSaid : Prop := Claim7.holds Tryd.pinned (.plain (OpenSpec.upto digestTagsSpec)) digestTagsUptoCard

/-- THE SECOND FORM's CARD OF 'testamurlaw02.DigestClimbs'. -/
def digestClimbsUptoCard : Claim7 := { stood := { row := digestClimbsUptoRow, standIns := [], harness := (true, "a9e10fe03c3e02b896c70bb91217b0666b87983dc814c0191f040ffc767ca7c5"), looks := false }, kinds := [], alts := [], laidByText := true, laidKinds := [.data], laidTests := true, laidLooks := .later }
def DigestClimbsUptoCardSaid : Prop := Claim7.holds Tryd.pinned (.plain (OpenSpec.upto digestClimbsSpec)) digestClimbsUptoCard

/-- THE SECOND FORM's CARD OF 'testamurlaw02.DigestHalves'. -/
def digestHalvesUptoCard : Claim7 := { stood := { row := digestHalvesUptoRow, standIns := [], harness := (true, "a9e10fe03c3e02b896c70bb91217b0666b87983dc814c0191f040ffc767ca7c5"), looks := false }, kinds := [], alts := [], laidByText := true, laidKinds := [.data], laidTests := true, laidLooks := .later }
def DigestHalvesUptoCardSaid : Prop := Claim7.holds Tryd.pinned (.plain (OpenSpec.upto digestHalvesSpec)) digestHalvesUptoCard

/-- THE SECOND FORM's CARD OF 'testamurlaw02.DigestNext'. -/
def digestNextUptoCard : Claim7 := { stood := { row := digestNextUptoRow, standIns := [], harness := (true, "a9e10fe03c3e02b896c70bb91217b0666b87983dc814c0191f040ffc767ca7c5"), looks := false }, kinds := [], alts := [], laidByText := true, laidKinds := [.data], laidTests := true, laidLooks := .later }
def DigestNextUptoCardSaid : Prop := Claim7.holds Tryd.pinned (.plain (OpenSpec.upto digestNextSpec)) digestNextUptoCard

/-- THE SECOND FORM's CARD OF 'testamurlaw02.DigestPlaces'. -/
def digestPlacesUptoCard : Claim7 := { stood := { row := digestPlacesUptoRow, standIns := [], harness := (true, "a9e10fe03c3e02b896c70bb91217b0666b87983dc814c0191f040ffc767ca7c5"), looks := false }, kinds := [], alts := [], laidByText := true, laidKinds := [.data], laidTests := true, laidLooks := .later }
def DigestPlacesUptoCardSaid : Prop := Claim7.holds Tryd.pinned (.plain (OpenSpec.upto digestPlacesSpec)) digestPlacesUptoCard

/-- THE SECOND FORM's CARD OF 'testamurlaw02.DigestChains'. -/
def digestChainsUptoCard : Claim7 := { stood := { row := digestChainsUptoRow, standIns := [], harness := (true, "a9e10fe03c3e02b896c70bb91217b0666b87983dc814c0191f040ffc767ca7c5"), looks := false }, kinds := [], alts := [], laidByText := true, laidKinds := [.data], laidTests := true, laidLooks := .later }
def DigestChainsUptoCardSaid : Prop := Claim7.holds Tryd.pinned (.plain (OpenSpec.upto digestChainsSpec)) digestChainsUptoCard
end Rows
end Go.Proofs.YtpchamaioceahaaDoor
