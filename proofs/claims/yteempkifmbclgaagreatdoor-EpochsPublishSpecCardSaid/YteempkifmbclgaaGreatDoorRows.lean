/-
  NARROWER THAN 'FOR EVERY INPUT', by the rows' own cells (each row's printed sentence says how): EpochsCheckSpec: laid · EpochsPublishSpec: laid · EpochsStatesSpec: laid · EpochsPublished: laid · EpochsAt: laid · EpochsExact: laid · EpochsTrue: laid · EpochsLinked: laid.
  DERIVED. THE GIVEN ROWS OF THIS SEAT. 8 by the template 'for every input the law returns true; each argument reads behind the call as it read before'; 0 by the template 'total and deterministic' (their statements: YteempkifmbclgaaGreatDoorTotals.lean).
  GIVEN WITH THE SEED: the statements are not yours to turn. If you find one false, say at which input.
  Laid BY PROGRAM, IN A SANDBOX (cutbox-rows.mjs): the forced cells as the released guide's own fill.sh prints them over the translation b52be3baa1e244fb… (all of the seat's roots in one cut). By AI agents, Wed Nov 11 2026. No macro, syntax, notation, axiom, sorry.
-/
import Derived.Test.YteempkifmbclgaaGreatDoorChecked
import GoSem.Claim
import GoSem.ClaimJoined
import GoSem.ClaimMapViews
import Derived.JoinedTies
import Derived.KernelRfl
namespace Go.Proofs.YteempkifmbclgaaGreatDoor
/- THE CELL 'sum', in the pinned program and in every row, IS THE sha256 OF THE DUMP (.gsa) THAT YteempkifmbclgaaGreatDoorProg.lean LOADS. Nothing in Lean hashes anything: it is a label: what it is worth is what the hold of that sum in a sandbox is worth. -/
noncomputable def Tryz.pinned : Pinned := { name := "yteempkifmbclgaagreatdoor", sum := "b52be3baa1e244fb413c575cf714baf36acf4d84f5a617c49c1bf738f433a208", checked := Tryz.checked }
namespace Rows
def none {H : Type} : Left H := { results := [], args := [] }

/- WHAT THE LISTED PACKAGE-LEVEL VARIABLES READ AS WHEN THE CALL BEGINS. Each datum BY PROGRAM (the guide's laid-datum.mjs) off the statement by which the dump's own 'gosem.cut.vars' lays the variable. In a bare row this is a premise. The card (YteempkifmbclgaaGreatDoorCards.lean) ties it to the program's text. -/
def laid_testamur_digest_constants {H : Type} : DataW H := .agg [.lit (.int .u32 1116352408), .lit (.int .u32 1899447441), .lit (.int .u32 3049323471), .lit (.int .u32 3921009573), .lit (.int .u32 961987163), .lit (.int .u32 1508970993), .lit (.int .u32 2453635748), .lit (.int .u32 2870763221), .lit (.int .u32 3624381080), .lit (.int .u32 310598401), .lit (.int .u32 607225278), .lit (.int .u32 1426881987), .lit (.int .u32 1925078388), .lit (.int .u32 2162078206), .lit (.int .u32 2614888103), .lit (.int .u32 3248222580), .lit (.int .u32 3835390401), .lit (.int .u32 4022224774), .lit (.int .u32 264347078), .lit (.int .u32 604807628), .lit (.int .u32 770255983), .lit (.int .u32 1249150122), .lit (.int .u32 1555081692), .lit (.int .u32 1996064986), .lit (.int .u32 2554220882), .lit (.int .u32 2821834349), .lit (.int .u32 2952996808), .lit (.int .u32 3210313671), .lit (.int .u32 3336571891), .lit (.int .u32 3584528711), .lit (.int .u32 113926993), .lit (.int .u32 338241895), .lit (.int .u32 666307205), .lit (.int .u32 773529912), .lit (.int .u32 1294757372), .lit (.int .u32 1396182291), .lit (.int .u32 1695183700), .lit (.int .u32 1986661051), .lit (.int .u32 2177026350), .lit (.int .u32 2456956037), .lit (.int .u32 2730485921), .lit (.int .u32 2820302411), .lit (.int .u32 3259730800), .lit (.int .u32 3345764771), .lit (.int .u32 3516065817), .lit (.int .u32 3600352804), .lit (.int .u32 4094571909), .lit (.int .u32 275423344), .lit (.int .u32 430227734), .lit (.int .u32 506948616), .lit (.int .u32 659060556), .lit (.int .u32 883997877), .lit (.int .u32 958139571), .lit (.int .u32 1322822218), .lit (.int .u32 1537002063), .lit (.int .u32 1747873779), .lit (.int .u32 1955562222), .lit (.int .u32 2024104815), .lit (.int .u32 2227730452), .lit (.int .u32 2361852424), .lit (.int .u32 2428436474), .lit (.int .u32 2756734187), .lit (.int .u32 3204031479), .lit (.int .u32 3329325298)]

/-- 'testamurlaw35.EpochsCheckSpec': WHATEVER THE INPUT: true; the input reads as it did. -/
def epochsCheckSpecSpec : ChangeSpec := { name := "epochsCheckSpec", fn := fun _ => fun
  | [d1, d2, d3] => { results := [.lit (.bool true)], args := [d1, d2, d3] }
  | _ => none }
def epochsCheckSpecRow : OpenClaim := { program := "yteempkifmbclgaagreatdoor", sum := "b52be3baa1e244fb413c575cf714baf36acf4d84f5a617c49c1bf738f433a208", func := "testamur/testamurlaw35.EpochsCheckSpec", spec := "epochsCheckSpec", unfollowed := true, recurses := true, named := ["testamur/digest.constants"], apart := false, laid := [("testamur/digest.constants", laid_testamur_digest_constants)] }
def EpochsCheckSpecSaid : Prop := epochsCheckSpecRow.holds Tryz.pinned (OpenSpec.ofChange epochsCheckSpecSpec)

/-- ITS FALSE NEIGHBOUR: 'it returns false'. Refute it at one input. -/
def epochsCheckSpecWrong : ChangeSpec := { name := "epochsCheckSpec", fn := fun _ => fun
  | [d1, d2, d3] => { results := [.lit (.bool false)], args := [d1, d2, d3] }
  | _ => none }
def EpochsCheckSpecWrongFalsely : Prop := epochsCheckSpecRow.holds Tryz.pinned (OpenSpec.ofChange epochsCheckSpecWrong)

/-- 'testamurlaw35.EpochsPublishSpec': WHATEVER THE INPUT: true; the input reads as it did. -/
def epochsPublishSpecSpec : ChangeSpec := { name := "epochsPublishSpec", fn := fun _ => fun
  | [d1, d2, d3, d4, d5, d6, d7] => { results := [.lit (.bool true)], args := [d1, d2, d3, d4, d5, d6, d7] }
  | _ => none }
def epochsPublishSpecRow : OpenClaim := { program := "yteempkifmbclgaagreatdoor", sum := "b52be3baa1e244fb413c575cf714baf36acf4d84f5a617c49c1bf738f433a208", func := "testamur/testamurlaw35.EpochsPublishSpec", spec := "epochsPublishSpec", unfollowed := true, recurses := true, named := ["testamur/digest.constants"], apart := false, laid := [("testamur/digest.constants", laid_testamur_digest_constants)] }
def EpochsPublishSpecSaid : Prop := epochsPublishSpecRow.holds Tryz.pinned (OpenSpec.ofChange epochsPublishSpecSpec)

/-- ITS FALSE NEIGHBOUR: 'it returns false'. Refute it at one input. -/
def epochsPublishSpecWrong : ChangeSpec := { name := "epochsPublishSpec", fn := fun _ => fun
  | [d1, d2, d3, d4, d5, d6, d7] => { results := [.lit (.bool false)], args := [d1, d2, d3, d4, d5, d6, d7] }
  | _ => none }
def EpochsPublishSpecWrongFalsely : Prop := epochsPublishSpecRow.holds Tryz.pinned (OpenSpec.ofChange epochsPublishSpecWrong)

/-- 'testamurlaw35.EpochsStatesSpec': WHATEVER THE INPUT: true; the input reads as it did. -/
def epochsStatesSpecSpec : ChangeSpec := { name := "epochsStatesSpec", fn := fun _ => fun
  | [d1, d2, d3] => { results := [.lit (.bool true)], args := [d1, d2, d3] }
  | _ => none }
def epochsStatesSpecRow : OpenClaim := { program := "yteempkifmbclgaagreatdoor", sum := "b52be3baa1e244fb413c575cf714baf36acf4d84f5a617c49c1bf738f433a208", func := "testamur/testamurlaw35.EpochsStatesSpec", spec := "epochsStatesSpec", unfollowed := true, recurses := true, named := ["testamur/digest.constants"], apart := false, laid := [("testamur/digest.constants", laid_testamur_digest_constants)] }
def EpochsStatesSpecSaid : Prop := epochsStatesSpecRow.holds Tryz.pinned (OpenSpec.ofChange epochsStatesSpecSpec)

/-- ITS FALSE NEIGHBOUR: 'it returns false'. Refute it at one input. -/
def epochsStatesSpecWrong : ChangeSpec := { name := "epochsStatesSpec", fn := fun _ => fun
  | [d1, d2, d3] => { results := [.lit (.bool false)], args := [d1, d2, d3] }
  | _ => none }
def EpochsStatesSpecWrongFalsely : Prop := epochsStatesSpecRow.holds Tryz.pinned (OpenSpec.ofChange epochsStatesSpecWrong)

/-- 'testamurlaw35.EpochsPublished': WHATEVER THE INPUT: true; the input reads as it did. -/
def epochsPublishedSpec : ChangeSpec := { name := "epochsPublished", fn := fun _ => fun
  | [d1, d2, d3, d4, d5] => { results := [.lit (.bool true)], args := [d1, d2, d3, d4, d5] }
  | _ => none }
def epochsPublishedRow : OpenClaim := { program := "yteempkifmbclgaagreatdoor", sum := "b52be3baa1e244fb413c575cf714baf36acf4d84f5a617c49c1bf738f433a208", func := "testamur/testamurlaw35.EpochsPublished", spec := "epochsPublished", unfollowed := true, recurses := true, named := ["testamur/digest.constants"], apart := false, laid := [("testamur/digest.constants", laid_testamur_digest_constants)] }
def EpochsPublishedSaid : Prop := epochsPublishedRow.holds Tryz.pinned (OpenSpec.ofChange epochsPublishedSpec)

/-- ITS FALSE NEIGHBOUR: 'it returns false'. Refute it at one input. -/
def epochsPublishedWrong : ChangeSpec := { name := "epochsPublished", fn := fun _ => fun
  | [d1, d2, d3, d4, d5] => { results := [.lit (.bool false)], args := [d1, d2, d3, d4, d5] }
  | _ => none }
def EpochsPublishedWrongFalsely : Prop := epochsPublishedRow.holds Tryz.pinned (OpenSpec.ofChange epochsPublishedWrong)

/-- 'testamurlaw35.EpochsAt': WHATEVER THE INPUT: true; the input reads as it did. -/
def epochsAtSpec : ChangeSpec := { name := "epochsAt", fn := fun _ => fun
  | [d1, d2, d3, d4, d5, d6] => { results := [.lit (.bool true)], args := [d1, d2, d3, d4, d5, d6] }
  | _ => none }
def epochsAtRow : OpenClaim := { program := "yteempkifmbclgaagreatdoor", sum := "b52be3baa1e244fb413c575cf714baf36acf4d84f5a617c49c1bf738f433a208", func := "testamur/testamurlaw35.EpochsAt", spec := "epochsAt", unfollowed := true, recurses := true, named := ["testamur/digest.constants"], apart := false, laid := [("testamur/digest.constants", laid_testamur_digest_constants)] }
def EpochsAtSaid : Prop := epochsAtRow.holds Tryz.pinned (OpenSpec.ofChange epochsAtSpec)

/-- ITS FALSE NEIGHBOUR: 'it returns false'. Refute it at one input. -/
def epochsAtWrong : ChangeSpec := { name := "epochsAt", fn := fun _ => fun
  | [d1, d2, d3, d4, d5, d6] => { results := [.lit (.bool false)], args := [d1, d2, d3, d4, d5, d6] }
  | _ => none }
def EpochsAtWrongFalsely : Prop := epochsAtRow.holds Tryz.pinned (OpenSpec.ofChange epochsAtWrong)

/-- 'testamurlaw35.EpochsExact': WHATEVER THE INPUT: true; the input reads as it did. -/
def epochsExactSpec : ChangeSpec := { name := "epochsExact", fn := fun _ => fun
  | [d1, d2, d3, d4, d5] => { results := [.lit (.bool true)], args := [d1, d2, d3, d4, d5] }
  | _ => none }
def epochsExactRow : OpenClaim := { program := "yteempkifmbclgaagreatdoor", sum := "b52be3baa1e244fb413c575cf714baf36acf4d84f5a617c49c1bf738f433a208", func := "testamur/testamurlaw35.EpochsExact", spec := "epochsExact", unfollowed := true, recurses := true, named := ["testamur/digest.constants"], apart := false, laid := [("testamur/digest.constants", laid_testamur_digest_constants)] }
def EpochsExactSaid : Prop := epochsExactRow.holds Tryz.pinned (OpenSpec.ofChange epochsExactSpec)

/-- ITS FALSE NEIGHBOUR: 'it returns false'. Refute it at one input. -/
def epochsExactWrong : ChangeSpec := { name := "epochsExact", fn := fun _ => fun
  | [d1, d2, d3, d4, d5] => { results := [.lit (.bool false)], args := [d1, d2, d3, d4, d5] }
  | _ => none }
def EpochsExactWrongFalsely : Prop := epochsExactRow.holds Tryz.pinned (OpenSpec.ofChange epochsExactWrong)

/-- 'testamurlaw35.EpochsTrue': WHATEVER THE INPUT: true; the input reads as it did. -/
def epochsTrueSpec : ChangeSpec := { name := "epochsTrue", fn := fun _ => fun
  | [d1, d2, d3, d4, d5, d6] => { results := [.lit (.bool true)], args := [d1, d2, d3, d4, d5, d6] }
  | _ => none }
def epochsTrueRow : OpenClaim := { program := "yteempkifmbclgaagreatdoor", sum := "b52be3baa1e244fb413c575cf714baf36acf4d84f5a617c49c1bf738f433a208", func := "testamur/testamurlaw35.EpochsTrue", spec := "epochsTrue", unfollowed := true, recurses := true, named := ["testamur/digest.constants"], apart := false, laid := [("testamur/digest.constants", laid_testamur_digest_constants)] }
def EpochsTrueSaid : Prop := epochsTrueRow.holds Tryz.pinned (OpenSpec.ofChange epochsTrueSpec)

/-- ITS FALSE NEIGHBOUR: 'it returns false'. Refute it at one input. -/
def epochsTrueWrong : ChangeSpec := { name := "epochsTrue", fn := fun _ => fun
  | [d1, d2, d3, d4, d5, d6] => { results := [.lit (.bool false)], args := [d1, d2, d3, d4, d5, d6] }
  | _ => none }
def EpochsTrueWrongFalsely : Prop := epochsTrueRow.holds Tryz.pinned (OpenSpec.ofChange epochsTrueWrong)

/-- 'testamurlaw35.EpochsLinked': WHATEVER THE INPUT: true; the input reads as it did. -/
def epochsLinkedSpec : ChangeSpec := { name := "epochsLinked", fn := fun _ => fun
  | [d1, d2, d3, d4, d5, d6, d7, d8] => { results := [.lit (.bool true)], args := [d1, d2, d3, d4, d5, d6, d7, d8] }
  | _ => none }
def epochsLinkedRow : OpenClaim := { program := "yteempkifmbclgaagreatdoor", sum := "b52be3baa1e244fb413c575cf714baf36acf4d84f5a617c49c1bf738f433a208", func := "testamur/testamurlaw35.EpochsLinked", spec := "epochsLinked", unfollowed := true, recurses := true, named := ["testamur/digest.constants"], apart := false, laid := [("testamur/digest.constants", laid_testamur_digest_constants)] }
def EpochsLinkedSaid : Prop := epochsLinkedRow.holds Tryz.pinned (OpenSpec.ofChange epochsLinkedSpec)

/-- ITS FALSE NEIGHBOUR: 'it returns false'. Refute it at one input. -/
def epochsLinkedWrong : ChangeSpec := { name := "epochsLinked", fn := fun _ => fun
  | [d1, d2, d3, d4, d5, d6, d7, d8] => { results := [.lit (.bool false)], args := [d1, d2, d3, d4, d5, d6, d7, d8] }
  | _ => none }
def EpochsLinkedWrongFalsely : Prop := epochsLinkedRow.holds Tryz.pinned (OpenSpec.ofChange epochsLinkedWrong)

/- THE SECOND FORM. 'bulk': how many values and letters a reading holds, each counted each time it is reached (what is shared counts as often as it is met; a slice's spare places count too). A statement '..UptoSaid' is the law's where the arguments, and the package variables that the reading takes, are together of bulk at most 1048576: NARROWER than '..Said'. Prove '..Said' where nothing that the law and all that it calls make is longer than what came in: it says more and counts as full. Else prove '..UptoSaid'. A law counts once. -/
mutual
def uptoBulk {H : Type} : DataW H → Nat
  | .lit (.string bytes) => bytes.length + 1
  | .lit _ => 1
  | .nil => 1
  | .ptr d => uptoBulk d + 1
  | .slice elems spare => uptoBulkAll elems + uptoBulkAll spare + 1
  | .agg parts => uptoBulkAll parts + 1
  | .iface _ d => uptoBulk d + 1
  | .map entries => uptoBulkEntries entries + 1
  | .held _ => 1
def uptoBulkAll {H : Type} : List (DataW H) → Nat
  | [] => 0
  | d :: r => uptoBulk d + uptoBulkAll r
def uptoBulkEntries {H : Type} : List (Lit × DataW H) → Nat
  | [] => 0
  | x :: r => uptoBulkEntry x + uptoBulkEntries r
def uptoBulkEntry {H : Type} : Lit × DataW H → Nat
  | (.string bytes, d) => bytes.length + uptoBulk d + 1
  | (_, d) => uptoBulk d + 1
 end
def uptoSmall : (H : Type) → List (DataW H) → Bool := fun _ ds => decide (uptoBulkAll ds ≤ 1048576)
def OpenSpec.upto (s : _root_.Go.ChangeSpec) : _root_.Go.OpenSpec := { _root_.Go.OpenSpec.ofChange s with cond := some uptoSmall }

/-- 'testamurlaw35.EpochsCheckSpec', WHERE WHAT IT READS IS OF BULK AT MOST 1048576: true; the input reads as it did. -/
def epochsCheckSpecUptoRow : OpenClaim := { program := "yteempkifmbclgaagreatdoor", sum := "b52be3baa1e244fb413c575cf714baf36acf4d84f5a617c49c1bf738f433a208", func := "testamur/testamurlaw35.EpochsCheckSpec", spec := "epochsCheckSpec", unfollowed := true, recurses := true, named := ["testamur/digest.constants"], apart := false, laid := [("testamur/digest.constants", laid_testamur_digest_constants)], narrowed := true }
def EpochsCheckSpecUptoSaid : Prop := epochsCheckSpecUptoRow.holds Tryz.pinned (OpenSpec.upto epochsCheckSpecSpec)

/-- 'testamurlaw35.EpochsPublishSpec', WHERE WHAT IT READS IS OF BULK AT MOST 1048576: true; the input reads as it did. -/
def epochsPublishSpecUptoRow : OpenClaim := { program := "yteempkifmbclgaagreatdoor", sum := "b52be3baa1e244fb413c575cf714baf36acf4d84f5a617c49c1bf738f433a208", func := "testamur/testamurlaw35.EpochsPublishSpec", spec := "epochsPublishSpec", unfollowed := true, recurses := true, named := ["testamur/digest.constants"], apart := false, laid := [("testamur/digest.constants", laid_testamur_digest_constants)], narrowed := true }
def EpochsPublishSpecUptoSaid : Prop := epochsPublishSpecUptoRow.holds Tryz.pinned (OpenSpec.upto epochsPublishSpecSpec)

/-- 'testamurlaw35.EpochsStatesSpec', WHERE WHAT IT READS IS OF BULK AT MOST 1048576: true; the input reads as it did. -/
def epochsStatesSpecUptoRow : OpenClaim := { program := "yteempkifmbclgaagreatdoor", sum := "b52be3baa1e244fb413c575cf714baf36acf4d84f5a617c49c1bf738f433a208", func := "testamur/testamurlaw35.EpochsStatesSpec", spec := "epochsStatesSpec", unfollowed := true, recurses := true, named := ["testamur/digest.constants"], apart := false, laid := [("testamur/digest.constants", laid_testamur_digest_constants)], narrowed := true }
def EpochsStatesSpecUptoSaid : Prop := epochsStatesSpecUptoRow.holds Tryz.pinned (OpenSpec.upto epochsStatesSpecSpec)

/-- 'testamurlaw35.EpochsPublished', WHERE WHAT IT READS IS OF BULK AT MOST 1048576: true; the input reads as it did. -/
def epochsPublishedUptoRow : OpenClaim := { program := "yteempkifmbclgaagreatdoor", sum := "b52be3baa1e244fb413c575cf714baf36acf4d84f5a617c49c1bf738f433a208", func := "testamur/testamurlaw35.EpochsPublished", spec := "epochsPublished", unfollowed := true, recurses := true, named := ["testamur/digest.constants"], apart := false, laid := [("testamur/digest.constants", laid_testamur_digest_constants)], narrowed := true }
def EpochsPublishedUptoSaid : Prop := epochsPublishedUptoRow.holds Tryz.pinned (OpenSpec.upto epochsPublishedSpec)

/-- 'testamurlaw35.EpochsAt', WHERE WHAT IT READS IS OF BULK AT MOST 1048576: true; the input reads as it did. -/
def epochsAtUptoRow : OpenClaim := { program := "yteempkifmbclgaagreatdoor", sum := "b52be3baa1e244fb413c575cf714baf36acf4d84f5a617c49c1bf738f433a208", func := "testamur/testamurlaw35.EpochsAt", spec := "epochsAt", unfollowed := true, recurses := true, named := ["testamur/digest.constants"], apart := false, laid := [("testamur/digest.constants", laid_testamur_digest_constants)], narrowed := true }
def EpochsAtUptoSaid : Prop := epochsAtUptoRow.holds Tryz.pinned (OpenSpec.upto epochsAtSpec)

/-- 'testamurlaw35.EpochsExact', WHERE WHAT IT READS IS OF BULK AT MOST 1048576: true; the input reads as it did. -/
def epochsExactUptoRow : OpenClaim := { program := "yteempkifmbclgaagreatdoor", sum := "b52be3baa1e244fb413c575cf714baf36acf4d84f5a617c49c1bf738f433a208", func := "testamur/testamurlaw35.EpochsExact", spec := "epochsExact", unfollowed := true, recurses := true, named := ["testamur/digest.constants"], apart := false, laid := [("testamur/digest.constants", laid_testamur_digest_constants)], narrowed := true }
def EpochsExactUptoSaid : Prop := epochsExactUptoRow.holds Tryz.pinned (OpenSpec.upto epochsExactSpec)

/-- 'testamurlaw35.EpochsTrue', WHERE WHAT IT READS IS OF BULK AT MOST 1048576: true; the input reads as it did. -/
def epochsTrueUptoRow : OpenClaim := { program := "yteempkifmbclgaagreatdoor", sum := "b52be3baa1e244fb413c575cf714baf36acf4d84f5a617c49c1bf738f433a208", func := "testamur/testamurlaw35.EpochsTrue", spec := "epochsTrue", unfollowed := true, recurses := true, named := ["testamur/digest.constants"], apart := false, laid := [("testamur/digest.constants", laid_testamur_digest_constants)], narrowed := true }
def EpochsTrueUptoSaid : Prop := epochsTrueUptoRow.holds Tryz.pinned (OpenSpec.upto epochsTrueSpec)

/-- 'testamurlaw35.EpochsLinked', WHERE WHAT IT READS IS OF BULK AT MOST 1048576: true; the input reads as it did. -/
def epochsLinkedUptoRow : OpenClaim := { program := "yteempkifmbclgaagreatdoor", sum := "b52be3baa1e244fb413c575cf714baf36acf4d84f5a617c49c1bf738f433a208", func := "testamur/testamurlaw35.EpochsLinked", spec := "epochsLinked", unfollowed := true, recurses := true, named := ["testamur/digest.constants"], apart := false, laid := [("testamur/digest.constants", laid_testamur_digest_constants)], narrowed := true }
def EpochsLinkedUptoSaid : Prop := epochsLinkedUptoRow.holds Tryz.pinned (OpenSpec.upto epochsLinkedSpec)

end Rows
end Go.Proofs.YteempkifmbclgaaGreatDoor
