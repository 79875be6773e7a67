/-
  NARROWER THAN 'FOR EVERY INPUT', by the rows' own cells (each row's printed sentence says how): ChainsDigitsSpec: laid · ChainsSpec: laid · ChainsSigned: laid · ChainsApart: laid · ChainsSteps: laid · ChainsOnly: laid · ChainsForge: laid.
  DERIVED. THE GIVEN ROWS OF THIS SEAT. 7 by the template 'for every input the law returns true; each argument reads behind the call as it read before'; 0 by the template 'total and deterministic' (their statements: YtapmhjkfnedbmaaDoorTotals.lean).
  GIVEN WITH THE SEED: the statements are not yours to turn. If you find one false, say at which input.
  Laid BY PROGRAM, IN A SANDBOX (cutbox-rows.mjs): the forced cells as the released guide's own fill.sh prints them over the translation d024803975765336… (all of the seat's roots in one cut). By AI agents, Wed Nov 11 2026. No macro, syntax, notation, axiom, sorry.
-/
import Derived.Test.YtapmhjkfnedbmaaDoorChecked
import GoSem.Claim
import GoSem.ClaimJoined
import GoSem.ClaimMapViews
import Derived.JoinedTies
import Derived.KernelRfl
namespace Go.Proofs.YtapmhjkfnedbmaaDoor
/- THE CELL 'sum', in the pinned program and in every row, IS THE sha256 OF THE DUMP (.gsa) THAT YtapmhjkfnedbmaaDoorProg.lean LOADS. Nothing in Lean hashes anything: it is a label: what it is worth is what the hold of that sum in a sandbox is worth. -/
noncomputable def Tryd.pinned : Pinned := { name := "ytapmhjkfnedbmaadoor", sum := "d02480397576533636d32ad1a67905a0b513934cbc5c40b0fb1b2d25085f280d", checked := Tryd.checked }
namespace Rows
def none {H : Type} : Left H := { results := [], args := [] }

/- WHAT THE LISTED PACKAGE-LEVEL VARIABLES READ AS WHEN THE CALL BEGINS. Each datum BY PROGRAM (the guide's laid-datum.mjs) off the statement by which the dump's own 'gosem.cut.vars' lays the variable. In a bare row this is a premise. The card (YtapmhjkfnedbmaaDoorCards.lean) ties it to the program's text. -/
def laid_testamur_digest_constants {H : Type} : DataW H := .agg [.lit (.int .u32 1116352408), .lit (.int .u32 1899447441), .lit (.int .u32 3049323471), .lit (.int .u32 3921009573), .lit (.int .u32 961987163), .lit (.int .u32 1508970993), .lit (.int .u32 2453635748), .lit (.int .u32 2870763221), .lit (.int .u32 3624381080), .lit (.int .u32 310598401), .lit (.int .u32 607225278), .lit (.int .u32 1426881987), .lit (.int .u32 1925078388), .lit (.int .u32 2162078206), .lit (.int .u32 2614888103), .lit (.int .u32 3248222580), .lit (.int .u32 3835390401), .lit (.int .u32 4022224774), .lit (.int .u32 264347078), .lit (.int .u32 604807628), .lit (.int .u32 770255983), .lit (.int .u32 1249150122), .lit (.int .u32 1555081692), .lit (.int .u32 1996064986), .lit (.int .u32 2554220882), .lit (.int .u32 2821834349), .lit (.int .u32 2952996808), .lit (.int .u32 3210313671), .lit (.int .u32 3336571891), .lit (.int .u32 3584528711), .lit (.int .u32 113926993), .lit (.int .u32 338241895), .lit (.int .u32 666307205), .lit (.int .u32 773529912), .lit (.int .u32 1294757372), .lit (.int .u32 1396182291), .lit (.int .u32 1695183700), .lit (.int .u32 1986661051), .lit (.int .u32 2177026350), .lit (.int .u32 2456956037), .lit (.int .u32 2730485921), .lit (.int .u32 2820302411), .lit (.int .u32 3259730800), .lit (.int .u32 3345764771), .lit (.int .u32 3516065817), .lit (.int .u32 3600352804), .lit (.int .u32 4094571909), .lit (.int .u32 275423344), .lit (.int .u32 430227734), .lit (.int .u32 506948616), .lit (.int .u32 659060556), .lit (.int .u32 883997877), .lit (.int .u32 958139571), .lit (.int .u32 1322822218), .lit (.int .u32 1537002063), .lit (.int .u32 1747873779), .lit (.int .u32 1955562222), .lit (.int .u32 2024104815), .lit (.int .u32 2227730452), .lit (.int .u32 2361852424), .lit (.int .u32 2428436474), .lit (.int .u32 2756734187), .lit (.int .u32 3204031479), .lit (.int .u32 3329325298)]

/-- 'testamurlaw05.ChainsDigitsSpec': WHATEVER THE INPUT: true; the input reads as it did. -/
def chainsDigitsSpecSpec : ChangeSpec := { name := "chainsDigitsSpec", fn := fun _ => fun
  | [d1, d2, d3] => { results := [.lit (.bool true)], args := [d1, d2, d3] }
  | _ => none }
def chainsDigitsSpecRow : OpenClaim := { program := "ytapmhjkfnedbmaadoor", sum := "d02480397576533636d32ad1a67905a0b513934cbc5c40b0fb1b2d25085f280d", func := "testamur/testamurlaw05.ChainsDigitsSpec", spec := "chainsDigitsSpec", unfollowed := true, recurses := true, named := ["testamur/digest.constants"], apart := false, laid := [("testamur/digest.constants", laid_testamur_digest_constants)] }
def ChainsDigitsSpecSaid : Prop := chainsDigitsSpecRow.holds Tryd.pinned (OpenSpec.ofChange chainsDigitsSpecSpec)

/-- ITS FALSE NEIGHBOUR: 'it returns false'. Refute it at one input. -/
def chainsDigitsSpecWrong : ChangeSpec := { name := "chainsDigitsSpec", fn := fun _ => fun
  | [d1, d2, d3] => { results := [.lit (.bool false)], args := [d1, d2, d3] }
  | _ => none }
def ChainsDigitsSpecWrongFalsely : Prop := chainsDigitsSpecRow.holds Tryd.pinned (OpenSpec.ofChange chainsDigitsSpecWrong)

/-- 'testamurlaw05.ChainsSpec': WHATEVER THE INPUT: true; the input reads as it did. -/
def chainsSpecSpec : ChangeSpec := { name := "chainsSpec", fn := fun _ => fun
  | [d1, d2, d3, d4] => { results := [.lit (.bool true)], args := [d1, d2, d3, d4] }
  | _ => none }
def chainsSpecRow : OpenClaim := { program := "ytapmhjkfnedbmaadoor", sum := "d02480397576533636d32ad1a67905a0b513934cbc5c40b0fb1b2d25085f280d", func := "testamur/testamurlaw05.ChainsSpec", spec := "chainsSpec", unfollowed := true, recurses := true, named := ["testamur/digest.constants"], apart := false, laid := [("testamur/digest.constants", laid_testamur_digest_constants)] }
def ChainsSpecSaid : Prop := chainsSpecRow.holds Tryd.pinned (OpenSpec.ofChange chainsSpecSpec)

/-- ITS FALSE NEIGHBOUR: 'it returns false'. Refute it at one input. -/
def chainsSpecWrong : ChangeSpec := { name := "chainsSpec", fn := fun _ => fun
  | [d1, d2, d3, d4] => { results := [.lit (.bool false)], args := [d1, d2, d3, d4] }
  | _ => none }
def ChainsSpecWrongFalsely : Prop := chainsSpecRow.holds Tryd.pinned (OpenSpec.ofChange chainsSpecWrong)

/-- 'testamurlaw05.ChainsSigned': WHATEVER THE INPUT: true; the input reads as it did. -/
def chainsSignedSpec : ChangeSpec := { name := "chainsSigned", fn := fun _ => fun
  | [d1, d2, d3] => { results := [.lit (.bool true)], args := [d1, d2, d3] }
  | _ => none }
def chainsSignedRow : OpenClaim := { program := "ytapmhjkfnedbmaadoor", sum := "d02480397576533636d32ad1a67905a0b513934cbc5c40b0fb1b2d25085f280d", func := "testamur/testamurlaw05.ChainsSigned", spec := "chainsSigned", unfollowed := true, recurses := true, named := ["testamur/digest.constants"], apart := false, laid := [("testamur/digest.constants", laid_testamur_digest_constants)] }
def ChainsSignedSaid : Prop := chainsSignedRow.holds Tryd.pinned (OpenSpec.ofChange chainsSignedSpec)

/-- ITS FALSE NEIGHBOUR: 'it returns false'. Refute it at one input. -/
def chainsSignedWrong : ChangeSpec := { name := "chainsSigned", fn := fun _ => fun
  | [d1, d2, d3] => { results := [.lit (.bool false)], args := [d1, d2, d3] }
  | _ => none }
def ChainsSignedWrongFalsely : Prop := chainsSignedRow.holds Tryd.pinned (OpenSpec.ofChange chainsSignedWrong)

/-- 'testamurlaw05.ChainsApart': WHATEVER THE INPUT: true; the input reads as it did. -/
def chainsApartSpec : ChangeSpec := { name := "chainsApart", fn := fun _ => fun
  | [d1, d2, d3] => { results := [.lit (.bool true)], args := [d1, d2, d3] }
  | _ => none }
def chainsApartRow : OpenClaim := { program := "ytapmhjkfnedbmaadoor", sum := "d02480397576533636d32ad1a67905a0b513934cbc5c40b0fb1b2d25085f280d", func := "testamur/testamurlaw05.ChainsApart", spec := "chainsApart", unfollowed := true, recurses := true, named := ["testamur/digest.constants"], apart := false, laid := [("testamur/digest.constants", laid_testamur_digest_constants)] }
def ChainsApartSaid : Prop := chainsApartRow.holds Tryd.pinned (OpenSpec.ofChange chainsApartSpec)

/-- ITS FALSE NEIGHBOUR: 'it returns false'. Refute it at one input. -/
def chainsApartWrong : ChangeSpec := { name := "chainsApart", fn := fun _ => fun
  | [d1, d2, d3] => { results := [.lit (.bool false)], args := [d1, d2, d3] }
  | _ => none }
def ChainsApartWrongFalsely : Prop := chainsApartRow.holds Tryd.pinned (OpenSpec.ofChange chainsApartWrong)

/-- 'testamurlaw05.ChainsSteps': WHATEVER THE INPUT: true; the input reads as it did. -/
def chainsStepsSpec : ChangeSpec := { name := "chainsSteps", fn := fun _ => fun
  | [d1, d2, d3] => { results := [.lit (.bool true)], args := [d1, d2, d3] }
  | _ => none }
def chainsStepsRow : OpenClaim := { program := "ytapmhjkfnedbmaadoor", sum := "d02480397576533636d32ad1a67905a0b513934cbc5c40b0fb1b2d25085f280d", func := "testamur/testamurlaw05.ChainsSteps", spec := "chainsSteps", unfollowed := true, recurses := true, named := ["testamur/digest.constants"], apart := false, laid := [("testamur/digest.constants", laid_testamur_digest_constants)] }
def ChainsStepsSaid : Prop := chainsStepsRow.holds Tryd.pinned (OpenSpec.ofChange chainsStepsSpec)

/-- ITS FALSE NEIGHBOUR: 'it returns false'. Refute it at one input. -/
def chainsStepsWrong : ChangeSpec := { name := "chainsSteps", fn := fun _ => fun
  | [d1, d2, d3] => { results := [.lit (.bool false)], args := [d1, d2, d3] }
  | _ => none }
def ChainsStepsWrongFalsely : Prop := chainsStepsRow.holds Tryd.pinned (OpenSpec.ofChange chainsStepsWrong)

/-- 'testamurlaw05.ChainsOnly': WHATEVER THE INPUT: true; the input reads as it did. -/
def chainsOnlySpec : ChangeSpec := { name := "chainsOnly", fn := fun _ => fun
  | [d1, d2, d3, d4] => { results := [.lit (.bool true)], args := [d1, d2, d3, d4] }
  | _ => none }
def chainsOnlyRow : OpenClaim := { program := "ytapmhjkfnedbmaadoor", sum := "d02480397576533636d32ad1a67905a0b513934cbc5c40b0fb1b2d25085f280d", func := "testamur/testamurlaw05.ChainsOnly", spec := "chainsOnly", unfollowed := true, recurses := true, named := ["testamur/digest.constants"], apart := false, laid := [("testamur/digest.constants", laid_testamur_digest_constants)] }
def ChainsOnlySaid : Prop := chainsOnlyRow.holds Tryd.pinned (OpenSpec.ofChange chainsOnlySpec)

/-- ITS FALSE NEIGHBOUR: 'it returns false'. Refute it at one input. -/
def chainsOnlyWrong : ChangeSpec := { name := "chainsOnly", fn := fun _ => fun
  | [d1, d2, d3, d4] => { results := [.lit (.bool false)], args := [d1, d2, d3, d4] }
  | _ => none }
def ChainsOnlyWrongFalsely : Prop := chainsOnlyRow.holds Tryd.pinned (OpenSpec.ofChange chainsOnlyWrong)

/-- 'testamurlaw05.ChainsForge': WHATEVER THE INPUT: true; the input reads as it did. -/
def chainsForgeSpec : ChangeSpec := { name := "chainsForge", fn := fun _ => fun
  | [d1, d2, d3, d4] => { results := [.lit (.bool true)], args := [d1, d2, d3, d4] }
  | _ => none }
def chainsForgeRow : OpenClaim := { program := "ytapmhjkfnedbmaadoor", sum := "d02480397576533636d32ad1a67905a0b513934cbc5c40b0fb1b2d25085f280d", func := "testamur/testamurlaw05.ChainsForge", spec := "chainsForge", unfollowed := true, recurses := true, named := ["testamur/digest.constants"], apart := false, laid := [("testamur/digest.constants", laid_testamur_digest_constants)] }
def ChainsForgeSaid : Prop := chainsForgeRow.holds Tryd.pinned (OpenSpec.ofChange chainsForgeSpec)

/-- ITS FALSE NEIGHBOUR: 'it returns false'. Refute it at one input. -/
def chainsForgeWrong : ChangeSpec := { name := "chainsForge", fn := fun _ => fun
  | [d1, d2, d3, d4] => { results := [.lit (.bool false)], args := [d1, d2, d3, d4] }
  | _ => none }
def ChainsForgeWrongFalsely : Prop := chainsForgeRow.holds Tryd.pinned (OpenSpec.ofChange chainsForgeWrong)

/- THE SECOND FORM. 'bulk': how many values and letters a reading holds, each counted each time it is reached (what is shared counts as often as it is met; a slice's spare places count too). A statement '..UptoSaid' is the law's where the arguments, and the package variables that the reading takes, are together of bulk at most 1048576: NARROWER than '..Said'. Prove '..Said' where nothing that the law and all that it calls make is longer than what came in: it says more and counts as full. Else prove '..UptoSaid'. A law counts once. -/
mutual
def uptoBulk {H : Type} : DataW H → Nat
  | .lit (.string bytes) => bytes.length + 1
  | .lit _ => 1
  | .nil => 1
  | .ptr d => uptoBulk d + 1
  | .slice elems spare => uptoBulkAll elems + uptoBulkAll spare + 1
  | .agg parts => uptoBulkAll parts + 1
  | .iface _ d => uptoBulk d + 1
  | .map entries => uptoBulkEntries entries + 1
  | .held _ => 1
def uptoBulkAll {H : Type} : List (DataW H) → Nat
  | [] => 0
  | d :: r => uptoBulk d + uptoBulkAll r
def uptoBulkEntries {H : Type} : List (Lit × DataW H) → Nat
  | [] => 0
  | x :: r => uptoBulkEntry x + uptoBulkEntries r
def uptoBulkEntry {H : Type} : Lit × DataW H → Nat
  | (.string bytes, d) => bytes.length + uptoBulk d + 1
  | (_, d) => uptoBulk d + 1
 end
def uptoSmall : (H : Type) → List (DataW H) → Bool := fun _ ds => decide (uptoBulkAll ds ≤ 1048576)
def OpenSpec.upto (s : _root_.Go.ChangeSpec) : _root_.Go.OpenSpec := { _root_.Go.OpenSpec.ofChange s with cond := some uptoSmall }

/-- 'testamurlaw05.ChainsDigitsSpec', WHERE WHAT IT READS IS OF BULK AT MOST 1048576: true; the input reads as it did. -/
def chainsDigitsSpecUptoRow : OpenClaim := { program := "ytapmhjkfnedbmaadoor", sum := "d02480397576533636d32ad1a67905a0b513934cbc5c40b0fb1b2d25085f280d", func := "testamur/testamurlaw05.ChainsDigitsSpec", spec := "chainsDigitsSpec", unfollowed := true, recurses := true, named := ["testamur/digest.constants"], apart := false, laid := [("testamur/digest.constants", laid_testamur_digest_constants)], narrowed := true }
def ChainsDigitsSpecUptoSaid : Prop := chainsDigitsSpecUptoRow.holds Tryd.pinned (OpenSpec.upto chainsDigitsSpecSpec)

/-- 'testamurlaw05.ChainsSpec', WHERE WHAT IT READS IS OF BULK AT MOST 1048576: true; the input reads as it did. -/
def chainsSpecUptoRow : OpenClaim := { program := "ytapmhjkfnedbmaadoor", sum := "d02480397576533636d32ad1a67905a0b513934cbc5c40b0fb1b2d25085f280d", func := "testamur/testamurlaw05.ChainsSpec", spec := "chainsSpec", unfollowed := true, recurses := true, named := ["testamur/digest.constants"], apart := false, laid := [("testamur/digest.constants", laid_testamur_digest_constants)], narrowed := true }
def ChainsSpecUptoSaid : Prop := chainsSpecUptoRow.holds Tryd.pinned (OpenSpec.upto chainsSpecSpec)

/-- 'testamurlaw05.ChainsSigned', WHERE WHAT IT READS IS OF BULK AT MOST 1048576: true; the input reads as it did. -/
def chainsSignedUptoRow : OpenClaim := { program := "ytapmhjkfnedbmaadoor", sum := "d02480397576533636d32ad1a67905a0b513934cbc5c40b0fb1b2d25085f280d", func := "testamur/testamurlaw05.ChainsSigned", spec := "chainsSigned", unfollowed := true, recurses := true, named := ["testamur/digest.constants"], apart := false, laid := [("testamur/digest.constants", laid_testamur_digest_constants)], narrowed := true }
def ChainsSignedUptoSaid : Prop := chainsSignedUptoRow.holds Tryd.pinned (OpenSpec.upto chainsSignedSpec)

/-- 'testamurlaw05.ChainsApart', WHERE WHAT IT READS IS OF BULK AT MOST 1048576: true; the input reads as it did. -/
def chainsApartUptoRow : OpenClaim := { program := "ytapmhjkfnedbmaadoor", sum := "d02480397576533636d32ad1a67905a0b513934cbc5c40b0fb1b2d25085f280d", func := "testamur/testamurlaw05.ChainsApart", spec := "chainsApart", unfollowed := true, recurses := true, named := ["testamur/digest.constants"], apart := false, laid := [("testamur/digest.constants", laid_testamur_digest_constants)], narrowed := true }
def ChainsApartUptoSaid : Prop := chainsApartUptoRow.holds Tryd.pinned (OpenSpec.upto chainsApartSpec)

/-- 'testamurlaw05.ChainsSteps', WHERE WHAT IT READS IS OF BULK AT MOST 1048576: true; the input reads as it did. -/
def chainsStepsUptoRow : OpenClaim := { program := "ytapmhjkfnedbmaadoor", sum := "d02480397576533636d32ad1a67905a0b513934cbc5c40b0fb1b2d25085f280d", func := "testamur/testamurlaw05.ChainsSteps", spec := "chainsSteps", unfollowed := true, recurses := true, named := ["testamur/digest.constants"], apart := false, laid := [("testamur/digest.constants", laid_testamur_digest_constants)], narrowed := true }
def ChainsStepsUptoSaid : Prop := chainsStepsUptoRow.holds Tryd.pinned (OpenSpec.upto chainsStepsSpec)

/-- 'testamurlaw05.ChainsOnly', WHERE WHAT IT READS IS OF BULK AT MOST 1048576: true; the input reads as it did. -/
def chainsOnlyUptoRow : OpenClaim := { program := "ytapmhjkfnedbmaadoor", sum := "d02480397576533636d32ad1a67905a0b513934cbc5c40b0fb1b2d25085f280d", func := "testamur/testamurlaw05.ChainsOnly", spec := "chainsOnly", unfollowed := true, recurses := true, named := ["testamur/digest.constants"], apart := false, laid := [("testamur/digest.constants", laid_testamur_digest_constants)], narrowed := true }
def ChainsOnlyUptoSaid : Prop := chainsOnlyUptoRow.holds Tryd.pinned (OpenSpec.upto chainsOnlySpec)

/-- 'testamurlaw05.ChainsForge', WHERE WHAT IT READS IS OF BULK AT MOST 1048576: true; the input reads as it did. -/
def chainsForgeUptoRow : OpenClaim := { program := "ytapmhjkfnedbmaadoor", sum := "d02480397576533636d32ad1a67905a0b513934cbc5c40b0fb1b2d25085f280d", func := "testamur/testamurlaw05.ChainsForge", spec := "chainsForge", unfollowed := true, recurses := true, named := ["testamur/digest.constants"], apart := false, laid := [("testamur/digest.constants", laid_testamur_digest_constants)], narrowed := true }
def ChainsForgeUptoSaid : Prop := chainsForgeUptoRow.holds Tryd.pinned (OpenSpec.upto chainsForgeSpec)

end Rows
end Go.Proofs.YtapmhjkfnedbmaaDoor
