/-
  NARROWER THAN 'FOR EVERY INPUT', by the rows' own cells (each row's printed sentence says how): KeysSpec: laid · KeysVerifySpec: laid · KeysForgedSpec: laid · KeysForged: laid · KeysAccept: laid · KeysPath: laid · KeysTree: laid.
  DERIVED. THE GIVEN ROWS OF THIS SEAT. 7 by the template 'for every input the law returns true; each argument reads behind the call as it read before'; 0 by the template 'total and deterministic' (their statements: YtahjdbnhgdaejaaDoorTotals.lean).
  GIVEN WITH THE SEED: the statements are not yours to turn. If you find one false, say at which input.
  Laid BY PROGRAM, IN A SANDBOX (cutbox-rows.mjs): the forced cells as the released guide's own fill.sh prints them over the translation b12b68360ef9d67b… (all of the seat's roots in one cut). By AI agents, Wed Nov 11 2026. No macro, syntax, notation, axiom, sorry.
-/
import Derived.Test.YtahjdbnhgdaejaaDoorChecked
import GoSem.Claim
import GoSem.ClaimJoined
import GoSem.ClaimMapViews
import Derived.JoinedTies
import Derived.KernelRfl
namespace Go.Proofs.YtahjdbnhgdaejaaDoor
/- THE CELL 'sum', in the pinned program and in every row, IS THE sha256 OF THE DUMP (.gsa) THAT YtahjdbnhgdaejaaDoorProg.lean LOADS. Nothing in Lean hashes anything: it is a label: what it is worth is what the hold of that sum in a sandbox is worth. -/
noncomputable def Tryd.pinned : Pinned := { name := "ytahjdbnhgdaejaadoor", sum := "b12b68360ef9d67bec41715e14a8dc4811f17ad60d7649840cf97deaaf3129da", checked := Tryd.checked }
namespace Rows
def none {H : Type} : Left H := { results := [], args := [] }

/- WHAT THE LISTED PACKAGE-LEVEL VARIABLES READ AS WHEN THE CALL BEGINS. Each datum BY PROGRAM (the guide's laid-datum.mjs) off the statement by which the dump's own 'gosem.cut.vars' lays the variable. In a bare row this is a premise. The card (YtahjdbnhgdaejaaDoorCards.lean) ties it to the program's text. -/
def laid_testamur_digest_constants {H : Type} : DataW H := .agg [.lit (.int .u32 1116352408), .lit (.int .u32 1899447441), .lit (.int .u32 3049323471), .lit (.int .u32 3921009573), .lit (.int .u32 961987163), .lit (.int .u32 1508970993), .lit (.int .u32 2453635748), .lit (.int .u32 2870763221), .lit (.int .u32 3624381080), .lit (.int .u32 310598401), .lit (.int .u32 607225278), .lit (.int .u32 1426881987), .lit (.int .u32 1925078388), .lit (.int .u32 2162078206), .lit (.int .u32 2614888103), .lit (.int .u32 3248222580), .lit (.int .u32 3835390401), .lit (.int .u32 4022224774), .lit (.int .u32 264347078), .lit (.int .u32 604807628), .lit (.int .u32 770255983), .lit (.int .u32 1249150122), .lit (.int .u32 1555081692), .lit (.int .u32 1996064986), .lit (.int .u32 2554220882), .lit (.int .u32 2821834349), .lit (.int .u32 2952996808), .lit (.int .u32 3210313671), .lit (.int .u32 3336571891), .lit (.int .u32 3584528711), .lit (.int .u32 113926993), .lit (.int .u32 338241895), .lit (.int .u32 666307205), .lit (.int .u32 773529912), .lit (.int .u32 1294757372), .lit (.int .u32 1396182291), .lit (.int .u32 1695183700), .lit (.int .u32 1986661051), .lit (.int .u32 2177026350), .lit (.int .u32 2456956037), .lit (.int .u32 2730485921), .lit (.int .u32 2820302411), .lit (.int .u32 3259730800), .lit (.int .u32 3345764771), .lit (.int .u32 3516065817), .lit (.int .u32 3600352804), .lit (.int .u32 4094571909), .lit (.int .u32 275423344), .lit (.int .u32 430227734), .lit (.int .u32 506948616), .lit (.int .u32 659060556), .lit (.int .u32 883997877), .lit (.int .u32 958139571), .lit (.int .u32 1322822218), .lit (.int .u32 1537002063), .lit (.int .u32 1747873779), .lit (.int .u32 1955562222), .lit (.int .u32 2024104815), .lit (.int .u32 2227730452), .lit (.int .u32 2361852424), .lit (.int .u32 2428436474), .lit (.int .u32 2756734187), .lit (.int .u32 3204031479), .lit (.int .u32 3329325298)]

/-- 'testamurlaw06.KeysSpec': WHATEVER THE INPUT: true; the input reads as it did. -/
def keysSpecSpec : ChangeSpec := { name := "keysSpec", fn := fun _ => fun
  | [d1, d2, d3, d4] => { results := [.lit (.bool true)], args := [d1, d2, d3, d4] }
  | _ => none }
def keysSpecRow : OpenClaim := { program := "ytahjdbnhgdaejaadoor", sum := "b12b68360ef9d67bec41715e14a8dc4811f17ad60d7649840cf97deaaf3129da", func := "testamur/testamurlaw06.KeysSpec", spec := "keysSpec", unfollowed := true, recurses := true, named := ["testamur/digest.constants"], apart := false, laid := [("testamur/digest.constants", laid_testamur_digest_constants)] }
def KeysSpecSaid : Prop := keysSpecRow.holds Tryd.pinned (OpenSpec.ofChange keysSpecSpec)

/-- ITS FALSE NEIGHBOUR: 'it returns false'. Refute it at one input. -/
def keysSpecWrong : ChangeSpec := { name := "keysSpec", fn := fun _ => fun
  | [d1, d2, d3, d4] => { results := [.lit (.bool false)], args := [d1, d2, d3, d4] }
  | _ => none }
def KeysSpecWrongFalsely : Prop := keysSpecRow.holds Tryd.pinned (OpenSpec.ofChange keysSpecWrong)

/-- 'testamurlaw06.KeysVerifySpec': WHATEVER THE INPUT: true; the input reads as it did. -/
def keysVerifySpecSpec : ChangeSpec := { name := "keysVerifySpec", fn := fun _ => fun
  | [d1, d2, d3, d4] => { results := [.lit (.bool true)], args := [d1, d2, d3, d4] }
  | _ => none }
def keysVerifySpecRow : OpenClaim := { program := "ytahjdbnhgdaejaadoor", sum := "b12b68360ef9d67bec41715e14a8dc4811f17ad60d7649840cf97deaaf3129da", func := "testamur/testamurlaw06.KeysVerifySpec", spec := "keysVerifySpec", unfollowed := true, recurses := true, named := ["testamur/digest.constants"], apart := false, laid := [("testamur/digest.constants", laid_testamur_digest_constants)] }
def KeysVerifySpecSaid : Prop := keysVerifySpecRow.holds Tryd.pinned (OpenSpec.ofChange keysVerifySpecSpec)

/-- ITS FALSE NEIGHBOUR: 'it returns false'. Refute it at one input. -/
def keysVerifySpecWrong : ChangeSpec := { name := "keysVerifySpec", fn := fun _ => fun
  | [d1, d2, d3, d4] => { results := [.lit (.bool false)], args := [d1, d2, d3, d4] }
  | _ => none }
def KeysVerifySpecWrongFalsely : Prop := keysVerifySpecRow.holds Tryd.pinned (OpenSpec.ofChange keysVerifySpecWrong)

/-- 'testamurlaw06.KeysForgedSpec': WHATEVER THE INPUT: true; the input reads as it did. -/
def keysForgedSpecSpec : ChangeSpec := { name := "keysForgedSpec", fn := fun _ => fun
  | [d1, d2, d3, d4, d5] => { results := [.lit (.bool true)], args := [d1, d2, d3, d4, d5] }
  | _ => none }
def keysForgedSpecRow : OpenClaim := { program := "ytahjdbnhgdaejaadoor", sum := "b12b68360ef9d67bec41715e14a8dc4811f17ad60d7649840cf97deaaf3129da", func := "testamur/testamurlaw06.KeysForgedSpec", spec := "keysForgedSpec", unfollowed := true, recurses := true, named := ["testamur/digest.constants"], apart := false, laid := [("testamur/digest.constants", laid_testamur_digest_constants)] }
def KeysForgedSpecSaid : Prop := keysForgedSpecRow.holds Tryd.pinned (OpenSpec.ofChange keysForgedSpecSpec)

/-- ITS FALSE NEIGHBOUR: 'it returns false'. Refute it at one input. -/
def keysForgedSpecWrong : ChangeSpec := { name := "keysForgedSpec", fn := fun _ => fun
  | [d1, d2, d3, d4, d5] => { results := [.lit (.bool false)], args := [d1, d2, d3, d4, d5] }
  | _ => none }
def KeysForgedSpecWrongFalsely : Prop := keysForgedSpecRow.holds Tryd.pinned (OpenSpec.ofChange keysForgedSpecWrong)

/-- 'testamurlaw06.KeysForged': WHATEVER THE INPUT: true; the input reads as it did. -/
def keysForgedSpec : ChangeSpec := { name := "keysForged", fn := fun _ => fun
  | [d1, d2, d3, d4, d5] => { results := [.lit (.bool true)], args := [d1, d2, d3, d4, d5] }
  | _ => none }
def keysForgedRow : OpenClaim := { program := "ytahjdbnhgdaejaadoor", sum := "b12b68360ef9d67bec41715e14a8dc4811f17ad60d7649840cf97deaaf3129da", func := "testamur/testamurlaw06.KeysForged", spec := "keysForged", unfollowed := true, recurses := true, named := ["testamur/digest.constants"], apart := false, laid := [("testamur/digest.constants", laid_testamur_digest_constants)] }
def KeysForgedSaid : Prop := keysForgedRow.holds Tryd.pinned (OpenSpec.ofChange keysForgedSpec)

/-- ITS FALSE NEIGHBOUR: 'it returns false'. Refute it at one input. -/
def keysForgedWrong : ChangeSpec := { name := "keysForged", fn := fun _ => fun
  | [d1, d2, d3, d4, d5] => { results := [.lit (.bool false)], args := [d1, d2, d3, d4, d5] }
  | _ => none }
def KeysForgedWrongFalsely : Prop := keysForgedRow.holds Tryd.pinned (OpenSpec.ofChange keysForgedWrong)

/-- 'testamurlaw06.KeysAccept': WHATEVER THE INPUT: true; the input reads as it did. -/
def keysAcceptSpec : ChangeSpec := { name := "keysAccept", fn := fun _ => fun
  | [d1, d2, d3, d4] => { results := [.lit (.bool true)], args := [d1, d2, d3, d4] }
  | _ => none }
def keysAcceptRow : OpenClaim := { program := "ytahjdbnhgdaejaadoor", sum := "b12b68360ef9d67bec41715e14a8dc4811f17ad60d7649840cf97deaaf3129da", func := "testamur/testamurlaw06.KeysAccept", spec := "keysAccept", unfollowed := true, recurses := true, named := ["testamur/digest.constants"], apart := false, laid := [("testamur/digest.constants", laid_testamur_digest_constants)] }
def KeysAcceptSaid : Prop := keysAcceptRow.holds Tryd.pinned (OpenSpec.ofChange keysAcceptSpec)

/-- ITS FALSE NEIGHBOUR: 'it returns false'. Refute it at one input. -/
def keysAcceptWrong : ChangeSpec := { name := "keysAccept", fn := fun _ => fun
  | [d1, d2, d3, d4] => { results := [.lit (.bool false)], args := [d1, d2, d3, d4] }
  | _ => none }
def KeysAcceptWrongFalsely : Prop := keysAcceptRow.holds Tryd.pinned (OpenSpec.ofChange keysAcceptWrong)

/-- 'testamurlaw06.KeysPath': WHATEVER THE INPUT: true; the input reads as it did. -/
def keysPathSpec : ChangeSpec := { name := "keysPath", fn := fun _ => fun
  | [d1, d2, d3, d4, d5] => { results := [.lit (.bool true)], args := [d1, d2, d3, d4, d5] }
  | _ => none }
def keysPathRow : OpenClaim := { program := "ytahjdbnhgdaejaadoor", sum := "b12b68360ef9d67bec41715e14a8dc4811f17ad60d7649840cf97deaaf3129da", func := "testamur/testamurlaw06.KeysPath", spec := "keysPath", unfollowed := true, recurses := true, named := ["testamur/digest.constants"], apart := false, laid := [("testamur/digest.constants", laid_testamur_digest_constants)] }
def KeysPathSaid : Prop := keysPathRow.holds Tryd.pinned (OpenSpec.ofChange keysPathSpec)

/-- ITS FALSE NEIGHBOUR: 'it returns false'. Refute it at one input. -/
def keysPathWrong : ChangeSpec := { name := "keysPath", fn := fun _ => fun
  | [d1, d2, d3, d4, d5] => { results := [.lit (.bool false)], args := [d1, d2, d3, d4, d5] }
  | _ => none }
def KeysPathWrongFalsely : Prop := keysPathRow.holds Tryd.pinned (OpenSpec.ofChange keysPathWrong)

/-- 'testamurlaw06.KeysTree': WHATEVER THE INPUT: true; the input reads as it did. -/
def keysTreeSpec : ChangeSpec := { name := "keysTree", fn := fun _ => fun
  | [d1, d2, d3, d4] => { results := [.lit (.bool true)], args := [d1, d2, d3, d4] }
  | _ => none }
def keysTreeRow : OpenClaim := { program := "ytahjdbnhgdaejaadoor", sum := "b12b68360ef9d67bec41715e14a8dc4811f17ad60d7649840cf97deaaf3129da", func := "testamur/testamurlaw06.KeysTree", spec := "keysTree", unfollowed := true, recurses := true, named := ["testamur/digest.constants"], apart := false, laid := [("testamur/digest.constants", laid_testamur_digest_constants)] }
def KeysTreeSaid : Prop := keysTreeRow.holds Tryd.pinned (OpenSpec.ofChange keysTreeSpec)

/-- ITS FALSE NEIGHBOUR: 'it returns false'. Refute it at one input. -/
def keysTreeWrong : ChangeSpec := { name := "keysTree", fn := fun _ => fun
  | [d1, d2, d3, d4] => { results := [.lit (.bool false)], args := [d1, d2, d3, d4] }
  | _ => none }
def KeysTreeWrongFalsely : Prop := keysTreeRow.holds Tryd.pinned (OpenSpec.ofChange keysTreeWrong)

/- THE SECOND FORM. 'bulk': how many values and letters a reading holds, each counted each time it is reached (what is shared counts as often as it is met; a slice's spare places count too). A statement '..UptoSaid' is the law's where the arguments, and the package variables that the reading takes, are together of bulk at most 1048576: NARROWER than '..Said'. Prove '..Said' where nothing that the law and all that it calls make is longer than what came in: it says more and counts as full. Else prove '..UptoSaid'. A law counts once. -/
mutual
def uptoBulk {H : Type} : DataW H → Nat
  | .lit (.string bytes) => bytes.length + 1
  | .lit _ => 1
  | .nil => 1
  | .ptr d => uptoBulk d + 1
  | .slice elems spare => uptoBulkAll elems + uptoBulkAll spare + 1
  | .agg parts => uptoBulkAll parts + 1
  | .iface _ d => uptoBulk d + 1
  | .map entries => uptoBulkEntries entries + 1
  | .held _ => 1
def uptoBulkAll {H : Type} : List (DataW H) → Nat
  | [] => 0
  | d :: r => uptoBulk d + uptoBulkAll r
def uptoBulkEntries {H : Type} : List (Lit × DataW H) → Nat
  | [] => 0
  | x :: r => uptoBulkEntry x + uptoBulkEntries r
def uptoBulkEntry {H : Type} : Lit × DataW H → Nat
  | (.string bytes, d) => bytes.length + uptoBulk d + 1
  | (_, d) => uptoBulk d + 1
 end
def uptoSmall : (H : Type) → List (DataW H) → Bool := fun _ ds => decide (uptoBulkAll ds ≤ 1048576)
def OpenSpec.upto (s : _root_.Go.ChangeSpec) : _root_.Go.OpenSpec := { _root_.Go.OpenSpec.ofChange s with cond := some uptoSmall }

/-- 'testamurlaw06.KeysSpec', WHERE WHAT IT READS IS OF BULK AT MOST 1048576: true; the input reads as it did. -/
def keysSpecUptoRow : OpenClaim := { program := "ytahjdbnhgdaejaadoor", sum := "b12b68360ef9d67bec41715e14a8dc4811f17ad60d7649840cf97deaaf3129da", func := "testamur/testamurlaw06.KeysSpec", spec := "keysSpec", unfollowed := true, recurses := true, named := ["testamur/digest.constants"], apart := false, laid := [("testamur/digest.constants", laid_testamur_digest_constants)], narrowed := true }
def KeysSpecUptoSaid : Prop := keysSpecUptoRow.holds Tryd.pinned (OpenSpec.upto keysSpecSpec)

/-- 'testamurlaw06.KeysVerifySpec', WHERE WHAT IT READS IS OF BULK AT MOST 1048576: true; the input reads as it did. -/
def keysVerifySpecUptoRow : OpenClaim := { program := "ytahjdbnhgdaejaadoor", sum := "b12b68360ef9d67bec41715e14a8dc4811f17ad60d7649840cf97deaaf3129da", func := "testamur/testamurlaw06.KeysVerifySpec", spec := "keysVerifySpec", unfollowed := true, recurses := true, named := ["testamur/digest.constants"], apart := false, laid := [("testamur/digest.constants", laid_testamur_digest_constants)], narrowed := true }
def KeysVerifySpecUptoSaid : Prop := keysVerifySpecUptoRow.holds Tryd.pinned (OpenSpec.upto keysVerifySpecSpec)

/-- 'testamurlaw06.KeysForgedSpec', WHERE WHAT IT READS IS OF BULK AT MOST 1048576: true; the input reads as it did. -/
def keysForgedSpecUptoRow : OpenClaim := { program := "ytahjdbnhgdaejaadoor", sum := "b12b68360ef9d67bec41715e14a8dc4811f17ad60d7649840cf97deaaf3129da", func := "testamur/testamurlaw06.KeysForgedSpec", spec := "keysForgedSpec", unfollowed := true, recurses := true, named := ["testamur/digest.constants"], apart := false, laid := [("testamur/digest.constants", laid_testamur_digest_constants)], narrowed := true }
def KeysForgedSpecUptoSaid : Prop := keysForgedSpecUptoRow.holds Tryd.pinned (OpenSpec.upto keysForgedSpecSpec)

/-- 'testamurlaw06.KeysForged', WHERE WHAT IT READS IS OF BULK AT MOST 1048576: true; the input reads as it did. -/
def keysForgedUptoRow : OpenClaim := { program := "ytahjdbnhgdaejaadoor", sum := "b12b68360ef9d67bec41715e14a8dc4811f17ad60d7649840cf97deaaf3129da", func := "testamur/testamurlaw06.KeysForged", spec := "keysForged", unfollowed := true, recurses := true, named := ["testamur/digest.constants"], apart := false, laid := [("testamur/digest.constants", laid_testamur_digest_constants)], narrowed := true }
def KeysForgedUptoSaid : Prop := keysForgedUptoRow.holds Tryd.pinned (OpenSpec.upto keysForgedSpec)

/-- 'testamurlaw06.KeysAccept', WHERE WHAT IT READS IS OF BULK AT MOST 1048576: true; the input reads as it did. -/
def keysAcceptUptoRow : OpenClaim := { program := "ytahjdbnhgdaejaadoor", sum := "b12b68360ef9d67bec41715e14a8dc4811f17ad60d7649840cf97deaaf3129da", func := "testamur/testamurlaw06.KeysAccept", spec := "keysAccept", unfollowed := true, recurses := true, named := ["testamur/digest.constants"], apart := false, laid := [("testamur/digest.constants", laid_testamur_digest_constants)], narrowed := true }
def KeysAcceptUptoSaid : Prop := keysAcceptUptoRow.holds Tryd.pinned (OpenSpec.upto keysAcceptSpec)

/-- 'testamurlaw06.KeysPath', WHERE WHAT IT READS IS OF BULK AT MOST 1048576: true; the input reads as it did. -/
def keysPathUptoRow : OpenClaim := { program := "ytahjdbnhgdaejaadoor", sum := "b12b68360ef9d67bec41715e14a8dc4811f17ad60d7649840cf97deaaf3129da", func := "testamur/testamurlaw06.KeysPath", spec := "keysPath", unfollowed := true, recurses := true, named := ["testamur/digest.constants"], apart := false, laid := [("testamur/digest.constants", laid_testamur_digest_constants)], narrowed := true }
def KeysPathUptoSaid : Prop := keysPathUptoRow.holds Tryd.pinned (OpenSpec.upto keysPathSpec)

/-- 'testamurlaw06.KeysTree', WHERE WHAT IT READS IS OF BULK AT MOST 1048576: true; the input reads as it did. -/
def keysTreeUptoRow : OpenClaim := { program := "ytahjdbnhgdaejaadoor", sum := "b12b68360ef9d67bec41715e14a8dc4811f17ad60d7649840cf97deaaf3129da", func := "testamur/testamurlaw06.KeysTree", spec := "keysTree", unfollowed := true, recurses := true, named := ["testamur/digest.constants"], apart := false, laid := [("testamur/digest.constants", laid_testamur_digest_constants)], narrowed := true }
def KeysTreeUptoSaid : Prop := keysTreeUptoRow.holds Tryd.pinned (OpenSpec.upto keysTreeSpec)

end Rows
end Go.Proofs.YtahjdbnhgdaejaaDoor
