/-
  NARROWER THAN 'FOR EVERY INPUT', by the rows' own cells (each row's printed sentence says how): CascadesBuildSpec: laid · CascadesHasSpec: laid · CascadesCodeSpec: laid · CascadesExact: laid · CascadesLevels: laid · CascadesTurned: laid · CascadesBack: laid · CascadesDigest: laid.
  DERIVED. THE GIVEN ROWS OF THIS SEAT. 8 by the template 'for every input the law returns true; each argument reads behind the call as it read before'; 0 by the template 'total and deterministic' (their statements: YtfdkilgkefiggaaDoorTotals.lean).
  GIVEN WITH THE SEED: the statements are not yours to turn. If you find one false, say at which input.
  Laid BY PROGRAM, IN A SANDBOX (cutbox-rows.mjs): the forced cells as the released guide's own fill.sh prints them over the translation a6ae1aa70370b733… (all of the seat's roots in one cut). By AI agents, Wed Nov 11 2026. No macro, syntax, notation, axiom, sorry.
-/
import Derived.Test.YtfdkilgkefiggaaDoorChecked
import GoSem.Claim
import GoSem.ClaimJoined
import GoSem.ClaimMapViews
import Derived.JoinedTies
import Derived.KernelRfl
namespace Go.Proofs.YtfdkilgkefiggaaDoor
/- THE CELL 'sum', in the pinned program and in every row, IS THE sha256 OF THE DUMP (.gsa) THAT YtfdkilgkefiggaaDoorProg.lean LOADS. Nothing in Lean hashes anything: it is a label: what it is worth is what the hold of that sum in a sandbox is worth. -/
noncomputable def Tryd.pinned : Pinned := { name := "ytfdkilgkefiggaadoor", sum := "a6ae1aa70370b7336590dcca4e19d3dbd5105099b9aab69777b9ea6c06b93bea", checked := Tryd.checked }
namespace Rows
def none {H : Type} : Left H := { results := [], args := [] }

/- WHAT THE LISTED PACKAGE-LEVEL VARIABLES READ AS WHEN THE CALL BEGINS. Each datum BY PROGRAM (the guide's laid-datum.mjs) off the statement by which the dump's own 'gosem.cut.vars' lays the variable. In a bare row this is a premise. The card (YtfdkilgkefiggaaDoorCards.lean) ties it to the program's text. -/
def laid_testamur_digest_constants {H : Type} : DataW H := .agg [.lit (.int .u32 1116352408), .lit (.int .u32 1899447441), .lit (.int .u32 3049323471), .lit (.int .u32 3921009573), .lit (.int .u32 961987163), .lit (.int .u32 1508970993), .lit (.int .u32 2453635748), .lit (.int .u32 2870763221), .lit (.int .u32 3624381080), .lit (.int .u32 310598401), .lit (.int .u32 607225278), .lit (.int .u32 1426881987), .lit (.int .u32 1925078388), .lit (.int .u32 2162078206), .lit (.int .u32 2614888103), .lit (.int .u32 3248222580), .lit (.int .u32 3835390401), .lit (.int .u32 4022224774), .lit (.int .u32 264347078), .lit (.int .u32 604807628), .lit (.int .u32 770255983), .lit (.int .u32 1249150122), .lit (.int .u32 1555081692), .lit (.int .u32 1996064986), .lit (.int .u32 2554220882), .lit (.int .u32 2821834349), .lit (.int .u32 2952996808), .lit (.int .u32 3210313671), .lit (.int .u32 3336571891), .lit (.int .u32 3584528711), .lit (.int .u32 113926993), .lit (.int .u32 338241895), .lit (.int .u32 666307205), .lit (.int .u32 773529912), .lit (.int .u32 1294757372), .lit (.int .u32 1396182291), .lit (.int .u32 1695183700), .lit (.int .u32 1986661051), .lit (.int .u32 2177026350), .lit (.int .u32 2456956037), .lit (.int .u32 2730485921), .lit (.int .u32 2820302411), .lit (.int .u32 3259730800), .lit (.int .u32 3345764771), .lit (.int .u32 3516065817), .lit (.int .u32 3600352804), .lit (.int .u32 4094571909), .lit (.int .u32 275423344), .lit (.int .u32 430227734), .lit (.int .u32 506948616), .lit (.int .u32 659060556), .lit (.int .u32 883997877), .lit (.int .u32 958139571), .lit (.int .u32 1322822218), .lit (.int .u32 1537002063), .lit (.int .u32 1747873779), .lit (.int .u32 1955562222), .lit (.int .u32 2024104815), .lit (.int .u32 2227730452), .lit (.int .u32 2361852424), .lit (.int .u32 2428436474), .lit (.int .u32 2756734187), .lit (.int .u32 3204031479), .lit (.int .u32 3329325298)]

/-- 'testamurlaw34.CascadesBuildSpec': WHATEVER THE INPUT: true; the input reads as it did. -/
def cascadesBuildSpecSpec : ChangeSpec := { name := "cascadesBuildSpec", fn := fun _ => fun
  | [d1, d2, d3, d4] => { results := [.lit (.bool true)], args := [d1, d2, d3, d4] }
  | _ => none }
def cascadesBuildSpecRow : OpenClaim := { program := "ytfdkilgkefiggaadoor", sum := "a6ae1aa70370b7336590dcca4e19d3dbd5105099b9aab69777b9ea6c06b93bea", func := "testamur/testamurlaw34.CascadesBuildSpec", spec := "cascadesBuildSpec", unfollowed := true, recurses := true, named := ["testamur/digest.constants"], apart := false, laid := [("testamur/digest.constants", laid_testamur_digest_constants)] }
def CascadesBuildSpecSaid : Prop := cascadesBuildSpecRow.holds Tryd.pinned (OpenSpec.ofChange cascadesBuildSpecSpec)

/-- ITS FALSE NEIGHBOUR: 'it returns false'. Refute it at one input. -/
def cascadesBuildSpecWrong : ChangeSpec := { name := "cascadesBuildSpec", fn := fun _ => fun
  | [d1, d2, d3, d4] => { results := [.lit (.bool false)], args := [d1, d2, d3, d4] }
  | _ => none }
def CascadesBuildSpecWrongFalsely : Prop := cascadesBuildSpecRow.holds Tryd.pinned (OpenSpec.ofChange cascadesBuildSpecWrong)

/-- 'testamurlaw34.CascadesHasSpec': WHATEVER THE INPUT: true; the input reads as it did. -/
def cascadesHasSpecSpec : ChangeSpec := { name := "cascadesHasSpec", fn := fun _ => fun
  | [d1, d2] => { results := [.lit (.bool true)], args := [d1, d2] }
  | _ => none }
def cascadesHasSpecRow : OpenClaim := { program := "ytfdkilgkefiggaadoor", sum := "a6ae1aa70370b7336590dcca4e19d3dbd5105099b9aab69777b9ea6c06b93bea", func := "testamur/testamurlaw34.CascadesHasSpec", spec := "cascadesHasSpec", unfollowed := true, recurses := true, named := ["testamur/digest.constants"], apart := false, laid := [("testamur/digest.constants", laid_testamur_digest_constants)] }
def CascadesHasSpecSaid : Prop := cascadesHasSpecRow.holds Tryd.pinned (OpenSpec.ofChange cascadesHasSpecSpec)

/-- ITS FALSE NEIGHBOUR: 'it returns false'. Refute it at one input. -/
def cascadesHasSpecWrong : ChangeSpec := { name := "cascadesHasSpec", fn := fun _ => fun
  | [d1, d2] => { results := [.lit (.bool false)], args := [d1, d2] }
  | _ => none }
def CascadesHasSpecWrongFalsely : Prop := cascadesHasSpecRow.holds Tryd.pinned (OpenSpec.ofChange cascadesHasSpecWrong)

/-- 'testamurlaw34.CascadesCodeSpec': WHATEVER THE INPUT: true; the input reads as it did. -/
def cascadesCodeSpecSpec : ChangeSpec := { name := "cascadesCodeSpec", fn := fun _ => fun
  | [d1, d2] => { results := [.lit (.bool true)], args := [d1, d2] }
  | _ => none }
def cascadesCodeSpecRow : OpenClaim := { program := "ytfdkilgkefiggaadoor", sum := "a6ae1aa70370b7336590dcca4e19d3dbd5105099b9aab69777b9ea6c06b93bea", func := "testamur/testamurlaw34.CascadesCodeSpec", spec := "cascadesCodeSpec", unfollowed := true, recurses := true, named := ["testamur/digest.constants"], apart := false, laid := [("testamur/digest.constants", laid_testamur_digest_constants)] }
def CascadesCodeSpecSaid : Prop := cascadesCodeSpecRow.holds Tryd.pinned (OpenSpec.ofChange cascadesCodeSpecSpec)

/-- ITS FALSE NEIGHBOUR: 'it returns false'. Refute it at one input. -/
def cascadesCodeSpecWrong : ChangeSpec := { name := "cascadesCodeSpec", fn := fun _ => fun
  | [d1, d2] => { results := [.lit (.bool false)], args := [d1, d2] }
  | _ => none }
def CascadesCodeSpecWrongFalsely : Prop := cascadesCodeSpecRow.holds Tryd.pinned (OpenSpec.ofChange cascadesCodeSpecWrong)

/-- 'testamurlaw34.CascadesExact': WHATEVER THE INPUT: true; the input reads as it did. -/
def cascadesExactSpec : ChangeSpec := { name := "cascadesExact", fn := fun _ => fun
  | [d1, d2, d3] => { results := [.lit (.bool true)], args := [d1, d2, d3] }
  | _ => none }
def cascadesExactRow : OpenClaim := { program := "ytfdkilgkefiggaadoor", sum := "a6ae1aa70370b7336590dcca4e19d3dbd5105099b9aab69777b9ea6c06b93bea", func := "testamur/testamurlaw34.CascadesExact", spec := "cascadesExact", unfollowed := true, recurses := true, named := ["testamur/digest.constants"], apart := false, laid := [("testamur/digest.constants", laid_testamur_digest_constants)] }
def CascadesExactSaid : Prop := cascadesExactRow.holds Tryd.pinned (OpenSpec.ofChange cascadesExactSpec)

/-- ITS FALSE NEIGHBOUR: 'it returns false'. Refute it at one input. -/
def cascadesExactWrong : ChangeSpec := { name := "cascadesExact", fn := fun _ => fun
  | [d1, d2, d3] => { results := [.lit (.bool false)], args := [d1, d2, d3] }
  | _ => none }
def CascadesExactWrongFalsely : Prop := cascadesExactRow.holds Tryd.pinned (OpenSpec.ofChange cascadesExactWrong)

/-- 'testamurlaw34.CascadesLevels': WHATEVER THE INPUT: true; the input reads as it did. -/
def cascadesLevelsSpec : ChangeSpec := { name := "cascadesLevels", fn := fun _ => fun
  | [d1, d2, d3] => { results := [.lit (.bool true)], args := [d1, d2, d3] }
  | _ => none }
def cascadesLevelsRow : OpenClaim := { program := "ytfdkilgkefiggaadoor", sum := "a6ae1aa70370b7336590dcca4e19d3dbd5105099b9aab69777b9ea6c06b93bea", func := "testamur/testamurlaw34.CascadesLevels", spec := "cascadesLevels", unfollowed := true, recurses := true, named := ["testamur/digest.constants"], apart := false, laid := [("testamur/digest.constants", laid_testamur_digest_constants)] }
def CascadesLevelsSaid : Prop := cascadesLevelsRow.holds Tryd.pinned (OpenSpec.ofChange cascadesLevelsSpec)

/-- ITS FALSE NEIGHBOUR: 'it returns false'. Refute it at one input. -/
def cascadesLevelsWrong : ChangeSpec := { name := "cascadesLevels", fn := fun _ => fun
  | [d1, d2, d3] => { results := [.lit (.bool false)], args := [d1, d2, d3] }
  | _ => none }
def CascadesLevelsWrongFalsely : Prop := cascadesLevelsRow.holds Tryd.pinned (OpenSpec.ofChange cascadesLevelsWrong)

/-- 'testamurlaw34.CascadesTurned': WHATEVER THE INPUT: true; the input reads as it did. -/
def cascadesTurnedSpec : ChangeSpec := { name := "cascadesTurned", fn := fun _ => fun
  | [d1, d2, d3] => { results := [.lit (.bool true)], args := [d1, d2, d3] }
  | _ => none }
def cascadesTurnedRow : OpenClaim := { program := "ytfdkilgkefiggaadoor", sum := "a6ae1aa70370b7336590dcca4e19d3dbd5105099b9aab69777b9ea6c06b93bea", func := "testamur/testamurlaw34.CascadesTurned", spec := "cascadesTurned", unfollowed := true, recurses := true, named := ["testamur/digest.constants"], apart := false, laid := [("testamur/digest.constants", laid_testamur_digest_constants)] }
def CascadesTurnedSaid : Prop := cascadesTurnedRow.holds Tryd.pinned (OpenSpec.ofChange cascadesTurnedSpec)

/-- ITS FALSE NEIGHBOUR: 'it returns false'. Refute it at one input. -/
def cascadesTurnedWrong : ChangeSpec := { name := "cascadesTurned", fn := fun _ => fun
  | [d1, d2, d3] => { results := [.lit (.bool false)], args := [d1, d2, d3] }
  | _ => none }
def CascadesTurnedWrongFalsely : Prop := cascadesTurnedRow.holds Tryd.pinned (OpenSpec.ofChange cascadesTurnedWrong)

/-- 'testamurlaw34.CascadesBack': WHATEVER THE INPUT: true; the input reads as it did. -/
def cascadesBackSpec : ChangeSpec := { name := "cascadesBack", fn := fun _ => fun
  | [d1, d2] => { results := [.lit (.bool true)], args := [d1, d2] }
  | _ => none }
def cascadesBackRow : OpenClaim := { program := "ytfdkilgkefiggaadoor", sum := "a6ae1aa70370b7336590dcca4e19d3dbd5105099b9aab69777b9ea6c06b93bea", func := "testamur/testamurlaw34.CascadesBack", spec := "cascadesBack", unfollowed := true, recurses := true, named := ["testamur/digest.constants"], apart := false, laid := [("testamur/digest.constants", laid_testamur_digest_constants)] }
def CascadesBackSaid : Prop := cascadesBackRow.holds Tryd.pinned (OpenSpec.ofChange cascadesBackSpec)

/-- ITS FALSE NEIGHBOUR: 'it returns false'. Refute it at one input. -/
def cascadesBackWrong : ChangeSpec := { name := "cascadesBack", fn := fun _ => fun
  | [d1, d2] => { results := [.lit (.bool false)], args := [d1, d2] }
  | _ => none }
def CascadesBackWrongFalsely : Prop := cascadesBackRow.holds Tryd.pinned (OpenSpec.ofChange cascadesBackWrong)

/-- 'testamurlaw34.CascadesDigest': WHATEVER THE INPUT: true; the input reads as it did. -/
def cascadesDigestSpec : ChangeSpec := { name := "cascadesDigest", fn := fun _ => fun
  | [d1, d2, d3] => { results := [.lit (.bool true)], args := [d1, d2, d3] }
  | _ => none }
def cascadesDigestRow : OpenClaim := { program := "ytfdkilgkefiggaadoor", sum := "a6ae1aa70370b7336590dcca4e19d3dbd5105099b9aab69777b9ea6c06b93bea", func := "testamur/testamurlaw34.CascadesDigest", spec := "cascadesDigest", unfollowed := true, recurses := true, named := ["testamur/digest.constants"], apart := false, laid := [("testamur/digest.constants", laid_testamur_digest_constants)] }
def CascadesDigestSaid : Prop := cascadesDigestRow.holds Tryd.pinned (OpenSpec.ofChange cascadesDigestSpec)

/-- ITS FALSE NEIGHBOUR: 'it returns false'. Refute it at one input. -/
def cascadesDigestWrong : ChangeSpec := { name := "cascadesDigest", fn := fun _ => fun
  | [d1, d2, d3] => { results := [.lit (.bool false)], args := [d1, d2, d3] }
  | _ => none }
def CascadesDigestWrongFalsely : Prop := cascadesDigestRow.holds Tryd.pinned (OpenSpec.ofChange cascadesDigestWrong)

/- THE SECOND FORM. 'bulk': how many values and letters a reading holds, each counted each time it is reached (what is shared counts as often as it is met; a slice's spare places count too). A statement '..UptoSaid' is the law's where the arguments, and the package variables that the reading takes, are together of bulk at most 1048576: NARROWER than '..Said'. Prove '..Said' where nothing that the law and all that it calls make is longer than what came in: it says more and counts as full. Else prove '..UptoSaid'. A law counts once. -/
mutual
def uptoBulk {H : Type} : DataW H → Nat
  | .lit (.string bytes) => bytes.length + 1
  | .lit _ => 1
  | .nil => 1
  | .ptr d => uptoBulk d + 1
  | .slice elems spare => uptoBulkAll elems + uptoBulkAll spare + 1
  | .agg parts => uptoBulkAll parts + 1
  | .iface _ d => uptoBulk d + 1
  | .map entries => uptoBulkEntries entries + 1
  | .held _ => 1
def uptoBulkAll {H : Type} : List (DataW H) → Nat
  | [] => 0
  | d :: r => uptoBulk d + uptoBulkAll r
def uptoBulkEntries {H : Type} : List (Lit × DataW H) → Nat
  | [] => 0
  | x :: r => uptoBulkEntry x + uptoBulkEntries r
def uptoBulkEntry {H : Type} : Lit × DataW H → Nat
  | (.string bytes, d) => bytes.length + uptoBulk d + 1
  | (_, d) => uptoBulk d + 1
 end
def uptoSmall : (H : Type) → List (DataW H) → Bool := fun _ ds => decide (uptoBulkAll ds ≤ 1048576)
def OpenSpec.upto (s : _root_.Go.ChangeSpec) : _root_.Go.OpenSpec := { _root_.Go.OpenSpec.ofChange s with cond := some uptoSmall }

/-- 'testamurlaw34.CascadesBuildSpec', WHERE WHAT IT READS IS OF BULK AT MOST 1048576: true; the input reads as it did. -/
def cascadesBuildSpecUptoRow : OpenClaim := { program := "ytfdkilgkefiggaadoor", sum := "a6ae1aa70370b7336590dcca4e19d3dbd5105099b9aab69777b9ea6c06b93bea", func := "testamur/testamurlaw34.CascadesBuildSpec", spec := "cascadesBuildSpec", unfollowed := true, recurses := true, named := ["testamur/digest.constants"], apart := false, laid := [("testamur/digest.constants", laid_testamur_digest_constants)], narrowed := true }
def CascadesBuildSpecUptoSaid : Prop := cascadesBuildSpecUptoRow.holds Tryd.pinned (OpenSpec.upto cascadesBuildSpecSpec)

/-- 'testamurlaw34.CascadesHasSpec', WHERE WHAT IT READS IS OF BULK AT MOST 1048576: true; the input reads as it did. -/
def cascadesHasSpecUptoRow : OpenClaim := { program := "ytfdkilgkefiggaadoor", sum := "a6ae1aa70370b7336590dcca4e19d3dbd5105099b9aab69777b9ea6c06b93bea", func := "testamur/testamurlaw34.CascadesHasSpec", spec := "cascadesHasSpec", unfollowed := true, recurses := true, named := ["testamur/digest.constants"], apart := false, laid := [("testamur/digest.constants", laid_testamur_digest_constants)], narrowed := true }
def CascadesHasSpecUptoSaid : Prop := cascadesHasSpecUptoRow.holds Tryd.pinned (OpenSpec.upto cascadesHasSpecSpec)

/-- 'testamurlaw34.CascadesCodeSpec', WHERE WHAT IT READS IS OF BULK AT MOST 1048576: true; the input reads as it did. -/
def cascadesCodeSpecUptoRow : OpenClaim := { program := "ytfdkilgkefiggaadoor", sum := "a6ae1aa70370b7336590dcca4e19d3dbd5105099b9aab69777b9ea6c06b93bea", func := "testamur/testamurlaw34.CascadesCodeSpec", spec := "cascadesCodeSpec", unfollowed := true, recurses := true, named := ["testamur/digest.constants"], apart := false, laid := [("testamur/digest.constants", laid_testamur_digest_constants)], narrowed := true }
def CascadesCodeSpecUptoSaid : Prop := cascadesCodeSpecUptoRow.holds Tryd.pinned (OpenSpec.upto cascadesCodeSpecSpec)

/-- 'testamurlaw34.CascadesExact', WHERE WHAT IT READS IS OF BULK AT MOST 1048576: true; the input reads as it did. -/
def cascadesExactUptoRow : OpenClaim := { program := "ytfdkilgkefiggaadoor", sum := "a6ae1aa70370b7336590dcca4e19d3dbd5105099b9aab69777b9ea6c06b93bea", func := "testamur/testamurlaw34.CascadesExact", spec := "cascadesExact", unfollowed := true, recurses := true, named := ["testamur/digest.constants"], apart := false, laid := [("testamur/digest.constants", laid_testamur_digest_constants)], narrowed := true }
def CascadesExactUptoSaid : Prop := cascadesExactUptoRow.holds Tryd.pinned (OpenSpec.upto cascadesExactSpec)

/-- 'testamurlaw34.CascadesLevels', WHERE WHAT IT READS IS OF BULK AT MOST 1048576: true; the input reads as it did. -/
def cascadesLevelsUptoRow : OpenClaim := { program := "ytfdkilgkefiggaadoor", sum := "a6ae1aa70370b7336590dcca4e19d3dbd5105099b9aab69777b9ea6c06b93bea", func := "testamur/testamurlaw34.CascadesLevels", spec := "cascadesLevels", unfollowed := true, recurses := true, named := ["testamur/digest.constants"], apart := false, laid := [("testamur/digest.constants", laid_testamur_digest_constants)], narrowed := true }
def CascadesLevelsUptoSaid : Prop := cascadesLevelsUptoRow.holds Tryd.pinned (OpenSpec.upto cascadesLevelsSpec)

/-- 'testamurlaw34.CascadesTurned', WHERE WHAT IT READS IS OF BULK AT MOST 1048576: true; the input reads as it did. -/
def cascadesTurnedUptoRow : OpenClaim := { program := "ytfdkilgkefiggaadoor", sum := "a6ae1aa70370b7336590dcca4e19d3dbd5105099b9aab69777b9ea6c06b93bea", func := "testamur/testamurlaw34.CascadesTurned", spec := "cascadesTurned", unfollowed := true, recurses := true, named := ["testamur/digest.constants"], apart := false, laid := [("testamur/digest.constants", laid_testamur_digest_constants)], narrowed := true }
def CascadesTurnedUptoSaid : Prop := cascadesTurnedUptoRow.holds Tryd.pinned (OpenSpec.upto cascadesTurnedSpec)

/-- 'testamurlaw34.CascadesBack', WHERE WHAT IT READS IS OF BULK AT MOST 1048576: true; the input reads as it did. -/
def cascadesBackUptoRow : OpenClaim := { program := "ytfdkilgkefiggaadoor", sum := "a6ae1aa70370b7336590dcca4e19d3dbd5105099b9aab69777b9ea6c06b93bea", func := "testamur/testamurlaw34.CascadesBack", spec := "cascadesBack", unfollowed := true, recurses := true, named := ["testamur/digest.constants"], apart := false, laid := [("testamur/digest.constants", laid_testamur_digest_constants)], narrowed := true }
def CascadesBackUptoSaid : Prop := cascadesBackUptoRow.holds Tryd.pinned (OpenSpec.upto cascadesBackSpec)

/-- 'testamurlaw34.CascadesDigest', WHERE WHAT IT READS IS OF BULK AT MOST 1048576: true; the input reads as it did. -/
def cascadesDigestUptoRow : OpenClaim := { program := "ytfdkilgkefiggaadoor", sum := "a6ae1aa70370b7336590dcca4e19d3dbd5105099b9aab69777b9ea6c06b93bea", func := "testamur/testamurlaw34.CascadesDigest", spec := "cascadesDigest", unfollowed := true, recurses := true, named := ["testamur/digest.constants"], apart := false, laid := [("testamur/digest.constants", laid_testamur_digest_constants)], narrowed := true }
def CascadesDigestUptoSaid : Prop := cascadesDigestUptoRow.holds Tryd.pinned (OpenSpec.upto cascadesDigestSpec)

end Rows
end Go.Proofs.YtfdkilgkefiggaaDoor
