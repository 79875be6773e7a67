/-
  No cell of these rows narrows 'for every input' (looked for: loops, veiled, ifaces, maps, wideKeys, modest, calm, conditions, laid).
  DERIVED. THE GIVEN ROWS OF THIS SEAT. 6 by the template 'for every input the law returns true; each argument reads behind the call as it read before'; 0 by the template 'total and deterministic' (their statements: YtjnbpinnjbdnpaaTotals.lean).
  GIVEN WITH THE SEED: the statements are not yours to turn. If you find one false, say at which input.
  Laid BY PROGRAM, IN A SANDBOX (cutbox-rows.mjs): the forced cells as the released guide's own fill.sh prints them over the translation 01566ad910a787ff… (all of the seat's roots in one cut). By AI agents, Wed Nov 11 2026. No macro, syntax, notation, axiom, sorry.
-/
import Derived.Test.YtjnbpinnjbdnpaaChecked
import GoSem.Claim
import GoSem.ClaimJoined
import GoSem.ClaimMapViews
import Derived.JoinedTies
import Derived.KernelRfl
namespace Go.Proofs.Ytjnbpinnjbdnpaa
/- THE CELL 'sum', in the pinned program and in every row, IS THE sha256 OF THE DUMP (.gsa) THAT YtjnbpinnjbdnpaaProg.lean LOADS. Nothing in Lean hashes anything: it is a label: what it is worth is what the hold of that sum in a sandbox is worth. -/
noncomputable def Try.pinned : Pinned := { name := "ytjnbpinnjbdnpaa", sum := "01566ad910a787ffca0df6e400030ba99e44835bd3c9301ef28dd966ac190c36", checked := Try.checked }
namespace Rows
def none {H : Type} : Left H := { results := [], args := [] }

/-- 'testamurlaw36.RetrievalMasksSpec': WHATEVER THE INPUT: true; the input reads as it did. -/
def retrievalMasksSpecSpec : ChangeSpec := { name := "retrievalMasksSpec", fn := fun _ => fun
  | [d1, d2, d3, d4] => { results := [.lit (.bool true)], args := [d1, d2, d3, d4] }
  | _ => none }
def retrievalMasksSpecRow : OpenClaim := { program := "ytjnbpinnjbdnpaa", sum := "01566ad910a787ffca0df6e400030ba99e44835bd3c9301ef28dd966ac190c36", func := "testamur/testamurlaw36.RetrievalMasksSpec", spec := "retrievalMasksSpec", unfollowed := true, recurses := true, apart := false }
def RetrievalMasksSpecSaid : Prop := retrievalMasksSpecRow.holds Try.pinned (OpenSpec.ofChange retrievalMasksSpecSpec)

/-- ITS FALSE NEIGHBOUR: 'it returns false'. Refute it at one input. -/
def retrievalMasksSpecWrong : ChangeSpec := { name := "retrievalMasksSpec", fn := fun _ => fun
  | [d1, d2, d3, d4] => { results := [.lit (.bool false)], args := [d1, d2, d3, d4] }
  | _ => none }
def RetrievalMasksSpecWrongFalsely : Prop := retrievalMasksSpecRow.holds Try.pinned (OpenSpec.ofChange retrievalMasksSpecWrong)

/-- 'testamurlaw36.RetrievalAnswerSpec': WHATEVER THE INPUT: true; the input reads as it did. -/
def retrievalAnswerSpecSpec : ChangeSpec := { name := "retrievalAnswerSpec", fn := fun _ => fun
  | [d1, d2, d3, d4] => { results := [.lit (.bool true)], args := [d1, d2, d3, d4] }
  | _ => none }
def retrievalAnswerSpecRow : OpenClaim := { program := "ytjnbpinnjbdnpaa", sum := "01566ad910a787ffca0df6e400030ba99e44835bd3c9301ef28dd966ac190c36", func := "testamur/testamurlaw36.RetrievalAnswerSpec", spec := "retrievalAnswerSpec", unfollowed := true, recurses := true, apart := false }
def RetrievalAnswerSpecSaid : Prop := retrievalAnswerSpecRow.holds Try.pinned (OpenSpec.ofChange retrievalAnswerSpecSpec)

/-- ITS FALSE NEIGHBOUR: 'it returns false'. Refute it at one input. -/
def retrievalAnswerSpecWrong : ChangeSpec := { name := "retrievalAnswerSpec", fn := fun _ => fun
  | [d1, d2, d3, d4] => { results := [.lit (.bool false)], args := [d1, d2, d3, d4] }
  | _ => none }
def RetrievalAnswerSpecWrongFalsely : Prop := retrievalAnswerSpecRow.holds Try.pinned (OpenSpec.ofChange retrievalAnswerSpecWrong)

/-- 'testamurlaw36.RetrievalAskSpec': WHATEVER THE INPUT: true; the input reads as it did. -/
def retrievalAskSpecSpec : ChangeSpec := { name := "retrievalAskSpec", fn := fun _ => fun
  | [d1, d2, d3, d4] => { results := [.lit (.bool true)], args := [d1, d2, d3, d4] }
  | _ => none }
def retrievalAskSpecRow : OpenClaim := { program := "ytjnbpinnjbdnpaa", sum := "01566ad910a787ffca0df6e400030ba99e44835bd3c9301ef28dd966ac190c36", func := "testamur/testamurlaw36.RetrievalAskSpec", spec := "retrievalAskSpec", unfollowed := true, recurses := true, apart := false }
def RetrievalAskSpecSaid : Prop := retrievalAskSpecRow.holds Try.pinned (OpenSpec.ofChange retrievalAskSpecSpec)

/-- ITS FALSE NEIGHBOUR: 'it returns false'. Refute it at one input. -/
def retrievalAskSpecWrong : ChangeSpec := { name := "retrievalAskSpec", fn := fun _ => fun
  | [d1, d2, d3, d4] => { results := [.lit (.bool false)], args := [d1, d2, d3, d4] }
  | _ => none }
def RetrievalAskSpecWrongFalsely : Prop := retrievalAskSpecRow.holds Try.pinned (OpenSpec.ofChange retrievalAskSpecWrong)

/-- 'testamurlaw36.RetrievalReads': WHATEVER THE INPUT: true; the input reads as it did. -/
def retrievalReadsSpec : ChangeSpec := { name := "retrievalReads", fn := fun _ => fun
  | [d1, d2, d3, d4] => { results := [.lit (.bool true)], args := [d1, d2, d3, d4] }
  | _ => none }
def retrievalReadsRow : OpenClaim := { program := "ytjnbpinnjbdnpaa", sum := "01566ad910a787ffca0df6e400030ba99e44835bd3c9301ef28dd966ac190c36", func := "testamur/testamurlaw36.RetrievalReads", spec := "retrievalReads", unfollowed := true, recurses := true, apart := false }
def RetrievalReadsSaid : Prop := retrievalReadsRow.holds Try.pinned (OpenSpec.ofChange retrievalReadsSpec)

/-- ITS FALSE NEIGHBOUR: 'it returns false'. Refute it at one input. -/
def retrievalReadsWrong : ChangeSpec := { name := "retrievalReads", fn := fun _ => fun
  | [d1, d2, d3, d4] => { results := [.lit (.bool false)], args := [d1, d2, d3, d4] }
  | _ => none }
def RetrievalReadsWrongFalsely : Prop := retrievalReadsRow.holds Try.pinned (OpenSpec.ofChange retrievalReadsWrong)

/-- 'testamurlaw36.RetrievalHides': WHATEVER THE INPUT: true; the input reads as it did. -/
def retrievalHidesSpec : ChangeSpec := { name := "retrievalHides", fn := fun _ => fun
  | [d1, d2, d3, d4, d5] => { results := [.lit (.bool true)], args := [d1, d2, d3, d4, d5] }
  | _ => none }
def retrievalHidesRow : OpenClaim := { program := "ytjnbpinnjbdnpaa", sum := "01566ad910a787ffca0df6e400030ba99e44835bd3c9301ef28dd966ac190c36", func := "testamur/testamurlaw36.RetrievalHides", spec := "retrievalHides", unfollowed := true, recurses := true, apart := false }
def RetrievalHidesSaid : Prop := retrievalHidesRow.holds Try.pinned (OpenSpec.ofChange retrievalHidesSpec)

/-- ITS FALSE NEIGHBOUR: 'it returns false'. Refute it at one input. -/
def retrievalHidesWrong : ChangeSpec := { name := "retrievalHides", fn := fun _ => fun
  | [d1, d2, d3, d4, d5] => { results := [.lit (.bool false)], args := [d1, d2, d3, d4, d5] }
  | _ => none }
def RetrievalHidesWrongFalsely : Prop := retrievalHidesRow.holds Try.pinned (OpenSpec.ofChange retrievalHidesWrong)

/-- 'testamurlaw36.RetrievalSum': WHATEVER THE INPUT: true; the input reads as it did. -/
def retrievalSumSpec : ChangeSpec := { name := "retrievalSum", fn := fun _ => fun
  | [d1, d2, d3] => { results := [.lit (.bool true)], args := [d1, d2, d3] }
  | _ => none }
def retrievalSumRow : OpenClaim := { program := "ytjnbpinnjbdnpaa", sum := "01566ad910a787ffca0df6e400030ba99e44835bd3c9301ef28dd966ac190c36", func := "testamur/testamurlaw36.RetrievalSum", spec := "retrievalSum", unfollowed := true, recurses := true, apart := false }
def RetrievalSumSaid : Prop := retrievalSumRow.holds Try.pinned (OpenSpec.ofChange retrievalSumSpec)

/-- ITS FALSE NEIGHBOUR: 'it returns false'. Refute it at one input. -/
def retrievalSumWrong : ChangeSpec := { name := "retrievalSum", fn := fun _ => fun
  | [d1, d2, d3] => { results := [.lit (.bool false)], args := [d1, d2, d3] }
  | _ => none }
def RetrievalSumWrongFalsely : Prop := retrievalSumRow.holds Try.pinned (OpenSpec.ofChange retrievalSumWrong)

/- THE SECOND FORM. 'bulk': how many values and letters a reading holds, each counted each time it is reached (what is shared counts as often as it is met; a slice's spare places count too). A statement '..UptoSaid' is the law's where the arguments, and the package variables that the reading takes, are together of bulk at most 1048576: NARROWER than '..Said'. Prove '..Said' where nothing that the law and all that it calls make is longer than what came in: it says more and counts as full. Else prove '..UptoSaid'. A law counts once. -/
mutual
def uptoBulk {H : Type} : DataW H → Nat
  | .lit (.string bytes) => bytes.length + 1
  | .lit _ => 1
  | .nil => 1
  | .ptr d => uptoBulk d + 1
  | .slice elems spare => uptoBulkAll elems + uptoBulkAll spare + 1
  | .agg parts => uptoBulkAll parts + 1
  | .iface _ d => uptoBulk d + 1
  | .map entries => uptoBulkEntries entries + 1
  | .held _ => 1
def uptoBulkAll {H : Type} : List (DataW H) → Nat
  | [] => 0
  | d :: r => uptoBulk d + uptoBulkAll r
def uptoBulkEntries {H : Type} : List (Lit × DataW H) → Nat
  | [] => 0
  | x :: r => uptoBulkEntry x + uptoBulkEntries r
def uptoBulkEntry {H : Type} : Lit × DataW H → Nat
  | (.string bytes, d) => bytes.length + uptoBulk d + 1
  | (_, d) => uptoBulk d + 1
 end
def uptoSmall : (H : Type) → List (DataW H) → Bool := fun _ ds => decide (uptoBulkAll ds ≤ 1048576)
def OpenSpec.upto (s : _root_.Go.ChangeSpec) : _root_.Go.OpenSpec := { _root_.Go.OpenSpec.ofChange s with cond := some uptoSmall }

/-- 'testamurlaw36.RetrievalMasksSpec', WHERE WHAT IT READS IS OF BULK AT MOST 1048576: true; the input reads as it did. -/
def retrievalMasksSpecUptoRow : OpenClaim := { program := "ytjnbpinnjbdnpaa", sum := "01566ad910a787ffca0df6e400030ba99e44835bd3c9301ef28dd966ac190c36", func := "testamur/testamurlaw36.RetrievalMasksSpec", spec := "retrievalMasksSpec", unfollowed := true, recurses := true, apart := false, narrowed := true }
def RetrievalMasksSpecUptoSaid : Prop := retrievalMasksSpecUptoRow.holds Try.pinned (OpenSpec.upto retrievalMasksSpecSpec)

/-- 'testamurlaw36.RetrievalAnswerSpec', WHERE WHAT IT READS IS OF BULK AT MOST 1048576: true; the input reads as it did. -/
def retrievalAnswerSpecUptoRow : OpenClaim := { program := "ytjnbpinnjbdnpaa", sum := "01566ad910a787ffca0df6e400030ba99e44835bd3c9301ef28dd966ac190c36", func := "testamur/testamurlaw36.RetrievalAnswerSpec", spec := "retrievalAnswerSpec", unfollowed := true, recurses := true, apart := false, narrowed := true }
def RetrievalAnswerSpecUptoSaid : Prop := retrievalAnswerSpecUptoRow.holds Try.pinned (OpenSpec.upto retrievalAnswerSpecSpec)

/-- 'testamurlaw36.RetrievalAskSpec', WHERE WHAT IT READS IS OF BULK AT MOST 1048576: true; the input reads as it did. -/
def retrievalAskSpecUptoRow : OpenClaim := { program := "ytjnbpinnjbdnpaa", sum := "01566ad910a787ffca0df6e400030ba99e44835bd3c9301ef28dd966ac190c36", func := "testamur/testamurlaw36.RetrievalAskSpec", spec := "retrievalAskSpec", unfollowed := true, recurses := true, apart := false, narrowed := true }
def RetrievalAskSpecUptoSaid : Prop := retrievalAskSpecUptoRow.holds Try.pinned (OpenSpec.upto retrievalAskSpecSpec)

/-- 'testamurlaw36.RetrievalReads', WHERE WHAT IT READS IS OF BULK AT MOST 1048576: true; the input reads as it did. -/
def retrievalReadsUptoRow : OpenClaim := { program := "ytjnbpinnjbdnpaa", sum := "01566ad910a787ffca0df6e400030ba99e44835bd3c9301ef28dd966ac190c36", func := "testamur/testamurlaw36.RetrievalReads", spec := "retrievalReads", unfollowed := true, recurses := true, apart := false, narrowed := true }
def RetrievalReadsUptoSaid : Prop := retrievalReadsUptoRow.holds Try.pinned (OpenSpec.upto retrievalReadsSpec)

/-- 'testamurlaw36.RetrievalHides', WHERE WHAT IT READS IS OF BULK AT MOST 1048576: true; the input reads as it did. -/
def retrievalHidesUptoRow : OpenClaim := { program := "ytjnbpinnjbdnpaa", sum := "01566ad910a787ffca0df6e400030ba99e44835bd3c9301ef28dd966ac190c36", func := "testamur/testamurlaw36.RetrievalHides", spec := "retrievalHides", unfollowed := true, recurses := true, apart := false, narrowed := true }
def RetrievalHidesUptoSaid : Prop := retrievalHidesUptoRow.holds Try.pinned (OpenSpec.upto retrievalHidesSpec)

/-- 'testamurlaw36.RetrievalSum', WHERE WHAT IT READS IS OF BULK AT MOST 1048576: true; the input reads as it did. -/
def retrievalSumUptoRow : OpenClaim := { program := "ytjnbpinnjbdnpaa", sum := "01566ad910a787ffca0df6e400030ba99e44835bd3c9301ef28dd966ac190c36", func := "testamur/testamurlaw36.RetrievalSum", spec := "retrievalSum", unfollowed := true, recurses := true, apart := false, narrowed := true }
def RetrievalSumUptoSaid : Prop := retrievalSumUptoRow.holds Try.pinned (OpenSpec.upto retrievalSumSpec)

end Rows
end Go.Proofs.Ytjnbpinnjbdnpaa
