/-
  THE GIVEN ROW RetrievalSum, PROVED. Conditions: none but the row's own.
-/
import Derived.Test.YtjnbpinnjbdnpaaRows
import Derived.Test.YtjnbpinnjbdnpaaR36K
import Derived.Test.YtjnbpinnjbdnpaaEngJ
import Derived.ProofKit
namespace Go.Proofs.Ytjnbpinnjbdnpaa
open Go Go.Eng Go.Eng.R36
open Go.ChangeShapes Go.WideShapes Go.ChangeAt Go.RowKit

theorem Try.ownOf8 : ownKnob Try.prog.godebug = none := by kernel_rfl
theorem Try.laidOutOf8 : laidOutB Try.prog = true := by kernel_rfl

set_option maxRecDepth 100000 in
theorem retrievalSum_lifted (os : Os) (started : os.Started) (H : Type) (enc : TypeId × Value → H) :
    ReturnsInHanded {} Try.checked os 8 .any (Rows.retrievalSumSpec.pre6 enc Try.prog Try.f8 Rows.retrievalSumRow.domain false) (Rows.retrievalSumSpec.post enc Try.prog Try.f8 false true false false) := by
  refine returnsInHanded_of_change (C := Try.checked) Try.ownOf8 started (by kernel_rfl) Try.func8
    (ChangeSpec.witness6 (enc := enc) (C := Try.checked) false ⟨#[], #[.slice none 0 0, .slice none 0 0, .slice none 0 0], []⟩ 8 (by kernel_rfl) (by kernel_rfl) (by kernel_rfl) (by kernel_rfl)) ?_
  intro W base args ds gs before hval0 hW _ _
  have hval : ∀ (j : Nat) t v, Try.f8.params[j]? = some t → args[j]? = some v → Value.okWide Try.prog W .any base t v := hval0
  have hW' := hW
  obtain ⟨p, q, hA0, hV, rfl, _, _⟩ := hW
  have hA1 : DataW.TrodAll enc Try.prog W 0 (fun _ => true) true Try.f8.params.toList args.toList ds p := hA0
  have hA := hA1
  rw [Try.params8] at hA hval
  obtain ⟨rfl, rfl⟩ := trodVars_none hV
  obtain ⟨v0, vs0, d0, ds0, p0, q0, hargs, rfl, rfl, h0, r0⟩ := trodAll_cons hA
  obtain ⟨v1, vs1, d1, ds1, p1, q1, rfl, rfl, rfl, h1, r1⟩ := trodAll_cons r0
  obtain ⟨v2, vs2, d2, ds2, p2, q2, rfl, rfl, rfl, h2, r2⟩ := trodAll_cons r1
  obtain ⟨rfl, rfl, rfl⟩ := trodAll_nil r2
  obtain rfl : args = #[v0, v1, v2] := Array.ext' (by simpa using hargs)
  obtain ⟨s0, r0', l0, rfl, h0'⟩ := row_rows Try.underlying30 Try.underlying22 Try.underlying5 (by kernel_rfl) (by kernel_rfl) (hval 0 30 v0 rfl rfl) h0
  obtain ⟨s1, l1, rfl, h1'⟩ := row_bytes Try.underlying22 Try.underlying5 (by kernel_rfl) (hval 1 22 v1 rfl rfl) h1
  obtain ⟨s2, l2, rfl, h2'⟩ := row_bytes Try.underlying22 Try.underlying5 (by kernel_rfl) (hval 2 22 v2 rfl rfl) h2
  refine (law6 W s0 r0' l0 h0' s1 s2 l1 l2 h1' h2').calls.mono fun e W' he => ?_
  obtain ⟨v, rfl, rfl, hbel⟩ := he
  have hlt := fun x hx => hW'.lt x (List.mem_append_left _ hx)
  refine ⟨_, rfl, _, _, _, [], _, [], hW', ?_, args_stay Try.laidOutOf8 hbel _ _ _ _ (by kernel_rfl) hA1 (fun x hx => hlt x hx), ?_, hbel.frame _, fun h => by cases h⟩
  · exact trodAll_mk1 (shut_bool Try.underlying4 true)
  · rfl

theorem retrievalSum_holds : Rows.RetrievalSumSaid :=
  OpenClaim.holds_of_wide 8 Try.f8 rfl rfl rfl rfl rfl rfl rfl ⟨rfl, rfl, rfl, rfl, rfl⟩ rfl rfl rfl rfl rfl (by kernel_rfl) Try.func8 (by kernel_rfl)
    (of_decide_eq_true (by kernel_rfl)) (by unfold Func.isWrapper; rw [if_neg (of_decide_eq_false (by kernel_rfl))]; exact ⟨rfl, rfl⟩)
    (fun os started H enc _ => retrievalSum_lifted os started H enc)

end Go.Proofs.Ytjnbpinnjbdnpaa
