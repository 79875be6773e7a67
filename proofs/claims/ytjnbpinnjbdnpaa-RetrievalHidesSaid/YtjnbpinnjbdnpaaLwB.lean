/-
  THE GIVEN ROW RetrievalHides, PROVED. Conditions: none but the row's own.
-/
import Derived.Test.YtjnbpinnjbdnpaaRows
import Derived.Test.YtjnbpinnjbdnpaaV6G
import Derived.Test.YtjnbpinnjbdnpaaAbsL
import Derived.ProofKit
namespace Go.Proofs.Ytjnbpinnjbdnpaa
open Go Go.Eng Go.Abs Go.Abs.D2
open Go.ChangeShapes Go.WideShapes Go.ChangeAt Go.RowKit

theorem Try.ownOf7 : ownKnob Try.prog.godebug = none := by kernel_rfl
theorem Try.laidOutOf7 : laidOutB Try.prog = true := by kernel_rfl

set_option maxRecDepth 100000 in
theorem retrievalHides_lifted (os : Os) (started : os.Started) (H : Type) (enc : TypeId × Value → H) :
    ReturnsInHanded {} Try.checked os 7 .any (Rows.retrievalHidesSpec.pre6 enc Try.prog Try.f7 Rows.retrievalHidesRow.domain false) (Rows.retrievalHidesSpec.post enc Try.prog Try.f7 false true false false) := by
  refine returnsInHanded_of_change (C := Try.checked) Try.ownOf7 started (by kernel_rfl) Try.func7
    (ChangeSpec.witness6 (enc := enc) (C := Try.checked) false ⟨#[], #[.int .i64 0, .slice none 0 0, .slice none 0 0, .int .i64 0, .slice none 0 0], []⟩ 8 (by kernel_rfl) (by kernel_rfl) (by kernel_rfl) (by kernel_rfl)) ?_
  intro W base args ds gs before hval0 hW _ _
  have hval : ∀ (j : Nat) t v, Try.f7.params[j]? = some t → args[j]? = some v → Value.okWide Try.prog W .any base t v := hval0
  have hW' := hW
  obtain ⟨p, q, hA0, hV, rfl, _, _⟩ := hW
  have hA1 : DataW.TrodAll enc Try.prog W 0 (fun _ => true) true Try.f7.params.toList args.toList ds p := hA0
  have hA := hA1
  rw [Try.params7] at hA hval
  obtain ⟨rfl, rfl⟩ := trodVars_none hV
  obtain ⟨v0, vs0, d0, ds0, q0, r0, hargs, rfl, rfl, h0, t0⟩ := trodAll_cons hA
  obtain ⟨v1, vs1, d1, ds1, q1, r1, rfl, rfl, rfl, h1, t1⟩ := trodAll_cons t0
  obtain ⟨v2, vs2, d2, ds2, q2, r2, rfl, rfl, rfl, h2, t2⟩ := trodAll_cons t1
  obtain ⟨v3, vs3, d3, ds3, q3, r3, rfl, rfl, rfl, h3, t3⟩ := trodAll_cons t2
  obtain ⟨v4, vs4, d4, ds4, q4, r4, rfl, rfl, rfl, h4, t4⟩ := trodAll_cons t3
  obtain ⟨rfl, rfl, rfl⟩ := trodAll_nil t4
  obtain rfl : args = #[v0, v1, v2, v3, v4] := Array.ext' (by simpa using hargs)
  obtain ⟨a0, e0, w0⟩ := row_D (.int .i64) (by kernel_rfl) (hval 0 3 v0 rfl rfl) h0
  obtain ⟨x0, rfl, p0⟩ := den_int a0 e0
  obtain ⟨a1, e1, w1⟩ := row_D (.sl (.int .i64)) (by kernel_rfl) (hval 1 41 v1 rfl rfl) h1
  obtain ⟨x1, rfl, p1⟩ := den_ints a1 e1
  obtain ⟨a2, e2, w2⟩ := row_D (.sl (.int .i64)) (by kernel_rfl) (hval 2 41 v2 rfl rfl) h2
  obtain ⟨x2, rfl, p2⟩ := den_ints a2 e2
  obtain ⟨a3, e3, w3⟩ := row_D (.int .i64) (by kernel_rfl) (hval 3 3 v3 rfl rfl) h3
  obtain ⟨x3, rfl, p3⟩ := den_int a3 e3
  obtain ⟨a4, e4, w4⟩ := row_D (.sl (.sl (.int .u8))) (by kernel_rfl) (hval 4 30 v4 rfl rfl) h4
  obtain ⟨x4, rfl, p4⟩ := den_rows a4 e4
  refine (con_true (law_hides x0 x1 x2 x3 x4 p4.1) (fun g vs hg => absurd hg (by simp [glob])) (VS_cons w0 (VS_cons w1 (VS_cons w2 (VS_cons w3 (VS_cons w4 (VS_nil))))))).mono fun e W' he => ?_
  obtain ⟨rfl, hbel⟩ := he
  have hlt := fun x hx => hW'.lt x (List.mem_append_left _ hx)
  refine ⟨_, rfl, _, _, _, [], _, [], hW', ?_, args_stay Try.laidOutOf7 hbel _ _ _ _ (by kernel_rfl) hA1 (fun x hx => hlt x hx), ?_, hbel.frame _, fun h => by cases h⟩
  · exact trodAll_mk1 (shut_bool Try.underlying4 true)
  · rfl

theorem retrievalHides_holds : Rows.RetrievalHidesSaid :=
  OpenClaim.holds_of_wide 7 Try.f7 rfl rfl rfl rfl rfl rfl rfl ⟨rfl, rfl, rfl, rfl, rfl⟩ rfl rfl rfl rfl rfl (by kernel_rfl) Try.func7 (by kernel_rfl)
    (of_decide_eq_true (by kernel_rfl)) (by unfold Func.isWrapper; rw [if_neg (of_decide_eq_false (by kernel_rfl))]; exact ⟨rfl, rfl⟩)
    (fun os started H enc _ => retrievalHides_lifted os started H enc)

end Go.Proofs.Ytjnbpinnjbdnpaa
