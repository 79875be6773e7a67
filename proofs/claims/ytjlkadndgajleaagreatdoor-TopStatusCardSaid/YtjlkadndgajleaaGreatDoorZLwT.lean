/-
  THE GIVEN CARD TopStatus, PROVED. Conditions: none but the row's own.
-/
import Derived.Test.YtjlkadndgajleaaGreatDoorRows
import Derived.Test.YtjlkadndgajleaaGreatDoorTie
import Derived.Test.YtjlkadndgajleaaGreatDoorCards
import Derived.SevenTiedAt
import Derived.Test.YtjlkadndgajleaaGreatDoorM19
import Derived.ProofKit
namespace Go.Proofs.YtjlkadndgajleaaGreatDoor
open Go Go.Eng Go.Abs Go.Abs.D2
open Go.ChangeShapes Go.WideShapes Go.ChangeAt Go.RowKit

set_option maxRecDepth 100000 in
theorem topStatus_lifted (os : Os) (started : os.Started) (H : Type) (enc : TypeId × Value → H) :
    ReturnsInHanded {} Tryz.checked os 3 .any (fun w args => (Rows.topStatusSpec.pre enc Tryz.prog Tryz.f3 Rows.topStatusRow.domain false w args ∧ laidMetH Tryz.prog tX w) ∧ sizedMet enc Tryz.prog Tryz.f3 (OpenSpec.ofChange Rows.topStatusSpec) false w args) (Rows.topStatusSpec.post enc Tryz.prog Tryz.f3 false true false false) := by
  refine returnsInHanded_of_change_and (C := Tryz.checked) (X := fun w _ => laidMetH Tryz.prog tX w) (fun _ _ _ hh h => h.of_heap hh) Tryz.PX started (by kernel_rfl) Tryz.func3
    (ChangeSpec.witness_shaped (enc := enc) (C := Tryz.checked) (os := os) (X := fun w _ => laidMetH Tryz.prog tX w) false (World.doorLaid Tryz.prog 400 os) #[.agg (List.replicate 32 (.int .u8 0) : List Value).toArray, .int .i64 0, .int .i64 0, .slice none 0 0, .slice none 0 0, .int .i64 0, .slice none 0 0, .slice none 0 0, .slice none 0 0] 8 rfl (L7 os _) (by kernel_rfl) (by kernel_rfl) (by kernel_rfl) (L6 os _)) ?_
  intro W base args ds gs before hval0 hW _ _ hL _
  have hval : ∀ (j : Nat) t v, Tryz.f3.params[j]? = some t → args[j]? = some v → Value.okWide Tryz.prog W .any base t v := hval0
  have hW' := hW
  obtain ⟨p, q, hA0, hV, rfl, _, _⟩ := hW
  have hA1 : DataW.TrodAll enc Tryz.prog W 0 (fun _ => true) true Tryz.f3.params.toList args.toList ds p := hA0
  have hA := hA1
  rw [Tryz.params3] at hA hval
  obtain ⟨rfl, rfl⟩ := trodVars_none hV
  obtain ⟨v0, vs0, d0, ds0, q0, r0, hargs, rfl, rfl, h0, t0⟩ := trodAll_cons hA
  obtain ⟨v1, vs1, d1, ds1, q1, r1, rfl, rfl, rfl, h1, t1⟩ := trodAll_cons t0
  obtain ⟨v2, vs2, d2, ds2, q2, r2, rfl, rfl, rfl, h2, t2⟩ := trodAll_cons t1
  obtain ⟨v3, vs3, d3, ds3, q3, r3, rfl, rfl, rfl, h3, t3⟩ := trodAll_cons t2
  obtain ⟨v4, vs4, d4, ds4, q4, r4, rfl, rfl, rfl, h4, t4⟩ := trodAll_cons t3
  obtain ⟨v5, vs5, d5, ds5, q5, r5, rfl, rfl, rfl, h5, t5⟩ := trodAll_cons t4
  obtain ⟨v6, vs6, d6, ds6, q6, r6, rfl, rfl, rfl, h6, t6⟩ := trodAll_cons t5
  obtain ⟨v7, vs7, d7, ds7, q7, r7, rfl, rfl, rfl, h7, t7⟩ := trodAll_cons t6
  obtain ⟨v8, vs8, d8, ds8, q8, r8, rfl, rfl, rfl, h8, t8⟩ := trodAll_cons t7
  obtain ⟨rfl, rfl, rfl⟩ := trodAll_nil t8
  obtain rfl : args = #[v0, v1, v2, v3, v4, v5, v6, v7, v8] := Array.ext' (by simpa using hargs)
  obtain ⟨a0, e0, w0⟩ := oC (.arr 32 (.int .u8)) (by kernel_rfl) (hval 0 23 v0 rfl rfl) h0
  obtain ⟨x0, rfl, p0⟩ := LM a0 e0
  obtain ⟨a1, e1, w1⟩ := oC (.int .i64) (by kernel_rfl) (hval 1 3 v1 rfl rfl) h1
  obtain ⟨x1, rfl, p1⟩ := qd a1 e1
  obtain ⟨a2, e2, w2⟩ := oC (.int .i64) (by kernel_rfl) (hval 2 3 v2 rfl rfl) h2
  obtain ⟨x2, rfl, p2⟩ := qd a2 e2
  obtain ⟨a3, e3, w3⟩ := oC (.sl (.int .i64)) (by kernel_rfl) (hval 3 24 v3 rfl rfl) h3
  obtain ⟨x3, rfl, p3⟩ := zS a3 e3
  obtain ⟨a4, e4, w4⟩ := oC (.sl vS) (by kernel_rfl) (hval 4 25 v4 rfl rfl) h4
  obtain ⟨x4, rfl, p4⟩ := LS a4 e4
  obtain ⟨a5, e5, w5⟩ := oC (.int .i64) (by kernel_rfl) (hval 5 3 v5 rfl rfl) h5
  obtain ⟨x5, rfl, p5⟩ := qd a5 e5
  obtain ⟨a6, e6, w6⟩ := oC (.sl (.int .i64)) (by kernel_rfl) (hval 6 24 v6 rfl rfl) h6
  obtain ⟨x6, rfl, p6⟩ := zS a6 e6
  obtain ⟨a7, e7, w7⟩ := oC (.sl (.int .i64)) (by kernel_rfl) (hval 7 24 v7 rfl rfl) h7
  obtain ⟨x7, rfl, p7⟩ := zS a7 e7
  obtain ⟨a8, e8, w8⟩ := oC (.sl (.sl (.int .u8))) (by kernel_rfl) (hval 8 26 v8 rfl rfl) h8
  obtain ⟨x8, rfl, p8⟩ := LQ a8 e8
  refine (Lt (Oe x0 x1 x2 x3 x4 x5 x6 x7 x8 p0 p2 p3.1 p4.1 p4.2 p6.1 p7.1 p8.1) (Nn hL) (eE w0 (eE w1 (eE w2 (eE w3 (eE w4 (eE w5 (eE w6 (eE w7 (eE w8 (fF))))))))))).mono fun e W' he => ?_
  obtain ⟨rfl, hbel⟩ := he
  have hlt := fun x hx => hW'.lt x (List.mem_append_left _ hx)
  refine ⟨_, rfl, _, _, _, [], _, [], hW', ?_, CM Tryz.N5 hbel _ _ _ _ (by kernel_rfl) hA1 (fun x hx => hlt x hx), ?_, hbel.frame _, fun h => by cases h⟩
  · exact trodAll_mk1 (shut_bool Tryz.underlying4 true)
  · rfl

theorem topStatus_row : Rows.TopStatusSaid :=
  OpenClaim.holds_of_wide 3 Tryz.f3 rfl rfl rfl rfl rfl rfl rfl ⟨rfl, rfl, rfl, rfl, rfl⟩ rfl rfl rfl rfl rfl (by kernel_rfl) Tryz.func3 (by kernel_rfl)
    (of_decide_eq_true (by kernel_rfl)) (by unfold Func.isWrapper; rw [if_neg (of_decide_eq_false (by kernel_rfl))]; exact ⟨rfl, rfl⟩)
    (fun os started H enc _ => topStatus_lifted os started H enc)

theorem topStatus_holds : Rows.TopStatusCardSaid :=
  Claim7.holds_tied_plain_at .later [] [.data] true (true, "78b64926809ad20b1227c1ac54f4b1bd12fd22b2398fbe83233a5601e7973ac1") true topStatus_row (fun _ h => by cases h) (by kernel_rfl) (fun _ h => by cases h) topStatus_row_tie rfl ⟨rfl, rfl⟩ (by kernel_rfl) rfl
    (fun f fn hf hfn => by
      obtain rfl : f = 3 := Option.some.inj ((show Tryz.prog.funcNamed "testamur/testamurtop.TopStatus" = some 3 by kernel_rfl).symm.trans hf) |>.symm
      obtain rfl : fn = Tryz.f3 := (Option.some.inj (Tryz.func3.symm.trans hfn)).symm
      refine ⟨by kernel_rfl, fun j t ht => ?_⟩
      rw [Tryz.params3] at ht
      have hm := Array.mem_of_getElem? ht
      simp only [List.mem_toArray, List.mem_cons, List.not_mem_nil, or_false] at hm
      rcases hm with rfl | rfl | rfl | rfl | rfl | rfl | rfl | rfl | rfl
      · exact (show Tryz.prog.wantsStandIn 23 = false by kernel_rfl)
      · exact (show Tryz.prog.wantsStandIn 3 = false by kernel_rfl)
      · exact (show Tryz.prog.wantsStandIn 3 = false by kernel_rfl)
      · exact (show Tryz.prog.wantsStandIn 24 = false by kernel_rfl)
      · exact (show Tryz.prog.wantsStandIn 25 = false by kernel_rfl)
      · exact (show Tryz.prog.wantsStandIn 3 = false by kernel_rfl)
      · exact (show Tryz.prog.wantsStandIn 24 = false by kernel_rfl)
      · exact (show Tryz.prog.wantsStandIn 24 = false by kernel_rfl)
      · exact (show Tryz.prog.wantsStandIn 26 = false by kernel_rfl))
    (by kernel_rfl)

end Go.Proofs.YtjlkadndgajleaaGreatDoor
