/-
  THE GIVEN CARD EpochsPublishSpec, PROVED. Conditions: none but the row's own.
-/
import Derived.Test.YteempkifmbclgaaGreatDoorRows
import Derived.Test.YteempkifmbclgaaGreatDoorTie
import Derived.Test.YteempkifmbclgaaGreatDoorCards
import Derived.SevenTiedAt
import Derived.Test.YteempkifmbclgaaGreatDoorM30
import Derived.ProofKit
namespace Go.Proofs.YteempkifmbclgaaGreatDoor
open Go Go.Eng Go.Abs Go.Abs.D2
open Go.ChangeShapes Go.WideShapes Go.ChangeAt Go.RowKit

set_option maxRecDepth 100000 in
theorem epochsPublishSpec_lifted (os : Os) (started : os.Started) (H : Type) (enc : TypeId × Value → H) :
    ReturnsInHanded {} Tryz.checked os 4 .any (fun w args => (Rows.epochsPublishSpecSpec.pre enc Tryz.prog Tryz.f4 Rows.epochsPublishSpecRow.domain false w args ∧ laidMetH Tryz.prog oM w) ∧ sizedMet enc Tryz.prog Tryz.f4 (OpenSpec.ofChange Rows.epochsPublishSpecSpec) false w args) (Rows.epochsPublishSpecSpec.post enc Tryz.prog Tryz.f4 false true false false) := by
  refine returnsInHanded_of_change_and (C := Tryz.checked) (X := fun w _ => laidMetH Tryz.prog oM w) (fun _ _ _ hh h => h.of_heap hh) Tryz.F8 started (by kernel_rfl) Tryz.func4
    (ChangeSpec.witness_shaped (enc := enc) (C := Tryz.checked) (os := os) (X := fun w _ => laidMetH Tryz.prog oM w) false (World.doorLaid Tryz.prog 400 os) #[.agg (List.replicate 32 (.int .u8 0) : List Value).toArray, .int .i64 0, .slice none 0 0, .int .i64 0, .int .i64 0, .slice none 0 0, .slice none 0 0] 8 rfl (Dk os _) (by kernel_rfl) (by kernel_rfl) (by kernel_rfl) (Dj os _)) ?_
  intro W base args ds gs before hval0 hW _ _ hL _
  have hval : ∀ (j : Nat) t v, Tryz.f4.params[j]? = some t → args[j]? = some v → Value.okWide Tryz.prog W .any base t v := hval0
  have hW' := hW
  obtain ⟨p, q, hA0, hV, rfl, _, _⟩ := hW
  have hA1 : DataW.TrodAll enc Tryz.prog W 0 (fun _ => true) true Tryz.f4.params.toList args.toList ds p := hA0
  have hA := hA1
  rw [Tryz.params4] at hA hval
  obtain ⟨rfl, rfl⟩ := trodVars_none hV
  obtain ⟨v0, vs0, d0, ds0, q0, r0, hargs, rfl, rfl, h0, t0⟩ := trodAll_cons hA
  obtain ⟨v1, vs1, d1, ds1, q1, r1, rfl, rfl, rfl, h1, t1⟩ := trodAll_cons t0
  obtain ⟨v2, vs2, d2, ds2, q2, r2, rfl, rfl, rfl, h2, t2⟩ := trodAll_cons t1
  obtain ⟨v3, vs3, d3, ds3, q3, r3, rfl, rfl, rfl, h3, t3⟩ := trodAll_cons t2
  obtain ⟨v4, vs4, d4, ds4, q4, r4, rfl, rfl, rfl, h4, t4⟩ := trodAll_cons t3
  obtain ⟨v5, vs5, d5, ds5, q5, r5, rfl, rfl, rfl, h5, t5⟩ := trodAll_cons t4
  obtain ⟨v6, vs6, d6, ds6, q6, r6, rfl, rfl, rfl, h6, t6⟩ := trodAll_cons t5
  obtain ⟨rfl, rfl, rfl⟩ := trodAll_nil t6
  obtain rfl : args = #[v0, v1, v2, v3, v4, v5, v6] := Array.ext' (by simpa using hargs)
  obtain ⟨a0, e0, w0⟩ := nc (.arr 32 (.int .u8)) (by kernel_rfl) (hval 0 23 v0 rfl rfl) h0
  obtain ⟨x0, rfl, p0⟩ := tk a0 e0
  obtain ⟨a1, e1, w1⟩ := nc (.int .i64) (by kernel_rfl) (hval 1 3 v1 rfl rfl) h1
  obtain ⟨x1, rfl, p1⟩ := ma a1 e1
  obtain ⟨a2, e2, w2⟩ := nc (.sl th) (by kernel_rfl) (hval 2 24 v2 rfl rfl) h2
  obtain ⟨x2, rfl, p2⟩ := C9 a2 e2
  obtain ⟨a3, e3, w3⟩ := nc (.int .i64) (by kernel_rfl) (hval 3 3 v3 rfl rfl) h3
  obtain ⟨x3, rfl, p3⟩ := ma a3 e3
  obtain ⟨a4, e4, w4⟩ := nc (.int .i64) (by kernel_rfl) (hval 4 3 v4 rfl rfl) h4
  obtain ⟨x4, rfl, p4⟩ := ma a4 e4
  obtain ⟨a5, e5, w5⟩ := nc (.sl (.int .i64)) (by kernel_rfl) (hval 5 30 v5 rfl rfl) h5
  obtain ⟨x5, rfl, p5⟩ := Ka a5 e5
  obtain ⟨a6, e6, w6⟩ := nc (.sl tg) (by kernel_rfl) (hval 6 31 v6 rfl rfl) h6
  obtain ⟨x6, rfl, p6⟩ := C8 a6 e6
  refine (CZ (L1 x0 x1 x2 x3 x4 x5 x6 p0 p2.1 p2.2 p3 p4 p6.2) (El hL) (eV w0 (eV w1 (eV w2 (eV w3 (eV w4 (eV w5 (eV w6 (fM))))))))).mono fun e W' he => ?_
  obtain ⟨rfl, hbel⟩ := he
  have hlt := fun x hx => hW'.lt x (List.mem_append_left _ hx)
  refine ⟨_, rfl, _, _, _, [], _, [], hW', ?_, yJ Tryz.EM hbel _ _ _ _ (by kernel_rfl) hA1 (fun x hx => hlt x hx), ?_, hbel.frame _, fun h => by cases h⟩
  · exact trodAll_mk1 (shut_bool Tryz.underlying4 true)
  · rfl

theorem epochsPublishSpec_row : Rows.EpochsPublishSpecSaid :=
  OpenClaim.holds_of_wide 4 Tryz.f4 rfl rfl rfl rfl rfl rfl rfl ⟨rfl, rfl, rfl, rfl, rfl⟩ rfl rfl rfl rfl rfl (by kernel_rfl) Tryz.func4 (by kernel_rfl)
    (of_decide_eq_true (by kernel_rfl)) (by unfold Func.isWrapper; rw [if_neg (of_decide_eq_false (by kernel_rfl))]; exact ⟨rfl, rfl⟩)
    (fun os started H enc _ => epochsPublishSpec_lifted os started H enc)

theorem epochsPublishSpec_holds : Rows.EpochsPublishSpecCardSaid :=
  Claim7.holds_tied_plain_at .later [] [.data] true (true, "873cf31b8586f9e7bf06305572a0240db29cbf2ff5a6a10f516cec1777ee1043") true epochsPublishSpec_row (fun _ h => by cases h) (by kernel_rfl) (fun _ h => by cases h) epochsPublishSpec_row_tie rfl ⟨rfl, rfl⟩ (by kernel_rfl) rfl
    (fun f fn hf hfn => by
      obtain rfl : f = 4 := Option.some.inj ((show Tryz.prog.funcNamed "testamur/testamurlaw35.EpochsPublishSpec" = some 4 by kernel_rfl).symm.trans hf) |>.symm
      obtain rfl : fn = Tryz.f4 := (Option.some.inj (Tryz.func4.symm.trans hfn)).symm
      refine ⟨by kernel_rfl, fun j t ht => ?_⟩
      rw [Tryz.params4] at ht
      have hm := Array.mem_of_getElem? ht
      simp only [List.mem_toArray, List.mem_cons, List.not_mem_nil, or_false] at hm
      rcases hm with rfl | rfl | rfl | rfl | rfl | rfl | rfl
      · exact (show Tryz.prog.wantsStandIn 23 = false by kernel_rfl)
      · exact (show Tryz.prog.wantsStandIn 3 = false by kernel_rfl)
      · exact (show Tryz.prog.wantsStandIn 24 = false by kernel_rfl)
      · exact (show Tryz.prog.wantsStandIn 3 = false by kernel_rfl)
      · exact (show Tryz.prog.wantsStandIn 3 = false by kernel_rfl)
      · exact (show Tryz.prog.wantsStandIn 30 = false by kernel_rfl)
      · exact (show Tryz.prog.wantsStandIn 31 = false by kernel_rfl))
    (by kernel_rfl)

end Go.Proofs.YteempkifmbclgaaGreatDoor
