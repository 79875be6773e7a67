/-
  THE GIVEN CARD EpochsLinked, PROVED. Conditions: none but the row's own.
-/
import Derived.Test.YteempkifmbclgaaGreatDoorRows
import Derived.Test.YteempkifmbclgaaGreatDoorTie
import Derived.Test.YteempkifmbclgaaGreatDoorCards
import Derived.SevenTiedAt
import Derived.Test.YteempkifmbclgaaGreatDoorM18
import Derived.ProofKit
namespace Go.Proofs.YteempkifmbclgaaGreatDoor
open Go Go.Eng Go.Abs Go.Abs.D2
open Go.ChangeShapes Go.WideShapes Go.ChangeAt Go.RowKit

set_option maxRecDepth 100000 in
theorem epochsLinked_lifted (os : Os) (started : os.Started) (H : Type) (enc : TypeId × Value → H) :
    ReturnsInHanded {} Tryz.checked os 10 .any (fun w args => (Rows.epochsLinkedSpec.pre enc Tryz.prog Tryz.f10 Rows.epochsLinkedRow.domain false w args ∧ laidMetH Tryz.prog laidL w) ∧ sizedMet enc Tryz.prog Tryz.f10 (OpenSpec.ofChange Rows.epochsLinkedSpec) false w args) (Rows.epochsLinkedSpec.post enc Tryz.prog Tryz.f10 false true false false) := by
  refine returnsInHanded_of_change_and (C := Tryz.checked) (X := fun w _ => laidMetH Tryz.prog laidL w) (fun _ _ _ hh h => h.of_heap hh) Tryz.ownK started (by kernel_rfl) Tryz.func10
    (ChangeSpec.witness_shaped (enc := enc) (C := Tryz.checked) (os := os) (X := fun w _ => laidMetH Tryz.prog laidL w) false (World.doorLaid Tryz.prog 400 os) #[.agg (List.replicate 32 (.int .u8 0) : List Value).toArray, .int .i64 0, .int .i64 0, .slice none 0 0, .slice none 0 0, .int .u64 0, .int .u8 0, .int .i8 0] 8 rfl (door_shaped os _) (by kernel_rfl) (by kernel_rfl) (by kernel_rfl) (door_met os _)) ?_
  intro W base args ds gs before hval0 hW _ _ hL _
  have hval : ∀ (j : Nat) t v, Tryz.f10.params[j]? = some t → args[j]? = some v → Value.okWide Tryz.prog W .any base t v := hval0
  have hW' := hW
  obtain ⟨p, q, hA0, hV, rfl, _, _⟩ := hW
  have hA1 : DataW.TrodAll enc Tryz.prog W 0 (fun _ => true) true Tryz.f10.params.toList args.toList ds p := hA0
  have hA := hA1
  rw [Tryz.params10] at hA hval
  obtain ⟨rfl, rfl⟩ := trodVars_none hV
  obtain ⟨v0, vs0, d0, ds0, q0, r0, hargs, rfl, rfl, h0, t0⟩ := trodAll_cons hA
  obtain ⟨v1, vs1, d1, ds1, q1, r1, rfl, rfl, rfl, h1, t1⟩ := trodAll_cons t0
  obtain ⟨v2, vs2, d2, ds2, q2, r2, rfl, rfl, rfl, h2, t2⟩ := trodAll_cons t1
  obtain ⟨v3, vs3, d3, ds3, q3, r3, rfl, rfl, rfl, h3, t3⟩ := trodAll_cons t2
  obtain ⟨v4, vs4, d4, ds4, q4, r4, rfl, rfl, rfl, h4, t4⟩ := trodAll_cons t3
  obtain ⟨v5, vs5, d5, ds5, q5, r5, rfl, rfl, rfl, h5, t5⟩ := trodAll_cons t4
  obtain ⟨v6, vs6, d6, ds6, q6, r6, rfl, rfl, rfl, h6, t6⟩ := trodAll_cons t5
  obtain ⟨v7, vs7, d7, ds7, q7, r7, rfl, rfl, rfl, h7, t7⟩ := trodAll_cons t6
  obtain ⟨rfl, rfl, rfl⟩ := trodAll_nil t7
  obtain rfl : args = #[v0, v1, v2, v3, v4, v5, v6, v7] := Array.ext' (by simpa using hargs)
  obtain ⟨a0, e0, w0⟩ := row_D (.arr 32 (.int .u8)) (by kernel_rfl) (hval 0 23 v0 rfl rfl) h0
  obtain ⟨x0, rfl, p0⟩ := den_arr8 a0 e0
  obtain ⟨a1, e1, w1⟩ := row_D (.int .i64) (by kernel_rfl) (hval 1 3 v1 rfl rfl) h1
  obtain ⟨x1, rfl, p1⟩ := den_int a1 e1
  obtain ⟨a2, e2, w2⟩ := row_D (.int .i64) (by kernel_rfl) (hval 2 3 v2 rfl rfl) h2
  obtain ⟨x2, rfl, p2⟩ := den_int a2 e2
  obtain ⟨a3, e3, w3⟩ := row_D (.sl (.int .i64)) (by kernel_rfl) (hval 3 30 v3 rfl rfl) h3
  obtain ⟨x3, rfl, p3⟩ := den_ints a3 e3
  obtain ⟨a4, e4, w4⟩ := row_D (.sl dSp) (by kernel_rfl) (hval 4 48 v4 rfl rfl) h4
  obtain ⟨x4, rfl, p4⟩ := den_steps a4 e4
  obtain ⟨a5, e5, w5⟩ := row_D (.int .u64) (by kernel_rfl) (hval 5 74 v5 rfl rfl) h5
  obtain ⟨x5, rfl, p5⟩ := den_u64w a5 e5
  obtain ⟨a6, e6, w6⟩ := row_D (.int .u8) (by kernel_rfl) (hval 6 5 v6 rfl rfl) h6
  obtain ⟨x6, rfl, p6⟩ := den_u8 a6 e6
  obtain ⟨a7, e7, w7⟩ := row_D (.int .i8) (by kernel_rfl) (hval 7 75 v7 rfl rfl) h7
  obtain ⟨x7, rfl, p7⟩ := den_i8w a7 e7
  refine (con_true (law_link x0 x1 x2 x3 x4 x5 x6 x7 p0 p2 p4.1 p4.2 p7) (gl_of_laid hL) (VS_cons w0 (VS_cons w1 (VS_cons w2 (VS_cons w3 (VS_cons w4 (VS_cons w5 (VS_cons w6 (VS_cons w7 (VS_nil)))))))))).mono fun e W' he => ?_
  obtain ⟨rfl, hbel⟩ := he
  have hlt := fun x hx => hW'.lt x (List.mem_append_left _ hx)
  refine ⟨_, rfl, _, _, _, [], _, [], hW', ?_, args_stay Tryz.laidOutK hbel _ _ _ _ (by kernel_rfl) hA1 (fun x hx => hlt x hx), ?_, hbel.frame _, fun h => by cases h⟩
  · exact trodAll_mk1 (shut_bool Tryz.underlying4 true)
  · rfl

theorem epochsLinked_row : Rows.EpochsLinkedSaid :=
  OpenClaim.holds_of_wide 10 Tryz.f10 rfl rfl rfl rfl rfl rfl rfl ⟨rfl, rfl, rfl, rfl, rfl⟩ rfl rfl rfl rfl rfl (by kernel_rfl) Tryz.func10 (by kernel_rfl)
    (of_decide_eq_true (by kernel_rfl)) (by unfold Func.isWrapper; rw [if_neg (of_decide_eq_false (by kernel_rfl))]; exact ⟨rfl, rfl⟩)
    (fun os started H enc _ => epochsLinked_lifted os started H enc)

theorem epochsLinked_holds : Rows.EpochsLinkedCardSaid :=
  Claim7.holds_tied_plain_at .later [] [.data] true (true, "873cf31b8586f9e7bf06305572a0240db29cbf2ff5a6a10f516cec1777ee1043") true epochsLinked_row (fun _ h => by cases h) (by kernel_rfl) (fun _ h => by cases h) epochsLinked_row_tie rfl ⟨rfl, rfl⟩ (by kernel_rfl) rfl
    (fun f fn hf hfn => by
      obtain rfl : f = 10 := Option.some.inj ((show Tryz.prog.funcNamed "testamur/testamurlaw35.EpochsLinked" = some 10 by kernel_rfl).symm.trans hf) |>.symm
      obtain rfl : fn = Tryz.f10 := (Option.some.inj (Tryz.func10.symm.trans hfn)).symm
      refine ⟨by kernel_rfl, fun j t ht => ?_⟩
      rw [Tryz.params10] at ht
      have hm := Array.mem_of_getElem? ht
      simp only [List.mem_toArray, List.mem_cons, List.not_mem_nil, or_false] at hm
      rcases hm with rfl | rfl | rfl | rfl | rfl | rfl | rfl | rfl
      · exact (show Tryz.prog.wantsStandIn 23 = false by kernel_rfl)
      · exact (show Tryz.prog.wantsStandIn 3 = false by kernel_rfl)
      · exact (show Tryz.prog.wantsStandIn 3 = false by kernel_rfl)
      · exact (show Tryz.prog.wantsStandIn 30 = false by kernel_rfl)
      · exact (show Tryz.prog.wantsStandIn 48 = false by kernel_rfl)
      · exact (show Tryz.prog.wantsStandIn 74 = false by kernel_rfl)
      · exact (show Tryz.prog.wantsStandIn 5 = false by kernel_rfl)
      · exact (show Tryz.prog.wantsStandIn 75 = false by kernel_rfl))
    (by kernel_rfl)

end Go.Proofs.YteempkifmbclgaaGreatDoor
