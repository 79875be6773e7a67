/-
  THE GIVEN CARD EpochsStatesSpec, PROVED. Conditions: none but the row's own.
-/
import Derived.Test.YteempkifmbclgaaGreatDoorRows
import Derived.Test.YteempkifmbclgaaGreatDoorTie
import Derived.Test.YteempkifmbclgaaGreatDoorCards
import Derived.SevenTiedAt
import Derived.Test.YteempkifmbclgaaGreatDoorM18
import Derived.ProofKit
namespace Go.Proofs.YteempkifmbclgaaGreatDoor
open Go Go.Eng Go.Abs Go.Abs.D2
open Go.ChangeShapes Go.WideShapes Go.ChangeAt Go.RowKit

set_option maxRecDepth 100000 in
theorem epochsStatesSpec_lifted (os : Os) (started : os.Started) (H : Type) (enc : TypeId × Value → H) :
    ReturnsInHanded {} Tryz.checked os 5 .any (fun w args => (Rows.epochsStatesSpecSpec.pre enc Tryz.prog Tryz.f5 Rows.epochsStatesSpecRow.domain false w args ∧ laidMetH Tryz.prog qq w) ∧ sizedMet enc Tryz.prog Tryz.f5 (OpenSpec.ofChange Rows.epochsStatesSpecSpec) false w args) (Rows.epochsStatesSpecSpec.post enc Tryz.prog Tryz.f5 false true false false) := by
  refine returnsInHanded_of_change_and (C := Tryz.checked) (X := fun w _ => laidMetH Tryz.prog qq w) (fun _ _ _ hh h => h.of_heap hh) Tryz.Kf started (by kernel_rfl) Tryz.func5
    (ChangeSpec.witness_shaped (enc := enc) (C := Tryz.checked) (os := os) (X := fun w _ => laidMetH Tryz.prog qq w) false (World.doorLaid Tryz.prog 400 os) #[.slice none 0 0, .int .i64 0, .int .i64 0] 8 rfl (G6 os _) (by kernel_rfl) (by kernel_rfl) (by kernel_rfl) (G5 os _)) ?_
  intro W base args ds gs before hval0 hW _ _ hL _
  have hval : ∀ (j : Nat) t v, Tryz.f5.params[j]? = some t → args[j]? = some v → Value.okWide Tryz.prog W .any base t v := hval0
  have hW' := hW
  obtain ⟨p, q, hA0, hV, rfl, _, _⟩ := hW
  have hA1 : DataW.TrodAll enc Tryz.prog W 0 (fun _ => true) true Tryz.f5.params.toList args.toList ds p := hA0
  have hA := hA1
  rw [Tryz.params5] at hA hval
  obtain ⟨rfl, rfl⟩ := trodVars_none hV
  obtain ⟨v0, vs0, d0, ds0, q0, r0, hargs, rfl, rfl, h0, t0⟩ := trodAll_cons hA
  obtain ⟨v1, vs1, d1, ds1, q1, r1, rfl, rfl, rfl, h1, t1⟩ := trodAll_cons t0
  obtain ⟨v2, vs2, d2, ds2, q2, r2, rfl, rfl, rfl, h2, t2⟩ := trodAll_cons t1
  obtain ⟨rfl, rfl, rfl⟩ := trodAll_nil t2
  obtain rfl : args = #[v0, v1, v2] := Array.ext' (by simpa using hargs)
  obtain ⟨a0, e0, w0⟩ := xL (.sl sn) (by kernel_rfl) (hval 0 24 v0 rfl rfl) h0
  obtain ⟨x0, rfl, p0⟩ := GP a0 e0
  obtain ⟨a1, e1, w1⟩ := xL (.int .i64) (by kernel_rfl) (hval 1 3 v1 rfl rfl) h1
  obtain ⟨x1, rfl, p1⟩ := l7 a1 e1
  obtain ⟨a2, e2, w2⟩ := xL (.int .i64) (by kernel_rfl) (hval 2 3 v2 rfl rfl) h2
  obtain ⟨x2, rfl, p2⟩ := l7 a2 e2
  refine (Gx (IP x0 x1 x2 p0.1 p0.2) (Ie hL) (cZ w0 (cZ w1 (cZ w2 (dB))))).mono fun e W' he => ?_
  obtain ⟨rfl, hbel⟩ := he
  have hlt := fun x hx => hW'.lt x (List.mem_append_left _ hx)
  refine ⟨_, rfl, _, _, _, [], _, [], hW', ?_, yT Tryz.ID hbel _ _ _ _ (by kernel_rfl) hA1 (fun x hx => hlt x hx), ?_, hbel.frame _, fun h => by cases h⟩
  · exact trodAll_mk1 (shut_bool Tryz.underlying4 true)
  · rfl

theorem epochsStatesSpec_row : Rows.EpochsStatesSpecSaid :=
  OpenClaim.holds_of_wide 5 Tryz.f5 rfl rfl rfl rfl rfl rfl rfl ⟨rfl, rfl, rfl, rfl, rfl⟩ rfl rfl rfl rfl rfl (by kernel_rfl) Tryz.func5 (by kernel_rfl)
    (of_decide_eq_true (by kernel_rfl)) (by unfold Func.isWrapper; rw [if_neg (of_decide_eq_false (by kernel_rfl))]; exact ⟨rfl, rfl⟩)
    (fun os started H enc _ => epochsStatesSpec_lifted os started H enc)

theorem epochsStatesSpec_holds : Rows.EpochsStatesSpecCardSaid :=
  Claim7.holds_tied_plain_at .later [] [.data] true (true, "873cf31b8586f9e7bf06305572a0240db29cbf2ff5a6a10f516cec1777ee1043") true epochsStatesSpec_row (fun _ h => by cases h) (by kernel_rfl) (fun _ h => by cases h) epochsStatesSpec_row_tie rfl ⟨rfl, rfl⟩ (by kernel_rfl) rfl
    (fun f fn hf hfn => by
      obtain rfl : f = 5 := Option.some.inj ((show Tryz.prog.funcNamed "testamur/testamurlaw35.EpochsStatesSpec" = some 5 by kernel_rfl).symm.trans hf) |>.symm
      obtain rfl : fn = Tryz.f5 := (Option.some.inj (Tryz.func5.symm.trans hfn)).symm
      refine ⟨by kernel_rfl, fun j t ht => ?_⟩
      rw [Tryz.params5] at ht
      have hm := Array.mem_of_getElem? ht
      simp only [List.mem_toArray, List.mem_cons, List.not_mem_nil, or_false] at hm
      rcases hm with rfl | rfl | rfl
      · exact (show Tryz.prog.wantsStandIn 24 = false by kernel_rfl)
      · exact (show Tryz.prog.wantsStandIn 3 = false by kernel_rfl)
      · exact (show Tryz.prog.wantsStandIn 3 = false by kernel_rfl))
    (by kernel_rfl)

end Go.Proofs.YteempkifmbclgaaGreatDoor
