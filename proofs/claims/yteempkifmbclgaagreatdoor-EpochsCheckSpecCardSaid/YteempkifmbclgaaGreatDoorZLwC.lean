/-
  THE GIVEN CARD EpochsCheckSpec, PROVED. Conditions: none but the row's own.
-/
import Derived.Test.YteempkifmbclgaaGreatDoorRows
import Derived.Test.YteempkifmbclgaaGreatDoorTie
import Derived.Test.YteempkifmbclgaaGreatDoorCards
import Derived.SevenTiedAt
import Derived.Test.YteempkifmbclgaaGreatDoorM30
import Derived.ProofKit
namespace Go.Proofs.YteempkifmbclgaaGreatDoor
open Go Go.Eng Go.Abs Go.Abs.D2
open Go.ChangeShapes Go.WideShapes Go.ChangeAt Go.RowKit

set_option maxRecDepth 100000 in
theorem epochsCheckSpec_lifted (os : Os) (started : os.Started) (H : Type) (enc : TypeId × Value → H) :
    ReturnsInHanded {} Tryz.checked os 3 .any (fun w args => (Rows.epochsCheckSpecSpec.pre enc Tryz.prog Tryz.f3 Rows.epochsCheckSpecRow.domain false w args ∧ laidMetH Tryz.prog oM w) ∧ sizedMet enc Tryz.prog Tryz.f3 (OpenSpec.ofChange Rows.epochsCheckSpecSpec) false w args) (Rows.epochsCheckSpecSpec.post enc Tryz.prog Tryz.f3 false true false false) := by
  refine returnsInHanded_of_change_and (C := Tryz.checked) (X := fun w _ => laidMetH Tryz.prog oM w) (fun _ _ _ hh h => h.of_heap hh) Tryz.F8 started (by kernel_rfl) Tryz.func3
    (ChangeSpec.witness_shaped (enc := enc) (C := Tryz.checked) (os := os) (X := fun w _ => laidMetH Tryz.prog oM w) false (World.doorLaid Tryz.prog 400 os) #[.agg (List.replicate 32 (.int .u8 0) : List Value).toArray, .int .i64 0, .slice none 0 0] 8 rfl (Dk os _) (by kernel_rfl) (by kernel_rfl) (by kernel_rfl) (Dj os _)) ?_
  intro W base args ds gs before hval0 hW _ _ hL _
  have hval : ∀ (j : Nat) t v, Tryz.f3.params[j]? = some t → args[j]? = some v → Value.okWide Tryz.prog W .any base t v := hval0
  have hW' := hW
  obtain ⟨p, q, hA0, hV, rfl, _, _⟩ := hW
  have hA1 : DataW.TrodAll enc Tryz.prog W 0 (fun _ => true) true Tryz.f3.params.toList args.toList ds p := hA0
  have hA := hA1
  rw [Tryz.params3] at hA hval
  obtain ⟨rfl, rfl⟩ := trodVars_none hV
  obtain ⟨v0, vs0, d0, ds0, q0, r0, hargs, rfl, rfl, h0, t0⟩ := trodAll_cons hA
  obtain ⟨v1, vs1, d1, ds1, q1, r1, rfl, rfl, rfl, h1, t1⟩ := trodAll_cons t0
  obtain ⟨v2, vs2, d2, ds2, q2, r2, rfl, rfl, rfl, h2, t2⟩ := trodAll_cons t1
  obtain ⟨rfl, rfl, rfl⟩ := trodAll_nil t2
  obtain rfl : args = #[v0, v1, v2] := Array.ext' (by simpa using hargs)
  obtain ⟨a0, e0, w0⟩ := nc (.arr 32 (.int .u8)) (by kernel_rfl) (hval 0 23 v0 rfl rfl) h0
  obtain ⟨x0, rfl, p0⟩ := tk a0 e0
  obtain ⟨a1, e1, w1⟩ := nc (.int .i64) (by kernel_rfl) (hval 1 3 v1 rfl rfl) h1
  obtain ⟨x1, rfl, p1⟩ := ma a1 e1
  obtain ⟨a2, e2, w2⟩ := nc (.sl th) (by kernel_rfl) (hval 2 24 v2 rfl rfl) h2
  obtain ⟨x2, rfl, p2⟩ := C9 a2 e2
  refine (CZ (L0 x0 x1 x2 p0 p2.1 p2.2) (El hL) (eV w0 (eV w1 (eV w2 (fM))))).mono fun e W' he => ?_
  obtain ⟨rfl, hbel⟩ := he
  have hlt := fun x hx => hW'.lt x (List.mem_append_left _ hx)
  refine ⟨_, rfl, _, _, _, [], _, [], hW', ?_, yJ Tryz.EM hbel _ _ _ _ (by kernel_rfl) hA1 (fun x hx => hlt x hx), ?_, hbel.frame _, fun h => by cases h⟩
  · exact trodAll_mk1 (shut_bool Tryz.underlying4 true)
  · rfl

theorem epochsCheckSpec_row : Rows.EpochsCheckSpecSaid :=
  OpenClaim.holds_of_wide 3 Tryz.f3 rfl rfl rfl rfl rfl rfl rfl ⟨rfl, rfl, rfl, rfl, rfl⟩ rfl rfl rfl rfl rfl (by kernel_rfl) Tryz.func3 (by kernel_rfl)
    (of_decide_eq_true (by kernel_rfl)) (by unfold Func.isWrapper; rw [if_neg (of_decide_eq_false (by kernel_rfl))]; exact ⟨rfl, rfl⟩)
    (fun os started H enc _ => epochsCheckSpec_lifted os started H enc)

theorem epochsCheckSpec_holds : Rows.EpochsCheckSpecCardSaid :=
  Claim7.holds_tied_plain_at .later [] [.data] true (true, "873cf31b8586f9e7bf06305572a0240db29cbf2ff5a6a10f516cec1777ee1043") true epochsCheckSpec_row (fun _ h => by cases h) (by kernel_rfl) (fun _ h => by cases h) epochsCheckSpec_row_tie rfl ⟨rfl, rfl⟩ (by kernel_rfl) rfl
    (fun f fn hf hfn => by
      obtain rfl : f = 3 := Option.some.inj ((show Tryz.prog.funcNamed "testamur/testamurlaw35.EpochsCheckSpec" = some 3 by kernel_rfl).symm.trans hf) |>.symm
      obtain rfl : fn = Tryz.f3 := (Option.some.inj (Tryz.func3.symm.trans hfn)).symm
      refine ⟨by kernel_rfl, fun j t ht => ?_⟩
      rw [Tryz.params3] at ht
      have hm := Array.mem_of_getElem? ht
      simp only [List.mem_toArray, List.mem_cons, List.not_mem_nil, or_false] at hm
      rcases hm with rfl | rfl | rfl
      · exact (show Tryz.prog.wantsStandIn 23 = false by kernel_rfl)
      · exact (show Tryz.prog.wantsStandIn 3 = false by kernel_rfl)
      · exact (show Tryz.prog.wantsStandIn 24 = false by kernel_rfl))
    (by kernel_rfl)

end Go.Proofs.YteempkifmbclgaaGreatDoor
