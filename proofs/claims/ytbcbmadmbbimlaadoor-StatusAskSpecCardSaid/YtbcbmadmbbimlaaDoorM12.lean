/-
  The engine, the plain laws and the walks that the rows need, part 12. Conditions: none.
-/
import Derived.Test.YtbcbmadmbbimlaaDoorM11
import Derived.Test.YtbcbmadmbbimlaaDoorRows
import Derived.LaidHandle
import Derived.LaidLaws
import Derived.MakeChecks

/-! Laid -/
namespace Go.Proofs.YtbcbmadmbbimlaaDoor
open Go Go.Abs
open Go.ChangeShapes Go.WideShapes Go.ChangeAt Go.RowKit
abbrev laidL : List (String × DataW Unit) := [("testamur/digest.constants", Rows.laid_testamur_digest_constants)]
theorem Tryd.ownK : ownKnob Tryd.prog.godebug = none := by kernel_rfl
theorem Tryd.laidOutK : laidOutB Tryd.prog = true := by kernel_rfl
theorem door_met (os : Os) (args : Array Value) : laidMetH Tryd.prog laidL ((World.doorLaid Tryd.prog 400 os).forCall (fun _ _ => 0) ⟨#[], args, []⟩).memory :=
  laidMetH_of_parts3 (fuel := 8) (laidMet_of_run' 8 (by kernel_rfl) (by kernel_rfl)) (by kernel_rfl) (by kernel_rfl)
theorem door_shaped (os : Os) (args : Array Value) : ((World.doorLaid Tryd.prog 400 os).forCall (fun _ _ => 0) ⟨#[], args, []⟩).Shaped Tryd.prog := World.shaped_of_RefB (by kernel_rfl) (by kernel_rfl)
theorem gl_of_laid {W : World} (h : laidMetH Tryd.prog laidL W) : GL (XW W) W := by
  rw [MakeChecks.laidMetH_plain _ _ _ (by kernel_rfl)] at h
  obtain ⟨ps, ⟨g0, t0, cs0, f0, p0, q0, hg0, ht0, hv0, hd0, _, _⟩, _, _⟩ := h
  obtain rfl := Option.some.inj ((show Tryd.prog.globalNamed "testamur/digest.constants" = some 0 by kernel_rfl).symm.trans hg0)
  obtain rfl := Option.some.inj ((show (Tryd.prog.globals[0]?).map (·.type) = some 142 by kernel_rfl).symm.trans ht0)
  obtain ⟨l, hl⟩ : ∃ l : List Int, glob = [(0, l.map (Value.int .u32))] ∧ (Rows.laid_testamur_digest_constants : DataW Unit) = .agg (l.map fun i => .lit (.int .u32 i)) := ⟨[1116352408, 1899447441, 3049323471, 3921009573, 961987163, 1508970993, 2453635748, 2870763221, 3624381080, 310598401, 607225278, 1426881987, 1925078388, 2162078206, 2614888103, 3248222580, 3835390401, 4022224774, 264347078, 604807628, 770255983, 1249150122, 1555081692, 1996064986, 2554220882, 2821834349, 2952996808, 3210313671, 3336571891, 3584528711, 113926993, 338241895, 666307205, 773529912, 1294757372, 1396182291, 1695183700, 1986661051, 2177026350, 2456956037, 2730485921, 2820302411, 3259730800, 3345764771, 3516065817, 3600352804, 4094571909, 275423344, 430227734, 506948616, 659060556, 883997877, 958139571, 1322822218, 1537002063, 1747873779, 1955562222, 2024104815, 2227730452, 2361852424, 2428436474, 2756734187, 3204031479, 3329325298], by kernel_rfl, by kernel_rfl⟩
  rw [hl.2] at hd0
  have hcs := arr_lits (P := Tryd.prog) Tryd.underlying142 Tryd.underlying135 (by kernel_rfl) (by kernel_rfl) hd0
  intro g vs hg j v hj
  rw [hl.1] at hg
  simp only [List.mem_singleton, Prod.mk.injEq] at hg
  obtain ⟨rfl, rfl⟩ := hg
  have hc : W.cell? ⟨0, j, none⟩ = some v := by
    rw [World.var?_cell hg0 hv0 j, ← Array.getElem?_toList, hcs]; exact hj
  obtain ⟨i, _, rfl⟩ := List.mem_map.1 (List.mem_of_getElem? hj)
  exact ⟨⟨_, hc⟩, hc, rfl⟩
end Go.Proofs.YtbcbmadmbbimlaaDoor

/-! S7K -/
namespace Go.Abs.D2
open Go Go.Eng Go.Abs Go.Proofs 
set_option linter.unusedSimpArgs false in
set_option linter.unusedVariables false in
set_option maxHeartbeats 1000000 in
set_option maxRecDepth 10000 in
theorem law_spec37 (c : Cas) (hx : c.x.length = 32) (hn : c.E.length ≤ maxLen) (id : Int) (bl : List (List UInt8)) (hbn : bl.length ≤ maxLen) : Con Tryd.prog 3 [.ag (casL c), .i .i64 id, .fz bl.length (bl.map V6.slV)] (Ret (.b true)) := by
  refine enter Tryd.func3 rfl Tryd.ntmps3 (by kernel_rfl) (Nat.le_of_ble_eq_true rfl) fun w0 X0 hI => ?_
  refine at_seq ?_
  refine at_region ?_
  refine at_op rfl (n_boxA 3 rfl rfl rfl ?_)
  refine s1 (y_p rfl) rfl <| ?_
  refine at_nil ?_
  refine x_tn ?_
  refine at_seq ?_
  refine at_seq ?_
  refine at_region ?_
  refine at_op rfl (n_call false rfl (.nil) (sane_ok) pu (.inl rfl) rfl ?_)
  refine s1 (y_p rfl) rfl <| ?_
  refine at_nil ?_
  refine x_tn ?_
  refine at_else rfl ?_
  refine at_skip ?_
  refine x_tn ?_
  refine at_seq ?_
  refine at_seq ?_
  rcases few3 (fewC c) (V6.few bl 140) with hcs | hcs | hcs
  · skip
    refine at_region ?_
    refine s1 (y_loadA0 ti27 rfl rfl (cas_len hx)) rfl <| ?_
    refine at_op rfl (n_call false rfl (.cons (.pure pu) (.nil)) (Con.cast (sfew_ok c hx) (congrArg A.b hcs)) pu (.inl rfl) rfl ?_)
    refine s1 (y_p rfl) rfl <| s1 (y_p rfl) rfl <| g0 rfl rfl rfl rfl <| g0 rfl rfl rfl rfl <| g0 rfl rfl rfl rfl <| s1 (y_p rfl) rfl <| ?_
    refine at_nil ?_
    refine x_tn ?_
    refine at_then rfl ?_
    refine at_seq ?_
    refine at_region ?_
    refine s1 (y_p rfl) rfl <| ?_
    refine at_nil ?_
    refine x_tn ?_
    refine at_ret ?_
    refine x_tr ?_
    refine at_result (rs := [.tmp 6]) rfl (r_tmp rfl r_nil) ?_
    rfl
  · obtain ⟨hf, hq⟩ := hcs
    refine at_region ?_
    refine s1 (y_loadA0 ti27 rfl rfl (cas_len hx)) rfl <| ?_
    refine at_op rfl (n_call false rfl (.cons (.pure pu) (.nil)) (Con.cast (sfew_ok c hx) (congrArg A.b hf)) pu (.inl rfl) rfl ?_)
    refine s1 (y_p rfl) rfl <| s1 (y_p rfl) rfl <| g1 rfl rfl (y_p rfl) rfl <| ?_
    refine at_opg rfl rfl rfl (n_call false rfl (.cons (.pure pu) (.cons (.pure pu) (.nil))) (Con.cast (few36_ok bl 140 hbn) (congrArg A.b hq)) pu (.inl rfl) rfl ?_)
    refine g1 rfl rfl (y_p rfl) rfl <| s1 (y_p rfl) rfl <| ?_
    refine at_nil ?_
    refine x_tn ?_
    refine at_then rfl ?_
    refine at_seq ?_
    refine at_region ?_
    refine s1 (y_p rfl) rfl <| ?_
    refine at_nil ?_
    refine x_tn ?_
    refine at_ret ?_
    refine x_tr ?_
    refine at_result (rs := [.tmp 6]) rfl (r_tmp rfl r_nil) ?_
    rfl
  · obtain ⟨hf, hq⟩ := hcs
    obtain ⟨hF20, hD6, _⟩ := fewC_spec hf
    have hDD : ∀ f ∈ c.F, f.D.length ≤ 1000 := fun f hf => Nat.le_trans (hD6 f hf) (by omega)
    refine at_region ?_
    refine s1 (y_loadA0 ti27 rfl rfl (cas_len hx)) rfl <| ?_
    refine at_op rfl (n_call false rfl (.cons (.pure pu) (.nil)) (Con.cast (sfew_ok c hx) (congrArg A.b hf)) pu (.inl rfl) rfl ?_)
    refine s1 (y_p rfl) rfl <| s1 (y_p rfl) rfl <| g1 rfl rfl (y_p rfl) rfl <| ?_
    refine at_opg rfl rfl rfl (n_call false rfl (.cons (.pure pu) (.cons (.pure pu) (.nil))) (Con.cast (few36_ok bl 140 hbn) (congrArg A.b hq)) pu (.inl rfl) rfl ?_)
    refine g1 rfl rfl (y_p rfl) rfl <| s1 (y_p rfl) rfl <| ?_
    refine at_nil ?_
    refine x_tn ?_
    refine at_else rfl ?_
    refine at_skip ?_
    refine x_tn ?_
    refine at_seq ?_
    rcases bl_form c with hcs | hcs
    · have hB := hcs
      refine at_region ?_
      refine s1 (y_loadA0 ti27 rfl rfl (cas_len hx)) rfl <| ?_
      refine at_op rfl (n_call false rfl (.cons (.pure pu) (.nil)) (Con.cast (sblocks_ok c hx hn) hB) pu (.inl rfl) rfl ?_)
      refine s1 (y_p rfl) rfl <| s1 (y_p rfl) rfl <| s1 (y_p rfl) rfl <| s1 (y_p rfl) rfl <| s1 (y_p rfl) rfl <| ?_
      refine at_nil ?_
      refine x_tn ?_
      refine at_seq ?_
      refine at_region ?_
      refine s1 (y_loadA0 ti27 rfl rfl (cas_len hx)) rfl <| ?_
      refine at_op rfl (n_call false rfl (.cons (.pure pu) (.nil)) (Con.cast (rblocks_ok c hx hn hDD) hB) pu (.inl rfl) rfl ?_)
      refine s1 (y_p rfl) rfl <| s1 (y_p rfl) rfl <| s1 (y_p rfl) rfl <| s1 (y_p rfl) rfl <| s1 (y_p rfl) rfl <| ?_
      refine at_nil ?_
      refine x_tn ?_
      refine at_seq ?_
      rcases whr_form c id with hcs | hcs
      · have hW := hcs
        refine at_region ?_
        refine s1 (y_loadA0 ti27 rfl rfl (cas_len hx)) rfl <| s1 (y_p rfl) rfl <| ?_
        refine at_op rfl (n_call false rfl (.cons (.pure pu) (.cons (.pure pu) (.nil))) (Con.cast (swhere_ok c hx id) hW) pu (.inl rfl) rfl ?_)
        refine s1 (y_p rfl) rfl <| s1 (y_p rfl) rfl <| s1 (y_p rfl) rfl <| s1 (y_p rfl) rfl <| s1 (y_p rfl) rfl <| ?_
        refine at_nil ?_
        refine x_tn ?_
        refine at_seq ?_
        refine at_region ?_
        refine s1 (y_loadA0 ti27 rfl rfl (cas_len hx)) rfl <| s1 (y_p rfl) rfl <| ?_
        refine at_op rfl (n_call false rfl (.cons (.pure pu) (.cons (.pure pu) (.nil))) (Con.cast (rwhere_ok c hx (by omega) id) hW) pu (.inl rfl) rfl ?_)
        refine s1 (y_p rfl) rfl <| s1 (y_p rfl) rfl <| s1 (y_p rfl) rfl <| s1 (y_p rfl) rfl <| s1 (y_p rfl) rfl <| ?_
        refine at_nil ?_
        refine x_tn ?_
        refine at_seq ?_
        obtain ⟨v, e, hR⟩ := rd_form c id bl
        refine at_region ?_
        refine s1 (y_loadA0 ti27 rfl rfl (cas_len hx)) rfl <| s1 (y_p rfl) rfl <| s1 (y_p rfl) rfl <| ?_
        refine at_op rfl (n_call false rfl (.cons (.pure pu) (.cons (.pure pu) (.cons (.pure pu) (.nil)))) (Con.cast (sread_ok c hx id bl) hR) pu (.inl rfl) rfl ?_)
        refine s1 (y_p rfl) rfl <| s1 (y_p rfl) rfl <| s1 (y_p rfl) rfl <| s1 (y_p rfl) rfl <| s1 (y_p rfl) rfl <| ?_
        refine at_nil ?_
        refine x_tn ?_
        refine at_seq ?_
        refine at_region ?_
        refine s1 (y_loadA0 ti27 rfl rfl (cas_len hx)) rfl <| s1 (y_p rfl) rfl <| s1 (y_p rfl) rfl <| ?_
        refine at_op rfl (n_call false rfl (.cons (.pure pu) (.cons (.pure pu) (.cons (.pure pu) (.nil)))) (Con.cast (rread_ok c hx (by omega) id bl hbn) hR) pu (.inl rfl) rfl ?_)
        refine s1 (y_p rfl) rfl <| s1 (y_p rfl) rfl <| s1 (y_p rfl) rfl <| s1 (y_p rfl) rfl <| s1 (y_p rfl) rfl <| ?_
        refine at_nil ?_
        refine x_tn ?_
        refine at_seq ?_
        refine at_region ?_
        refine s1 (y_p rfl) rfl <| s1 (y_p rfl) rfl <| ?_
        refine at_op rfl (n_call false rfl (.cons .nl (.cons .nl (.nil))) (Con.cast (same36_ok [] [] (by decide)) (congrArg A.b (beq_self_eq_true _))) pu (.inl rfl) rfl ?_)
        refine s1 (y_p rfl) rfl <| g1 rfl rfl (y_p rfl) rfl <| g1 rfl rfl (y_p rfl) rfl <| g1 rfl rfl ((y_p rfl).v (v' := .b true) (congrArg A.b (by simp))) rfl <| s1 (y_p rfl) rfl <| s1 (y_p rfl) rfl <| g1 rfl rfl (y_p rfl) rfl <| g1 rfl rfl (y_p rfl) rfl <| ?_
        refine at_opg rfl rfl rfl (n_call false rfl (.cons .nl (.cons .nl (.nil))) (Con.cast (sameI_ok [] [] (by decide)) (congrArg A.b (beq_self_eq_true _))) pu (.inl rfl) rfl ?_)
        refine s1 (y_p rfl) rfl <| s1 (y_p rfl) rfl <| g1 rfl rfl (y_p rfl) rfl <| g1 rfl rfl (y_p rfl) rfl <| g1 rfl rfl ((y_p rfl).v (v' := .b true) (congrArg A.b (by simp))) rfl <| s1 (y_p rfl) rfl <| s1 (y_p rfl) rfl <| g1 rfl rfl (y_p rfl) rfl <| g1 rfl rfl (y_p rfl) rfl <| g1 rfl rfl ((y_eqb Tryd.underlying4 rfl rfl).v (v' := .b true) (congrArg A.b (by simp))) rfl <| ?_
        refine s1 (y_p rfl) rfl <| s1 (y_p rfl) rfl <| g1 rfl rfl (y_p rfl) rfl <| g1 rfl rfl (y_p rfl) rfl <| g1 rfl rfl ((y_p rfl).v (v' := .b true) (congrArg A.b (by simp))) rfl <| s1 (y_p rfl) rfl <| s1 (y_p rfl) rfl <| ?_
        refine at_nil ?_
        refine x_tn ?_
        refine at_ret ?_
        refine at_result (rs := [.tmp 6]) rfl (r_tmp rfl r_nil) ?_
        rfl
      · obtain ⟨W, hWl, hW⟩ := hcs
        refine at_region ?_
        refine s1 (y_loadA0 ti27 rfl rfl (cas_len hx)) rfl <| s1 (y_p rfl) rfl <| ?_
        refine at_op rfl (n_call false rfl (.cons (.pure pu) (.cons (.pure pu) (.nil))) (Con.cast (swhere_ok c hx id) hW) pu (.inl rfl) rfl ?_)
        refine s1 (y_p rfl) rfl <| s1 (y_p rfl) rfl <| s1 (y_p rfl) rfl <| s1 (y_p rfl) rfl <| s1 (y_p rfl) rfl <| ?_
        refine at_nil ?_
        refine x_tn ?_
        refine at_seq ?_
        refine at_region ?_
        refine s1 (y_loadA0 ti27 rfl rfl (cas_len hx)) rfl <| s1 (y_p rfl) rfl <| ?_
        refine at_op rfl (n_call false rfl (.cons (.pure pu) (.cons (.pure pu) (.nil))) (Con.cast (rwhere_ok c hx (by omega) id) hW) pu (.inl rfl) rfl ?_)
        refine s1 (y_p rfl) rfl <| s1 (y_p rfl) rfl <| s1 (y_p rfl) rfl <| s1 (y_p rfl) rfl <| s1 (y_p rfl) rfl <| ?_
        refine at_nil ?_
        refine x_tn ?_
        refine at_seq ?_
        obtain ⟨v, e, hR⟩ := rd_form c id bl
        refine at_region ?_
        refine s1 (y_loadA0 ti27 rfl rfl (cas_len hx)) rfl <| s1 (y_p rfl) rfl <| s1 (y_p rfl) rfl <| ?_
        refine at_op rfl (n_call false rfl (.cons (.pure pu) (.cons (.pure pu) (.cons (.pure pu) (.nil)))) (Con.cast (sread_ok c hx id bl) hR) pu (.inl rfl) rfl ?_)
        refine s1 (y_p rfl) rfl <| s1 (y_p rfl) rfl <| s1 (y_p rfl) rfl <| s1 (y_p rfl) rfl <| s1 (y_p rfl) rfl <| ?_
        refine at_nil ?_
        refine x_tn ?_
        refine at_seq ?_
        refine at_region ?_
        refine s1 (y_loadA0 ti27 rfl rfl (cas_len hx)) rfl <| s1 (y_p rfl) rfl <| s1 (y_p rfl) rfl <| ?_
        refine at_op rfl (n_call false rfl (.cons (.pure pu) (.cons (.pure pu) (.cons (.pure pu) (.nil)))) (Con.cast (rread_ok c hx (by omega) id bl hbn) hR) pu (.inl rfl) rfl ?_)
        refine s1 (y_p rfl) rfl <| s1 (y_p rfl) rfl <| s1 (y_p rfl) rfl <| s1 (y_p rfl) rfl <| s1 (y_p rfl) rfl <| ?_
        refine at_nil ?_
        refine x_tn ?_
        refine at_seq ?_
        refine at_region ?_
        refine s1 (y_p rfl) rfl <| s1 (y_p rfl) rfl <| ?_
        refine at_op rfl (n_call false rfl (.cons .nl (.cons .nl (.nil))) (Con.cast (same36_ok [] [] (by decide)) (congrArg A.b (beq_self_eq_true _))) pu (.inl rfl) rfl ?_)
        refine s1 (y_p rfl) rfl <| g1 rfl rfl (y_p rfl) rfl <| g1 rfl rfl (y_p rfl) rfl <| g1 rfl rfl ((y_p rfl).v (v' := .b true) (congrArg A.b (by simp))) rfl <| s1 (y_p rfl) rfl <| s1 (y_p rfl) rfl <| g1 rfl rfl (y_p rfl) rfl <| g1 rfl rfl (y_p rfl) rfl <| ?_
        refine at_opg rfl rfl rfl (n_call false rfl (.cons (.pure pu) (.cons (.pure pu) (.nil))) (Con.cast (sameI_ok W W (by omega)) (congrArg A.b (beq_self_eq_true _))) pu (.inl rfl) rfl ?_)
        refine s1 (y_p rfl) rfl <| s1 (y_p rfl) rfl <| g1 rfl rfl (y_p rfl) rfl <| g1 rfl rfl (y_p rfl) rfl <| g1 rfl rfl ((y_p rfl).v (v' := .b true) (congrArg A.b (by simp))) rfl <| s1 (y_p rfl) rfl <| s1 (y_p rfl) rfl <| g1 rfl rfl (y_p rfl) rfl <| g1 rfl rfl (y_p rfl) rfl <| g1 rfl rfl ((y_eqb Tryd.underlying4 rfl rfl).v (v' := .b true) (congrArg A.b (by simp))) rfl <| ?_
        refine s1 (y_p rfl) rfl <| s1 (y_p rfl) rfl <| g1 rfl rfl (y_p rfl) rfl <| g1 rfl rfl (y_p rfl) rfl <| g1 rfl rfl ((y_p rfl).v (v' := .b true) (congrArg A.b (by simp))) rfl <| s1 (y_p rfl) rfl <| s1 (y_p rfl) rfl <| ?_
        refine at_nil ?_
        refine x_tn ?_
        refine at_ret ?_
        refine at_result (rs := [.tmp 6]) rfl (r_tmp rfl r_nil) ?_
        rfl
    · obtain ⟨db, hdl, hB⟩ := hcs
      refine at_region ?_
      refine s1 (y_loadA0 ti27 rfl rfl (cas_len hx)) rfl <| ?_
      refine at_op rfl (n_call false rfl (.cons (.pure pu) (.nil)) (Con.cast (sblocks_ok c hx hn) hB) pu (.inl rfl) rfl ?_)
      refine s1 (y_p rfl) rfl <| s1 (y_p rfl) rfl <| s1 (y_p rfl) rfl <| s1 (y_p rfl) rfl <| s1 (y_p rfl) rfl <| ?_
      refine at_nil ?_
      refine x_tn ?_
      refine at_seq ?_
      refine at_region ?_
      refine s1 (y_loadA0 ti27 rfl rfl (cas_len hx)) rfl <| ?_
      refine at_op rfl (n_call false rfl (.cons (.pure pu) (.nil)) (Con.cast (rblocks_ok c hx hn hDD) hB) pu (.inl rfl) rfl ?_)
      refine s1 (y_p rfl) rfl <| s1 (y_p rfl) rfl <| s1 (y_p rfl) rfl <| s1 (y_p rfl) rfl <| s1 (y_p rfl) rfl <| ?_
      refine at_nil ?_
      refine x_tn ?_
      refine at_seq ?_
      rcases whr_form c id with hcs | hcs
      · have hW := hcs
        refine at_region ?_
        refine s1 (y_loadA0 ti27 rfl rfl (cas_len hx)) rfl <| s1 (y_p rfl) rfl <| ?_
        refine at_op rfl (n_call false rfl (.cons (.pure pu) (.cons (.pure pu) (.nil))) (Con.cast (swhere_ok c hx id) hW) pu (.inl rfl) rfl ?_)
        refine s1 (y_p rfl) rfl <| s1 (y_p rfl) rfl <| s1 (y_p rfl) rfl <| s1 (y_p rfl) rfl <| s1 (y_p rfl) rfl <| ?_
        refine at_nil ?_
        refine x_tn ?_
        refine at_seq ?_
        refine at_region ?_
        refine s1 (y_loadA0 ti27 rfl rfl (cas_len hx)) rfl <| s1 (y_p rfl) rfl <| ?_
        refine at_op rfl (n_call false rfl (.cons (.pure pu) (.cons (.pure pu) (.nil))) (Con.cast (rwhere_ok c hx (by omega) id) hW) pu (.inl rfl) rfl ?_)
        refine s1 (y_p rfl) rfl <| s1 (y_p rfl) rfl <| s1 (y_p rfl) rfl <| s1 (y_p rfl) rfl <| s1 (y_p rfl) rfl <| ?_
        refine at_nil ?_
        refine x_tn ?_
        refine at_seq ?_
        obtain ⟨v, e, hR⟩ := rd_form c id bl
        refine at_region ?_
        refine s1 (y_loadA0 ti27 rfl rfl (cas_len hx)) rfl <| s1 (y_p rfl) rfl <| s1 (y_p rfl) rfl <| ?_
        refine at_op rfl (n_call false rfl (.cons (.pure pu) (.cons (.pure pu) (.cons (.pure pu) (.nil)))) (Con.cast (sread_ok c hx id bl) hR) pu (.inl rfl) rfl ?_)
        refine s1 (y_p rfl) rfl <| s1 (y_p rfl) rfl <| s1 (y_p rfl) rfl <| s1 (y_p rfl) rfl <| s1 (y_p rfl) rfl <| ?_
        refine at_nil ?_
        refine x_tn ?_
        refine at_seq ?_
        refine at_region ?_
        refine s1 (y_loadA0 ti27 rfl rfl (cas_len hx)) rfl <| s1 (y_p rfl) rfl <| s1 (y_p rfl) rfl <| ?_
        refine at_op rfl (n_call false rfl (.cons (.pure pu) (.cons (.pure pu) (.cons (.pure pu) (.nil)))) (Con.cast (rread_ok c hx (by omega) id bl hbn) hR) pu (.inl rfl) rfl ?_)
        refine s1 (y_p rfl) rfl <| s1 (y_p rfl) rfl <| s1 (y_p rfl) rfl <| s1 (y_p rfl) rfl <| s1 (y_p rfl) rfl <| ?_
        refine at_nil ?_
        refine x_tn ?_
        refine at_seq ?_
        refine at_region ?_
        refine s1 (y_p rfl) rfl <| s1 (y_p rfl) rfl <| ?_
        refine at_op rfl (n_call false rfl (.cons (.pure pu) (.cons (.pure pu) (.nil))) (Con.cast (same36_ok db db (by rw [hdl]; simp [maxLen])) (congrArg A.b (beq_self_eq_true _))) pu (.inl rfl) rfl ?_)
        refine s1 (y_p rfl) rfl <| g1 rfl rfl (y_p rfl) rfl <| g1 rfl rfl (y_p rfl) rfl <| g1 rfl rfl ((y_p rfl).v (v' := .b true) (congrArg A.b (by simp))) rfl <| s1 (y_p rfl) rfl <| s1 (y_p rfl) rfl <| g1 rfl rfl (y_p rfl) rfl <| g1 rfl rfl (y_p rfl) rfl <| ?_
        refine at_opg rfl rfl rfl (n_call false rfl (.cons .nl (.cons .nl (.nil))) (Con.cast (sameI_ok [] [] (by decide)) (congrArg A.b (beq_self_eq_true _))) pu (.inl rfl) rfl ?_)
        refine s1 (y_p rfl) rfl <| s1 (y_p rfl) rfl <| g1 rfl rfl (y_p rfl) rfl <| g1 rfl rfl (y_p rfl) rfl <| g1 rfl rfl ((y_p rfl).v (v' := .b true) (congrArg A.b (by simp))) rfl <| s1 (y_p rfl) rfl <| s1 (y_p rfl) rfl <| g1 rfl rfl (y_p rfl) rfl <| g1 rfl rfl (y_p rfl) rfl <| g1 rfl rfl ((y_eqb Tryd.underlying4 rfl rfl).v (v' := .b true) (congrArg A.b (by simp))) rfl <| ?_
        refine s1 (y_p rfl) rfl <| s1 (y_p rfl) rfl <| g1 rfl rfl (y_p rfl) rfl <| g1 rfl rfl (y_p rfl) rfl <| g1 rfl rfl ((y_p rfl).v (v' := .b true) (congrArg A.b (by simp))) rfl <| s1 (y_p rfl) rfl <| s1 (y_p rfl) rfl <| ?_
        refine at_nil ?_
        refine x_tn ?_
        refine at_ret ?_
        refine at_result (rs := [.tmp 6]) rfl (r_tmp rfl r_nil) ?_
        rfl
      · obtain ⟨W, hWl, hW⟩ := hcs
        refine at_region ?_
        refine s1 (y_loadA0 ti27 rfl rfl (cas_len hx)) rfl <| s1 (y_p rfl) rfl <| ?_
        refine at_op rfl (n_call false rfl (.cons (.pure pu) (.cons (.pure pu) (.nil))) (Con.cast (swhere_ok c hx id) hW) pu (.inl rfl) rfl ?_)
        refine s1 (y_p rfl) rfl <| s1 (y_p rfl) rfl <| s1 (y_p rfl) rfl <| s1 (y_p rfl) rfl <| s1 (y_p rfl) rfl <| ?_
        refine at_nil ?_
        refine x_tn ?_
        refine at_seq ?_
        refine at_region ?_
        refine s1 (y_loadA0 ti27 rfl rfl (cas_len hx)) rfl <| s1 (y_p rfl) rfl <| ?_
        refine at_op rfl (n_call false rfl (.cons (.pure pu) (.cons (.pure pu) (.nil))) (Con.cast (rwhere_ok c hx (by omega) id) hW) pu (.inl rfl) rfl ?_)
        refine s1 (y_p rfl) rfl <| s1 (y_p rfl) rfl <| s1 (y_p rfl) rfl <| s1 (y_p rfl) rfl <| s1 (y_p rfl) rfl <| ?_
        refine at_nil ?_
        refine x_tn ?_
        refine at_seq ?_
        obtain ⟨v, e, hR⟩ := rd_form c id bl
        refine at_region ?_
        refine s1 (y_loadA0 ti27 rfl rfl (cas_len hx)) rfl <| s1 (y_p rfl) rfl <| s1 (y_p rfl) rfl <| ?_
        refine at_op rfl (n_call false rfl (.cons (.pure pu) (.cons (.pure pu) (.cons (.pure pu) (.nil)))) (Con.cast (sread_ok c hx id bl) hR) pu (.inl rfl) rfl ?_)
        refine s1 (y_p rfl) rfl <| s1 (y_p rfl) rfl <| s1 (y_p rfl) rfl <| s1 (y_p rfl) rfl <| s1 (y_p rfl) rfl <| ?_
        refine at_nil ?_
        refine x_tn ?_
        refine at_seq ?_
        refine at_region ?_
        refine s1 (y_loadA0 ti27 rfl rfl (cas_len hx)) rfl <| s1 (y_p rfl) rfl <| s1 (y_p rfl) rfl <| ?_
        refine at_op rfl (n_call false rfl (.cons (.pure pu) (.cons (.pure pu) (.cons (.pure pu) (.nil)))) (Con.cast (rread_ok c hx (by omega) id bl hbn) hR) pu (.inl rfl) rfl ?_)
        refine s1 (y_p rfl) rfl <| s1 (y_p rfl) rfl <| s1 (y_p rfl) rfl <| s1 (y_p rfl) rfl <| s1 (y_p rfl) rfl <| ?_
        refine at_nil ?_
        refine x_tn ?_
        refine at_seq ?_
        refine at_region ?_
        refine s1 (y_p rfl) rfl <| s1 (y_p rfl) rfl <| ?_
        refine at_op rfl (n_call false rfl (.cons (.pure pu) (.cons (.pure pu) (.nil))) (Con.cast (same36_ok db db (by rw [hdl]; simp [maxLen])) (congrArg A.b (beq_self_eq_true _))) pu (.inl rfl) rfl ?_)
        refine s1 (y_p rfl) rfl <| g1 rfl rfl (y_p rfl) rfl <| g1 rfl rfl (y_p rfl) rfl <| g1 rfl rfl ((y_p rfl).v (v' := .b true) (congrArg A.b (by simp))) rfl <| s1 (y_p rfl) rfl <| s1 (y_p rfl) rfl <| g1 rfl rfl (y_p rfl) rfl <| g1 rfl rfl (y_p rfl) rfl <| ?_
        refine at_opg rfl rfl rfl (n_call false rfl (.cons (.pure pu) (.cons (.pure pu) (.nil))) (Con.cast (sameI_ok W W (by omega)) (congrArg A.b (beq_self_eq_true _))) pu (.inl rfl) rfl ?_)
        refine s1 (y_p rfl) rfl <| s1 (y_p rfl) rfl <| g1 rfl rfl (y_p rfl) rfl <| g1 rfl rfl (y_p rfl) rfl <| g1 rfl rfl ((y_p rfl).v (v' := .b true) (congrArg A.b (by simp))) rfl <| s1 (y_p rfl) rfl <| s1 (y_p rfl) rfl <| g1 rfl rfl (y_p rfl) rfl <| g1 rfl rfl (y_p rfl) rfl <| g1 rfl rfl ((y_eqb Tryd.underlying4 rfl rfl).v (v' := .b true) (congrArg A.b (by simp))) rfl <| ?_
        refine s1 (y_p rfl) rfl <| s1 (y_p rfl) rfl <| g1 rfl rfl (y_p rfl) rfl <| g1 rfl rfl (y_p rfl) rfl <| g1 rfl rfl ((y_p rfl).v (v' := .b true) (congrArg A.b (by simp))) rfl <| s1 (y_p rfl) rfl <| s1 (y_p rfl) rfl <| ?_
        refine at_nil ?_
        refine x_tn ?_
        refine at_ret ?_
        refine at_result (rs := [.tmp 6]) rfl (r_tmp rfl r_nil) ?_
        rfl
end Go.Abs.D2

/-! V6S -/
namespace Go.Abs.D2
open Go Go.Eng Go.Abs
theorem clr_yes {l : List UInt8} {m k : Nat} (h : V6.chooses (V6.clrs l m k) (m + k) = true) : V6.slV (V6.change (V6.clrs l m k) (m + k)) = V6.slV (V6.clrs l m (k + 1)) := by rw [V6.clrs, V6.clr, if_pos h]
theorem clr_no {l : List UInt8} {m k : Nat} (h : V6.chooses (V6.clrs l m k) (m + k) = false) : V6.slV (V6.clrs l m k) = V6.slV (V6.clrs l m (k + 1)) := by rw [V6.clrs, V6.clr, if_neg (by rw [h]; simp)]
theorem mask_cases (many : Int) (l : List UInt8) : (¬ (1 ≤ many ∧ many ≤ 1024) ∧ V6.sized many l.length = false) ∨ (∃ m : Nat, many = (m : Int) ∧ 1 ≤ m ∧ m ≤ 1024 ∧ l.length ≠ (m + 7) / 8 ∧ V6.sized many l.length = false) ∨ (∃ m : Nat, many = (m : Int) ∧ 1 ≤ m ∧ m ≤ 1024 ∧ l.length = (m + 7) / 8 ∧ V6.sized m l.length = true) := by
  rcases Decidable.em (1 ≤ many ∧ many ≤ 1024) with h | h
  · obtain ⟨m, rfl⟩ : ∃ m : Nat, many = (m : Int) := ⟨many.toNat, by omega⟩
    rcases Decidable.em (l.length = (m + 7) / 8) with h2 | h2
    · exact .inr (.inr ⟨m, rfl, by omega, by omega, h2, sizedN (by omega) (by omega) h2⟩)
    · refine .inr (.inl ⟨m, rfl, by omega, by omega, h2, ?_⟩)
      simp only [V6.sized, decide_eq_false_iff_not]; omega
  · exact .inl ⟨h, V6.sized_no h⟩
def joinT (p q : List UInt8) : Nat → List UInt8
  | 0 => List.replicate 16 0
  | i + 1 => (joinT p q i).set i (p.getD i 0 ^^^ q.getD i 0)
@[simp] theorem len_joinT (p q : List UInt8) : ∀ i, (joinT p q i).length = 16
  | 0 => by simp [joinT]
  | i + 1 => by rw [joinT, List.length_set, len_joinT p q i]
theorem joinT_get (p q : List UInt8) : ∀ i j, j < 16 → (joinT p q i)[j]? = some (if j < i then p.getD j 0 ^^^ q.getD j 0 else 0)
  | 0, j, h => by rw [joinT, List.getElem?_replicate, if_pos h, if_neg (by omega)]
  | i + 1, j, h => by
    rw [joinT, List.getElem?_set]
    by_cases e : i = j
    · subst e
      rw [if_pos rfl, if_pos (by rw [len_joinT]; exact h), if_pos (by omega)]
    · rw [if_neg e, joinT_get p q i j h]
      by_cases h2 : j < i
      · rw [if_pos h2, if_pos (by omega)]
      · rw [if_neg h2, if_neg (by omega)]
theorem joinT_16 {p q : List UInt8} (hp : p.length = 16) (hq : q.length = 16) : joinT p q 16 = V6.xorL p q := by
  apply List.ext_getElem?
  intro j
  rcases Nat.lt_or_ge j 16 with h | h
  · rw [joinT_get p q 16 j h, if_pos h]
    unfold V6.xorL
    rw [List.getElem?_zipWith]
    simp [List.getD, List.getElem?_eq_getElem (show j < p.length by omega), List.getElem?_eq_getElem (show j < q.length by omega)]
  · rw [List.getElem?_eq_none (by rw [len_joinT]; exact h), List.getElem?_eq_none (by rw [V6.len_xorL (by omega)]; omega)]
theorem joinT_cs (p q : List UInt8) (i : Nat) {o : Nat} (ho : o = i) : ((joinT p q i).map u8).set o (u8 (p.getD i 0 ^^^ q.getD i 0)) = (joinT p q (i + 1)).map u8 := by
  subst ho; rw [joinT, List.map_set]
theorem joinA_16 {p q : List UInt8} (hp : p.length = 16) (hq : q.length = 16) : joinA p q = .tu [.fz 16 ((joinT p q 16).map u8), .i .i64 0] := by
  rw [join_16 hp hq, joinT_16 hp hq, V6.slV, V6.len_xorL (by omega), hp]
theorem askB_no3 {c : Cas} {ids : List Int} {q : Int} (hq : q ∈ ids) (h : numB q = false) : askB c ids = false := by
  unfold askB
  have : ids.all numB = false := List.all_eq_false.2 ⟨q, hq, by rw [h]; simp⟩
  rw [this, Bool.and_false]
theorem askB_all {c : Cas} {ids : List Int} (h : (ids.take ids.length).all numB = true) : (headB c.F && decide (ids.length ≤ 4)) = askB c ids := by
  rw [List.take_length] at h
  unfold askB; rw [h, Bool.and_true]
theorem all_nextN {ids : List Int} {i : Nat} {q : Int} (hq : ids[i]? = some q) (h : (ids.take i).all numB = true) (h2 : numB q = true) : (ids.take (i + 1)).all numB = true := by
  rw [List.take_add_one, hq]; simp [h, h2]
theorem getB {l : List Bool} {i : Nat} {b : Bool} (h : l[i]? = some b) : ((l.map A.b).drop (i * 1))[0]? = some (.b b) := by
  rw [List.getElem?_drop, show i * 1 + 0 = i by omega, List.getElem?_map, h]; rfl
theorem rs_form (c : Cas) (ids : List Int) (a b : List (List UInt8)) : resA c ids a b = .tu [.nl, .i .i64 370] ∨ ∃ L : List Bool, L.length ≤ 4 ∧ resA c ids a b = .tu [boolsA L, .i .i64 0] := by
  cases h : rsB c ids a b with
  | false => exact .inl (res_no h)
  | true =>
    refine .inr ⟨_, ?_, res_yes h⟩
    rw [len_resN]
    unfold rsB at h
    simp only [Bool.and_eq_true] at h
    exact (ask_all h.1.1).2.1
theorem few_4 (p q r : Bool) : (p = false) ∨ (p = true ∧ q = false) ∨ (p = true ∧ q = true ∧ r = false) ∨ (p = true ∧ q = true ∧ r = true) := by cases p <;> cases q <;> cases r <;> simp
end Go.Abs.D2

/-! V6H -/
namespace Go.Abs.D2
open Go Go.Eng Go.Abs Go.Proofs 
set_option linter.unusedSimpArgs false in
set_option linter.unusedVariables false in
set_option maxHeartbeats 1000000 in
set_option maxRecDepth 10000 in
theorem rchooses36_ok (l : List UInt8) (k : Nat) (hk : k / 8 < l.length) (hk2 : k ≤ 100000) : Con Tryd.prog 109 [.fz l.length (l.map u8), nV k] (Ret (.b (V6.chooses l k))) := by
  refine enter Tryd.func109 rfl Tryd.ntmps109 (by kernel_rfl) (Nat.le_of_ble_eq_true rfl) fun w0 X0 hI => ?_
  refine at_seq ?_
  refine at_region ?_
  refine s1 (y_p rfl) rfl <| ?_
  refine at_nil ?_
  refine x_tn ?_
  refine at_seq ?_
  refine at_region ?_
  refine s1 (y_p rfl) rfl <| s1 (y_p rfl) rfl <| s1 (quoN _ 8 rfl rfl rfl rfl (by omega) (by omega)) rfl <| s1 (y_ixf (k / 8) Tryd.underlying66 ti5 rfl rfl rfl hk rfl) rfl <| s1 (y_load ti5 rfl rfl (V6.getF hk)) rfl <| s1 (y_p rfl) rfl <| s1 (remN _ 8 rfl rfl rfl rfl (by omega)) rfl <| s1 (shrB (l.getD (k / 8) 0) (k % 8) rfl rfl rfl (by omega)) rfl <| s1 (andB _ (1 : UInt8) rfl rfl) rfl <| s1 ((y_p rfl).v (v' := .b (V6.chooses l k)) (congrArg A.b (V6.choosesC _ _))) rfl <| ?_
  refine s1 (y_p rfl) rfl <| ?_
  refine at_nil ?_
  refine x_tn ?_
  refine at_ret ?_
  refine at_result (rs := [.tmp 4]) rfl (r_tmp rfl r_nil) ?_
  rfl
set_option linter.unusedSimpArgs false in
set_option linter.unusedVariables false in
set_option maxHeartbeats 1000000 in
set_option maxRecDepth 10000 in
theorem rchange36_ok (l : List UInt8) (k : Nat) (hk : k / 8 < l.length) (hk2 : k ≤ 100000) (hl : l.length ≤ 1000) : Con Tryd.prog 103 [.fz l.length (l.map u8), nV k] (Ret (V6.slV (V6.change l k))) := by
  refine enter Tryd.func103 rfl Tryd.ntmps103 (by kernel_rfl) (Nat.le_of_ble_eq_true rfl) fun w0 X0 hI => ?_
  refine at_seq ?_
  refine at_region ?_
  refine s1 (y_p rfl) rfl <| ?_
  refine at_nil ?_
  refine x_tn ?_
  refine at_seq ?_
  refine at_region ?_
  refine at_op rfl (n_bs1 6 rfl Tryd.underlying66 ti5 rfl rfl rfl rfl rfl ?_)
  refine s1 (y_p rfl) rfl <| ?_
  refine at_op rfl (n_app 8 rfl Tryd.underlying66 ti5 rfl (.sl rfl (by simp)) rfl rfl (by simp) (by simp only [maxLen]; omega) (by omega) rfl rfl rfl ?_)
  refine s1 (y_p rfl) rfl <| ?_
  refine at_nil ?_
  refine x_tn ?_
  refine at_seq ?_
  refine at_sayO 8 (cs' := l.map u8) rfl (List.nil_append _) ?_
  refine at_say 5 rfl (v' := .sl 8 1 0 l.length) (congrArg (A.sl 8 1 0) (Nat.zero_add _)) ?_
  refine at_draw_tail 13 hmix (by kernel_rfl) ?_
  refine t1 (y_p rfl) rfl <| t1 (y_p rfl) rfl <| t1 (quoN _ 8 rfl rfl rfl rfl (by omega) (by omega)) rfl <| t1 (y_p rfl) rfl <| t1 (y_p rfl) rfl <| t1 (quoN _ 8 rfl rfl rfl rfl (by omega) (by omega)) rfl <| t1 (y_ixs (k / 8) Tryd.underlying66 ti5 rfl rfl rfl rfl (by omega) rfl) rfl <| t1 (y_load ti5 rfl rfl (V6.getO (by omega))) rfl <| t1 (y_p rfl) rfl <| t1 (remN _ 8 rfl rfl rfl rfl (by omega)) rfl <| ?_
  refine t1 (shl1B (k % 8) rfl rfl rfl (by omega)) rfl <| t1 (xorB _ _ rfl rfl) rfl <| t1 (y_ixs (k / 8) Tryd.underlying66 ti5 rfl rfl rfl rfl (by omega) rfl) rfl <| ?_
  refine at_snil ?_
  refine at_op rfl (n_store1 ti5 rfl rfl rfl rfl (by simp; omega) (V6.changeC _ _) ?_)
  refine at_nil ?_
  refine x_tn ?_
  refine at_seq ?_
  refine at_region ?_
  refine s1 (y_p rfl) rfl <| s1 (y_p rfl) rfl <| ?_
  refine at_nil ?_
  refine x_tn ?_
  refine at_ret ?_
  refine at_frz 4 rfl rfl pul (view_eq (by rw [List.length_map, V6.len_change, Nat.mul_one]) rfl) ?_
  refine at_result (rs := [.tmp 4]) rfl (r_tmp rfl r_nil) ?_
  rw [V6.slV, V6.len_change]; rfl
set_option linter.unusedSimpArgs false in
set_option linter.unusedVariables false in
set_option maxHeartbeats 1000000 in
set_option maxRecDepth 10000 in
theorem rmaskOf36_ok (l : List UInt8) (m : Nat) (hm : l.length = (m + 7) / 8) (hm1 : 1 ≤ m) (hm2 : m ≤ 1024) : Con Tryd.prog 102 [nV m, .fz l.length (l.map u8)] (Ret (V6.slV (V6.cut m l))) := by
  refine enter Tryd.func102 rfl Tryd.ntmps102 (by kernel_rfl) (Nat.le_of_ble_eq_true rfl) fun w0 X0 hI => ?_
  refine at_seq ?_
  refine at_region ?_
  refine s1 (y_p rfl) rfl <| ?_
  refine at_nil ?_
  refine x_tn ?_
  refine at_seq ?_
  refine at_region ?_
  refine at_op rfl (n_bs1 7 rfl Tryd.underlying66 ti5 rfl rfl rfl rfl rfl ?_)
  refine s1 (y_p rfl) rfl <| ?_
  refine at_op rfl (n_app 9 rfl Tryd.underlying66 ti5 rfl (.sl rfl (by simp)) rfl rfl (by simp) (by simp only [maxLen]; omega) (by omega) rfl rfl rfl ?_)
  refine s1 (y_p rfl) rfl <| ?_
  refine at_nil ?_
  refine x_tn ?_
  refine at_seq ?_
  refine at_seq ?_
  refine at_sayO 9 (cs' := l.map u8) rfl (List.nil_append _) ?_
  refine at_say 5 rfl (v' := .sl 9 1 0 l.length) (congrArg (A.sl 9 1 0) (Nat.zero_add _)) ?_
  refine at_frz 5 rfl rfl pul (view_eq (by simp) rfl) ?_
  refine at_region ?_
  refine s1 (y_p rfl) rfl <| s1 (y_p rfl) rfl <| ?_
  refine at_nil ?_
  refine x_tn ?_
  refine at_block ?_
  refine at_loop (ι := Nat) (fun k => [(5, V6.slV (V6.clrs l m k)), (6, nV (m + k))]) (fun k => ⟨[]⟩) (fun k => m + k ≤ 8 * l.length) (fun k => 8 * l.length - k) ?_ ?_
  · exact at_ex (0) (by omega) [] hI rfl rfl ⟨⟨_, rfl, .of (by rfl) (.pure pu)⟩, ⟨_, rfl, .pure pu⟩, trivial⟩ trivial
  rintro k hk
  have hlk := V6.len_clrs l m k
  refine at_seq ?_
  refine at_seq ?_
  refine at_region ?_
  refine s1 (y_p rfl) rfl <| s1 (y_p rfl) rfl <| s1 (y_len Tryd.underlying66 rfl rfl rfl) rfl <| s1 (mulN 8 (V6.clrs l m k).length rfl rfl rfl rfl (by omega)) rfl <| s1 (y_p rfl) rfl <| ?_
  refine at_nil ?_
  refine x_tn ?_
  refine at_cond rfl (fun hc15 => ?_) (fun hc15 => ?_)
  · have h15 : m + k < 8 * l.length := by have := of_decide_eq_true hc15; omega
    refine at_skip ?_
    refine x_tn ?_
    refine at_seq ?_
    refine at_block ?_
    refine at_seq ?_
    refine at_region ?_
    refine s1 (y_p rfl) rfl <| s1 (y_p rfl) rfl <| ?_
    refine at_op rfl (n_call false rfl (.cons (.pure pu) (.cons (.pure pu) (.nil))) (rchooses36_ok (V6.clrs l m k) (m + k) (by omega) (by omega)) pu (.inl rfl) rfl ?_)
    refine at_nil ?_
    refine x_tn ?_
    refine at_cond rfl (fun hc20 => ?_) (fun hc20 => ?_)
    · skip
      refine at_region ?_
      refine s1 (y_p rfl) rfl <| s1 (y_p rfl) rfl <| ?_
      refine at_op rfl (n_call false rfl (.cons (.pure pu) (.cons (.pure pu) (.nil))) (rchange36_ok (V6.clrs l m k) (m + k) (by omega) (by omega) (by omega)) pu (.inl rfl) rfl ?_)
      refine s1 (y_p rfl) rfl <| ?_
      refine at_nil ?_
      refine x_bn ?_
      refine x_tn ?_
      refine at_region ?_
      refine s1 (y_p rfl) rfl <| s1 (addN _ 1 rfl rfl rfl rfl (by omega)) rfl <| s1 (y_p rfl) rfl <| ?_
      refine at_nil ?_
      exact at_end (k + 1) (by omega) (by omega) [] hI rfl rfl ⟨⟨_, rfl, .of (clr_yes hc20) (.pure pu)⟩, ⟨_, rfl, .pure pu⟩, trivial⟩ trivial
    · skip
      refine at_skip ?_
      refine x_bn ?_
      refine x_tn ?_
      refine at_region ?_
      refine s1 (y_p rfl) rfl <| s1 (addN _ 1 rfl rfl rfl rfl (by omega)) rfl <| s1 (y_p rfl) rfl <| ?_
      refine at_nil ?_
      exact at_end (k + 1) (by omega) (by omega) [] hI rfl rfl ⟨⟨_, rfl, .of (clr_no hc20) (.pure pu)⟩, ⟨_, rfl, .pure pu⟩, trivial⟩ trivial
  · have h15 : k = 8 * l.length - m := by have := of_decide_eq_false hc15; omega
    refine at_exit ?_
    refine x_te ?_
    refine x_te ?_
    refine x_be ?_
    refine x_tn ?_
    refine at_seq ?_
    refine at_region ?_
    refine s1 (y_p rfl) rfl <| s1 (y_p rfl) rfl <| ?_
    refine at_nil ?_
    refine x_tn ?_
    refine at_ret ?_
    refine at_result (rs := [.tmp 4]) rfl (r_tmp rfl r_nil) ?_
    rw [h15, V6.clrs_cut l m hm]; rfl
set_option linter.unusedSimpArgs false in
set_option linter.unusedVariables false in
set_option maxHeartbeats 1000000 in
set_option maxRecDepth 10000 in
theorem rsize36_ok (m : Nat) (h : m ≤ 100000) : Con Tryd.prog 101 [nV m] (Ret (nV ((m + 7) / 8))) := by
  refine enter Tryd.func101 rfl Tryd.ntmps101 (by kernel_rfl) (Nat.le_of_ble_eq_true rfl) fun w0 X0 hI => ?_
  refine at_seq ?_
  refine at_region ?_
  refine s1 ((y_p rfl).v (v' := .i .i64 0) rfl) rfl <| ?_
  refine at_nil ?_
  refine x_tn ?_
  refine at_seq ?_
  refine at_region ?_
  refine s1 (y_p rfl) rfl <| s1 (addN _ 7 rfl rfl rfl rfl (by omega)) rfl <| s1 (quoN _ 8 rfl rfl rfl rfl (by omega) (by omega)) rfl <| s1 (y_p rfl) rfl <| ?_
  refine at_nil ?_
  refine x_tn ?_
  refine at_ret ?_
  refine at_result (rs := [.tmp 2]) rfl (r_tmp rfl r_nil) ?_
  rfl
set_option linter.unusedSimpArgs false in
set_option linter.unusedVariables false in
set_option maxHeartbeats 1000000 in
set_option maxRecDepth 10000 in
theorem rmasks36_ok (many a : Int) (l : List UInt8) : Con Tryd.prog 85 [.i .i64 many, .i .i64 a, .fz l.length (l.map u8)] (Ret (masksA many a l)) := by
  refine enter Tryd.func85 rfl Tryd.ntmps85 (by kernel_rfl) (Nat.le_of_ble_eq_true rfl) fun w0 X0 hI => ?_
  refine at_seq ?_
  refine at_region ?_
  refine s1 (y_p rfl) rfl <| s1 (y_p rfl) rfl <| s1 ((y_p rfl).v (v' := .i .i64 0) rfl) rfl <| ?_
  refine at_nil ?_
  refine x_tn ?_
  refine at_seq ?_
  refine at_seq ?_
  rcases mask_cases many l with hcs | hcs | hcs
  · obtain ⟨hb, hz⟩ := hcs
    refine at_region ?_
    refine s1 (y_p rfl) rfl <| s1 (y_p rfl) rfl <| s1 (y_p rfl) rfl <| ?_
    refine g_or 2 rfl rfl rfl rfl (fun hb12 => .step (y_p rfl) rfl rfl <| .step (y_p rfl) rfl rfl <| .done) rfl rfl ?_
    refine at_say 15 rfl (v' := .b true) (congrArg A.b (by simp; omega)) ?_
    refine s1 (y_p rfl) rfl <| g0 rfl rfl rfl rfl <| g0 rfl rfl rfl rfl <| g0 rfl rfl rfl rfl <| g0 rfl rfl rfl rfl <| g0 rfl rfl rfl rfl <| s1 (y_p rfl) rfl <| ?_
    refine at_nil ?_
    refine x_tn ?_
    refine at_then rfl ?_
    refine at_seq ?_
    refine at_region ?_
    refine s1 (y_p rfl) rfl <| s1 (y_p rfl) rfl <| s1 ((y_p rfl).v (v' := .i .i64 360) rfl) rfl <| ?_
    refine at_nil ?_
    refine x_tn ?_
    refine at_ret ?_
    refine x_tr ?_
    refine at_result (rs := [.tmp 6, .tmp 7, .tmp 8]) rfl (r_tmp rfl (r_tmp rfl (r_tmp rfl r_nil))) ?_
    exact (masksA_no hz).symm
  · obtain ⟨m, rfl, h1, h2, hb, hz⟩ := hcs
    refine at_region ?_
    refine s1 (y_p rfl) rfl <| s1 (y_p rfl) rfl <| s1 (y_p rfl) rfl <| ?_
    refine g_or 2 rfl rfl rfl rfl (fun hb12 => .step (y_p rfl) rfl rfl <| .step (y_p rfl) rfl rfl <| .done) rfl rfl ?_
    refine at_say 15 rfl (v' := .b false) (congrArg A.b (by simp; omega)) ?_
    refine s1 (y_p rfl) rfl <| g1 rfl rfl (y_p rfl) rfl <| g1 rfl rfl (y_len Tryd.underlying66 rfl rfl rfl) rfl <| g1 rfl rfl (y_p rfl) rfl <| ?_
    refine at_opg rfl rfl rfl (n_call false rfl (.cons (.pure pu) (.nil)) (rsize36_ok m (by omega)) pu (.inl rfl) rfl ?_)
    refine g1 rfl rfl ((y_p rfl).v (v' := .b true) (congrArg A.b (by simp; omega))) rfl <| s1 (y_p rfl) rfl <| ?_
    refine at_nil ?_
    refine x_tn ?_
    refine at_then rfl ?_
    refine at_seq ?_
    refine at_region ?_
    refine s1 (y_p rfl) rfl <| s1 (y_p rfl) rfl <| s1 ((y_p rfl).v (v' := .i .i64 360) rfl) rfl <| ?_
    refine at_nil ?_
    refine x_tn ?_
    refine at_ret ?_
    refine x_tr ?_
    refine at_result (rs := [.tmp 6, .tmp 7, .tmp 8]) rfl (r_tmp rfl (r_tmp rfl (r_tmp rfl r_nil))) ?_
    exact (masksA_no hz).symm
  · obtain ⟨m, rfl, h1, h2, hb, hz⟩ := hcs
    refine at_region ?_
    refine s1 (y_p rfl) rfl <| s1 (y_p rfl) rfl <| s1 (y_p rfl) rfl <| ?_
    refine g_or 2 rfl rfl rfl rfl (fun hb12 => .step (y_p rfl) rfl rfl <| .step (y_p rfl) rfl rfl <| .done) rfl rfl ?_
    refine at_say 15 rfl (v' := .b false) (congrArg A.b (by simp; omega)) ?_
    refine s1 (y_p rfl) rfl <| g1 rfl rfl (y_p rfl) rfl <| g1 rfl rfl (y_len Tryd.underlying66 rfl rfl rfl) rfl <| g1 rfl rfl (y_p rfl) rfl <| ?_
    refine at_opg rfl rfl rfl (n_call false rfl (.cons (.pure pu) (.nil)) (rsize36_ok m (by omega)) pu (.inl rfl) rfl ?_)
    refine g1 rfl rfl ((y_p rfl).v (v' := .b false) (congrArg A.b (by simp; omega))) rfl <| s1 (y_p rfl) rfl <| ?_
    refine at_nil ?_
    refine x_tn ?_
    refine at_else rfl ?_
    refine at_skip ?_
    refine x_tn ?_
    refine at_seq ?_
    refine at_seq ?_
    refine at_region ?_
    refine s1 (y_p rfl) rfl <| s1 (y_p rfl) rfl <| s1 (y_p rfl) rfl <| ?_
    refine g_or 3 rfl rfl rfl rfl (fun hb25 => .step (y_p rfl) rfl rfl <| .step (y_p rfl) rfl rfl <| .step (y_p rfl) rfl rfl <| .done) rfl rfl ?_
    refine at_nil ?_
    refine x_tn ?_
    refine at_cond rfl (fun hc29 => ?_) (fun hc29 => ?_)
    · have h29 : ¬ (0 ≤ a ∧ a < (m : Int)) := by simp at hc29; omega
      refine at_seq ?_
      refine at_region ?_
      refine s1 (y_p rfl) rfl <| s1 (y_p rfl) rfl <| s1 ((y_p rfl).v (v' := .i .i64 1) rfl) rfl <| ?_
      refine at_nil ?_
      refine x_tn ?_
      refine at_ret ?_
      refine x_tr ?_
      refine at_result (rs := [.tmp 6, .tmp 7, .tmp 8]) rfl (r_tmp rfl (r_tmp rfl (r_tmp rfl r_nil))) ?_
      exact (masksA_arg hz h29).symm
    · obtain ⟨k, rfl, hk⟩ : ∃ k : Nat, a = (k : Int) ∧ k < m := ⟨a.toNat, by simp at hc29; omega, by simp at hc29; omega⟩
      have hcl := V6.len_cut m l
      refine at_skip ?_
      refine x_tn ?_
      refine at_seq ?_
      refine at_region ?_
      refine s1 (y_p rfl) rfl <| s1 (y_p rfl) rfl <| ?_
      refine at_op rfl (n_call false rfl (.cons (.pure pu) (.cons (.pure pu) (.nil))) (rmaskOf36_ok l m hb h1 h2) pu (.inl rfl) rfl ?_)
      refine s1 (y_p rfl) rfl <| ?_
      refine at_nil ?_
      refine x_tn ?_
      refine at_seq ?_
      refine at_region ?_
      refine s1 (y_p rfl) rfl <| s1 (y_p rfl) rfl <| s1 (y_p rfl) rfl <| ?_
      refine at_op rfl (n_call false rfl (.cons (.pure pu) (.cons (.pure pu) (.nil))) (rchange36_ok (V6.cut m l) k (by omega) (by omega) (by omega)) pu (.inl rfl) rfl ?_)
      refine s1 (y_p rfl) rfl <| s1 (y_p rfl) rfl <| s1 ((y_p rfl).v (v' := .i .i64 0) rfl) rfl <| ?_
      refine at_nil ?_
      refine x_tn ?_
      refine at_ret ?_
      refine at_result (rs := [.tmp 6, .tmp 7, .tmp 8]) rfl (r_tmp rfl (r_tmp rfl (r_tmp rfl r_nil))) ?_
      exact (masksA_yes hz hk).symm
set_option linter.unusedSimpArgs false in
set_option linter.unusedVariables false in
set_option maxHeartbeats 1000000 in
set_option maxRecDepth 10000 in
theorem rjoin36_ok (p q : List UInt8) : Con Tryd.prog 61 [.fz p.length (p.map u8), .fz q.length (q.map u8)] (Ret (joinA p q)) := by
  refine enter Tryd.func61 rfl Tryd.ntmps61 (by kernel_rfl) (Nat.le_of_ble_eq_true rfl) fun w0 X0 hI => ?_
  refine at_seq ?_
  refine at_region ?_
  refine s1 (y_p rfl) rfl <| s1 ((y_p rfl).v (v' := .i .i64 0) rfl) rfl <| ?_
  refine at_nil ?_
  refine x_tn ?_
  refine at_seq ?_
  refine at_seq ?_
  refine at_region ?_
  refine s1 (y_p rfl) rfl <| s1 (y_len Tryd.underlying66 rfl rfl rfl) rfl <| s1 (y_p rfl) rfl <| s1 (y_p rfl) rfl <| ?_
  refine g_or 3 rfl rfl rfl rfl (fun hb11 => .step (y_p rfl) rfl rfl <| .step (y_len Tryd.underlying66 rfl rfl rfl) rfl rfl <| .step (y_p rfl) rfl rfl <| .done) rfl rfl ?_
  refine at_nil ?_
  refine x_tn ?_
  refine at_cond rfl (fun hc15 => ?_) (fun hc15 => ?_)
  · have hcs : ¬ (p.length = 16 ∧ q.length = 16) := by intro h; simp [h.1, h.2] at hc15
    refine at_seq ?_
    refine at_region ?_
    refine s1 (y_p rfl) rfl <| s1 ((y_p rfl).v (v' := .i .i64 360) rfl) rfl <| ?_
    refine at_nil ?_
    refine x_tn ?_
    refine at_ret ?_
    refine x_tr ?_
    refine at_result (rs := [.tmp 4, .tmp 5]) rfl (r_tmp rfl (r_tmp rfl r_nil)) ?_
    exact (joinA_no hcs).symm
  · have hp : p.length = 16 := by simp at hc15; omega
    have hq : q.length = 16 := by simp at hc15; omega
    refine at_skip ?_
    refine x_tn ?_
    refine at_seq ?_
    refine at_region ?_
    refine at_op rfl (n_make 16 rfl 16 16 Tryd.underlying66 ti5 rfl rfl rfl rfl rfl (by first | omega | (simp only [maxLen]; omega) | (simp [maxLen]; done) | (simp [maxLen]; omega) | (simp [maxLen, *]; omega)) (by first | omega | (simp only [maxLen]; omega) | (simp [maxLen]; done) | (simp [maxLen]; omega) | (simp [maxLen, *]; omega)) (by first | omega | (simp only [maxLen]; omega) | (simp [maxLen]; done) | (simp [maxLen]; omega) | (simp [maxLen, *]; omega)) rfl ?_)
    refine s1 (y_p rfl) rfl <| ?_
    refine at_nil ?_
    refine x_tn ?_
    refine at_seq ?_
    refine at_seq ?_
    refine at_region ?_
    refine s1 ((y_p rfl).v (v' := .i .i64 0) rfl) rfl <| ?_
    refine at_nil ?_
    refine x_tn ?_
    refine at_block ?_
    refine at_loop (ι := Nat) (fun i => [(0, .fz p.length (p.map u8)), (1, .fz q.length (q.map u8)), (6, .sl 116 1 0 16), (7, nV i)]) (fun i => ⟨[(116, some ((joinT p q i).map u8))]⟩) (fun i => i ≤ 16) (fun i => 16 - i) ?_ ?_
    · exact at_ex (0) (by omega) [(116, some 16)] hI rfl rfl ⟨⟨_, rfl, .pure pu⟩, ⟨_, rfl, .pure pu⟩, ⟨_, rfl, .sl rfl (by first | rfl | omega | (simp; done) | (simp [*]; done) | (simp; omega) | (simp [*]; omega) | (simp [D32.len, -List.length_flatten, *]; done) | (simp [D32.len, -List.length_flatten, *]; omega))⟩, ⟨_, rfl, .pure pu⟩, trivial⟩ ⟨.inr ⟨_, _, rfl, rfl, .of (by rfl) (.pure pul)⟩, trivial⟩
    rintro i hi
    refine at_seq ?_
    refine at_seq ?_
    refine at_region ?_
    refine s1 (y_p rfl) rfl <| s1 (y_p rfl) rfl <| ?_
    refine at_nil ?_
    refine x_tn ?_
    refine at_cond rfl (fun hc18 => ?_) (fun hc18 => ?_)
    · have h18 : i < 16 := by have := of_decide_eq_true hc18; omega
      refine at_skip ?_
      refine x_tn ?_
      refine at_seq ?_
      refine at_block ?_
      refine at_draw_tail 12 hmix (by kernel_rfl) ?_
      refine t1 (y_p rfl) rfl <| t1 (y_p rfl) rfl <| t1 (y_p rfl) rfl <| t1 (y_p rfl) rfl <| t1 (y_ixf i Tryd.underlying66 ti5 rfl rfl rfl (by omega) rfl) rfl <| t1 (y_load ti5 rfl rfl (V6.getF (by omega))) rfl <| t1 (y_p rfl) rfl <| t1 (y_p rfl) rfl <| t1 (y_ixf i Tryd.underlying66 ti5 rfl rfl rfl (by omega) rfl) rfl <| t1 (y_load ti5 rfl rfl (V6.getF (by omega))) rfl <| ?_
      refine t1 (xorB _ _ rfl rfl) rfl <| t1 (y_ixs i Tryd.underlying66 ti5 rfl rfl rfl rfl (by omega) rfl) rfl <| ?_
      refine at_snil ?_
      refine at_op rfl (n_store1 ti5 rfl rfl rfl rfl (by simp; omega) (joinT_cs p q i (by omega)) ?_)
      refine at_nil ?_
      refine x_bn ?_
      refine x_tn ?_
      refine at_region ?_
      refine s1 (y_p rfl) rfl <| s1 (addN _ 1 rfl rfl rfl rfl (by omega)) rfl <| s1 (y_p rfl) rfl <| ?_
      refine at_nil ?_
      exact at_end (i + 1) (by omega) (by omega) [(116, some 116)] hI rfl rfl ⟨⟨_, rfl, .pure pu⟩, ⟨_, rfl, .pure pu⟩, ⟨_, rfl, .sl rfl (by first | rfl | omega | (simp; done) | (simp [*]; done) | (simp; omega) | (simp [*]; omega) | (simp [D32.len, -List.length_flatten, *]; done) | (simp [D32.len, -List.length_flatten, *]; omega))⟩, ⟨_, rfl, .pure pu⟩, trivial⟩ ⟨.inr ⟨_, _, rfl, rfl, .pure pul⟩, trivial⟩
    · obtain rfl : i = 16 := by have := of_decide_eq_false hc18; omega
      refine at_exit ?_
      refine x_te ?_
      refine x_te ?_
      refine x_be ?_
      refine x_tn ?_
      refine at_seq ?_
      refine at_region ?_
      refine s1 (y_p rfl) rfl <| s1 (y_p rfl) rfl <| s1 ((y_p rfl).v (v' := .i .i64 0) rfl) rfl <| ?_
      refine at_nil ?_
      refine x_tn ?_
      refine at_ret ?_
      refine at_frz 4 rfl rfl pul (view_eq (by simp) rfl) ?_
      refine at_result (rs := [.tmp 4, .tmp 5]) rfl (r_tmp rfl (r_tmp rfl r_nil)) ?_
      exact (joinA_16 hp hq).symm
set_option linter.unusedSimpArgs false in
set_option linter.unusedVariables false in
set_option maxHeartbeats 1000000 in
set_option maxRecDepth 10000 in
theorem rask36_ok (many : Int) (at1 : List Int) (batch : Int) (coins : List (List UInt8)) : Con Tryd.prog 59 [.i .i64 many, .fz at1.length (at1.map (A.i .i64)), .i .i64 batch, .fz coins.length (coins.map V6.slV)] (Ret (askA many at1 batch coins)) := by
  refine enter Tryd.func59 rfl Tryd.ntmps59 (by kernel_rfl) (Nat.le_of_ble_eq_true rfl) fun w0 X0 hI => ?_
  refine at_seq ?_
  refine at_region ?_
  refine at_op rfl (n_alloc 8 rfl ti46 rfl rfl ?_)
  refine at_op rfl (n_alloc 9 rfl ti46 rfl rfl ?_)
  refine s1 ((y_p rfl).v (v' := .i .i64 0) rfl) rfl <| ?_
  refine at_nil ?_
  refine x_tn ?_
  refine at_seq ?_
  refine at_seq ?_
  refine at_region ?_
  refine s1 (y_p rfl) rfl <| s1 (y_p rfl) rfl <| s1 (y_p rfl) rfl <| ?_
  refine g_or 2 rfl rfl rfl rfl (fun hb20 => .step (y_p rfl) rfl rfl <| .step (y_p rfl) rfl rfl <| .done) rfl rfl ?_
  refine s1 (y_p rfl) rfl <| ?_
  refine g_or 4 rfl rfl rfl rfl (fun hb24 => .step (y_p rfl) rfl rfl <| .step (y_len Tryd.underlying25 rfl rfl rfl) rfl rfl <| .step (y_p rfl) rfl rfl <| .step (y_p rfl) rfl rfl <| .done) rfl rfl ?_
  refine s1 (y_p rfl) rfl <| ?_
  refine g_or 4 rfl rfl rfl rfl (fun hb30 => .step (y_p rfl) rfl rfl <| .step (y_len Tryd.underlying28 rfl rfl rfl) rfl rfl <| .step (y_p rfl) rfl rfl <| .step (y_p rfl) rfl rfl <| .done) rfl rfl ?_
  refine at_nil ?_
  refine x_tn ?_
  refine at_cond rfl (fun hc35 => ?_) (fun hc35 => ?_)
  · have h33 : batch < 1 ∨ batch > 132 ∨ (at1.length : Int) > batch ∨ (coins.length : Int) ≠ batch := by simp at hc35; omega
    have hbad := ask_bad (many := many) h33
    refine at_seq ?_
    refine at_region ?_
    refine s1 (y_bld (out := [_]) [[evC (.slice none 0 0)]] ti46 rfl Tryd.underlying46 (by kernel_rfl) rfl rfl trivial rfl) rfl <| s1 (y_bld (out := [_]) [[evC (.slice none 0 0)]] ti46 rfl Tryd.underlying46 (by kernel_rfl) rfl rfl trivial rfl) rfl <| ?_
    refine at_op rfl (n_storeA ti46 rfl rfl rfl (by first | rfl | omega | (simp; done) | (simp [*]; done) | (simp; omega) | (simp [*]; omega) | (simp [D32.len, -List.length_flatten, *]; done) | (simp [D32.len, -List.length_flatten, *]; omega)) (by first | rfl | omega | (simp; done) | (simp [*]; done) | (simp; omega) | (simp [*]; omega) | (simp [D32.len, -List.length_flatten, *]; done) | (simp [D32.len, -List.length_flatten, *]; omega)) ?_)
    refine at_op rfl (n_storeA ti46 rfl rfl rfl (by first | rfl | omega | (simp; done) | (simp [*]; done) | (simp; omega) | (simp [*]; omega) | (simp [D32.len, -List.length_flatten, *]; done) | (simp [D32.len, -List.length_flatten, *]; omega)) (by first | rfl | omega | (simp; done) | (simp [*]; done) | (simp; omega) | (simp [*]; omega) | (simp [D32.len, -List.length_flatten, *]; done) | (simp [D32.len, -List.length_flatten, *]; omega)) ?_)
    refine s1 ((y_p rfl).v (v' := .i .i64 360) rfl) rfl <| ?_
    refine at_nil ?_
    refine x_tn ?_
    refine at_ret ?_
    refine x_tr ?_
    refine at_result (rs := [.cell 8 46, .cell 9 46, .tmp 10]) rfl (r_cellA ti46 rfl rfl rfl rfl (r_cellA ti46 rfl rfl rfl rfl (r_tmp rfl r_nil))) ?_
    show A.tu _ = _; rw [askA_no (by rw [hbad]; decide), hbad]; rfl
  · have h33 : 1 ≤ coins.length ∧ coins.length ≤ 132 ∧ at1.length ≤ coins.length ∧ batch = (coins.length : Int) := by simp at hc35; omega
    obtain ⟨b1, b2, b3, rfl⟩ := h33
    refine at_skip ?_
    refine x_tn ?_
    refine at_seq ?_
    refine at_region ?_
    refine s1 (y_bld (out := [_]) [[evC (.slice none 0 0)]] ti46 rfl Tryd.underlying46 (by kernel_rfl) rfl rfl trivial rfl) rfl <| ?_
    refine at_op rfl (n_alloc 11 rfl ti46 rfl rfl ?_)
    refine at_op rfl (n_storeA ti46 rfl rfl rfl (by first | rfl | omega | (simp; done) | (simp [*]; done) | (simp; omega) | (simp [*]; omega) | (simp [D32.len, -List.length_flatten, *]; done) | (simp [D32.len, -List.length_flatten, *]; omega)) (by first | rfl | omega | (simp; done) | (simp [*]; done) | (simp; omega) | (simp [*]; omega) | (simp [D32.len, -List.length_flatten, *]; done) | (simp [D32.len, -List.length_flatten, *]; omega)) ?_)
    refine at_nil ?_
    refine x_tn ?_
    refine at_seq ?_
    refine at_region ?_
    refine s1 (y_bld (out := [_]) [[evC (.slice none 0 0)]] ti46 rfl Tryd.underlying46 (by kernel_rfl) rfl rfl trivial rfl) rfl <| ?_
    refine at_op rfl (n_alloc 12 rfl ti46 rfl rfl ?_)
    refine at_op rfl (n_storeA ti46 rfl rfl rfl (by first | rfl | omega | (simp; done) | (simp [*]; done) | (simp; omega) | (simp [*]; omega) | (simp [D32.len, -List.length_flatten, *]; done) | (simp [D32.len, -List.length_flatten, *]; omega)) (by first | rfl | omega | (simp; done) | (simp [*]; done) | (simp; omega) | (simp [*]; omega) | (simp [D32.len, -List.length_flatten, *]; done) | (simp [D32.len, -List.length_flatten, *]; omega)) ?_)
    refine at_nil ?_
    refine x_tn ?_
    refine at_seq ?_
    refine at_seq ?_
    refine at_region ?_
    refine s1 ((y_p rfl).v (v' := .i .i64 0) rfl) rfl <| ?_
    refine at_nil ?_
    refine x_tn ?_
    refine at_block ?_
    refine at_loop (ι := Nat) (fun k => [(0, .i .i64 many), (1, .fz at1.length (at1.map (A.i .i64))), (2, nV coins.length), (3, .fz coins.length (coins.map V6.slV)), (8, .p 8 0), (9, .p 9 0), (11, .p 11 0), (12, .p 12 0), (13, nV k)]) (fun k => ⟨[(8, some ([.nl])), (9, some ([.nl])), (11, some ([.sl 168 1 0 k])), (168, some ((V6.askTo many at1 coins k).1.map V6.slV)), (12, some ([.sl 174 1 0 k])), (174, some ((V6.askTo many at1 coins k).2.1.map V6.slV))]⟩) (fun k => k ≤ coins.length ∧ (V6.askTo many at1 coins k).2.2 = 0) (fun k => coins.length - k) ?_ ?_
    · exact at_ex (0) (⟨Nat.zero_le _, rfl⟩) [(8, some 8), (9, some 9), (11, some 11), (12, some 12), (168, none), (174, none)] hI rfl rfl ⟨⟨_, rfl, .pure pu⟩, ⟨_, rfl, .pure pu⟩, ⟨_, rfl, .pure pu⟩, ⟨_, rfl, .pure pu⟩, ⟨_, rfl, .p rfl⟩, ⟨_, rfl, .p rfl⟩, ⟨_, rfl, .p rfl⟩, ⟨_, rfl, .p rfl⟩, ⟨_, rfl, .pure pu⟩, trivial⟩ ⟨.inr ⟨_, _, rfl, rfl, .pure pul⟩, .inr ⟨_, _, rfl, rfl, .pure pul⟩, .inr ⟨_, _, rfl, rfl, .cons (.nl rfl) .nil⟩, .inl ⟨rfl, rfl⟩, .inr ⟨_, _, rfl, rfl, .cons (.nl rfl) .nil⟩, .inl ⟨rfl, rfl⟩, trivial⟩
    rintro k ⟨hk, hk0⟩
    obtain ⟨hl1, hl2, _⟩ := V6.askTo_yes k hk0
    refine at_seq ?_
    refine at_seq ?_
    refine at_region ?_
    refine s1 (y_p rfl) rfl <| s1 (y_p rfl) rfl <| s1 (y_p rfl) rfl <| ?_
    refine at_nil ?_
    refine x_tn ?_
    refine at_cond rfl (fun hc42 => ?_) (fun hc42 => ?_)
    · have h38 : k < coins.length := by have := of_decide_eq_true hc42; omega
      obtain ⟨q, hq⟩ : ∃ q, coins[k]? = some q := ⟨_, List.getElem?_eq_getElem h38⟩
      have hqd : coins.getD k [] = q := by rw [List.getD, hq]; rfl
      refine at_skip ?_
      refine x_tn ?_
      refine at_seq ?_
      refine at_block ?_
      refine at_seq ?_
      refine at_region ?_
      refine s1 ((y_p rfl).v (v' := .i .i64 0) rfl) rfl <| ?_
      refine at_nil ?_
      refine x_tn ?_
      refine at_seq ?_
      refine at_seq ?_
      refine at_region ?_
      refine s1 (y_p rfl) rfl <| s1 (y_p rfl) rfl <| s1 (y_len Tryd.underlying25 rfl rfl rfl) rfl <| s1 (y_p rfl) rfl <| ?_
      refine at_nil ?_
      refine x_tn ?_
      refine at_cond rfl (fun hc48 => ?_) (fun hc48 => ?_)
      · have h43 : k < at1.length := by have := of_decide_eq_true hc48; omega
        have hw := V6.want_yes h43
        refine at_region ?_
        refine s1 (y_p rfl) rfl <| s1 (y_p rfl) rfl <| s1 (y_ixf k Tryd.underlying25 ti3 rfl rfl rfl (by omega) rfl) rfl <| s1 (y_load ti3 rfl rfl (V6.getI h43)) rfl <| s1 (y_p rfl) rfl <| ?_
        refine at_nil ?_
        refine x_tn ?_
        refine at_seq ?_
        rcases Decidable.em ((V6.masks many (V6.want at1 k) q).2.2 = 0) with hcs | hcs
        · have hz := hcs
          have hnx := V6.askTo_nextW hk0 (by rw [hqd]; exact hz)
          rw [hqd] at hnx
          refine at_region ?_
          refine s1 (y_p rfl) rfl <| s1 ((y_p rfl).v (v' := .i .i64 (V6.want at1 k)) (congrArg (A.i .i64) hw.symm)) rfl <| s1 (y_p rfl) rfl <| s1 (y_p rfl) rfl <| s1 (y_ixf k Tryd.underlying28 ti66 rfl rfl rfl (by omega) rfl) rfl <| s1 (y_load ti66 rfl rfl (V6.getR hq)) rfl <| ?_
          refine at_op rfl (n_call false rfl (.cons (.pure pu) (.cons (.pure pu) (.cons (.pure pu) (.nil)))) (Con.cast (rmasks36_ok many (V6.want at1 k) q) (masksA_zero hz)) pu (.inl rfl) rfl ?_)
          refine s1 (y_p rfl) rfl <| s1 (y_p rfl) rfl <| s1 (y_p rfl) rfl <| s1 (y_p rfl) rfl <| s1 (y_p rfl) rfl <| s1 (y_p rfl) rfl <| s1 (y_p rfl) rfl <| ?_
          refine at_nil ?_
          refine x_tn ?_
          refine at_seq ?_
          refine at_seq ?_
          refine at_region ?_
          refine s1 (y_p rfl) rfl <| s1 ((y_p rfl).v (v' := .b false) (rfl)) rfl <| ?_
          refine at_nil ?_
          refine x_tn ?_
          refine at_else rfl ?_
          refine at_skip ?_
          refine x_tn ?_
          refine at_seq ?_
          refine at_region ?_
          refine s1 (y_fld Tryd.underlying46 rfl ti28 (by decide) rfl rfl) rfl <| s1 (y_load ti28 rfl rfl rfl) rfl <| s1 (y_p rfl) rfl <| ?_
          refine at_op rfl (n_bs1 72 rfl Tryd.underlying28 ti66 rfl rfl rfl rfl rfl ?_)
          refine at_op rfl (n_app 73 rfl Tryd.underlying28 ti66 rfl (.sl rfl (by rw [List.length_map]; omega)) rfl (SM_full rfl (by first | rfl | omega | (simp; done) | (simp [*]; done) | (simp; omega) | (simp [*]; omega) | (simp [D32.len, -List.length_flatten, *]; done) | (simp [D32.len, -List.length_flatten, *]; omega))) (by simp) (by simp only [maxLen]; omega) (by omega) rfl (V6.ask_fst hnx) rfl ?_)
          refine s1 (y_fld Tryd.underlying46 rfl ti28 (by decide) rfl rfl) rfl <| ?_
          refine at_op rfl (n_store1 ti28 rfl rfl rfl rfl (by first | rfl | omega | (simp; done) | (simp [*]; done) | (simp; omega) | (simp [*]; omega) | (simp [D32.len, -List.length_flatten, *]; done) | (simp [D32.len, -List.length_flatten, *]; omega)) rfl ?_)
          refine at_nil ?_
          refine x_tn ?_
          refine at_region ?_
          refine s1 (y_fld Tryd.underlying46 rfl ti28 (by decide) rfl rfl) rfl <| s1 (y_load ti28 rfl rfl rfl) rfl <| s1 (y_p rfl) rfl <| ?_
          refine at_op rfl (n_bs1 78 rfl Tryd.underlying28 ti66 rfl rfl rfl rfl rfl ?_)
          refine at_op rfl (n_app 79 rfl Tryd.underlying28 ti66 rfl (.sl rfl (by rw [List.length_map]; omega)) rfl (SM_full rfl (by first | rfl | omega | (simp; done) | (simp [*]; done) | (simp; omega) | (simp [*]; omega) | (simp [D32.len, -List.length_flatten, *]; done) | (simp [D32.len, -List.length_flatten, *]; omega))) (by simp) (by simp only [maxLen]; omega) (by omega) rfl (V6.ask_snd hnx) rfl ?_)
          refine s1 (y_fld Tryd.underlying46 rfl ti28 (by decide) rfl rfl) rfl <| ?_
          refine at_op rfl (n_store1 ti28 rfl rfl rfl rfl (by first | rfl | omega | (simp; done) | (simp [*]; done) | (simp; omega) | (simp [*]; omega) | (simp [D32.len, -List.length_flatten, *]; done) | (simp [D32.len, -List.length_flatten, *]; omega)) rfl ?_)
          refine at_nil ?_
          refine x_bn ?_
          refine x_tn ?_
          refine at_region ?_
          refine s1 (y_p rfl) rfl <| s1 (addN _ 1 rfl rfl rfl rfl (by omega)) rfl <| s1 (y_p rfl) rfl <| ?_
          refine at_nil ?_
          exact at_end (k + 1) (⟨by omega, by rw [hnx]⟩) (by omega) [(8, some 8), (9, some 9), (11, some 11), (12, some 12), (168, some 73), (174, some 79)] hI rfl rfl ⟨⟨_, rfl, .pure pu⟩, ⟨_, rfl, .pure pu⟩, ⟨_, rfl, .pure pu⟩, ⟨_, rfl, .pure pu⟩, ⟨_, rfl, .p rfl⟩, ⟨_, rfl, .p rfl⟩, ⟨_, rfl, .p rfl⟩, ⟨_, rfl, .p rfl⟩, ⟨_, rfl, .pure pu⟩, trivial⟩ ⟨.inr ⟨_, _, rfl, rfl, .pure pul⟩, .inr ⟨_, _, rfl, rfl, .pure pul⟩, .inr ⟨_, _, rfl, rfl, .cons (.sl rfl (by first | rfl | omega | (simp; done) | (simp [*]; done) | (simp; omega) | (simp [*]; omega) | (simp [D32.len, -List.length_flatten, *]; done) | (simp [D32.len, -List.length_flatten, *]; omega))) .nil⟩, .inr ⟨_, _, rfl, rfl, .pure pul⟩, .inr ⟨_, _, rfl, rfl, .cons (.sl rfl (by first | rfl | omega | (simp; done) | (simp [*]; done) | (simp; omega) | (simp [*]; omega) | (simp [D32.len, -List.length_flatten, *]; done) | (simp [D32.len, -List.length_flatten, *]; omega))) .nil⟩, .inr ⟨_, _, rfl, rfl, .pure pul⟩, trivial⟩
        · have hz := hcs
          have hbd := V6.ask_errW h38 b1 b2 b3 hk0 (by rw [hqd]; exact hz)
          rw [hqd] at hbd
          refine at_region ?_
          refine s1 (y_p rfl) rfl <| s1 ((y_p rfl).v (v' := .i .i64 (V6.want at1 k)) (congrArg (A.i .i64) hw.symm)) rfl <| s1 (y_p rfl) rfl <| s1 (y_p rfl) rfl <| s1 (y_ixf k Tryd.underlying28 ti66 rfl rfl rfl (by omega) rfl) rfl <| s1 (y_load ti66 rfl rfl (V6.getR hq)) rfl <| ?_
          refine at_op rfl (n_call false rfl (.cons (.pure pu) (.cons (.pure pu) (.cons (.pure pu) (.nil)))) (Con.cast (rmasks36_ok many (V6.want at1 k) q) (masksA_err hz)) pu (.inl rfl) rfl ?_)
          refine s1 (y_p rfl) rfl <| s1 (y_p rfl) rfl <| s1 (y_p rfl) rfl <| s1 (y_p rfl) rfl <| s1 (y_p rfl) rfl <| s1 (y_p rfl) rfl <| s1 (y_p rfl) rfl <| ?_
          refine at_nil ?_
          refine x_tn ?_
          refine at_seq ?_
          refine at_seq ?_
          refine at_region ?_
          refine s1 (y_p rfl) rfl <| s1 ((y_p rfl).v (v' := .b true) (congrArg A.b (by simpa using hz))) rfl <| ?_
          refine at_nil ?_
          refine x_tn ?_
          refine at_then rfl ?_
          refine at_seq ?_
          refine at_region ?_
          refine s1 (y_bld (out := [_]) [[evC (.slice none 0 0)]] ti46 rfl Tryd.underlying46 (by kernel_rfl) rfl rfl trivial rfl) rfl <| s1 (y_bld (out := [_]) [[evC (.slice none 0 0)]] ti46 rfl Tryd.underlying46 (by kernel_rfl) rfl rfl trivial rfl) rfl <| s1 (y_p rfl) rfl <| ?_
          refine at_op rfl (n_storeA ti46 rfl rfl rfl (by first | rfl | omega | (simp; done) | (simp [*]; done) | (simp; omega) | (simp [*]; omega) | (simp [D32.len, -List.length_flatten, *]; done) | (simp [D32.len, -List.length_flatten, *]; omega)) (by first | rfl | omega | (simp; done) | (simp [*]; done) | (simp; omega) | (simp [*]; omega) | (simp [D32.len, -List.length_flatten, *]; done) | (simp [D32.len, -List.length_flatten, *]; omega)) ?_)
          refine at_op rfl (n_storeA ti46 rfl rfl rfl (by first | rfl | omega | (simp; done) | (simp [*]; done) | (simp; omega) | (simp [*]; omega) | (simp [D32.len, -List.length_flatten, *]; done) | (simp [D32.len, -List.length_flatten, *]; omega)) (by first | rfl | omega | (simp; done) | (simp [*]; done) | (simp; omega) | (simp [*]; omega) | (simp [D32.len, -List.length_flatten, *]; done) | (simp [D32.len, -List.length_flatten, *]; omega)) ?_)
          refine s1 (y_p rfl) rfl <| ?_
          refine at_nil ?_
          refine x_tn ?_
          refine at_ret ?_
          refine x_tr ?_
          refine x_br ?_
          refine x_tr ?_
          refine x_tr ?_
          refine x_br ?_
          refine x_tr ?_
          refine at_result (rs := [.cell 8 46, .cell 9 46, .tmp 10]) rfl (r_cellA ti46 rfl rfl rfl rfl (r_cellA ti46 rfl rfl rfl rfl (r_tmp rfl r_nil))) ?_
          show A.tu _ = _; rw [askA_no (by rw [hbd]; exact hz), hbd]; rfl
      · have h43 : ¬ k < at1.length := by have := of_decide_eq_false hc48; omega
        have hw := V6.want_no h43
        refine at_skip ?_
        refine x_tn ?_
        refine at_seq ?_
        rcases Decidable.em ((V6.masks many (V6.want at1 k) q).2.2 = 0) with hcs | hcs
        · have hz := hcs
          have hnx := V6.askTo_nextW hk0 (by rw [hqd]; exact hz)
          rw [hqd] at hnx
          refine at_region ?_
          refine s1 (y_p rfl) rfl <| s1 (((y_p rfl).v (v' := .i .i64 0) rfl).v (v' := .i .i64 (V6.want at1 k)) (congrArg (A.i .i64) hw.symm)) rfl <| s1 (y_p rfl) rfl <| s1 (y_p rfl) rfl <| s1 (y_ixf k Tryd.underlying28 ti66 rfl rfl rfl (by omega) rfl) rfl <| s1 (y_load ti66 rfl rfl (V6.getR hq)) rfl <| ?_
          refine at_op rfl (n_call false rfl (.cons (.pure pu) (.cons (.pure pu) (.cons (.pure pu) (.nil)))) (Con.cast (rmasks36_ok many (V6.want at1 k) q) (masksA_zero hz)) pu (.inl rfl) rfl ?_)
          refine s1 (y_p rfl) rfl <| s1 (y_p rfl) rfl <| s1 (y_p rfl) rfl <| s1 (y_p rfl) rfl <| s1 (y_p rfl) rfl <| s1 (y_p rfl) rfl <| s1 (y_p rfl) rfl <| ?_
          refine at_nil ?_
          refine x_tn ?_
          refine at_seq ?_
          refine at_seq ?_
          refine at_region ?_
          refine s1 (y_p rfl) rfl <| s1 ((y_p rfl).v (v' := .b false) (rfl)) rfl <| ?_
          refine at_nil ?_
          refine x_tn ?_
          refine at_else rfl ?_
          refine at_skip ?_
          refine x_tn ?_
          refine at_seq ?_
          refine at_region ?_
          refine s1 (y_fld Tryd.underlying46 rfl ti28 (by decide) rfl rfl) rfl <| s1 (y_load ti28 rfl rfl rfl) rfl <| s1 (y_p rfl) rfl <| ?_
          refine at_op rfl (n_bs1 72 rfl Tryd.underlying28 ti66 rfl rfl rfl rfl rfl ?_)
          refine at_op rfl (n_app 73 rfl Tryd.underlying28 ti66 rfl (.sl rfl (by rw [List.length_map]; omega)) rfl (SM_full rfl (by first | rfl | omega | (simp; done) | (simp [*]; done) | (simp; omega) | (simp [*]; omega) | (simp [D32.len, -List.length_flatten, *]; done) | (simp [D32.len, -List.length_flatten, *]; omega))) (by simp) (by simp only [maxLen]; omega) (by omega) rfl (V6.ask_fst hnx) rfl ?_)
          refine s1 (y_fld Tryd.underlying46 rfl ti28 (by decide) rfl rfl) rfl <| ?_
          refine at_op rfl (n_store1 ti28 rfl rfl rfl rfl (by first | rfl | omega | (simp; done) | (simp [*]; done) | (simp; omega) | (simp [*]; omega) | (simp [D32.len, -List.length_flatten, *]; done) | (simp [D32.len, -List.length_flatten, *]; omega)) rfl ?_)
          refine at_nil ?_
          refine x_tn ?_
          refine at_region ?_
          refine s1 (y_fld Tryd.underlying46 rfl ti28 (by decide) rfl rfl) rfl <| s1 (y_load ti28 rfl rfl rfl) rfl <| s1 (y_p rfl) rfl <| ?_
          refine at_op rfl (n_bs1 78 rfl Tryd.underlying28 ti66 rfl rfl rfl rfl rfl ?_)
          refine at_op rfl (n_app 79 rfl Tryd.underlying28 ti66 rfl (.sl rfl (by rw [List.length_map]; omega)) rfl (SM_full rfl (by first | rfl | omega | (simp; done) | (simp [*]; done) | (simp; omega) | (simp [*]; omega) | (simp [D32.len, -List.length_flatten, *]; done) | (simp [D32.len, -List.length_flatten, *]; omega))) (by simp) (by simp only [maxLen]; omega) (by omega) rfl (V6.ask_snd hnx) rfl ?_)
          refine s1 (y_fld Tryd.underlying46 rfl ti28 (by decide) rfl rfl) rfl <| ?_
          refine at_op rfl (n_store1 ti28 rfl rfl rfl rfl (by first | rfl | omega | (simp; done) | (simp [*]; done) | (simp; omega) | (simp [*]; omega) | (simp [D32.len, -List.length_flatten, *]; done) | (simp [D32.len, -List.length_flatten, *]; omega)) rfl ?_)
          refine at_nil ?_
          refine x_bn ?_
          refine x_tn ?_
          refine at_region ?_
          refine s1 (y_p rfl) rfl <| s1 (addN _ 1 rfl rfl rfl rfl (by omega)) rfl <| s1 (y_p rfl) rfl <| ?_
          refine at_nil ?_
          exact at_end (k + 1) (⟨by omega, by rw [hnx]⟩) (by omega) [(8, some 8), (9, some 9), (11, some 11), (12, some 12), (168, some 73), (174, some 79)] hI rfl rfl ⟨⟨_, rfl, .pure pu⟩, ⟨_, rfl, .pure pu⟩, ⟨_, rfl, .pure pu⟩, ⟨_, rfl, .pure pu⟩, ⟨_, rfl, .p rfl⟩, ⟨_, rfl, .p rfl⟩, ⟨_, rfl, .p rfl⟩, ⟨_, rfl, .p rfl⟩, ⟨_, rfl, .pure pu⟩, trivial⟩ ⟨.inr ⟨_, _, rfl, rfl, .pure pul⟩, .inr ⟨_, _, rfl, rfl, .pure pul⟩, .inr ⟨_, _, rfl, rfl, .cons (.sl rfl (by first | rfl | omega | (simp; done) | (simp [*]; done) | (simp; omega) | (simp [*]; omega) | (simp [D32.len, -List.length_flatten, *]; done) | (simp [D32.len, -List.length_flatten, *]; omega))) .nil⟩, .inr ⟨_, _, rfl, rfl, .pure pul⟩, .inr ⟨_, _, rfl, rfl, .cons (.sl rfl (by first | rfl | omega | (simp; done) | (simp [*]; done) | (simp; omega) | (simp [*]; omega) | (simp [D32.len, -List.length_flatten, *]; done) | (simp [D32.len, -List.length_flatten, *]; omega))) .nil⟩, .inr ⟨_, _, rfl, rfl, .pure pul⟩, trivial⟩
        · have hz := hcs
          have hbd := V6.ask_errW h38 b1 b2 b3 hk0 (by rw [hqd]; exact hz)
          rw [hqd] at hbd
          refine at_region ?_
          refine s1 (y_p rfl) rfl <| s1 (((y_p rfl).v (v' := .i .i64 0) rfl).v (v' := .i .i64 (V6.want at1 k)) (congrArg (A.i .i64) hw.symm)) rfl <| s1 (y_p rfl) rfl <| s1 (y_p rfl) rfl <| s1 (y_ixf k Tryd.underlying28 ti66 rfl rfl rfl (by omega) rfl) rfl <| s1 (y_load ti66 rfl rfl (V6.getR hq)) rfl <| ?_
          refine at_op rfl (n_call false rfl (.cons (.pure pu) (.cons (.pure pu) (.cons (.pure pu) (.nil)))) (Con.cast (rmasks36_ok many (V6.want at1 k) q) (masksA_err hz)) pu (.inl rfl) rfl ?_)
          refine s1 (y_p rfl) rfl <| s1 (y_p rfl) rfl <| s1 (y_p rfl) rfl <| s1 (y_p rfl) rfl <| s1 (y_p rfl) rfl <| s1 (y_p rfl) rfl <| s1 (y_p rfl) rfl <| ?_
          refine at_nil ?_
          refine x_tn ?_
          refine at_seq ?_
          refine at_seq ?_
          refine at_region ?_
          refine s1 (y_p rfl) rfl <| s1 ((y_p rfl).v (v' := .b true) (congrArg A.b (by simpa using hz))) rfl <| ?_
          refine at_nil ?_
          refine x_tn ?_
          refine at_then rfl ?_
          refine at_seq ?_
          refine at_region ?_
          refine s1 (y_bld (out := [_]) [[evC (.slice none 0 0)]] ti46 rfl Tryd.underlying46 (by kernel_rfl) rfl rfl trivial rfl) rfl <| s1 (y_bld (out := [_]) [[evC (.slice none 0 0)]] ti46 rfl Tryd.underlying46 (by kernel_rfl) rfl rfl trivial rfl) rfl <| s1 (y_p rfl) rfl <| ?_
          refine at_op rfl (n_storeA ti46 rfl rfl rfl (by first | rfl | omega | (simp; done) | (simp [*]; done) | (simp; omega) | (simp [*]; omega) | (simp [D32.len, -List.length_flatten, *]; done) | (simp [D32.len, -List.length_flatten, *]; omega)) (by first | rfl | omega | (simp; done) | (simp [*]; done) | (simp; omega) | (simp [*]; omega) | (simp [D32.len, -List.length_flatten, *]; done) | (simp [D32.len, -List.length_flatten, *]; omega)) ?_)
          refine at_op rfl (n_storeA ti46 rfl rfl rfl (by first | rfl | omega | (simp; done) | (simp [*]; done) | (simp; omega) | (simp [*]; omega) | (simp [D32.len, -List.length_flatten, *]; done) | (simp [D32.len, -List.length_flatten, *]; omega)) (by first | rfl | omega | (simp; done) | (simp [*]; done) | (simp; omega) | (simp [*]; omega) | (simp [D32.len, -List.length_flatten, *]; done) | (simp [D32.len, -List.length_flatten, *]; omega)) ?_)
          refine s1 (y_p rfl) rfl <| ?_
          refine at_nil ?_
          refine x_tn ?_
          refine at_ret ?_
          refine x_tr ?_
          refine x_br ?_
          refine x_tr ?_
          refine x_tr ?_
          refine x_br ?_
          refine x_tr ?_
          refine at_result (rs := [.cell 8 46, .cell 9 46, .tmp 10]) rfl (r_cellA ti46 rfl rfl rfl rfl (r_cellA ti46 rfl rfl rfl rfl (r_tmp rfl r_nil))) ?_
          show A.tu _ = _; rw [askA_no (by rw [hbd]; exact hz), hbd]; rfl
    · have h38 : k = coins.length := by have := of_decide_eq_false hc42; omega
      subst h38
      refine at_exit ?_
      refine x_te ?_
      refine x_te ?_
      refine x_be ?_
      refine x_tn ?_
      refine at_seq ?_
      have hall := V6.ask_all (many := many) b1 b2 b3
      refine at_frzO 11 0 rfl rfl rfl rfl pul (view_eq (by rw [List.length_map]; omega) rfl) rfl ?_
      refine at_frzO 12 0 rfl rfl rfl rfl pul (view_eq (by rw [List.length_map]; omega) rfl) rfl ?_
      refine at_fs ⟨_, [], []⟩ 3 4 hmix (le_refl rfl) ?_
      refine fs_q 0 [] [(11, none)] (y_loadA0 ti46 rfl rfl rfl) rfl rfl ?_
      refine fs_q 1 [] [(12, none)] (y_loadA0 ti46 rfl rfl rfl) rfl rfl ?_
      refine fs_stoA 0 2 [0] [(8, none)] rfl gy0 ti46 rfl rfl rfl (by first | rfl | omega | (simp; done) | (simp [*]; done) | (simp; omega) | (simp [*]; omega) | (simp [D32.len, -List.length_flatten, *]; done) | (simp [D32.len, -List.length_flatten, *]; omega)) (by first | rfl | omega | (simp; done) | (simp [*]; done) | (simp; omega) | (simp [*]; omega) | (simp [D32.len, -List.length_flatten, *]; done) | (simp [D32.len, -List.length_flatten, *]; omega)) rfl ?_
      refine fs_end (by kernel_rfl) ?_
      refine at_op rfl (n_storeA ti46 rfl rfl rfl (by first | rfl | omega | (simp; done) | (simp [*]; done) | (simp; omega) | (simp [*]; omega) | (simp [D32.len, -List.length_flatten, *]; done) | (simp [D32.len, -List.length_flatten, *]; omega)) (by first | rfl | omega | (simp; done) | (simp [*]; done) | (simp; omega) | (simp [*]; omega) | (simp [D32.len, -List.length_flatten, *]; done) | (simp [D32.len, -List.length_flatten, *]; omega)) ?_)
      refine s1 ((y_p rfl).v (v' := .i .i64 0) rfl) rfl <| ?_
      refine at_nil ?_
      refine x_tn ?_
      refine at_ret ?_
      refine at_result (rs := [.cell 8 46, .cell 9 46, .tmp 10]) rfl (r_cellA ti46 rfl rfl rfl rfl (r_cellA ti46 rfl rfl rfl rfl (r_tmp rfl r_nil))) ?_
      show A.tu _ = _; rw [askA_yes (by rw [hall]; exact hk0), hall, rowsV, rowsV, hl1, hl2]; rfl
end Go.Abs.D2

/-! S7L -/
namespace Go.Abs.D2
open Go Go.Eng Go.Abs Go.Proofs 
set_option linter.unusedSimpArgs false in
set_option linter.unusedVariables false in
set_option maxHeartbeats 1000000 in
set_option maxRecDepth 10000 in
theorem rnumbers_ok (c : Cas) (hx : c.x.length = 32) (hF : c.F.length ≤ 1000) (ids : List Int) (hn : ids.length ≤ maxLen) : Con Tryd.prog 58 [.ag (casL c), .fz ids.length (ids.map (A.i .i64))] (Ret (.b (askB c ids))) := by
  refine enter Tryd.func58 rfl Tryd.ntmps58 (by kernel_rfl) (Nat.le_of_ble_eq_true rfl) fun w0 X0 hI => ?_
  refine at_seq ?_
  refine at_region ?_
  refine at_op rfl (n_boxA 2 rfl rfl rfl ?_)
  refine s1 (y_p rfl) rfl <| ?_
  refine at_nil ?_
  refine x_tn ?_
  refine at_seq ?_
  refine at_seq ?_
  simp only [maxLen] at hn
  refine at_region ?_
  refine s1 ((y_p rfl).v (v' := .i .i64 0) rfl) rfl <| ?_
  refine at_nil ?_
  refine x_tn ?_
  refine at_block ?_
  refine at_loop (ι := Nat) (fun i => [(1, .fz ids.length (ids.map (A.i .i64))), (2, .p 2 0), (5, nJ i)]) (fun i => ⟨[(2, some (casL c))]⟩) (fun i => i ≤ ids.length ∧ (ids.take i).all numB = true) (fun i => ids.length - i) ?_ ?_
  · exact at_ex (0) (⟨Nat.zero_le _, rfl⟩) [(2, some 2)] hI rfl rfl ⟨⟨_, rfl, .pure pu⟩, ⟨_, rfl, .p rfl⟩, ⟨_, rfl, .pure pu⟩, trivial⟩ ⟨.inr ⟨_, _, rfl, rfl, .pure pul⟩, trivial⟩
  rintro i ⟨hi, hi2⟩
  refine at_seq ?_
  refine at_seq ?_
  refine at_region ?_
  refine s1 (y_p rfl) rfl <| s1 (y_p rfl) rfl <| s1 (y_len Tryd.underlying25 rfl rfl rfl) rfl <| s1 (y_p rfl) rfl <| ?_
  refine at_nil ?_
  refine x_tn ?_
  refine at_cond rfl (fun hc9 => ?_) (fun hc9 => ?_)
  · have h9 : i < ids.length := by have := of_decide_eq_true hc9; omega
    obtain ⟨q, hq⟩ : ∃ q, ids[i]? = some q := ⟨_, List.getElem?_eq_getElem h9⟩
    refine at_skip ?_
    refine x_tn ?_
    refine at_seq ?_
    refine at_block ?_
    refine at_seq ?_
    refine at_region ?_
    refine s1 (y_p rfl) rfl <| s1 (y_p rfl) rfl <| s1 (y_ixf i Tryd.underlying25 ti3 rfl rfl rfl (by omega) rfl) rfl <| s1 (y_load ti3 rfl rfl (getI4 hq)) rfl <| ?_
    refine at_op rfl (n_call false rfl (.cons (.pure pu) (.nil)) (rnumb_ok q) pu (.inl rfl) rfl ?_)
    refine s1 (y_p rfl) rfl <| ?_
    refine at_nil ?_
    refine x_tn ?_
    refine at_cond rfl (fun hc17 => ?_) (fun hc17 => ?_)
    · have h17 : numB q = false := by simpa using hc17
      refine at_seq ?_
      refine at_region ?_
      refine s1 (y_p rfl) rfl <| ?_
      refine at_nil ?_
      refine x_tn ?_
      refine at_ret ?_
      refine x_br ?_
      refine x_tr ?_
      refine x_tr ?_
      refine x_br ?_
      refine x_tr ?_
      refine at_result (rs := [.tmp 4]) rfl (r_tmp rfl r_nil) ?_
      exact congrArg A.b (askB_no3 (List.mem_of_getElem? hq) h17).symm
    · have h17 : numB q = true := by simpa using hc17
      refine at_skip ?_
      refine x_bn ?_
      refine x_tn ?_
      refine at_region ?_
      refine s1 (y_p rfl) rfl <| s1 (addN _ 1 rfl rfl rfl rfl (by omega)) rfl <| s1 (y_p rfl) rfl <| ?_
      refine at_nil ?_
      exact at_end (i + 1) (⟨by omega, all_nextN hq hi2 h17⟩) (by omega) [(2, some 2)] hI rfl rfl ⟨⟨_, rfl, .pure pu⟩, ⟨_, rfl, .p rfl⟩, ⟨_, rfl, .pure pu⟩, trivial⟩ ⟨.inr ⟨_, _, rfl, rfl, .pure pul⟩, trivial⟩
  · have h9 : i = ids.length := by have := of_decide_eq_false hc9; omega
    subst h9
    refine at_exit ?_
    refine x_te ?_
    refine x_te ?_
    refine x_be ?_
    refine x_tn ?_
    refine at_seq ?_
    refine at_region ?_
    refine s1 (y_loadA0 ti27 rfl rfl (cas_len hx)) rfl <| ?_
    refine at_op rfl (n_call false rfl (.cons (.pure pu) (.nil)) (rhead_ok c hx hF) pu (.inl rfl) rfl ?_)
    refine s1 (y_p rfl) rfl <| ?_
    refine g_and 3 rfl rfl rfl rfl (fun hb20 => .step (y_p rfl) rfl rfl <| .step (y_len Tryd.underlying25 rfl rfl rfl) rfl rfl <| .step (y_p rfl) rfl rfl <| .done) rfl rfl ?_
    refine s1 (y_p rfl) rfl <| ?_
    refine at_nil ?_
    refine x_tn ?_
    refine at_ret ?_
    refine at_result (rs := [.tmp 4]) rfl (r_tmp rfl r_nil) ?_
    exact congrArg A.b (by rw [← askB_all hi2]; cases headB c.F <;> simp <;> omega)
set_option linter.unusedSimpArgs false in
set_option linter.unusedVariables false in
set_option maxHeartbeats 1000000 in
set_option maxRecDepth 10000 in
theorem rsask_ok (c : Cas) (hx : c.x.length = 32) (hF : c.F.length ≤ 1000) (ids : List Int) (hidn : ids.length ≤ maxLen) (coins : List (List UInt8)) : Con Tryd.prog 23 [.ag (casL c), .fz ids.length (ids.map (A.i .i64)), .fz coins.length (coins.map V6.slV)] (Ret (sAskA c ids coins)) := by
  refine enter Tryd.func23 rfl Tryd.ntmps23 (by kernel_rfl) (Nat.le_of_ble_eq_true rfl) fun w0 X0 hI => ?_
  refine at_seq ?_
  refine at_region ?_
  refine at_op rfl (n_boxA 3 rfl rfl rfl ?_)
  refine at_op rfl (n_alloc 6 rfl ti46 rfl rfl ?_)
  refine at_op rfl (n_alloc 7 rfl ti46 rfl rfl ?_)
  refine s1 ((y_p rfl).v (v' := .i .i64 0) rfl) rfl <| ?_
  refine at_nil ?_
  refine x_tn ?_
  refine at_seq ?_
  refine at_seq ?_
  rcases tfC (askB c ids) with hcs | hcs
  · skip
    refine at_region ?_
    refine s1 (y_loadA0 ti27 rfl rfl (cas_len hx)) rfl <| s1 (y_p rfl) rfl <| ?_
    refine at_op rfl (n_call false rfl (.cons (.pure pu) (.cons (.pure pu) (.nil))) (Con.cast (rnumbers_ok c hx hF ids hidn) (congrArg A.b hcs)) pu (.inl rfl) rfl ?_)
    refine s1 ((y_p rfl).v (v' := .b true) (rfl)) rfl <| ?_
    refine at_nil ?_
    refine x_tn ?_
    refine at_then rfl ?_
    refine at_seq ?_
    refine at_region ?_
    refine s1 (y_bld (out := [_]) [[evC (.slice none 0 0)]] ti46 rfl Tryd.underlying46 (by kernel_rfl) rfl rfl trivial rfl) rfl <| s1 (y_bld (out := [_]) [[evC (.slice none 0 0)]] ti46 rfl Tryd.underlying46 (by kernel_rfl) rfl rfl trivial rfl) rfl <| ?_
    refine at_op rfl (n_storeA ti46 rfl rfl rfl (by first | rfl | omega | (simp; done) | (simp [*]; done) | (simp; omega) | (simp [*]; omega) | (simp [D32.len, -List.length_flatten, *]; done) | (simp [D32.len, -List.length_flatten, *]; omega)) (by first | rfl | omega | (simp; done) | (simp [*]; done) | (simp; omega) | (simp [*]; omega) | (simp [D32.len, -List.length_flatten, *]; done) | (simp [D32.len, -List.length_flatten, *]; omega)) ?_)
    refine at_op rfl (n_storeA ti46 rfl rfl rfl (by first | rfl | omega | (simp; done) | (simp [*]; done) | (simp; omega) | (simp [*]; omega) | (simp [D32.len, -List.length_flatten, *]; done) | (simp [D32.len, -List.length_flatten, *]; omega)) (by first | rfl | omega | (simp; done) | (simp [*]; done) | (simp; omega) | (simp [*]; omega) | (simp [D32.len, -List.length_flatten, *]; done) | (simp [D32.len, -List.length_flatten, *]; omega)) ?_)
    refine s1 ((y_p rfl).v (v' := .i .i64 370) rfl) rfl <| ?_
    refine at_nil ?_
    refine x_tn ?_
    refine at_ret ?_
    refine x_tr ?_
    refine at_result (rs := [.cell 6 46, .cell 7 46, .tmp 8]) rfl (r_cellA ti46 rfl rfl rfl rfl (r_cellA ti46 rfl rfl rfl rfl (r_tmp rfl r_nil))) ?_
    show A.tu _ = _; rw [sask_no hcs]; rfl
  · obtain ⟨hh, hi4, hall⟩ := ask_all hcs
    refine at_region ?_
    refine s1 (y_loadA0 ti27 rfl rfl (cas_len hx)) rfl <| s1 (y_p rfl) rfl <| ?_
    refine at_op rfl (n_call false rfl (.cons (.pure pu) (.cons (.pure pu) (.nil))) (Con.cast (rnumbers_ok c hx hF ids hidn) (congrArg A.b hcs)) pu (.inl rfl) rfl ?_)
    refine s1 ((y_p rfl).v (v' := .b false) (rfl)) rfl <| ?_
    refine at_nil ?_
    refine x_tn ?_
    refine at_else rfl ?_
    refine at_skip ?_
    refine x_tn ?_
    refine at_seq ?_
    refine at_region ?_
    refine at_op rfl (n_bs1 19 rfl Tryd.underlying25 ti3 rfl rfl rfl rfl rfl ?_)
    refine s1 (y_p rfl) rfl <| ?_
    refine at_nil ?_
    refine x_tn ?_
    refine at_seq ?_
    refine at_seq ?_
    refine at_region ?_
    refine s1 ((y_p rfl).v (v' := .i .i64 0) rfl) rfl <| ?_
    refine at_nil ?_
    refine x_tn ?_
    refine at_block ?_
    refine at_loop (ι := Nat) (fun k => [(1, .fz ids.length (ids.map (A.i .i64))), (2, .fz coins.length (coins.map V6.slV)), (3, .p 3 0), (6, .p 6 0), (7, .p 7 0), (9, .sl 137 1 0 (atL c (ids.take k)).length), (10, nJ k)]) (fun k => ⟨[(3, some (casL c)), (6, some ([.nl])), (7, some ([.nl])), (137, some ((atL c (ids.take k)).map iA))]⟩) (fun k => k ≤ ids.length) (fun k => ids.length - k) ?_ ?_
    · exact at_ex (0) (Nat.zero_le _) [(3, some 3), (6, some 6), (7, some 7), (137, some 19)] hI rfl rfl ⟨⟨_, rfl, .pure pu⟩, ⟨_, rfl, .pure pu⟩, ⟨_, rfl, .p rfl⟩, ⟨_, rfl, .p rfl⟩, ⟨_, rfl, .p rfl⟩, ⟨_, rfl, .sl rfl (by first | rfl | omega | (simp; done) | (simp [*]; done) | (simp; omega) | (simp [*]; omega) | (simp [D32.len, -List.length_flatten, *]; done) | (simp [D32.len, -List.length_flatten, *]; omega))⟩, ⟨_, rfl, .pure pu⟩, trivial⟩ ⟨.inr ⟨_, _, rfl, rfl, .pure pul⟩, .inr ⟨_, _, rfl, rfl, .pure pul⟩, .inr ⟨_, _, rfl, rfl, .pure pul⟩, .inr ⟨_, _, rfl, rfl, .of (by rfl) (.pure pul)⟩, trivial⟩
    rintro k hk
    have hla := len_atL c (ids.take k)
    rw [List.length_take] at hla
    refine at_seq ?_
    refine at_seq ?_
    refine at_region ?_
    refine s1 (y_p rfl) rfl <| s1 (y_p rfl) rfl <| s1 (y_len Tryd.underlying25 rfl rfl rfl) rfl <| s1 (y_p rfl) rfl <| ?_
    refine at_nil ?_
    refine x_tn ?_
    refine at_cond rfl (fun hc23 => ?_) (fun hc23 => ?_)
    · have h23 : k < ids.length := by have := of_decide_eq_true hc23; omega
      obtain ⟨q, hq⟩ : ∃ q, ids[k]? = some q := ⟨_, List.getElem?_eq_getElem h23⟩
      have hnb := hall q (List.mem_of_getElem? hq)
      obtain ⟨j, rfl, hj⟩ := num_nat hnb
      have hnx := atL_next (c := c) hq
      rw [Int.toNat_natCast] at hnx
      have hnl : (atL c (ids.take k)).length + 33 = (atL c (ids.take (k + 1))).length := by rw [← hnx, List.length_append, len_whereL]
      refine at_skip ?_
      refine x_tn ?_
      refine at_seq ?_
      refine at_block ?_
      refine at_seq ?_
      refine at_fs ⟨_, [], []⟩ 10 4 hmix (le_refl rfl) ?_
      refine fs_q 0 [] [(3, none)] (y_loadA0 ti27 rfl rfl (cas_len hx)) rfl rfl ?_
      refine fs_q 1 [] [] (y_p rfl) rfl rfl ?_
      refine fs_q 2 [] [] (y_p rfl) rfl rfl ?_
      refine fs_q 3 [1, 2] [] (y_ixf k Tryd.underlying25 ti3 rfl rfl rfl (by omega) rfl) rfl rfl ?_
      refine fs_q 4 [3] [] (y_load ti3 rfl rfl (getI4 hq)) rfl rfl ?_
      refine fs_call false 5 [0, 4] [] gy0 rfl (.cons (.pure pu) (.cons (.pure pu) (.nil))) (Con.cast (rwhere_ok c hx hF (j : Int)) (where_yes hh hnb)) pu (.inl rfl) rfl rfl ?_
      refine fs_q 6 [5] [] (y_p rfl) rfl rfl ?_
      refine fs_q 7 [6] [] (y_p rfl) rfl rfl ?_
      refine fs_q 8 [6] [] (y_p rfl) rfl rfl ?_
      refine fs_q 9 [7] [] (y_p rfl) rfl rfl ?_
      refine fs_end (by kernel_rfl) ?_
      refine s1 (y_p rfl) rfl <| ?_
      refine at_nil ?_
      refine x_tn ?_
      refine at_region ?_
      refine s1 (y_p rfl) rfl <| s1 (y_p rfl) rfl <| ?_
      refine at_op rfl (n_app 37 rfl Tryd.underlying25 ti3 rfl (.sl rfl (by simp)) rfl rfl (by simp) (by rw [len_whereL]; simp only [maxLen]; omega) (by rw [len_whereL]; omega) rfl (by rw [← List.map_append, hnx]) rfl ?_)
      refine s1 (y_p rfl) rfl <| ?_
      refine at_nil ?_
      refine x_bn ?_
      refine x_tn ?_
      refine at_region ?_
      refine s1 (y_p rfl) rfl <| s1 (addN _ 1 rfl rfl rfl rfl (by omega)) rfl <| s1 (y_p rfl) rfl <| ?_
      refine at_nil ?_
      exact at_end (k + 1) (by omega) (by omega) [(3, some 3), (6, some 6), (7, some 7), (137, some 37)] hI rfl rfl ⟨⟨_, rfl, .pure pu⟩, ⟨_, rfl, .pure pu⟩, ⟨_, rfl, .p rfl⟩, ⟨_, rfl, .p rfl⟩, ⟨_, rfl, .p rfl⟩, ⟨_, rfl, .sl rfl (by first | rfl | omega | (simp; done) | (simp [*]; done) | (simp; omega) | (simp [*]; omega) | (simp [D32.len, -List.length_flatten, *]; done) | (simp [D32.len, -List.length_flatten, *]; omega))⟩, ⟨_, rfl, .pure pu⟩, trivial⟩ ⟨.inr ⟨_, _, rfl, rfl, .pure pul⟩, .inr ⟨_, _, rfl, rfl, .pure pul⟩, .inr ⟨_, _, rfl, rfl, .pure pul⟩, .inr ⟨_, _, rfl, rfl, .pure pul⟩, trivial⟩
    · have h23 : k = ids.length := by have := of_decide_eq_false hc23; omega
      subst h23
      refine at_exit ?_
      refine x_te ?_
      refine x_te ?_
      refine x_be ?_
      refine x_tn ?_
      refine at_seq ?_
      rcases ask_split 520 (atL c ids) 132 coins with hcs | hcs
      · have hok := ‹askB c ids = true›
        obtain ⟨e, he, hA⟩ := hcs
        refine at_frz 9 rfl rfl pul (view_eq (by simp) rfl) ?_
        refine at_say 9 rfl (v' := .fz (atL c ids).length ((atL c ids).map (A.i .i64))) (by rw [List.take_length]) ?_
        refine at_region ?_
        refine s1 (y_p rfl) rfl <| s1 (y_p rfl) rfl <| ?_
        refine at_op rfl (n_call false rfl (.cons (.pure pu) (.cons (.pure pu) (.cons (.pure pu) (.cons (.pure pu) (.nil))))) (Con.cast (rask36_ok 520 (atL c ids) 132 coins) hA) pu (.inl rfl) rfl ?_)
        refine s1 (y_p rfl) rfl <| s1 (y_p rfl) rfl <| s1 (y_p rfl) rfl <| ?_
        refine at_op rfl (n_storeA ti46 rfl rfl rfl (by first | rfl | omega | (simp; done) | (simp [*]; done) | (simp; omega) | (simp [*]; omega) | (simp [D32.len, -List.length_flatten, *]; done) | (simp [D32.len, -List.length_flatten, *]; omega)) (by first | rfl | omega | (simp; done) | (simp [*]; done) | (simp; omega) | (simp [*]; omega) | (simp [D32.len, -List.length_flatten, *]; done) | (simp [D32.len, -List.length_flatten, *]; omega)) ?_)
        refine at_op rfl (n_storeA ti46 rfl rfl rfl (by first | rfl | omega | (simp; done) | (simp [*]; done) | (simp; omega) | (simp [*]; omega) | (simp [D32.len, -List.length_flatten, *]; done) | (simp [D32.len, -List.length_flatten, *]; omega)) (by first | rfl | omega | (simp; done) | (simp [*]; done) | (simp; omega) | (simp [*]; omega) | (simp [D32.len, -List.length_flatten, *]; done) | (simp [D32.len, -List.length_flatten, *]; omega)) ?_)
        refine s1 (y_p rfl) rfl <| ?_
        refine at_nil ?_
        refine x_tn ?_
        refine at_ret ?_
        refine at_result (rs := [.cell 6 46, .cell 7 46, .tmp 8]) rfl (r_cellA ti46 rfl rfl rfl rfl (r_cellA ti46 rfl rfl rfl rfl (r_tmp rfl r_nil))) ?_
        show A.tu _ = _; rw [sask_yes hok, hA]; rfl
      · have hok := ‹askB c ids = true›
        obtain ⟨a, b, hA, _⟩ := hcs
        refine at_frz 9 rfl rfl pul (view_eq (by simp) rfl) ?_
        refine at_say 9 rfl (v' := .fz (atL c ids).length ((atL c ids).map (A.i .i64))) (by rw [List.take_length]) ?_
        refine at_region ?_
        refine s1 (y_p rfl) rfl <| s1 (y_p rfl) rfl <| ?_
        refine at_op rfl (n_call false rfl (.cons (.pure pu) (.cons (.pure pu) (.cons (.pure pu) (.cons (.pure pu) (.nil))))) (Con.cast (rask36_ok 520 (atL c ids) 132 coins) hA) pu (.inl rfl) rfl ?_)
        refine s1 (y_p rfl) rfl <| s1 (y_p rfl) rfl <| s1 (y_p rfl) rfl <| ?_
        refine at_op rfl (n_storeA ti46 rfl rfl rfl (by first | rfl | omega | (simp; done) | (simp [*]; done) | (simp; omega) | (simp [*]; omega) | (simp [D32.len, -List.length_flatten, *]; done) | (simp [D32.len, -List.length_flatten, *]; omega)) (by first | rfl | omega | (simp; done) | (simp [*]; done) | (simp; omega) | (simp [*]; omega) | (simp [D32.len, -List.length_flatten, *]; done) | (simp [D32.len, -List.length_flatten, *]; omega)) ?_)
        refine at_op rfl (n_storeA ti46 rfl rfl rfl (by first | rfl | omega | (simp; done) | (simp [*]; done) | (simp; omega) | (simp [*]; omega) | (simp [D32.len, -List.length_flatten, *]; done) | (simp [D32.len, -List.length_flatten, *]; omega)) (by first | rfl | omega | (simp; done) | (simp [*]; done) | (simp; omega) | (simp [*]; omega) | (simp [D32.len, -List.length_flatten, *]; done) | (simp [D32.len, -List.length_flatten, *]; omega)) ?_)
        refine s1 (y_p rfl) rfl <| ?_
        refine at_nil ?_
        refine x_tn ?_
        refine at_ret ?_
        refine at_result (rs := [.cell 6 46, .cell 7 46, .tmp 8]) rfl (r_cellA ti46 rfl rfl rfl rfl (r_cellA ti46 rfl rfl rfl rfl (r_tmp rfl r_nil))) ?_
        show A.tu _ = _; rw [sask_yes hok, hA]; rfl
set_option linter.unusedSimpArgs false in
set_option linter.unusedVariables false in
set_option maxHeartbeats 1000000 in
set_option maxRecDepth 10000 in
theorem rresult_ok (c : Cas) (hx : c.x.length = 32) (hF : c.F.length ≤ 1000) (ids : List Int) (hidn : ids.length ≤ maxLen) (a b : List (List UInt8)) (han : a.length ≤ maxLen) (hbn : b.length ≤ maxLen) : Con Tryd.prog 25 [.ag (casL c), .fz ids.length (ids.map (A.i .i64)), .ag [rowsV a], .ag [rowsV b]] (Ret (resA c ids a b)) := by
  refine enter Tryd.func25 rfl Tryd.ntmps25 (by kernel_rfl) (Nat.le_of_ble_eq_true rfl) fun w0 X0 hI => ?_
  refine at_seq ?_
  refine at_region ?_
  refine at_op rfl (n_boxA 4 rfl rfl rfl ?_)
  refine at_op rfl (n_boxA 6 rfl rfl rfl ?_)
  refine at_op rfl (n_boxA 7 rfl rfl rfl ?_)
  refine s1 (y_p rfl) rfl <| s1 ((y_p rfl).v (v' := .i .i64 0) rfl) rfl <| ?_
  refine at_nil ?_
  refine x_tn ?_
  refine at_seq ?_
  refine at_seq ?_
  rcases rs_cases c ids a b with hcs | hcs | hcs | hcs
  · obtain ⟨hk, hr⟩ := hcs
    refine at_region ?_
    refine s1 (y_loadA0 ti27 rfl rfl (cas_len hx)) rfl <| s1 (y_p rfl) rfl <| ?_
    refine at_op rfl (n_call false rfl (.cons (.pure pu) (.cons (.pure pu) (.nil))) (Con.cast (rnumbers_ok c hx hF ids hidn) (congrArg A.b hk)) pu (.inl rfl) rfl ?_)
    refine s1 ((y_p rfl).v (v' := .b true) (rfl)) rfl <| s1 (y_p rfl) rfl <| g0 rfl rfl rfl rfl <| g0 rfl rfl rfl rfl <| g0 rfl rfl rfl rfl <| g0 rfl rfl rfl rfl <| s1 (y_p rfl) rfl <| s1 (y_p rfl) rfl <| g0 rfl rfl rfl rfl <| g0 rfl rfl rfl rfl <| ?_
    refine g0 rfl rfl rfl rfl <| g0 rfl rfl rfl rfl <| s1 (y_p rfl) rfl <| ?_
    refine at_nil ?_
    refine x_tn ?_
    refine at_then rfl ?_
    refine at_seq ?_
    refine at_region ?_
    refine s1 (y_p rfl) rfl <| s1 ((y_p rfl).v (v' := .i .i64 370) rfl) rfl <| ?_
    refine at_nil ?_
    refine x_tn ?_
    refine at_ret ?_
    refine x_tr ?_
    refine at_result (rs := [.tmp 8, .tmp 9]) rfl (r_tmp rfl (r_tmp rfl r_nil)) ?_
    rw [res_no hr]; rfl
  · obtain ⟨hk, ha, hr⟩ := hcs
    refine at_region ?_
    refine s1 (y_loadA0 ti27 rfl rfl (cas_len hx)) rfl <| s1 (y_p rfl) rfl <| ?_
    refine at_op rfl (n_call false rfl (.cons (.pure pu) (.cons (.pure pu) (.nil))) (Con.cast (rnumbers_ok c hx hF ids hidn) (congrArg A.b hk)) pu (.inl rfl) rfl ?_)
    refine s1 ((y_p rfl).v (v' := .b false) (rfl)) rfl <| s1 (y_p rfl) rfl <| g1 rfl rfl (y_fld Tryd.underlying43 rfl ti28 (by decide) rfl rfl) rfl <| g1 rfl rfl (y_load ti28 rfl rfl rfl) rfl <| ?_
    refine at_opg rfl rfl rfl (n_call false rfl (.cons (.pure pu) (.cons (.pure pu) (.nil))) (Con.cast (rsized37_ok a 132 han) (congrArg A.b ha)) pu (.inl rfl) rfl ?_)
    refine g1 rfl rfl ((y_p rfl).v (v' := .b true) (rfl)) rfl <| s1 (y_p rfl) rfl <| s1 (y_p rfl) rfl <| g0 rfl rfl rfl rfl <| g0 rfl rfl rfl rfl <| g0 rfl rfl rfl rfl <| g0 rfl rfl rfl rfl <| s1 (y_p rfl) rfl <| ?_
    refine at_nil ?_
    refine x_tn ?_
    refine at_then rfl ?_
    refine at_seq ?_
    refine at_region ?_
    refine s1 (y_p rfl) rfl <| s1 ((y_p rfl).v (v' := .i .i64 370) rfl) rfl <| ?_
    refine at_nil ?_
    refine x_tn ?_
    refine at_ret ?_
    refine x_tr ?_
    refine at_result (rs := [.tmp 8, .tmp 9]) rfl (r_tmp rfl (r_tmp rfl r_nil)) ?_
    rw [res_no hr]; rfl
  · obtain ⟨hk, ha, hb, hr⟩ := hcs
    refine at_region ?_
    refine s1 (y_loadA0 ti27 rfl rfl (cas_len hx)) rfl <| s1 (y_p rfl) rfl <| ?_
    refine at_op rfl (n_call false rfl (.cons (.pure pu) (.cons (.pure pu) (.nil))) (Con.cast (rnumbers_ok c hx hF ids hidn) (congrArg A.b hk)) pu (.inl rfl) rfl ?_)
    refine s1 ((y_p rfl).v (v' := .b false) (rfl)) rfl <| s1 (y_p rfl) rfl <| g1 rfl rfl (y_fld Tryd.underlying43 rfl ti28 (by decide) rfl rfl) rfl <| g1 rfl rfl (y_load ti28 rfl rfl rfl) rfl <| ?_
    refine at_opg rfl rfl rfl (n_call false rfl (.cons (.pure pu) (.cons (.pure pu) (.nil))) (Con.cast (rsized37_ok a 132 han) (congrArg A.b ha)) pu (.inl rfl) rfl ?_)
    refine g1 rfl rfl ((y_p rfl).v (v' := .b false) (rfl)) rfl <| s1 (y_p rfl) rfl <| s1 (y_p rfl) rfl <| g1 rfl rfl (y_fld Tryd.underlying43 rfl ti28 (by decide) rfl rfl) rfl <| g1 rfl rfl (y_load ti28 rfl rfl rfl) rfl <| ?_
    refine at_opg rfl rfl rfl (n_call false rfl (.cons (.pure pu) (.cons (.pure pu) (.nil))) (Con.cast (rsized37_ok b 132 hbn) (congrArg A.b hb)) pu (.inl rfl) rfl ?_)
    refine g1 rfl rfl ((y_p rfl).v (v' := .b true) (rfl)) rfl <| s1 (y_p rfl) rfl <| ?_
    refine at_nil ?_
    refine x_tn ?_
    refine at_then rfl ?_
    refine at_seq ?_
    refine at_region ?_
    refine s1 (y_p rfl) rfl <| s1 ((y_p rfl).v (v' := .i .i64 370) rfl) rfl <| ?_
    refine at_nil ?_
    refine x_tn ?_
    refine at_ret ?_
    refine x_tr ?_
    refine at_result (rs := [.tmp 8, .tmp 9]) rfl (r_tmp rfl (r_tmp rfl r_nil)) ?_
    rw [res_no hr]; rfl
  · obtain ⟨hk, ha, hb, hr⟩ := hcs
    obtain ⟨hh, hi4, hall⟩ := ask_all hk
    have hal := siz_len ha
    have hbl := siz_len hb
    refine at_region ?_
    refine s1 (y_loadA0 ti27 rfl rfl (cas_len hx)) rfl <| s1 (y_p rfl) rfl <| ?_
    refine at_op rfl (n_call false rfl (.cons (.pure pu) (.cons (.pure pu) (.nil))) (Con.cast (rnumbers_ok c hx hF ids hidn) (congrArg A.b hk)) pu (.inl rfl) rfl ?_)
    refine s1 ((y_p rfl).v (v' := .b false) (rfl)) rfl <| s1 (y_p rfl) rfl <| g1 rfl rfl (y_fld Tryd.underlying43 rfl ti28 (by decide) rfl rfl) rfl <| g1 rfl rfl (y_load ti28 rfl rfl rfl) rfl <| ?_
    refine at_opg rfl rfl rfl (n_call false rfl (.cons (.pure pu) (.cons (.pure pu) (.nil))) (Con.cast (rsized37_ok a 132 han) (congrArg A.b ha)) pu (.inl rfl) rfl ?_)
    refine g1 rfl rfl ((y_p rfl).v (v' := .b false) (rfl)) rfl <| s1 (y_p rfl) rfl <| s1 (y_p rfl) rfl <| g1 rfl rfl (y_fld Tryd.underlying43 rfl ti28 (by decide) rfl rfl) rfl <| g1 rfl rfl (y_load ti28 rfl rfl rfl) rfl <| ?_
    refine at_opg rfl rfl rfl (n_call false rfl (.cons (.pure pu) (.cons (.pure pu) (.nil))) (Con.cast (rsized37_ok b 132 hbn) (congrArg A.b hb)) pu (.inl rfl) rfl ?_)
    refine g1 rfl rfl ((y_p rfl).v (v' := .b false) (rfl)) rfl <| s1 (y_p rfl) rfl <| ?_
    refine at_nil ?_
    refine x_tn ?_
    refine at_else rfl ?_
    refine at_skip ?_
    refine x_tn ?_
    refine at_seq ?_
    refine at_region ?_
    refine at_op rfl (n_bs1 34 rfl Tryd.underlying49 ti4 rfl rfl rfl rfl rfl ?_)
    refine s1 (y_p rfl) rfl <| ?_
    refine at_nil ?_
    refine x_tn ?_
    refine at_seq ?_
    refine at_seq ?_
    refine at_region ?_
    refine s1 ((y_p rfl).v (v' := .i .i64 0) rfl) rfl <| ?_
    refine at_nil ?_
    refine x_tn ?_
    refine at_block ?_
    refine at_loop (ι := Nat) (fun n => [(1, .fz ids.length (ids.map (A.i .i64))), (4, .p 4 0), (6, .p 6 0), (7, .p 7 0), (10, .sl 182 1 0 n), (11, nJ n)]) (fun n => ⟨[(4, some (casL c)), (6, some ([rowsV a])), (7, some ([rowsV b])), (182, some ((resN c ids a b n).map A.b))]⟩) (fun n => n ≤ ids.length) (fun n => ids.length - n) ?_ ?_
    · exact at_ex (0) (Nat.zero_le _) [(4, some 4), (6, some 6), (7, some 7), (182, some 34)] hI rfl rfl ⟨⟨_, rfl, .pure pu⟩, ⟨_, rfl, .p rfl⟩, ⟨_, rfl, .p rfl⟩, ⟨_, rfl, .p rfl⟩, ⟨_, rfl, .sl rfl (by first | rfl | omega | (simp; done) | (simp [*]; done) | (simp; omega) | (simp [*]; omega) | (simp [D32.len, -List.length_flatten, *]; done) | (simp [D32.len, -List.length_flatten, *]; omega))⟩, ⟨_, rfl, .pure pu⟩, trivial⟩ ⟨.inr ⟨_, _, rfl, rfl, .pure pul⟩, .inr ⟨_, _, rfl, rfl, .pure pul⟩, .inr ⟨_, _, rfl, rfl, .pure pul⟩, .inr ⟨_, _, rfl, rfl, .of (by rfl) (.pure pul)⟩, trivial⟩
    rintro n hn
    refine at_seq ?_
    refine at_seq ?_
    refine at_region ?_
    refine s1 (y_p rfl) rfl <| s1 (y_p rfl) rfl <| s1 (y_len Tryd.underlying25 rfl rfl rfl) rfl <| s1 (y_p rfl) rfl <| ?_
    refine at_nil ?_
    refine x_tn ?_
    refine at_cond rfl (fun hc38 => ?_) (fun hc38 => ?_)
    · have h38 : n < ids.length := by have := of_decide_eq_true hc38; omega
      obtain ⟨q, hq⟩ : ∃ q, ids[n]? = some q := ⟨_, List.getElem?_eq_getElem h38⟩
      have hnb := hall q (List.mem_of_getElem? hq)
      obtain ⟨j, rfl, hj⟩ := num_nat hnb
      refine at_skip ?_
      refine x_tn ?_
      refine at_seq ?_
      refine at_block ?_
      refine at_seq ?_
      refine at_region ?_
      refine at_op rfl (n_bs1 41 rfl Tryd.underlying28 ti66 rfl rfl rfl rfl rfl ?_)
      refine s1 (y_p rfl) rfl <| ?_
      refine at_nil ?_
      refine x_tn ?_
      refine at_seq ?_
      refine at_seq ?_
      refine at_region ?_
      refine s1 (y_p rfl) rfl <| s1 (mulN 33 _ rfl rfl rfl rfl (by omega)) rfl <| s1 (y_p rfl) rfl <| ?_
      refine at_nil ?_
      refine x_tn ?_
      refine at_block ?_
      refine at_loop (ι := Nat) (fun k => [(1, .fz ids.length (ids.map (A.i .i64))), (4, .p 4 0), (6, .p 6 0), (7, .p 7 0), (10, .sl 182 1 0 n), (11, nJ n), (12, .sl 170 1 0 k), (13, nJ (33 * n + k))]) (fun k => ⟨[(4, some (casL c)), (6, some ([rowsV a])), (7, some ([rowsV b])), (182, some ((resN c ids a b n).map A.b)), (170, some ((rowsJ a b n k).map V6.slV))]⟩) (fun k => k ≤ 33) (fun k => 33 - k) ?_ ?_
      · exact at_ex (0) (Nat.zero_le _) [(4, some 4), (6, some 6), (7, some 7), (170, some 41), (182, some 182)] hI rfl rfl ⟨⟨_, rfl, .pure pu⟩, ⟨_, rfl, .p rfl⟩, ⟨_, rfl, .p rfl⟩, ⟨_, rfl, .p rfl⟩, ⟨_, rfl, .sl rfl (by first | rfl | omega | (simp; done) | (simp [*]; done) | (simp; omega) | (simp [*]; omega) | (simp [D32.len, -List.length_flatten, *]; done) | (simp [D32.len, -List.length_flatten, *]; omega))⟩, ⟨_, rfl, .pure pu⟩, ⟨_, rfl, .sl rfl (by first | rfl | omega | (simp; done) | (simp [*]; done) | (simp; omega) | (simp [*]; omega) | (simp [D32.len, -List.length_flatten, *]; done) | (simp [D32.len, -List.length_flatten, *]; omega))⟩, ⟨_, rfl, .pure pu⟩, trivial⟩ ⟨.inr ⟨_, _, rfl, rfl, .pure pul⟩, .inr ⟨_, _, rfl, rfl, .pure pul⟩, .inr ⟨_, _, rfl, rfl, .pure pul⟩, .inr ⟨_, _, rfl, rfl, .pure pul⟩, .inr ⟨_, _, rfl, rfl, .of (by rfl) (.pure pul)⟩, trivial⟩
      rintro k hk
      refine at_seq ?_
      refine at_seq ?_
      refine at_region ?_
      refine s1 (y_p rfl) rfl <| s1 (y_p rfl) rfl <| s1 (addN _ 1 rfl rfl rfl rfl (by omega)) rfl <| s1 (mulN 33 _ rfl rfl rfl rfl (by omega)) rfl <| s1 (y_p rfl) rfl <| ?_
      refine at_nil ?_
      refine x_tn ?_
      refine at_cond rfl (fun hc48 => ?_) (fun hc48 => ?_)
      · have h47 : k < 33 := by have := of_decide_eq_true hc48; omega
        obtain ⟨p, hp, hpd, hp16⟩ := siz_get ha (i := 33 * n + k) (by omega)
        obtain ⟨r, hr1, hrd, hr16⟩ := siz_get hb (i := 33 * n + k) (by omega)
        refine at_skip ?_
        refine x_tn ?_
        refine at_seq ?_
        refine at_block ?_
        refine at_seq ?_
        refine at_fs ⟨_, [], []⟩ 15 4 hmix (le_refl rfl) ?_
        refine fs_q 0 [] [(6, none)] (y_fld Tryd.underlying43 rfl ti28 (by decide) rfl rfl) rfl rfl ?_
        refine fs_q 1 [0] [(6, none)] (y_load ti28 rfl rfl rfl) rfl rfl ?_
        refine fs_q 2 [] [] (y_p rfl) rfl rfl ?_
        refine fs_q 3 [1, 2] [] (y_ixf (33 * n + k) Tryd.underlying28 ti66 rfl rfl rfl (by omega) rfl) rfl rfl ?_
        refine fs_q 4 [3] [] (y_load ti66 rfl rfl (V6.getR hp)) rfl rfl ?_
        refine fs_q 5 [] [(7, none)] (y_fld Tryd.underlying43 rfl ti28 (by decide) rfl rfl) rfl rfl ?_
        refine fs_q 6 [5] [(7, none)] (y_load ti28 rfl rfl rfl) rfl rfl ?_
        refine fs_q 7 [] [] (y_p rfl) rfl rfl ?_
        refine fs_q 8 [6, 7] [] (y_ixf (33 * n + k) Tryd.underlying28 ti66 rfl rfl rfl (by omega) rfl) rfl rfl ?_
        refine fs_q 9 [8] [] (y_load ti66 rfl rfl (V6.getR hr1)) rfl rfl ?_
        refine fs_call false 10 [4, 9] [] gy0 rfl (.cons (.pure pu) (.cons (.pure pu) (.nil))) (Con.cast (rjoin36_ok p r) (join_16 hp16 hr16)) pu (.inl rfl) rfl rfl ?_
        refine fs_q 11 [10] [] (y_p rfl) rfl rfl ?_
        refine fs_q 12 [11] [] (y_p rfl) rfl rfl ?_
        refine fs_q 13 [11] [] (y_p rfl) rfl rfl ?_
        refine fs_q 14 [12] [] (y_p rfl) rfl rfl ?_
        refine fs_end (by kernel_rfl) ?_
        refine s1 (y_p rfl) rfl <| ?_
        refine at_nil ?_
        refine x_tn ?_
        refine at_region ?_
        refine s1 (y_p rfl) rfl <| s1 (y_p rfl) rfl <| ?_
        refine at_op rfl (n_bs1 67 rfl Tryd.underlying28 ti66 rfl rfl rfl rfl rfl ?_)
        refine at_op rfl (n_app 68 rfl Tryd.underlying28 ti66 rfl (.sl rfl (by simp)) rfl (SM_full rfl (by first | rfl | omega | (simp; done) | (simp [*]; done) | (simp; omega) | (simp [*]; omega) | (simp [D32.len, -List.length_flatten, *]; done) | (simp [D32.len, -List.length_flatten, *]; omega))) (by simp) (by simp only [maxLen]; omega) (by omega) rfl (rowsJ_s hpd hrd) rfl ?_)
        refine s1 (y_p rfl) rfl <| ?_
        refine at_nil ?_
        refine x_bn ?_
        refine x_tn ?_
        refine at_region ?_
        refine s1 (y_p rfl) rfl <| s1 (addN _ 1 rfl rfl rfl rfl (by omega)) rfl <| s1 (y_p rfl) rfl <| ?_
        refine at_nil ?_
        exact at_end (k + 1) (by omega) (by omega) [(4, some 4), (6, some 6), (7, some 7), (170, some 68), (182, some 182)] hI rfl rfl ⟨⟨_, rfl, .pure pu⟩, ⟨_, rfl, .p rfl⟩, ⟨_, rfl, .p rfl⟩, ⟨_, rfl, .p rfl⟩, ⟨_, rfl, .sl rfl (by first | rfl | omega | (simp; done) | (simp [*]; done) | (simp; omega) | (simp [*]; omega) | (simp [D32.len, -List.length_flatten, *]; done) | (simp [D32.len, -List.length_flatten, *]; omega))⟩, ⟨_, rfl, .pure pu⟩, ⟨_, rfl, .sl rfl (by first | rfl | omega | (simp; done) | (simp [*]; done) | (simp; omega) | (simp [*]; omega) | (simp [D32.len, -List.length_flatten, *]; done) | (simp [D32.len, -List.length_flatten, *]; omega))⟩, ⟨_, rfl, .pure pu⟩, trivial⟩ ⟨.inr ⟨_, _, rfl, rfl, .pure pul⟩, .inr ⟨_, _, rfl, rfl, .pure pul⟩, .inr ⟨_, _, rfl, rfl, .pure pul⟩, .inr ⟨_, _, rfl, rfl, .pure pul⟩, .inr ⟨_, _, rfl, rfl, .pure pul⟩, trivial⟩
      · obtain rfl : k = 33 := by have := of_decide_eq_false hc48; omega
        refine at_exit ?_
        refine x_te ?_
        refine x_te ?_
        refine x_be ?_
        refine x_tn ?_
        refine at_seq ?_
        refine at_frz 12 rfl rfl pul (view_eq (by simp) rfl) ?_
        refine at_say 12 rfl (v' := rowsV (rowsJ a b n 33)) (rows_J ..) ?_
        refine at_fs ⟨_, [], []⟩ 11 4 hmix (le_refl rfl) ?_
        refine fs_q 0 [] [(4, none)] (y_loadA0 ti27 rfl rfl (cas_len hx)) rfl rfl ?_
        refine fs_q 1 [] [] (y_p rfl) rfl rfl ?_
        refine fs_q 2 [] [] (y_p rfl) rfl rfl ?_
        refine fs_q 3 [1, 2] [] (y_ixf n Tryd.underlying25 ti3 rfl rfl rfl (by omega) rfl) rfl rfl ?_
        refine fs_q 4 [3] [] (y_load ti3 rfl rfl (getI4 hq)) rfl rfl ?_
        refine fs_q 5 [] [] (y_p rfl) rfl rfl ?_
        refine fs_call false 6 [0, 4, 5] [] gy0 rfl (.cons (.pure pu) (.cons (.pure pu) (.cons (.pure pu) (.nil)))) (Con.cast (rread_ok c hx hF j (rowsJ a b n 33) (by rw [len_rowsJ]; simp [maxLen])) (read_yes hh hnb (siz_rowsJ ha hb (by omega)))) pu (.inl rfl) rfl rfl ?_
        refine fs_q 7 [6] [] (y_p rfl) rfl rfl ?_
        refine fs_q 8 [7] [] (y_p rfl) rfl rfl ?_
        refine fs_q 9 [7] [] (y_p rfl) rfl rfl ?_
        refine fs_q 10 [8] [] (y_p rfl) rfl rfl ?_
        refine fs_end (by kernel_rfl) ?_
        refine s1 (y_p rfl) rfl <| ?_
        refine at_nil ?_
        refine x_tn ?_
        refine at_region ?_
        refine s1 (y_p rfl) rfl <| s1 (y_p rfl) rfl <| ?_
        refine at_op rfl (n_bs1 81 rfl Tryd.underlying49 ti4 rfl rfl rfl rfl rfl ?_)
        refine at_op rfl (n_app 82 rfl Tryd.underlying49 ti4 rfl (.sl rfl (by simp)) rfl (SM_full rfl (by first | rfl | omega | (simp; done) | (simp [*]; done) | (simp; omega) | (simp [*]; omega) | (simp [D32.len, -List.length_flatten, *]; done) | (simp [D32.len, -List.length_flatten, *]; omega))) (by simp) (by simp only [maxLen]; omega) (by omega) rfl (resN_s hq) rfl ?_)
        refine s1 (y_p rfl) rfl <| ?_
        refine at_nil ?_
        refine x_bn ?_
        refine x_tn ?_
        refine at_region ?_
        refine s1 (y_p rfl) rfl <| s1 (addN _ 1 rfl rfl rfl rfl (by omega)) rfl <| s1 (y_p rfl) rfl <| ?_
        refine at_nil ?_
        exact at_end (n + 1) (by omega) (by omega) [(4, some 4), (6, some 6), (7, some 7), (182, some 82)] hI rfl rfl ⟨⟨_, rfl, .pure pu⟩, ⟨_, rfl, .p rfl⟩, ⟨_, rfl, .p rfl⟩, ⟨_, rfl, .p rfl⟩, ⟨_, rfl, .sl rfl (by first | rfl | omega | (simp; done) | (simp [*]; done) | (simp; omega) | (simp [*]; omega) | (simp [D32.len, -List.length_flatten, *]; done) | (simp [D32.len, -List.length_flatten, *]; omega))⟩, ⟨_, rfl, .pure pu⟩, trivial⟩ ⟨.inr ⟨_, _, rfl, rfl, .pure pul⟩, .inr ⟨_, _, rfl, rfl, .pure pul⟩, .inr ⟨_, _, rfl, rfl, .pure pul⟩, .inr ⟨_, _, rfl, rfl, .pure pul⟩, trivial⟩
    · have h38 : n = ids.length := by have := of_decide_eq_false hc38; omega
      subst h38
      refine at_exit ?_
      refine x_te ?_
      refine x_te ?_
      refine x_be ?_
      refine x_tn ?_
      refine at_seq ?_
      refine at_frz 10 rfl rfl pul (view_eq (by simp) rfl) ?_
      refine at_say 10 rfl (v' := boolsA (resN c ids a b ids.length)) (bools_res ..) ?_
      refine at_region ?_
      refine s1 (y_p rfl) rfl <| s1 (y_p rfl) rfl <| s1 ((y_p rfl).v (v' := .i .i64 0) rfl) rfl <| ?_
      refine at_nil ?_
      refine x_tn ?_
      refine at_ret ?_
      refine at_result (rs := [.tmp 8, .tmp 9]) rfl (r_tmp rfl (r_tmp rfl r_nil)) ?_
      rw [res_yes hr]; rfl
set_option linter.unusedSimpArgs false in
set_option linter.unusedVariables false in
set_option maxHeartbeats 1000000 in
set_option maxRecDepth 10000 in
theorem sameB_ok (L M : List Bool) (hL : L.length < 1000000) : Con Tryd.prog 26 [.fz L.length (L.map A.b), .fz M.length (M.map A.b)] (Ret (.b (L == M))) := by
  refine enter Tryd.func26 rfl Tryd.ntmps26 (by kernel_rfl) (Nat.le_of_ble_eq_true rfl) fun w0 X0 hI => ?_
  refine at_seq ?_
  refine at_region ?_
  refine s1 (y_p rfl) rfl <| ?_
  refine at_nil ?_
  refine x_tn ?_
  refine at_seq ?_
  refine at_seq ?_
  refine at_region ?_
  refine s1 (y_p rfl) rfl <| s1 (y_len Tryd.underlying49 rfl rfl rfl) rfl <| s1 (y_p rfl) rfl <| s1 (y_len Tryd.underlying49 rfl rfl rfl) rfl <| s1 (y_p rfl) rfl <| ?_
  refine at_nil ?_
  refine x_tn ?_
  refine at_cond rfl (fun hc10 => ?_) (fun hc10 => ?_)
  · have hl : L.length ≠ M.length := by simp at hc10; omega
    refine at_seq ?_
    refine at_region ?_
    refine s1 (y_p rfl) rfl <| ?_
    refine at_nil ?_
    refine x_tn ?_
    refine at_ret ?_
    refine x_tr ?_
    refine at_result (rs := [.tmp 4]) rfl (r_tmp rfl r_nil) ?_
    exact congrArg A.b (by rw [beq_eq_false_iff_ne.2 (fun e => hl (congrArg List.length e))])
  · have hl : L.length = M.length := by simp at hc10; omega
    refine at_skip ?_
    refine x_tn ?_
    refine at_seq ?_
    refine at_seq ?_
    refine at_region ?_
    refine s1 ((y_p rfl).v (v' := .i .i64 0) rfl) rfl <| ?_
    refine at_nil ?_
    refine x_tn ?_
    refine at_block ?_
    refine at_loop (ι := Nat) (fun i => [(0, .fz L.length (L.map A.b)), (1, .fz M.length (M.map A.b)), (5, nJ i)]) (fun i => ⟨[]⟩) (fun i => i ≤ L.length ∧ ∀ t, t < i → L[t]? = M[t]?) (fun i => L.length - i) ?_ ?_
    · exact at_ex (0) (⟨Nat.zero_le _, fun t ht => absurd ht (by omega)⟩) [] hI rfl rfl ⟨⟨_, rfl, .pure pu⟩, ⟨_, rfl, .pure pu⟩, ⟨_, rfl, .pure pu⟩, trivial⟩ trivial
    rintro i ⟨hi, hp⟩
    refine at_seq ?_
    refine at_seq ?_
    refine at_region ?_
    refine s1 (y_p rfl) rfl <| s1 (y_p rfl) rfl <| s1 (y_len Tryd.underlying49 rfl rfl rfl) rfl <| s1 (y_p rfl) rfl <| ?_
    refine at_nil ?_
    refine x_tn ?_
    refine at_cond rfl (fun hc14 => ?_) (fun hc14 => ?_)
    · have h14 : i < L.length := by have := of_decide_eq_true hc14; omega
      obtain ⟨v, hv⟩ : ∃ v, L[i]? = some v := ⟨_, List.getElem?_eq_getElem h14⟩
      obtain ⟨w, hw⟩ : ∃ w, M[i]? = some w := ⟨_, List.getElem?_eq_getElem (by omega)⟩
      refine at_skip ?_
      refine x_tn ?_
      refine at_seq ?_
      refine at_block ?_
      refine at_seq ?_
      refine at_draw_tail 8 hmix (by kernel_rfl) ?_
      refine t1 (y_p rfl) rfl <| t1 (y_p rfl) rfl <| t1 (y_ixf i Tryd.underlying49 ti4 rfl rfl rfl (by omega) rfl) rfl <| t1 (y_load ti4 rfl rfl (getB hv)) rfl <| t1 (y_p rfl) rfl <| t1 (y_p rfl) rfl <| t1 (y_ixf i Tryd.underlying49 ti4 rfl rfl rfl (by omega) rfl) rfl <| t1 (y_load ti4 rfl rfl (getB hw)) rfl <| ?_
      refine at_snil ?_
      refine s1 (y_neb Tryd.underlying4 rfl rfl) rfl <| ?_
      refine at_nil ?_
      refine x_tn ?_
      refine at_cond rfl (fun hc25 => ?_) (fun hc25 => ?_)
      · have hvw : v ≠ w := by intro e; subst e; simp at hc25
        refine at_seq ?_
        refine at_region ?_
        refine s1 (y_p rfl) rfl <| ?_
        refine at_nil ?_
        refine x_tn ?_
        refine at_ret ?_
        refine x_br ?_
        refine x_tr ?_
        refine x_tr ?_
        refine x_br ?_
        refine x_tr ?_
        refine at_result (rs := [.tmp 4]) rfl (r_tmp rfl r_nil) ?_
        exact congrArg A.b (nbeq_lists (t := i) (by rw [hv, hw]; simpa using hvw)).symm
      · have hvw : v = w := by simpa using hc25
        refine at_skip ?_
        refine x_bn ?_
        refine x_tn ?_
        refine at_region ?_
        refine s1 (y_p rfl) rfl <| s1 (addN _ 1 rfl rfl rfl rfl (by omega)) rfl <| s1 (y_p rfl) rfl <| ?_
        refine at_nil ?_
        exact at_end (i + 1) (⟨by omega, all_next hp (by rw [hv, hw, hvw])⟩) (by omega) [] hI rfl rfl ⟨⟨_, rfl, .pure pu⟩, ⟨_, rfl, .pure pu⟩, ⟨_, rfl, .pure pu⟩, trivial⟩ trivial
    · have h14 : i = L.length := by have := of_decide_eq_false hc14; omega
      subst h14
      refine at_exit ?_
      refine x_te ?_
      refine x_te ?_
      refine x_be ?_
      refine x_tn ?_
      refine at_seq ?_
      refine at_region ?_
      refine s1 (y_p rfl) rfl <| ?_
      refine at_nil ?_
      refine x_tn ?_
      refine at_ret ?_
      refine at_result (rs := [.tmp 4]) rfl (r_tmp rfl r_nil) ?_
      exact congrArg A.b (beq_lists hl hp).symm
set_option linter.unusedSimpArgs false in
set_option linter.unusedVariables false in
set_option maxHeartbeats 1000000 in
set_option maxRecDepth 10000 in
theorem lfew_ok (coins a b : List (List UInt8)) (hcn : coins.length ≤ maxLen) (han : a.length ≤ maxLen) (hbn : b.length ≤ maxLen) : Con Tryd.prog 21 [.fz coins.length (coins.map V6.slV), .ag [rowsV a], .ag [rowsV b]] (Ret (.b (V6.few coins 140 && V6.few a 140 && V6.few b 140))) := by
  refine enter Tryd.func21 rfl Tryd.ntmps21 (by kernel_rfl) (Nat.le_of_ble_eq_true rfl) fun w0 X0 hI => ?_
  refine at_seq ?_
  refine at_region ?_
  refine at_op rfl (n_boxA 4 rfl rfl rfl ?_)
  refine at_op rfl (n_boxA 5 rfl rfl rfl ?_)
  refine s1 (y_p rfl) rfl <| ?_
  refine at_nil ?_
  refine x_tn ?_
  refine at_seq ?_
  rcases few_4 (V6.few coins 140) (V6.few a 140) (V6.few b 140) with hcs | hcs | hcs | hcs
  · skip
    refine at_region ?_
    refine s1 (y_p rfl) rfl <| ?_
    refine at_op rfl (n_call false rfl (.cons (.pure pu) (.cons (.pure pu) (.nil))) (Con.cast (few36_ok coins 140 hcn) (congrArg A.b hcs)) pu (.inl rfl) rfl ?_)
    refine s1 (y_p rfl) rfl <| g0 rfl rfl rfl rfl <| g0 rfl rfl rfl rfl <| g0 rfl rfl rfl rfl <| s1 (y_p rfl) rfl <| s1 (y_p rfl) rfl <| g0 rfl rfl rfl rfl <| g0 rfl rfl rfl rfl <| g0 rfl rfl rfl rfl <| s1 (y_p rfl) rfl <| ?_
    refine s1 (y_p rfl) rfl <| ?_
    refine at_nil ?_
    refine x_tn ?_
    refine at_ret ?_
    refine at_result (rs := [.tmp 6]) rfl (r_tmp rfl r_nil) ?_
    rw [hcs]; rfl
  · obtain ⟨f1, f2⟩ := hcs
    refine at_region ?_
    refine s1 (y_p rfl) rfl <| ?_
    refine at_op rfl (n_call false rfl (.cons (.pure pu) (.cons (.pure pu) (.nil))) (Con.cast (few36_ok coins 140 hcn) (congrArg A.b f1)) pu (.inl rfl) rfl ?_)
    refine s1 (y_p rfl) rfl <| g1 rfl rfl (y_fld Tryd.underlying43 rfl ti28 (by decide) rfl rfl) rfl <| g1 rfl rfl (y_load ti28 rfl rfl rfl) rfl <| ?_
    refine at_opg rfl rfl rfl (n_call false rfl (.cons (.pure pu) (.cons (.pure pu) (.nil))) (Con.cast (few36_ok a 140 han) (congrArg A.b f2)) pu (.inl rfl) rfl ?_)
    refine s1 (y_p rfl) rfl <| s1 (y_p rfl) rfl <| g0 rfl rfl rfl rfl <| g0 rfl rfl rfl rfl <| g0 rfl rfl rfl rfl <| s1 (y_p rfl) rfl <| s1 (y_p rfl) rfl <| ?_
    refine at_nil ?_
    refine x_tn ?_
    refine at_ret ?_
    refine at_result (rs := [.tmp 6]) rfl (r_tmp rfl r_nil) ?_
    rw [f1, f2]; rfl
  · obtain ⟨f1, f2, f3⟩ := hcs
    refine at_region ?_
    refine s1 (y_p rfl) rfl <| ?_
    refine at_op rfl (n_call false rfl (.cons (.pure pu) (.cons (.pure pu) (.nil))) (Con.cast (few36_ok coins 140 hcn) (congrArg A.b f1)) pu (.inl rfl) rfl ?_)
    refine s1 (y_p rfl) rfl <| g1 rfl rfl (y_fld Tryd.underlying43 rfl ti28 (by decide) rfl rfl) rfl <| g1 rfl rfl (y_load ti28 rfl rfl rfl) rfl <| ?_
    refine at_opg rfl rfl rfl (n_call false rfl (.cons (.pure pu) (.cons (.pure pu) (.nil))) (Con.cast (few36_ok a 140 han) (congrArg A.b f2)) pu (.inl rfl) rfl ?_)
    refine s1 (y_p rfl) rfl <| s1 (y_p rfl) rfl <| g1 rfl rfl (y_fld Tryd.underlying43 rfl ti28 (by decide) rfl rfl) rfl <| g1 rfl rfl (y_load ti28 rfl rfl rfl) rfl <| ?_
    refine at_opg rfl rfl rfl (n_call false rfl (.cons (.pure pu) (.cons (.pure pu) (.nil))) (Con.cast (few36_ok b 140 hbn) (congrArg A.b f3)) pu (.inl rfl) rfl ?_)
    refine s1 (y_p rfl) rfl <| s1 (y_p rfl) rfl <| ?_
    refine at_nil ?_
    refine x_tn ?_
    refine at_ret ?_
    refine at_result (rs := [.tmp 6]) rfl (r_tmp rfl r_nil) ?_
    rw [f1, f2, f3]; rfl
  · obtain ⟨f1, f2, f3⟩ := hcs
    refine at_region ?_
    refine s1 (y_p rfl) rfl <| ?_
    refine at_op rfl (n_call false rfl (.cons (.pure pu) (.cons (.pure pu) (.nil))) (Con.cast (few36_ok coins 140 hcn) (congrArg A.b f1)) pu (.inl rfl) rfl ?_)
    refine s1 (y_p rfl) rfl <| g1 rfl rfl (y_fld Tryd.underlying43 rfl ti28 (by decide) rfl rfl) rfl <| g1 rfl rfl (y_load ti28 rfl rfl rfl) rfl <| ?_
    refine at_opg rfl rfl rfl (n_call false rfl (.cons (.pure pu) (.cons (.pure pu) (.nil))) (Con.cast (few36_ok a 140 han) (congrArg A.b f2)) pu (.inl rfl) rfl ?_)
    refine s1 (y_p rfl) rfl <| s1 (y_p rfl) rfl <| g1 rfl rfl (y_fld Tryd.underlying43 rfl ti28 (by decide) rfl rfl) rfl <| g1 rfl rfl (y_load ti28 rfl rfl rfl) rfl <| ?_
    refine at_opg rfl rfl rfl (n_call false rfl (.cons (.pure pu) (.cons (.pure pu) (.nil))) (Con.cast (few36_ok b 140 hbn) (congrArg A.b f3)) pu (.inl rfl) rfl ?_)
    refine s1 (y_p rfl) rfl <| s1 (y_p rfl) rfl <| ?_
    refine at_nil ?_
    refine x_tn ?_
    refine at_ret ?_
    refine at_result (rs := [.tmp 6]) rfl (r_tmp rfl r_nil) ?_
    rw [f1, f2, f3]; rfl
set_option linter.unusedSimpArgs false in
set_option linter.unusedVariables false in
set_option maxHeartbeats 1000000 in
set_option maxRecDepth 10000 in
theorem law_askspec37 (c : Cas) (hx : c.x.length = 32) (ids : List Int) (hidn : ids.length ≤ maxLen) (coins a b : List (List UInt8)) (hcn : coins.length ≤ maxLen) (han : a.length ≤ maxLen) (hbn : b.length ≤ maxLen) : Con Tryd.prog 4 [.ag (casL c), .fz ids.length (ids.map (A.i .i64)), .fz coins.length (coins.map V6.slV), .ag [rowsV a], .ag [rowsV b]] (Ret (.b true)) := by
  refine enter Tryd.func4 rfl Tryd.ntmps4 (by kernel_rfl) (Nat.le_of_ble_eq_true rfl) fun w0 X0 hI => ?_
  refine at_seq ?_
  refine at_region ?_
  refine at_op rfl (n_boxA 5 rfl rfl rfl ?_)
  refine at_op rfl (n_boxA 8 rfl rfl rfl ?_)
  refine at_op rfl (n_boxA 9 rfl rfl rfl ?_)
  refine s1 (y_p rfl) rfl <| ?_
  refine at_nil ?_
  refine x_tn ?_
  refine at_seq ?_
  refine at_seq ?_
  refine at_region ?_
  refine at_op rfl (n_call false rfl (.nil) (sane_ok) pu (.inl rfl) rfl ?_)
  refine s1 (y_p rfl) rfl <| ?_
  refine at_nil ?_
  refine x_tn ?_
  refine at_else rfl ?_
  refine at_skip ?_
  refine x_tn ?_
  refine at_seq ?_
  refine at_seq ?_
  rcases hdc_cases c ids (V6.few coins 140 && V6.few a 140 && V6.few b 140) with hcs | hcs | hcs | hcs
  · skip
    refine at_region ?_
    refine s1 (y_loadA0 ti27 rfl rfl (cas_len hx)) rfl <| ?_
    refine at_op rfl (n_call false rfl (.cons (.pure pu) (.nil)) (Con.cast (sfew_ok c hx) (congrArg A.b hcs)) pu (.inl rfl) rfl ?_)
    refine s1 (y_p rfl) rfl <| s1 (y_p rfl) rfl <| g0 rfl rfl rfl rfl <| g0 rfl rfl rfl rfl <| g0 rfl rfl rfl rfl <| s1 (y_p rfl) rfl <| s1 (y_p rfl) rfl <| g0 rfl rfl rfl rfl <| g0 rfl rfl rfl rfl <| g0 rfl rfl rfl rfl <| ?_
    refine g0 rfl rfl rfl rfl <| g0 rfl rfl rfl rfl <| s1 (y_p rfl) rfl <| ?_
    refine at_nil ?_
    refine x_tn ?_
    refine at_then rfl ?_
    refine at_seq ?_
    refine at_region ?_
    refine s1 (y_p rfl) rfl <| ?_
    refine at_nil ?_
    refine x_tn ?_
    refine at_ret ?_
    refine x_tr ?_
    refine at_result (rs := [.tmp 10]) rfl (r_tmp rfl r_nil) ?_
    rfl
  · obtain ⟨hf, hi⟩ := hcs
    refine at_region ?_
    refine s1 (y_loadA0 ti27 rfl rfl (cas_len hx)) rfl <| ?_
    refine at_op rfl (n_call false rfl (.cons (.pure pu) (.nil)) (Con.cast (sfew_ok c hx) (congrArg A.b hf)) pu (.inl rfl) rfl ?_)
    refine s1 (y_p rfl) rfl <| s1 (y_p rfl) rfl <| g1 rfl rfl (y_p rfl) rfl <| g1 rfl rfl (y_len Tryd.underlying25 rfl rfl rfl) rfl <| g1 rfl rfl ((y_p rfl).v (v' := .b true) (congrArg A.b (decide_eq_true (by omega)))) rfl <| s1 (y_p rfl) rfl <| s1 (y_p rfl) rfl <| g0 rfl rfl rfl rfl <| g0 rfl rfl rfl rfl <| g0 rfl rfl rfl rfl <| ?_
    refine g0 rfl rfl rfl rfl <| g0 rfl rfl rfl rfl <| s1 (y_p rfl) rfl <| ?_
    refine at_nil ?_
    refine x_tn ?_
    refine at_then rfl ?_
    refine at_seq ?_
    refine at_region ?_
    refine s1 (y_p rfl) rfl <| ?_
    refine at_nil ?_
    refine x_tn ?_
    refine at_ret ?_
    refine x_tr ?_
    refine at_result (rs := [.tmp 10]) rfl (r_tmp rfl r_nil) ?_
    rfl
  · obtain ⟨hf, hi, hq⟩ := hcs
    refine at_region ?_
    refine s1 (y_loadA0 ti27 rfl rfl (cas_len hx)) rfl <| ?_
    refine at_op rfl (n_call false rfl (.cons (.pure pu) (.nil)) (Con.cast (sfew_ok c hx) (congrArg A.b hf)) pu (.inl rfl) rfl ?_)
    refine s1 (y_p rfl) rfl <| s1 (y_p rfl) rfl <| g1 rfl rfl (y_p rfl) rfl <| g1 rfl rfl (y_len Tryd.underlying25 rfl rfl rfl) rfl <| g1 rfl rfl ((y_p rfl).v (v' := .b false) (congrArg A.b (decide_eq_false (by omega)))) rfl <| s1 (y_p rfl) rfl <| s1 (y_p rfl) rfl <| g1 rfl rfl (y_p rfl) rfl <| g1 rfl rfl (y_loadA0 ti43 rfl rfl rfl) rfl <| g1 rfl rfl (y_loadA0 ti43 rfl rfl rfl) rfl <| ?_
    refine at_opg rfl rfl rfl (n_call false rfl (.cons (.pure pu) (.cons (.pure pu) (.cons (.pure pu) (.nil)))) (Con.cast (lfew_ok coins a b hcn han hbn) (congrArg A.b hq)) pu (.inl rfl) rfl ?_)
    refine g1 rfl rfl (y_p rfl) rfl <| s1 (y_p rfl) rfl <| ?_
    refine at_nil ?_
    refine x_tn ?_
    refine at_then rfl ?_
    refine at_seq ?_
    refine at_region ?_
    refine s1 (y_p rfl) rfl <| ?_
    refine at_nil ?_
    refine x_tn ?_
    refine at_ret ?_
    refine x_tr ?_
    refine at_result (rs := [.tmp 10]) rfl (r_tmp rfl r_nil) ?_
    rfl
  · obtain ⟨hf, hi, hq⟩ := hcs
    obtain ⟨hF20, _, _⟩ := fewC_spec hf
    have hF : c.F.length ≤ 1000 := by omega
    refine at_region ?_
    refine s1 (y_loadA0 ti27 rfl rfl (cas_len hx)) rfl <| ?_
    refine at_op rfl (n_call false rfl (.cons (.pure pu) (.nil)) (Con.cast (sfew_ok c hx) (congrArg A.b hf)) pu (.inl rfl) rfl ?_)
    refine s1 (y_p rfl) rfl <| s1 (y_p rfl) rfl <| g1 rfl rfl (y_p rfl) rfl <| g1 rfl rfl (y_len Tryd.underlying25 rfl rfl rfl) rfl <| g1 rfl rfl ((y_p rfl).v (v' := .b false) (congrArg A.b (decide_eq_false (by omega)))) rfl <| s1 (y_p rfl) rfl <| s1 (y_p rfl) rfl <| g1 rfl rfl (y_p rfl) rfl <| g1 rfl rfl (y_loadA0 ti43 rfl rfl rfl) rfl <| g1 rfl rfl (y_loadA0 ti43 rfl rfl rfl) rfl <| ?_
    refine at_opg rfl rfl rfl (n_call false rfl (.cons (.pure pu) (.cons (.pure pu) (.cons (.pure pu) (.nil)))) (Con.cast (lfew_ok coins a b hcn han hbn) (congrArg A.b hq)) pu (.inl rfl) rfl ?_)
    refine g1 rfl rfl (y_p rfl) rfl <| s1 (y_p rfl) rfl <| ?_
    refine at_nil ?_
    refine x_tn ?_
    refine at_else rfl ?_
    refine at_skip ?_
    refine x_tn ?_
    refine at_seq ?_
    rcases sask_form c ids coins with hcs | hcs
    · obtain ⟨e, he, hA⟩ := hcs
      refine at_region ?_
      refine s1 (y_loadA0 ti27 rfl rfl (cas_len hx)) rfl <| s1 (y_p rfl) rfl <| s1 (y_p rfl) rfl <| ?_
      refine at_op rfl (n_call false rfl (.cons (.pure pu) (.cons (.pure pu) (.cons (.pure pu) (.nil)))) (Con.cast (sask_ok c hx ids coins) hA) pu (.inl rfl) rfl ?_)
      refine s1 (y_p rfl) rfl <| s1 (y_p rfl) rfl <| s1 (y_p rfl) rfl <| s1 (y_p rfl) rfl <| ?_
      refine at_op rfl (n_alloc 11 rfl ti46 rfl rfl ?_)
      refine at_op rfl (n_alloc 12 rfl ti46 rfl rfl ?_)
      refine at_op rfl (n_storeA ti46 rfl rfl rfl (by first | rfl | omega | (simp; done) | (simp [*]; done) | (simp; omega) | (simp [*]; omega) | (simp [D32.len, -List.length_flatten, *]; done) | (simp [D32.len, -List.length_flatten, *]; omega)) (by first | rfl | omega | (simp; done) | (simp [*]; done) | (simp; omega) | (simp [*]; omega) | (simp [D32.len, -List.length_flatten, *]; done) | (simp [D32.len, -List.length_flatten, *]; omega)) ?_)
      refine at_op rfl (n_storeA ti46 rfl rfl rfl (by first | rfl | omega | (simp; done) | (simp [*]; done) | (simp; omega) | (simp [*]; omega) | (simp [D32.len, -List.length_flatten, *]; done) | (simp [D32.len, -List.length_flatten, *]; omega)) (by first | rfl | omega | (simp; done) | (simp [*]; done) | (simp; omega) | (simp [*]; omega) | (simp [D32.len, -List.length_flatten, *]; done) | (simp [D32.len, -List.length_flatten, *]; omega)) ?_)
      refine s1 (y_p rfl) rfl <| ?_
      refine at_nil ?_
      refine x_tn ?_
      refine at_seq ?_
      refine at_region ?_
      refine s1 (y_loadA0 ti27 rfl rfl (cas_len hx)) rfl <| s1 (y_p rfl) rfl <| s1 (y_p rfl) rfl <| ?_
      refine at_op rfl (n_call false rfl (.cons (.pure pu) (.cons (.pure pu) (.cons (.pure pu) (.nil)))) (Con.cast (rsask_ok c hx hF ids hidn coins) hA) pu (.inl rfl) rfl ?_)
      refine s1 (y_p rfl) rfl <| s1 (y_p rfl) rfl <| s1 (y_p rfl) rfl <| s1 (y_p rfl) rfl <| ?_
      refine at_op rfl (n_alloc 14 rfl ti46 rfl rfl ?_)
      refine at_op rfl (n_alloc 15 rfl ti46 rfl rfl ?_)
      refine at_op rfl (n_storeA ti46 rfl rfl rfl (by first | rfl | omega | (simp; done) | (simp [*]; done) | (simp; omega) | (simp [*]; omega) | (simp [D32.len, -List.length_flatten, *]; done) | (simp [D32.len, -List.length_flatten, *]; omega)) (by first | rfl | omega | (simp; done) | (simp [*]; done) | (simp; omega) | (simp [*]; omega) | (simp [D32.len, -List.length_flatten, *]; done) | (simp [D32.len, -List.length_flatten, *]; omega)) ?_)
      refine at_op rfl (n_storeA ti46 rfl rfl rfl (by first | rfl | omega | (simp; done) | (simp [*]; done) | (simp; omega) | (simp [*]; omega) | (simp [D32.len, -List.length_flatten, *]; done) | (simp [D32.len, -List.length_flatten, *]; omega)) (by first | rfl | omega | (simp; done) | (simp [*]; done) | (simp; omega) | (simp [*]; omega) | (simp [D32.len, -List.length_flatten, *]; done) | (simp [D32.len, -List.length_flatten, *]; omega)) ?_)
      refine s1 (y_p rfl) rfl <| ?_
      refine at_nil ?_
      refine x_tn ?_
      refine at_seq ?_
      rcases rs_form c ids a b with hcs | hcs
      · have hR := hcs
        refine at_region ?_
        refine s1 (y_loadA0 ti27 rfl rfl (cas_len hx)) rfl <| s1 (y_p rfl) rfl <| s1 (y_loadA0 ti43 rfl rfl rfl) rfl <| s1 (y_loadA0 ti43 rfl rfl rfl) rfl <| ?_
        refine at_op rfl (n_call false rfl (.cons (.pure pu) (.cons (.pure pu) (.cons (.pure pu) (.cons (.pure pu) (.nil))))) (Con.cast (sresult_ok c hx ids a b) hR) pu (.inl rfl) rfl ?_)
        refine s1 (y_p rfl) rfl <| s1 (y_p rfl) rfl <| s1 (y_p rfl) rfl <| s1 (y_p rfl) rfl <| s1 (y_p rfl) rfl <| ?_
        refine at_nil ?_
        refine x_tn ?_
        refine at_seq ?_
        refine at_region ?_
        refine s1 (y_loadA0 ti27 rfl rfl (cas_len hx)) rfl <| s1 (y_p rfl) rfl <| s1 (y_loadA0 ti43 rfl rfl rfl) rfl <| s1 (y_loadA0 ti43 rfl rfl rfl) rfl <| ?_
        refine at_op rfl (n_call false rfl (.cons (.pure pu) (.cons (.pure pu) (.cons (.pure pu) (.cons (.pure pu) (.nil))))) (Con.cast (rresult_ok c hx hF ids hidn a b han hbn) hR) pu (.inl rfl) rfl ?_)
        refine s1 (y_p rfl) rfl <| s1 (y_p rfl) rfl <| s1 (y_p rfl) rfl <| s1 (y_p rfl) rfl <| s1 (y_p rfl) rfl <| ?_
        refine at_nil ?_
        refine x_tn ?_
        refine at_seq ?_
        refine at_region ?_
        refine s1 (y_fld Tryd.underlying46 rfl ti28 (by decide) rfl rfl) rfl <| s1 (y_load ti28 rfl rfl rfl) rfl <| s1 (y_fld Tryd.underlying46 rfl ti28 (by decide) rfl rfl) rfl <| s1 (y_load ti28 rfl rfl rfl) rfl <| ?_
        refine at_op rfl (n_call false rfl (.cons .nl (.cons .nl (.nil))) (Con.cast (same36_ok [] [] (by decide)) (congrArg A.b (beq_self_eq_true _))) pu (.inl rfl) rfl ?_)
        refine s1 (y_p rfl) rfl <| g1 rfl rfl (y_fld Tryd.underlying46 rfl ti28 (by decide) rfl rfl) rfl <| g1 rfl rfl (y_load ti28 rfl rfl rfl) rfl <| g1 rfl rfl (y_fld Tryd.underlying46 rfl ti28 (by decide) rfl rfl) rfl <| g1 rfl rfl (y_load ti28 rfl rfl rfl) rfl <| ?_
        refine at_opg rfl rfl rfl (n_call false rfl (.cons .nl (.cons .nl (.nil))) (Con.cast (same36_ok [] [] (by decide)) (congrArg A.b (beq_self_eq_true _))) pu (.inl rfl) rfl ?_)
        refine s1 (y_p rfl) rfl <| s1 (y_p rfl) rfl <| g1 rfl rfl (y_p rfl) rfl <| g1 rfl rfl (y_p rfl) rfl <| g1 rfl rfl ((y_p rfl).v (v' := .b true) (congrArg A.b (by simp))) rfl <| s1 (y_p rfl) rfl <| s1 (y_p rfl) rfl <| g1 rfl rfl (y_p rfl) rfl <| g1 rfl rfl (y_p rfl) rfl <| ?_
        refine at_opg rfl rfl rfl (n_call false rfl (.cons .nl (.cons .nl (.nil))) (Con.cast (sameB_ok [] [] (by decide)) (congrArg A.b (beq_self_eq_true _))) pu (.inl rfl) rfl ?_)
        refine s1 (y_p rfl) rfl <| s1 (y_p rfl) rfl <| g1 rfl rfl (y_p rfl) rfl <| g1 rfl rfl (y_p rfl) rfl <| g1 rfl rfl ((y_p rfl).v (v' := .b true) (congrArg A.b (by simp))) rfl <| s1 (y_p rfl) rfl <| s1 (y_p rfl) rfl <| ?_
        refine at_nil ?_
        refine x_tn ?_
        refine at_ret ?_
        refine at_result (rs := [.tmp 10]) rfl (r_tmp rfl r_nil) ?_
        rfl
      · obtain ⟨L, hL4, hR⟩ := hcs
        refine at_region ?_
        refine s1 (y_loadA0 ti27 rfl rfl (cas_len hx)) rfl <| s1 (y_p rfl) rfl <| s1 (y_loadA0 ti43 rfl rfl rfl) rfl <| s1 (y_loadA0 ti43 rfl rfl rfl) rfl <| ?_
        refine at_op rfl (n_call false rfl (.cons (.pure pu) (.cons (.pure pu) (.cons (.pure pu) (.cons (.pure pu) (.nil))))) (Con.cast (sresult_ok c hx ids a b) hR) pu (.inl rfl) rfl ?_)
        refine s1 (y_p rfl) rfl <| s1 (y_p rfl) rfl <| s1 (y_p rfl) rfl <| s1 (y_p rfl) rfl <| s1 (y_p rfl) rfl <| ?_
        refine at_nil ?_
        refine x_tn ?_
        refine at_seq ?_
        refine at_region ?_
        refine s1 (y_loadA0 ti27 rfl rfl (cas_len hx)) rfl <| s1 (y_p rfl) rfl <| s1 (y_loadA0 ti43 rfl rfl rfl) rfl <| s1 (y_loadA0 ti43 rfl rfl rfl) rfl <| ?_
        refine at_op rfl (n_call false rfl (.cons (.pure pu) (.cons (.pure pu) (.cons (.pure pu) (.cons (.pure pu) (.nil))))) (Con.cast (rresult_ok c hx hF ids hidn a b han hbn) hR) pu (.inl rfl) rfl ?_)
        refine s1 (y_p rfl) rfl <| s1 (y_p rfl) rfl <| s1 (y_p rfl) rfl <| s1 (y_p rfl) rfl <| s1 (y_p rfl) rfl <| ?_
        refine at_nil ?_
        refine x_tn ?_
        refine at_seq ?_
        refine at_region ?_
        refine s1 (y_fld Tryd.underlying46 rfl ti28 (by decide) rfl rfl) rfl <| s1 (y_load ti28 rfl rfl rfl) rfl <| s1 (y_fld Tryd.underlying46 rfl ti28 (by decide) rfl rfl) rfl <| s1 (y_load ti28 rfl rfl rfl) rfl <| ?_
        refine at_op rfl (n_call false rfl (.cons .nl (.cons .nl (.nil))) (Con.cast (same36_ok [] [] (by decide)) (congrArg A.b (beq_self_eq_true _))) pu (.inl rfl) rfl ?_)
        refine s1 (y_p rfl) rfl <| g1 rfl rfl (y_fld Tryd.underlying46 rfl ti28 (by decide) rfl rfl) rfl <| g1 rfl rfl (y_load ti28 rfl rfl rfl) rfl <| g1 rfl rfl (y_fld Tryd.underlying46 rfl ti28 (by decide) rfl rfl) rfl <| g1 rfl rfl (y_load ti28 rfl rfl rfl) rfl <| ?_
        refine at_opg rfl rfl rfl (n_call false rfl (.cons .nl (.cons .nl (.nil))) (Con.cast (same36_ok [] [] (by decide)) (congrArg A.b (beq_self_eq_true _))) pu (.inl rfl) rfl ?_)
        refine s1 (y_p rfl) rfl <| s1 (y_p rfl) rfl <| g1 rfl rfl (y_p rfl) rfl <| g1 rfl rfl (y_p rfl) rfl <| g1 rfl rfl ((y_p rfl).v (v' := .b true) (congrArg A.b (by simp))) rfl <| s1 (y_p rfl) rfl <| s1 (y_p rfl) rfl <| g1 rfl rfl (y_p rfl) rfl <| g1 rfl rfl (y_p rfl) rfl <| ?_
        refine at_opg rfl rfl rfl (n_call false rfl (.cons (.pure pu) (.cons (.pure pu) (.nil))) (Con.cast (sameB_ok L L (by omega)) (congrArg A.b (beq_self_eq_true _))) pu (.inl rfl) rfl ?_)
        refine s1 (y_p rfl) rfl <| s1 (y_p rfl) rfl <| g1 rfl rfl (y_p rfl) rfl <| g1 rfl rfl (y_p rfl) rfl <| g1 rfl rfl ((y_p rfl).v (v' := .b true) (congrArg A.b (by simp))) rfl <| s1 (y_p rfl) rfl <| s1 (y_p rfl) rfl <| ?_
        refine at_nil ?_
        refine x_tn ?_
        refine at_ret ?_
        refine at_result (rs := [.tmp 10]) rfl (r_tmp rfl r_nil) ?_
        rfl
    · obtain ⟨x, y, hA, _, _, _, hal, hbl, _⟩ := hcs
      have ham : x.length ≤ maxLen := by simp only [maxLen]; omega
      have hbm : y.length ≤ maxLen := by simp only [maxLen]; omega
      refine at_region ?_
      refine s1 (y_loadA0 ti27 rfl rfl (cas_len hx)) rfl <| s1 (y_p rfl) rfl <| s1 (y_p rfl) rfl <| ?_
      refine at_op rfl (n_call false rfl (.cons (.pure pu) (.cons (.pure pu) (.cons (.pure pu) (.nil)))) (Con.cast (sask_ok c hx ids coins) hA) pu (.inl rfl) rfl ?_)
      refine s1 (y_p rfl) rfl <| s1 (y_p rfl) rfl <| s1 (y_p rfl) rfl <| s1 (y_p rfl) rfl <| ?_
      refine at_op rfl (n_alloc 11 rfl ti46 rfl rfl ?_)
      refine at_op rfl (n_alloc 12 rfl ti46 rfl rfl ?_)
      refine at_op rfl (n_storeA ti46 rfl rfl rfl (by first | rfl | omega | (simp; done) | (simp [*]; done) | (simp; omega) | (simp [*]; omega) | (simp [D32.len, -List.length_flatten, *]; done) | (simp [D32.len, -List.length_flatten, *]; omega)) (by first | rfl | omega | (simp; done) | (simp [*]; done) | (simp; omega) | (simp [*]; omega) | (simp [D32.len, -List.length_flatten, *]; done) | (simp [D32.len, -List.length_flatten, *]; omega)) ?_)
      refine at_op rfl (n_storeA ti46 rfl rfl rfl (by first | rfl | omega | (simp; done) | (simp [*]; done) | (simp; omega) | (simp [*]; omega) | (simp [D32.len, -List.length_flatten, *]; done) | (simp [D32.len, -List.length_flatten, *]; omega)) (by first | rfl | omega | (simp; done) | (simp [*]; done) | (simp; omega) | (simp [*]; omega) | (simp [D32.len, -List.length_flatten, *]; done) | (simp [D32.len, -List.length_flatten, *]; omega)) ?_)
      refine s1 (y_p rfl) rfl <| ?_
      refine at_nil ?_
      refine x_tn ?_
      refine at_seq ?_
      refine at_region ?_
      refine s1 (y_loadA0 ti27 rfl rfl (cas_len hx)) rfl <| s1 (y_p rfl) rfl <| s1 (y_p rfl) rfl <| ?_
      refine at_op rfl (n_call false rfl (.cons (.pure pu) (.cons (.pure pu) (.cons (.pure pu) (.nil)))) (Con.cast (rsask_ok c hx hF ids hidn coins) hA) pu (.inl rfl) rfl ?_)
      refine s1 (y_p rfl) rfl <| s1 (y_p rfl) rfl <| s1 (y_p rfl) rfl <| s1 (y_p rfl) rfl <| ?_
      refine at_op rfl (n_alloc 14 rfl ti46 rfl rfl ?_)
      refine at_op rfl (n_alloc 15 rfl ti46 rfl rfl ?_)
      refine at_op rfl (n_storeA ti46 rfl rfl rfl (by first | rfl | omega | (simp; done) | (simp [*]; done) | (simp; omega) | (simp [*]; omega) | (simp [D32.len, -List.length_flatten, *]; done) | (simp [D32.len, -List.length_flatten, *]; omega)) (by first | rfl | omega | (simp; done) | (simp [*]; done) | (simp; omega) | (simp [*]; omega) | (simp [D32.len, -List.length_flatten, *]; done) | (simp [D32.len, -List.length_flatten, *]; omega)) ?_)
      refine at_op rfl (n_storeA ti46 rfl rfl rfl (by first | rfl | omega | (simp; done) | (simp [*]; done) | (simp; omega) | (simp [*]; omega) | (simp [D32.len, -List.length_flatten, *]; done) | (simp [D32.len, -List.length_flatten, *]; omega)) (by first | rfl | omega | (simp; done) | (simp [*]; done) | (simp; omega) | (simp [*]; omega) | (simp [D32.len, -List.length_flatten, *]; done) | (simp [D32.len, -List.length_flatten, *]; omega)) ?_)
      refine s1 (y_p rfl) rfl <| ?_
      refine at_nil ?_
      refine x_tn ?_
      refine at_seq ?_
      rcases rs_form c ids a b with hcs | hcs
      · have hR := hcs
        refine at_region ?_
        refine s1 (y_loadA0 ti27 rfl rfl (cas_len hx)) rfl <| s1 (y_p rfl) rfl <| s1 (y_loadA0 ti43 rfl rfl rfl) rfl <| s1 (y_loadA0 ti43 rfl rfl rfl) rfl <| ?_
        refine at_op rfl (n_call false rfl (.cons (.pure pu) (.cons (.pure pu) (.cons (.pure pu) (.cons (.pure pu) (.nil))))) (Con.cast (sresult_ok c hx ids a b) hR) pu (.inl rfl) rfl ?_)
        refine s1 (y_p rfl) rfl <| s1 (y_p rfl) rfl <| s1 (y_p rfl) rfl <| s1 (y_p rfl) rfl <| s1 (y_p rfl) rfl <| ?_
        refine at_nil ?_
        refine x_tn ?_
        refine at_seq ?_
        refine at_region ?_
        refine s1 (y_loadA0 ti27 rfl rfl (cas_len hx)) rfl <| s1 (y_p rfl) rfl <| s1 (y_loadA0 ti43 rfl rfl rfl) rfl <| s1 (y_loadA0 ti43 rfl rfl rfl) rfl <| ?_
        refine at_op rfl (n_call false rfl (.cons (.pure pu) (.cons (.pure pu) (.cons (.pure pu) (.cons (.pure pu) (.nil))))) (Con.cast (rresult_ok c hx hF ids hidn a b han hbn) hR) pu (.inl rfl) rfl ?_)
        refine s1 (y_p rfl) rfl <| s1 (y_p rfl) rfl <| s1 (y_p rfl) rfl <| s1 (y_p rfl) rfl <| s1 (y_p rfl) rfl <| ?_
        refine at_nil ?_
        refine x_tn ?_
        refine at_seq ?_
        refine at_region ?_
        refine s1 (y_fld Tryd.underlying46 rfl ti28 (by decide) rfl rfl) rfl <| s1 (y_load ti28 rfl rfl rfl) rfl <| s1 (y_fld Tryd.underlying46 rfl ti28 (by decide) rfl rfl) rfl <| s1 (y_load ti28 rfl rfl rfl) rfl <| ?_
        refine at_op rfl (n_call false rfl (.cons (.pure pu) (.cons (.pure pu) (.nil))) (Con.cast (same36_ok x x ham) (congrArg A.b (beq_self_eq_true _))) pu (.inl rfl) rfl ?_)
        refine s1 (y_p rfl) rfl <| g1 rfl rfl (y_fld Tryd.underlying46 rfl ti28 (by decide) rfl rfl) rfl <| g1 rfl rfl (y_load ti28 rfl rfl rfl) rfl <| g1 rfl rfl (y_fld Tryd.underlying46 rfl ti28 (by decide) rfl rfl) rfl <| g1 rfl rfl (y_load ti28 rfl rfl rfl) rfl <| ?_
        refine at_opg rfl rfl rfl (n_call false rfl (.cons (.pure pu) (.cons (.pure pu) (.nil))) (Con.cast (same36_ok y y hbm) (congrArg A.b (beq_self_eq_true _))) pu (.inl rfl) rfl ?_)
        refine s1 (y_p rfl) rfl <| s1 (y_p rfl) rfl <| g1 rfl rfl (y_p rfl) rfl <| g1 rfl rfl (y_p rfl) rfl <| g1 rfl rfl ((y_p rfl).v (v' := .b true) (congrArg A.b (by simp))) rfl <| s1 (y_p rfl) rfl <| s1 (y_p rfl) rfl <| g1 rfl rfl (y_p rfl) rfl <| g1 rfl rfl (y_p rfl) rfl <| ?_
        refine at_opg rfl rfl rfl (n_call false rfl (.cons .nl (.cons .nl (.nil))) (Con.cast (sameB_ok [] [] (by decide)) (congrArg A.b (beq_self_eq_true _))) pu (.inl rfl) rfl ?_)
        refine s1 (y_p rfl) rfl <| s1 (y_p rfl) rfl <| g1 rfl rfl (y_p rfl) rfl <| g1 rfl rfl (y_p rfl) rfl <| g1 rfl rfl ((y_p rfl).v (v' := .b true) (congrArg A.b (by simp))) rfl <| s1 (y_p rfl) rfl <| s1 (y_p rfl) rfl <| ?_
        refine at_nil ?_
        refine x_tn ?_
        refine at_ret ?_
        refine at_result (rs := [.tmp 10]) rfl (r_tmp rfl r_nil) ?_
        rfl
      · obtain ⟨L, hL4, hR⟩ := hcs
        refine at_region ?_
        refine s1 (y_loadA0 ti27 rfl rfl (cas_len hx)) rfl <| s1 (y_p rfl) rfl <| s1 (y_loadA0 ti43 rfl rfl rfl) rfl <| s1 (y_loadA0 ti43 rfl rfl rfl) rfl <| ?_
        refine at_op rfl (n_call false rfl (.cons (.pure pu) (.cons (.pure pu) (.cons (.pure pu) (.cons (.pure pu) (.nil))))) (Con.cast (sresult_ok c hx ids a b) hR) pu (.inl rfl) rfl ?_)
        refine s1 (y_p rfl) rfl <| s1 (y_p rfl) rfl <| s1 (y_p rfl) rfl <| s1 (y_p rfl) rfl <| s1 (y_p rfl) rfl <| ?_
        refine at_nil ?_
        refine x_tn ?_
        refine at_seq ?_
        refine at_region ?_
        refine s1 (y_loadA0 ti27 rfl rfl (cas_len hx)) rfl <| s1 (y_p rfl) rfl <| s1 (y_loadA0 ti43 rfl rfl rfl) rfl <| s1 (y_loadA0 ti43 rfl rfl rfl) rfl <| ?_
        refine at_op rfl (n_call false rfl (.cons (.pure pu) (.cons (.pure pu) (.cons (.pure pu) (.cons (.pure pu) (.nil))))) (Con.cast (rresult_ok c hx hF ids hidn a b han hbn) hR) pu (.inl rfl) rfl ?_)
        refine s1 (y_p rfl) rfl <| s1 (y_p rfl) rfl <| s1 (y_p rfl) rfl <| s1 (y_p rfl) rfl <| s1 (y_p rfl) rfl <| ?_
        refine at_nil ?_
        refine x_tn ?_
        refine at_seq ?_
        refine at_region ?_
        refine s1 (y_fld Tryd.underlying46 rfl ti28 (by decide) rfl rfl) rfl <| s1 (y_load ti28 rfl rfl rfl) rfl <| s1 (y_fld Tryd.underlying46 rfl ti28 (by decide) rfl rfl) rfl <| s1 (y_load ti28 rfl rfl rfl) rfl <| ?_
        refine at_op rfl (n_call false rfl (.cons (.pure pu) (.cons (.pure pu) (.nil))) (Con.cast (same36_ok x x ham) (congrArg A.b (beq_self_eq_true _))) pu (.inl rfl) rfl ?_)
        refine s1 (y_p rfl) rfl <| g1 rfl rfl (y_fld Tryd.underlying46 rfl ti28 (by decide) rfl rfl) rfl <| g1 rfl rfl (y_load ti28 rfl rfl rfl) rfl <| g1 rfl rfl (y_fld Tryd.underlying46 rfl ti28 (by decide) rfl rfl) rfl <| g1 rfl rfl (y_load ti28 rfl rfl rfl) rfl <| ?_
        refine at_opg rfl rfl rfl (n_call false rfl (.cons (.pure pu) (.cons (.pure pu) (.nil))) (Con.cast (same36_ok y y hbm) (congrArg A.b (beq_self_eq_true _))) pu (.inl rfl) rfl ?_)
        refine s1 (y_p rfl) rfl <| s1 (y_p rfl) rfl <| g1 rfl rfl (y_p rfl) rfl <| g1 rfl rfl (y_p rfl) rfl <| g1 rfl rfl ((y_p rfl).v (v' := .b true) (congrArg A.b (by simp))) rfl <| s1 (y_p rfl) rfl <| s1 (y_p rfl) rfl <| g1 rfl rfl (y_p rfl) rfl <| g1 rfl rfl (y_p rfl) rfl <| ?_
        refine at_opg rfl rfl rfl (n_call false rfl (.cons (.pure pu) (.cons (.pure pu) (.nil))) (Con.cast (sameB_ok L L (by omega)) (congrArg A.b (beq_self_eq_true _))) pu (.inl rfl) rfl ?_)
        refine s1 (y_p rfl) rfl <| s1 (y_p rfl) rfl <| g1 rfl rfl (y_p rfl) rfl <| g1 rfl rfl (y_p rfl) rfl <| g1 rfl rfl ((y_p rfl).v (v' := .b true) (congrArg A.b (by simp))) rfl <| s1 (y_p rfl) rfl <| s1 (y_p rfl) rfl <| ?_
        refine at_nil ?_
        refine x_tn ?_
        refine at_ret ?_
        refine at_result (rs := [.tmp 10]) rfl (r_tmp rfl r_nil) ?_
        rfl
end Go.Abs.D2
