/-
  The engine, the plain laws and the walks that the rows need, part 15. Conditions: none.
-/
import Derived.Test.YtfdkilgkefiggaaDoorM14

/-! L4A -/
set_option linter.unusedVariables false
set_option linter.unusedSimpArgs false
set_option maxHeartbeats 1000000
set_option maxRecDepth 10000
namespace Go.Abs.D2
open Go Go.Eng Go.Abs Go.Proofs 
theorem law_build (x : List UInt8) (hx : x.length = 32) (p q : List Int) (c : Cas) (hc : c.x.length = 32) : Con Tryd.prog 3 [.ag (x.map u8), .fz p.length (p.map (A.i .i64)), .fz q.length (q.map (A.i .i64)), .ag (casL c)] (Ret (.b true)) := by
 refine enter Tryd.func3 rfl Tryd.ntmps3 (by kernel_rfl) (Nat.le_of_ble_eq_true rfl) fun w0 X0 hI => ?_
 refine at_seq <| at_region ?_
 refine at_op rfl (n_boxA 4 rfl rfl rfl ?_)
 refine at_op rfl (n_boxA 7 rfl rfl rfl ?_)
 refine s1 (y_p rfl) rfl ?_
 refine at_nil <| x_tn <| at_seq <| at_seq <| at_region ?_
 refine at_op rfl (n_call false rfl (.nil) (sane34_ok) pu (.inl rfl) rfl ?_)
 refine s1 (y_p rfl) rfl ?_
 refine at_nil <| x_tn ?_
 refine at_else rfl ?_
 refine at_skip <| x_tn <| at_seq <| at_seq ?_
 rcases two_ways (few34 p q) (fewC c) with hcs | hcs | hcs
 ·skip
  refine at_region <| s1 (y_p rfl) rfl <| s1 (y_p rfl) rfl ?_
  refine at_op rfl (n_call false rfl (.cons (.pure pu) (.cons (.pure pu) (.nil))) (Con.cast (rfew34_ok p q) (congrArg A.b hcs)) pu (.inl rfl) rfl ?_)
  refine s1 (y_p rfl) rfl <| s1 (y_p rfl) rfl <| g0 rfl rfl rfl rfl <| g0 rfl rfl rfl rfl <| g0 rfl rfl rfl rfl <| s1 (y_p rfl) rfl ?_
  refine at_nil <| x_tn ?_
  refine at_then rfl ?_
  refine at_seq <| at_region <| s1 (y_p rfl) rfl ?_
  refine at_nil <| x_tn <| at_ret <| x_tr ?_
  refine at_result (rs := [.tmp 8]) rfl (r_tmp rfl r_nil) ?_
  rfl
 ·obtain ⟨hf, hcs⟩ := hcs
  refine at_region <| s1 (y_p rfl) rfl <| s1 (y_p rfl) rfl ?_
  refine at_op rfl (n_call false rfl (.cons (.pure pu) (.cons (.pure pu) (.nil))) (Con.cast (rfew34_ok p q) (congrArg A.b hf)) pu (.inl rfl) rfl ?_)
  refine s1 (y_p rfl) rfl <| s1 (y_p rfl) rfl <| g1 rfl rfl (y_loadA0 ti27 rfl rfl (cas_len hc)) rfl ?_
  refine at_opg rfl rfl rfl (n_call false rfl (.cons (.pure pu) (.nil)) (Con.cast (sfewc_ok c hc) (congrArg A.b hcs)) pu (.inl rfl) rfl ?_)
  refine g1 rfl rfl (y_p rfl) rfl <| s1 (y_p rfl) rfl ?_
  refine at_nil <| x_tn ?_
  refine at_then rfl ?_
  refine at_seq <| at_region <| s1 (y_p rfl) rfl ?_
  refine at_nil <| x_tn <| at_ret <| x_tr ?_
  refine at_result (rs := [.tmp 8]) rfl (r_tmp rfl r_nil) ?_
  rfl
 ·obtain ⟨hf, hg⟩ := hcs
  obtain ⟨hp, hq⟩ := few34_spec hf
  obtain ⟨hE, hF, hD⟩ := few_c hg
  have hbx := bldC_x (p := p) (q := q) hx
  obtain ⟨hbE, hbF⟩ := bldC_small (x := x) (p := p) (q := q) (by omega) (by omega)
  refine at_region <| s1 (y_p rfl) rfl <| s1 (y_p rfl) rfl ?_
  refine at_op rfl (n_call false rfl (.cons (.pure pu) (.cons (.pure pu) (.nil))) (Con.cast (rfew34_ok p q) (congrArg A.b hf)) pu (.inl rfl) rfl ?_)
  refine s1 (y_p rfl) rfl <| s1 (y_p rfl) rfl <| g1 rfl rfl (y_loadA0 ti27 rfl rfl (cas_len hc)) rfl ?_
  refine at_opg rfl rfl rfl (n_call false rfl (.cons (.pure pu) (.nil)) (Con.cast (sfewc_ok c hc) (congrArg A.b hg)) pu (.inl rfl) rfl ?_)
  refine g1 rfl rfl (y_p rfl) rfl <| s1 (y_p rfl) rfl ?_
  refine at_nil <| x_tn ?_
  refine at_else rfl ?_
  refine at_skip <| x_tn <| at_seq <| at_region <| s1 (y_loadA0 ti23 rfl rfl (by simp [hx])) rfl <| s1 (y_p rfl) rfl <| s1 (y_p rfl) rfl ?_
  refine at_op rfl (n_call false rfl (.cons (.pure pu) (.cons (.pure pu) (.cons (.pure pu) (.nil)))) (Con.cast (cbuild_ok x hx p q (by omega) (by omega)) (build_form x p q)) pu (.inl rfl) rfl ?_)
  refine s1 (y_p rfl) rfl <| s1 (y_p rfl) rfl <| s1 (y_p rfl) rfl ?_
  refine at_op rfl (n_alloc 9 rfl ti27 rfl rfl ?_)
  refine at_op rfl (n_storeA ti27 rfl rfl rfl (cas_len hbx) (by first | rfl | omega | (simp <;> omega) | (simp [*] <;> omega)) ?_)
  refine s1 (y_p rfl) rfl ?_
  refine at_nil <| x_tn <| at_seq <| at_region <| s1 (y_loadA0 ti23 rfl rfl (by simp [hx])) rfl <| s1 (y_p rfl) rfl <| s1 (y_p rfl) rfl ?_
  refine at_op rfl (n_call false rfl (.cons (.pure pu) (.cons (.pure pu) (.cons (.pure pu) (.nil)))) (Con.cast (rbuild_ok x hx p q (by omega) (by omega)) (build_form x p q)) pu (.inl rfl) rfl ?_)
  refine s1 (y_p rfl) rfl <| s1 (y_p rfl) rfl <| s1 (y_p rfl) rfl ?_
  refine at_op rfl (n_alloc 11 rfl ti27 rfl rfl ?_)
  refine at_op rfl (n_storeA ti27 rfl rfl rfl (cas_len hbx) (by first | rfl | omega | (simp <;> omega) | (simp [*] <;> omega)) ?_)
  refine s1 (y_p rfl) rfl ?_
  refine at_nil <| x_tn <| at_seq ?_
  refine at_fs ⟨_, [], []⟩ 15 4 hmix (le_refl rfl) ?_
  refine fs_q 0 [] [(9, none)] (y_loadA0 ti27 rfl rfl (cas_len hbx)) rfl rfl ?_
  refine fs_q 1 [] [(11, none)] (y_loadA0 ti27 rfl rfl (cas_len hbx)) rfl rfl ?_
  refine fs_call false 2 [0, 1] [] gy0 rfl (.cons (.pure pu) (.cons (.pure pu) (.nil))) (Con.cast (rsame_ok (bldC x p q) (bldC x p q) hbx hbx (by simp only [maxLen]; omega) (by simp only [maxLen]; omega) (by omega)) (congrArg A.b (sameC_self _))) pu (.inl rfl) rfl rfl ?_
  refine fs_q 3 [2] [] (y_p rfl) rfl rfl ?_
  refine fs_qg 4 [3] [] rfl rfl (y_p rfl) rfl rfl ?_
  refine fs_qg 5 [3] [] rfl rfl (y_p rfl) rfl rfl ?_
  refine fs_qg 6 [3, 4, 5] [] rfl rfl ((y_p rfl).v (v' := .b true) (congrArg A.b (by simp))) rfl rfl ?_
  refine fs_q 7 [3, 6] [] (y_p rfl) rfl rfl ?_
  refine fs_q 8 [7] [] (y_p rfl) rfl rfl ?_
  refine fs_qg 9 [8] [(7, none)] rfl rfl (y_loadA0 ti27 rfl rfl (cas_len hc)) rfl rfl ?_
  refine fs_call false 10 [8, 9] [] (gy1 rfl rfl) rfl (.cons (.pure pu) (.nil)) (cchk_ok c hc (by simp only [maxLen]; omega)) pu (.inl rfl) rfl rfl ?_
  refine fs_qg 11 [8] [(7, none)] rfl rfl (y_loadA0 ti27 rfl rfl (cas_len hc)) rfl rfl ?_
  refine fs_call false 12 [8, 11] [] (gy1 rfl rfl) rfl (.cons (.pure pu) (.nil)) (rcchk_ok c hc (by simp only [maxLen]; omega) hD) pu (.inl rfl) rfl rfl ?_
  refine fs_qg 13 [8, 10, 12] [] rfl rfl ((y_p rfl).v (v' := .b true) (congrArg A.b (by simp))) rfl rfl ?_
  refine fs_q 14 [8, 13] [] (y_p rfl) rfl rfl ?_
  refine fs_end (by kernel_rfl) ?_
  refine s1 (y_p rfl) rfl ?_
  refine at_nil <| x_tn <| at_ret ?_
  refine at_result (rs := [.tmp 8]) rfl (r_tmp rfl r_nil) ?_
  rfl
theorem law_has (c : Cas) (hc : c.x.length = 32) (id : Int) : Con Tryd.prog 4 [.ag (casL c), .i .i64 id] (Ret (.b true)) := by
 refine enter Tryd.func4 rfl Tryd.ntmps4 (by kernel_rfl) (Nat.le_of_ble_eq_true rfl) fun w0 X0 hI => ?_
 refine at_seq <| at_region ?_
 refine at_op rfl (n_boxA 2 rfl rfl rfl ?_)
 refine s1 (y_p rfl) rfl ?_
 refine at_nil <| x_tn <| at_seq <| at_seq <| at_region ?_
 refine at_op rfl (n_call false rfl (.nil) (sane34_ok) pu (.inl rfl) rfl ?_)
 refine s1 (y_p rfl) rfl ?_
 refine at_nil <| x_tn ?_
 refine at_else rfl ?_
 refine at_skip <| x_tn <| at_seq <| at_seq ?_
 rcases tfC (fewC c) with hcs | hcs
 ·skip
  refine at_region <| s1 (y_loadA0 ti27 rfl rfl (cas_len hc)) rfl ?_
  refine at_op rfl (n_call false rfl (.cons (.pure pu) (.nil)) (Con.cast (sfewc_ok c hc) (congrArg A.b hcs)) pu (.inl rfl) rfl ?_)
  refine s1 (y_p rfl) rfl ?_
  refine at_nil <| x_tn ?_
  refine at_then rfl ?_
  refine at_seq <| at_region <| s1 (y_p rfl) rfl ?_
  refine at_nil <| x_tn <| at_ret <| x_tr ?_
  refine at_result (rs := [.tmp 4]) rfl (r_tmp rfl r_nil) ?_
  rfl
 ·obtain ⟨hE, hF, hD⟩ := few_c hcs
  refine at_region <| s1 (y_loadA0 ti27 rfl rfl (cas_len hc)) rfl ?_
  refine at_op rfl (n_call false rfl (.cons (.pure pu) (.nil)) (Con.cast (sfewc_ok c hc) (congrArg A.b hcs)) pu (.inl rfl) rfl ?_)
  refine s1 (y_p rfl) rfl ?_
  refine at_nil <| x_tn ?_
  refine at_else rfl ?_
  refine at_skip <| x_tn <| at_seq <| at_region <| s1 (y_loadA0 ti27 rfl rfl (cas_len hc)) rfl <| s1 (y_p rfl) rfl ?_
  refine at_op rfl (n_call false rfl (.cons (.pure pu) (.cons (.pure pu) (.nil))) (Con.cast (chas_ok c hc (by simp only [maxLen]; omega) id) (hasCA_form c id)) pu (.inl rfl) rfl ?_)
  refine s1 (y_p rfl) rfl <| s1 (y_p rfl) rfl <| s1 (y_p rfl) rfl <| s1 (y_p rfl) rfl <| s1 (y_p rfl) rfl ?_
  refine at_nil <| x_tn <| at_seq <| at_region <| s1 (y_loadA0 ti27 rfl rfl (cas_len hc)) rfl <| s1 (y_p rfl) rfl ?_
  refine at_op rfl (n_call false rfl (.cons (.pure pu) (.cons (.pure pu) (.nil))) (Con.cast (rchas_ok c hc (by simp only [maxLen]; omega) hD id) (hasCA_form c id)) pu (.inl rfl) rfl ?_)
  refine s1 (y_p rfl) rfl <| s1 (y_p rfl) rfl <| s1 (y_p rfl) rfl <| s1 (y_p rfl) rfl <| s1 (y_p rfl) rfl ?_
  refine at_nil <| x_tn <| at_seq <| at_region <| s1 (y_p rfl) rfl <| s1 (y_p rfl) rfl <| s1 ((y_eqb Tryd.underlying4 rfl rfl).v (v' := .b true) (congrArg A.b (by simp))) rfl <| s1 (y_p rfl) rfl <| g1 rfl rfl (y_p rfl) rfl <| g1 rfl rfl (y_p rfl) rfl <| g1 rfl rfl ((y_p rfl).v (v' := .b true) (congrArg A.b (by simp))) rfl <| s1 (y_p rfl) rfl <| s1 (y_p rfl) rfl ?_
  refine at_nil <| x_tn <| at_ret ?_
  refine at_result (rs := [.tmp 4]) rfl (r_tmp rfl r_nil) ?_
  rfl
end Go.Abs.D2
