/-
  Layer 2: walks of the digest functions. Conditions: each theorem says its own.
-/
import Derived.Test.YtpchamaioceahaaDoorD2L1
namespace Go.Abs.D2
open Go Go.Eng Go.Abs Go.Proofs 

set_option linter.unusedSimpArgs false in
set_option maxHeartbeats 1000000 in
theorem sane_ok : Con Tryd.prog 11 [] (Ret (.b true)) := by
  refine enter Tryd.func11 rfl Tryd.ntmps11 (by kernel_rfl) (Nat.le_of_ble_eq_true rfl) fun w0 X0 hI => ?_
  refine at_seq ?_
  refine at_region ?_
  refine s1 (y_p rfl) rfl <| ?_
  refine at_nil ?_
  refine x_tn ?_
  refine at_seq ?_
  refine at_region ?_
  refine at_op rfl (n_bs1 10 rfl Tryd.underlying22 ti5 rfl rfl rfl rfl rfl ?_)
  refine at_op rfl (n_cvb Tryd.underlying22 Tryd.underlying5 rfl rfl (by simp) pul (by first | rfl | (simp; done) | exact view_all (by simp)) rfl ?_)
  refine at_op rfl (n_call false rfl (.cons (.pure pu) (.nil)) (Con.cast (sum_ok [97, 98, 99] (by simp)) (by rw [sha_abc])) pu (.inl rfl) rfl ?_)
  refine at_op rfl (n_call false rfl (.cons .nl (.nil)) (Con.cast (sum_ok [] (by simp)) (by rw [sha_nil])) pu (.inl rfl) rfl ?_)
  refine at_op rfl (n_alloc 1 rfl ti26 rfl rfl ?_)
  refine at_op rfl (n_alloc 2 rfl ti26 rfl rfl ?_)
  refine at_op rfl (n_storeA ti26 rfl rfl rfl (by first | rfl | omega | (simp; done) | (simp [*]; done) | (simp; omega) | (simp [*]; omega) | (simp [D32.len, -List.length_flatten, *]; done) | (simp [D32.len, -List.length_flatten, *]; omega)) (by first | rfl | omega | (simp; done) | (simp [*]; done) | (simp; omega) | (simp [*]; omega) | (simp [D32.len, -List.length_flatten, *]; done) | (simp [D32.len, -List.length_flatten, *]; omega)) ?_)
  refine at_op rfl (n_storeA ti26 rfl rfl rfl (by first | rfl | omega | (simp; done) | (simp [*]; done) | (simp; omega) | (simp [*]; omega) | (simp [D32.len, -List.length_flatten, *]; done) | (simp [D32.len, -List.length_flatten, *]; omega)) (by first | rfl | omega | (simp; done) | (simp [*]; done) | (simp; omega) | (simp [*]; omega) | (simp [D32.len, -List.length_flatten, *]; done) | (simp [D32.len, -List.length_flatten, *]; omega)) ?_)
  refine at_nil ?_
  refine x_tn ?_
  refine at_seq ?_
  refine at_region ?_
  refine at_op rfl (n_call false rfl (.cons .nl (.cons (.pure pu) (.nil))) (Con.cast (pathN_ok [] 0 (fun x hx => by cases hx) (by simp)) (by rw [pathE_nil])) pu (.inl rfl) rfl ?_)
  refine s1 (y_p rfl) rfl <| s1 (y_p rfl) rfl <| s1 (y_p rfl) rfl <| s1 (y_p rfl) rfl <| s1 (y_p rfl) rfl <| ?_
  refine at_nil ?_
  refine x_tn ?_
  refine at_seq ?_
  refine at_region ?_
  refine s1 ((y_bld0 ti26 rfl Tryd.underlying26 ti5 rfl).v (v' := .ag ((List.replicate 32 (0 : UInt8)).map u8)) (by kernel_rfl)) rfl <| ?_
  refine at_op rfl (n_call false rfl (.cons (.pure pu) (.cons (.pure pu) (.cons (.pure pu) (.cons .nl (.nil))))) (Con.cast (climbD_ok (List.replicate 32 0) (by simp) 0 2 [] (fun x hx => by cases hx)) (by rw [climbE_02])) pu (.inl rfl) rfl ?_)
  refine s1 (y_p rfl) rfl <| s1 (y_p rfl) rfl <| s1 (y_p rfl) rfl <| ?_
  refine at_op rfl (n_alloc 5 rfl ti26 rfl rfl ?_)
  refine at_op rfl (n_storeA ti26 rfl rfl rfl (by first | rfl | omega | (simp; done) | (simp [*]; done) | (simp; omega) | (simp [*]; omega) | (simp [D32.len, -List.length_flatten, *]; done) | (simp [D32.len, -List.length_flatten, *]; omega)) (by first | rfl | omega | (simp; done) | (simp [*]; done) | (simp; omega) | (simp [*]; omega) | (simp [D32.len, -List.length_flatten, *]; done) | (simp [D32.len, -List.length_flatten, *]; omega)) ?_)
  refine s1 (y_p rfl) rfl <| ?_
  refine at_nil ?_
  refine x_tn ?_
  refine at_seq ?_
  refine at_region ?_
  refine s1 ((y_bldP (vs := [_]) ti26 rfl (by kernel_rfl) Tryd.underlying26 ti5 rfl rfl (by simp) rfl rfl).v (v' := .ag (oneD.map u8)) (by kernel_rfl)) rfl <| ?_
  refine at_op rfl (n_call false rfl (.cons (.pure pu) (.cons (.pure pu) (.cons (.pure pu) (.cons .nl (.nil))))) (Con.cast (climbD_ok oneD rfl 0 1 [] (fun x hx => by cases hx)) (by rw [climb_01.1, climb_01.2])) pu (.inl rfl) rfl ?_)
  refine s1 (y_p rfl) rfl <| s1 (y_p rfl) rfl <| s1 (y_p rfl) rfl <| ?_
  refine at_op rfl (n_alloc 7 rfl ti26 rfl rfl ?_)
  refine at_op rfl (n_storeA ti26 rfl rfl rfl (by first | rfl | omega | (simp; done) | (simp [*]; done) | (simp; omega) | (simp [*]; omega) | (simp [D32.len, -List.length_flatten, *]; done) | (simp [D32.len, -List.length_flatten, *]; omega)) (by first | rfl | omega | (simp; done) | (simp [*]; done) | (simp; omega) | (simp [*]; omega) | (simp [D32.len, -List.length_flatten, *]; done) | (simp [D32.len, -List.length_flatten, *]; omega)) ?_)
  refine s1 (y_p rfl) rfl <| ?_
  refine at_nil ?_
  refine x_tn ?_
  refine at_seq ?_
  refine at_region ?_
  refine s1 (y_ixa 0 Tryd.underlying26 ti5 rfl rfl rfl (by omega) rfl) rfl <| s1 (y_load ti5 rfl rfl rfl) rfl <| s1 ((y_p rfl).v (v' := .b true) (rfl)) rfl <| s1 (y_p rfl) rfl <| g1 rfl rfl (y_ixa 1 Tryd.underlying26 ti5 rfl rfl rfl (by omega) rfl) rfl <| g1 rfl rfl (y_load ti5 rfl rfl rfl) rfl <| g1 rfl rfl ((y_p rfl).v (v' := .b true) (rfl)) rfl <| s1 (y_p rfl) rfl <| s1 (y_p rfl) rfl <| g1 rfl rfl (y_ixa 2 Tryd.underlying26 ti5 rfl rfl rfl (by omega) rfl) rfl <| ?_
  refine g1 rfl rfl (y_load ti5 rfl rfl rfl) rfl <| g1 rfl rfl ((y_p rfl).v (v' := .b true) (rfl)) rfl <| s1 (y_p rfl) rfl <| s1 (y_p rfl) rfl <| g1 rfl rfl (y_ixa 3 Tryd.underlying26 ti5 rfl rfl rfl (by omega) rfl) rfl <| g1 rfl rfl (y_load ti5 rfl rfl rfl) rfl <| g1 rfl rfl ((y_p rfl).v (v' := .b true) (rfl)) rfl <| s1 (y_p rfl) rfl <| s1 (y_p rfl) rfl <| g1 rfl rfl (y_ixa 0 Tryd.underlying26 ti5 rfl rfl rfl (by omega) rfl) rfl <| ?_
  refine g1 rfl rfl (y_load ti5 rfl rfl rfl) rfl <| g1 rfl rfl ((y_p rfl).v (v' := .b true) (rfl)) rfl <| s1 (y_p rfl) rfl <| s1 (y_p rfl) rfl <| g1 rfl rfl (y_ixa 1 Tryd.underlying26 ti5 rfl rfl rfl (by omega) rfl) rfl <| g1 rfl rfl (y_load ti5 rfl rfl rfl) rfl <| g1 rfl rfl ((y_p rfl).v (v' := .b true) (rfl)) rfl <| s1 (y_p rfl) rfl <| s1 (y_p rfl) rfl <| g1 rfl rfl (y_ixa 2 Tryd.underlying26 ti5 rfl rfl rfl (by omega) rfl) rfl <| ?_
  refine g1 rfl rfl (y_load ti5 rfl rfl rfl) rfl <| g1 rfl rfl ((y_p rfl).v (v' := .b true) (rfl)) rfl <| s1 (y_p rfl) rfl <| s1 (y_p rfl) rfl <| g1 rfl rfl (y_ixa 3 Tryd.underlying26 ti5 rfl rfl rfl (by omega) rfl) rfl <| g1 rfl rfl (y_load ti5 rfl rfl rfl) rfl <| g1 rfl rfl ((y_p rfl).v (v' := .b true) (rfl)) rfl <| s1 (y_p rfl) rfl <| s1 (y_p rfl) rfl <| ?_
  refine at_nil ?_
  refine x_tn ?_
  refine at_seq ?_
  refine at_fs ⟨_, [], []⟩ 33 4 hmix (le_refl rfl) ?_
  refine fs_q 0 [] [] (y_p rfl) rfl rfl ?_
  refine fs_q 1 [0] [] (y_p rfl) rfl rfl ?_
  refine fs_qg 2 [1] [] rfl rfl (y_p rfl) rfl rfl ?_
  refine fs_qg 3 [1, 2] [] rfl rfl ((y_p rfl).v (v' := .b true) (rfl)) rfl rfl ?_
  refine fs_q 4 [1, 3] [] (y_p rfl) rfl rfl ?_
  refine fs_q 5 [4] [] (y_p rfl) rfl rfl ?_
  refine fs_qg 6 [5] [] rfl rfl (y_p rfl) rfl rfl ?_
  refine fs_qg 7 [5, 6] [] rfl rfl ((y_p rfl).v (v' := .b true) (rfl)) rfl rfl ?_
  refine fs_q 8 [5, 7] [] (y_p rfl) rfl rfl ?_
  refine fs_q 9 [8] [] (y_p rfl) rfl rfl ?_
  refine fs_qg 10 [9] [] rfl rfl (y_p rfl) rfl rfl ?_
  refine fs_qg 11 [9, 10] [] rfl rfl ((y_p rfl).v (v' := .b true) (rfl)) rfl rfl ?_
  refine fs_q 12 [9, 11] [] (y_p rfl) rfl rfl ?_
  refine fs_q 13 [12] [] (y_p rfl) rfl rfl ?_
  refine fs_qg 14 [13] [(7, none)] rfl rfl (y_loadA0 ti26 rfl rfl (by first | rfl | omega | (simp; done) | (simp [*]; done) | (simp; omega) | (simp [*]; omega) | (simp [D32.len, -List.length_flatten, *]; done) | (simp [D32.len, -List.length_flatten, *]; omega))) rfl rfl ?_
  refine fs_qg 15 [13] [] rfl rfl ((y_bldP (vs := [_]) ti26 rfl (by kernel_rfl) Tryd.underlying26 ti5 rfl rfl (by simp) rfl rfl).v (v' := .ag (oneD.map u8)) (by kernel_rfl)) rfl rfl ?_
  refine fs_bs 82 16 [13, 15] (gy1 rfl rfl) Tryd.underlying30 ti26 rfl rfl rfl (by first | (simp [cellsA]; done) | (simp [cellsA, *]; done)) (List.append_nil (oneD.map u8)) rfl rfl rfl rfl ?_
  refine fs_call true 17 [13, 16] [(82, some 16)] (gy1 rfl rfl) rfl (.cons (.sl rfl rfl (by first | rfl | omega | (simp; done) | (simp [*]; done) | (simp; omega) | (simp [*]; omega) | (simp [D32.len, -List.length_flatten, *]; done) | (simp [D32.len, -List.length_flatten, *]; omega)) (view_eq (by first | rfl | omega | (simp; done) | (simp [*]; done) | (simp; omega) | (simp [*]; omega) | (simp [D32.len, -List.length_flatten, *]; done) | (simp [D32.len, -List.length_flatten, *]; omega)) (by first | rfl | (simp; done) | (simp [*]; done))) (VwL.pure pul) pul) (.nil)) (Con.cast (tree_ok 1 [oneD] (by simp) (D32.one rfl) (by simp)) (by rw [tree_one])) pu (.inr fu) rfl rfl ?_
  refine fs_qg 18 [13, 14, 17] [] rfl rfl ((y_aq Tryd.underlying26 Tryd.underlying5 ti5 (by kernel_rfl) rfl rfl (by first | assumption | (simp; done) | (simp [*]; done)) (by first | assumption | (simp; done) | (simp [*]; done))).v (v' := .b true) (congrArg A.b (by simp [leafD]))) rfl rfl ?_
  refine fs_q 19 [13, 18] [] (y_p rfl) rfl rfl ?_
  refine fs_q 20 [19] [] (y_p rfl) rfl rfl ?_
  refine fs_call false 21 [20] [] (gy1 rfl rfl) rfl (.cons .nl (.nil)) (Con.cast (tree_ok 0 [] (by simp) (fun x hx => by cases hx) (by simp)) (by rw [tree_nil])) pu (.inl rfl) rfl rfl ?_
  refine fs_call false 22 [20] [] (gy1 rfl rfl) rfl (.cons (.pure pu) (.cons .nl (.nil))) (tagged_ok [101, 109, 112, 116, 121] [] (by simp) (by simp)) pu (.inl rfl) rfl rfl ?_
  refine fs_qg 23 [20, 21, 22] [] rfl rfl ((y_aq Tryd.underlying26 Tryd.underlying5 ti5 (by kernel_rfl) rfl rfl (by first | assumption | (simp; done) | (simp [*]; done)) (by first | assumption | (simp; done) | (simp [*]; done))).v (v' := .b true) (congrArg A.b (by simp))) rfl rfl ?_
  refine fs_q 24 [20, 23] [] (y_p rfl) rfl rfl ?_
  refine fs_q 25 [24] [] (y_p rfl) rfl rfl ?_
  refine fs_qg 26 [25] [] rfl rfl ((y_bld0 ti26 rfl Tryd.underlying26 ti5 rfl).v (v' := .ag ((List.replicate 32 (0 : UInt8)).map u8)) (by kernel_rfl)) rfl rfl ?_
  refine fs_qg 27 [25] [] rfl rfl ((y_bld0 ti26 rfl Tryd.underlying26 ti5 rfl).v (v' := .ag ((List.replicate 32 (0 : UInt8)).map u8)) (by kernel_rfl)) rfl rfl ?_
  refine fs_call false 28 [25, 26, 27] [] (gy1 rfl rfl) rfl (.cons (.pure pu) (.cons (.pure pu) (.nil))) (Con.cast (chain_ok (fun t b h1 h2 => tagged_ok t b (by omega) (by omega)) (List.replicate 32 0) (List.replicate 32 0) (by simp) (by simp)) (by rw [zero_64])) pu (.inl rfl) rfl rfl ?_
  refine fs_make 95 29 [25] 64 64 (gy1 rfl rfl) Tryd.underlying22 ti5 rfl rfl rfl rfl rfl (by first | omega | (simp only [maxLen]; omega) | (simp [maxLen]; done) | (simp [maxLen]; omega) | (simp [maxLen, *]; omega)) (by first | omega | (simp only [maxLen]; omega) | (simp [maxLen]; done) | (simp [maxLen]; omega) | (simp [maxLen, *]; omega)) (by first | omega | (simp only [maxLen]; omega) | (simp [maxLen]; done) | (simp [maxLen]; omega) | (simp [maxLen, *]; omega)) rfl rfl ?_
  refine fs_call true 30 [25, 29] [(95, some 29)] (gy1 rfl rfl) rfl (.cons (.pure pu) (.cons (.sl rfl rfl (by first | rfl | omega | (simp; done) | (simp [*]; done) | (simp; omega) | (simp [*]; omega) | (simp [D32.len, -List.length_flatten, *]; done) | (simp [D32.len, -List.length_flatten, *]; omega)) (view_eq (by first | rfl | omega | (simp; done) | (simp [*]; done) | (simp; omega) | (simp [*]; omega) | (simp [D32.len, -List.length_flatten, *]; done) | (simp [D32.len, -List.length_flatten, *]; omega)) (by first | rfl | (simp; done) | (simp [*]; done))) (VwL.pure pul) pul) (.nil))) (tagged_ok [99, 104, 97, 105, 110] (List.replicate 64 0) (by simp) (by simp)) pu (.inr fu) rfl rfl ?_
  refine fs_qg 31 [25, 28, 30] [] rfl rfl ((y_aq Tryd.underlying26 Tryd.underlying5 ti5 (by kernel_rfl) rfl rfl (by first | assumption | (simp; done) | (simp [*]; done)) (by first | assumption | (simp; done) | (simp [*]; done))).v (v' := .b true) (congrArg A.b (by simp))) rfl rfl ?_
  refine fs_q 32 [25, 31] [] (y_p rfl) rfl rfl ?_
  refine fs_end (by kernel_rfl) ?_
  refine s1 (y_p rfl) rfl <| ?_
  refine at_nil ?_
  refine x_tn ?_
  refine at_ret ?_
  refine at_result (rs := [.tmp 0]) rfl (r_tmp rfl r_nil) rfl

set_option linter.unusedSimpArgs false in
set_option maxHeartbeats 1000000 in
theorem law_tags (tg b : List UInt8) : Con Tryd.prog 5 [.s tg, .fz b.length (b.map u8)] (Ret (.b true)) := by
  refine enter Tryd.func5 rfl Tryd.ntmps5 (by kernel_rfl) (Nat.le_of_ble_eq_true rfl) fun w0 X0 hI => ?_
  refine at_seq ?_
  refine at_region ?_
  refine s1 (y_p rfl) rfl <| ?_
  refine at_nil ?_
  refine x_tn ?_
  refine at_seq ?_
  refine at_seq ?_
  refine at_region ?_
  refine at_op rfl (n_call false rfl (.nil) (sane_ok) pu (.inl rfl) rfl ?_)
  refine s1 (y_p rfl) rfl <| ?_
  refine at_nil ?_
  refine x_tn ?_
  refine at_else rfl ?_
  refine at_skip ?_
  refine x_tn ?_
  refine at_seq ?_
  refine at_seq ?_
  refine at_region ?_
  refine s1 (y_p rfl) rfl <| s1 (y_lens Tryd.underlying9 rfl rfl) rfl <| s1 (y_p rfl) rfl <| s1 (y_p rfl) rfl <| ?_
  refine g_or 3 rfl rfl rfl rfl (fun hb11 => .step (y_p rfl) rfl rfl <| .step (y_len Tryd.underlying22 rfl rfl rfl) rfl rfl <| .step (y_p rfl) rfl rfl <| .done) rfl rfl ?_
  refine at_nil ?_
  refine x_tn ?_
  refine at_cond rfl (fun hc15 => ?_) (fun hc15 => ?_)
  · skip
    refine at_seq ?_
    refine at_region ?_
    refine s1 (y_p rfl) rfl <| ?_
    refine at_nil ?_
    refine x_tn ?_
    refine at_ret ?_
    refine x_tr ?_
    refine at_result (rs := [.tmp 4]) rfl (r_tmp rfl r_nil) rfl
  · have h15 : tg.length ≤ 600 ∧ b.length ≤ 600 := by simp at hc15; omega
    refine at_skip ?_
    refine x_tn ?_
    refine at_seq ?_
    refine at_region ?_
    refine s1 (y_p rfl) rfl <| ?_
    refine at_op rfl (n_s2b Tryd.underlying9 Tryd.underlying22 Tryd.underlying5 rfl (by first | omega | (simp only [maxLen]; omega) | (simp [maxLen]; done) | (simp [maxLen]; omega) | (simp [maxLen, *]; omega)) rfl ?_)
    refine at_op rfl (n_call false rfl (.cons (.pure pu) (.nil)) (sum_ok tg (by omega)) pu (.inl rfl) rfl ?_)
    refine at_op rfl (n_alloc 5 rfl ti26 rfl rfl ?_)
    refine at_op rfl (n_storeA ti26 rfl rfl rfl (by first | rfl | omega | (simp; done) | (simp [*]; done) | (simp; omega) | (simp [*]; omega) | (simp [D32.len, -List.length_flatten, *]; done) | (simp [D32.len, -List.length_flatten, *]; omega)) (by first | rfl | omega | (simp; done) | (simp [*]; done) | (simp; omega) | (simp [*]; omega) | (simp [D32.len, -List.length_flatten, *]; done) | (simp [D32.len, -List.length_flatten, *]; omega)) ?_)
    refine at_nil ?_
    refine x_tn ?_
    refine at_seq ?_
    refine at_fs ⟨_, [], []⟩ 10 4 hmix (le_refl rfl) ?_
    refine fs_q 0 [] [] (y_p rfl) rfl rfl ?_
    refine fs_q 1 [] [] (y_p rfl) rfl rfl ?_
    refine fs_call false 2 [0, 1] [] gy0 rfl (.cons (.pure pu) (.cons (.pure pu) (.nil))) (tagged_ok tg b (by omega) (by omega)) pu (.inl rfl) rfl rfl ?_
    refine fs_bs1 22 3 [] gy0 Tryd.underlying22 ti5 rfl rfl rfl rfl rfl rfl ?_
    refine fs_q 4 [] [(5, none)] (y_cuta0 Tryd.underlying26 ti5 rfl rfl (by first | rfl | omega | (simp; done) | (simp [*]; done) | (simp; omega) | (simp [*]; omega) | (simp [D32.len, -List.length_flatten, *]; done) | (simp [D32.len, -List.length_flatten, *]; omega)) (by simp [maxLen])) rfl rfl ?_
    refine fs_app 24 5 [3, 4] [(5, none), (22, some 3)] gy0 Tryd.underlying22 ti5 rfl (.sl rfl (by first | rfl | omega | (simp; done) | (simp [*]; done) | (simp; omega) | (simp [*]; omega) | (simp [D32.len, -List.length_flatten, *]; done) | (simp [D32.len, -List.length_flatten, *]; omega))) rfl (SM_full rfl (by first | rfl | omega | (simp; done) | (simp [*]; done) | (simp; omega) | (simp [*]; omega) | (simp [D32.len, -List.length_flatten, *]; done) | (simp [D32.len, -List.length_flatten, *]; omega))) (by first | rfl | omega | (simp; done) | (simp [*]; done) | (simp; omega) | (simp [*]; omega) | (simp [D32.len, -List.length_flatten, *]; done) | (simp [D32.len, -List.length_flatten, *]; omega)) (by first | omega | (simp only [maxLen]; omega) | (simp [maxLen]; done) | (simp [maxLen]; omega) | (simp [maxLen, *]; omega)) (by first | omega | (simp only [maxLen]; omega) | (simp [maxLen]; done) | (simp [maxLen]; omega) | (simp [maxLen, *]; omega)) rfl rfl rfl rfl ?_
    refine fs_q 6 [] [] (y_p rfl) rfl rfl ?_
    refine fs_app 26 7 [5, 6] [(24, some 5)] gy0 Tryd.underlying22 ti5 rfl (.sl rfl (by first | rfl | omega | (simp; done) | (simp [*]; done) | (simp; omega) | (simp [*]; omega) | (simp [D32.len, -List.length_flatten, *]; done) | (simp [D32.len, -List.length_flatten, *]; omega))) rfl rfl (by first | rfl | omega | (simp; done) | (simp [*]; done) | (simp; omega) | (simp [*]; omega) | (simp [D32.len, -List.length_flatten, *]; done) | (simp [D32.len, -List.length_flatten, *]; omega)) (by first | omega | (simp only [maxLen]; omega) | (simp [maxLen]; done) | (simp [maxLen]; omega) | (simp [maxLen, *]; omega)) (by first | omega | (simp only [maxLen]; omega) | (simp [maxLen]; done) | (simp [maxLen]; omega) | (simp [maxLen, *]; omega)) rfl rfl rfl rfl ?_
    refine fs_call true 8 [7] [(26, some 7)] gy0 rfl (.cons (.sl rfl rfl (by first | rfl | omega | (simp; done) | (simp [*]; done) | (simp; omega) | (simp [*]; omega) | (simp [D32.len, -List.length_flatten, *]; done) | (simp [D32.len, -List.length_flatten, *]; omega)) (view_eq (by first | rfl | omega | (simp; done) | (simp [*]; done) | (simp; omega) | (simp [*]; omega) | (simp [D32.len, -List.length_flatten, *]; done) | (simp [D32.len, -List.length_flatten, *]; omega)) (by first | rfl | (simp; done) | (simp [*]; done))) (VwL.pure pul) pul) (.nil)) (sum_ok (sha tg ++ b) (by simp; omega)) pu (.inr fu) rfl rfl ?_
    refine fs_q 9 [2, 8] [] ((y_aq Tryd.underlying26 Tryd.underlying5 ti5 (by kernel_rfl) rfl rfl (by first | assumption | (simp; done) | (simp [*]; done)) (by first | assumption | (simp; done) | (simp [*]; done))).v (v' := .b true) (congrArg A.b (by simp [tagged]))) rfl rfl ?_
    refine fs_end (by kernel_rfl) ?_
    refine s1 (y_p rfl) rfl <| ?_
    refine at_nil ?_
    refine x_tn ?_
    refine at_ret ?_
    refine at_result (rs := [.tmp 4]) rfl (r_tmp rfl r_nil) rfl

set_option linter.unusedSimpArgs false in
set_option maxHeartbeats 1000000 in
theorem law_sum (b tg : List UInt8) (m : UInt8) : Con Tryd.prog 3 [.fz b.length (b.map u8), .s tg, u8 m] (Ret (.b true)) := by
  refine enter Tryd.func3 rfl Tryd.ntmps3 (by kernel_rfl) (Nat.le_of_ble_eq_true rfl) fun w0 X0 hI => ?_
  refine at_seq ?_
  refine at_region ?_
  refine s1 (y_p rfl) rfl <| ?_
  refine at_nil ?_
  refine x_tn ?_
  refine at_seq ?_
  refine at_seq ?_
  refine at_region ?_
  refine at_op rfl (n_call false rfl (.nil) (sane_ok) pu (.inl rfl) rfl ?_)
  refine s1 (y_p rfl) rfl <| ?_
  refine at_nil ?_
  refine x_tn ?_
  refine at_else rfl ?_
  refine at_skip ?_
  refine x_tn ?_
  refine at_seq ?_
  refine at_seq ?_
  refine at_region ?_
  refine s1 (y_p rfl) rfl <| s1 (y_len Tryd.underlying22 rfl rfl rfl) rfl <| s1 (y_p rfl) rfl <| s1 (y_p rfl) rfl <| ?_
  refine g_or 3 rfl rfl rfl rfl (fun hb16 => .step (y_p rfl) rfl rfl <| .step (y_lens Tryd.underlying9 rfl rfl) rfl rfl <| .step (y_p rfl) rfl rfl <| .done) rfl rfl ?_
  refine at_nil ?_
  refine x_tn ?_
  refine at_cond rfl (fun hc20 => ?_) (fun hc20 => ?_)
  · skip
    refine at_seq ?_
    refine at_region ?_
    refine s1 (y_p rfl) rfl <| ?_
    refine at_nil ?_
    refine x_tn ?_
    refine at_ret ?_
    refine x_tr ?_
    refine at_result (rs := [.tmp 6]) rfl (r_tmp rfl r_nil) rfl
  · have h20 : b.length ≤ 300 ∧ tg.length ≤ 300 := by simp at hc20; omega
    have hm := m.toNat_lt
    refine at_skip ?_
    refine x_tn ?_
    refine at_seq ?_
    refine at_region ?_
    refine s1 (y_p rfl) rfl <| s1 ((y_conv Tryd.underlying5 Tryd.underlying3 rfl).v (v' := .i .i64 (m.toNat : Nat)) (congrArg (A.i .i64) (wrapI _ (by omega) (by omega)))) rfl <| s1 (addN m.toNat 1 rfl rfl rfl rfl (by omega)) rfl <| ?_
    refine at_op rfl (n_make 24 rfl _ _ Tryd.underlying22 ti5 rfl rfl rfl rfl rfl (by first | omega | (simp only [maxLen]; omega) | (simp [maxLen]; done) | (simp [maxLen]; omega) | (simp [maxLen, *]; omega)) (by first | omega | (simp only [maxLen]; omega) | (simp [maxLen]; done) | (simp [maxLen]; omega) | (simp [maxLen, *]; omega)) (by first | omega | (simp only [maxLen]; omega) | (simp [maxLen]; done) | (simp [maxLen]; omega) | (simp [maxLen, *]; omega)) rfl ?_)
    refine s1 (y_p rfl) rfl <| ?_
    refine at_nil ?_
    refine x_tn ?_
    refine at_seq ?_
    refine at_seq ?_
    refine at_region ?_
    refine s1 (y_p rfl) rfl <| s1 (y_len Tryd.underlying22 rfl rfl rfl) rfl <| s1 ((y_p rfl).v (v' := .i .i64 0) rfl) rfl <| ?_
    refine at_nil ?_
    refine x_tn ?_
    refine at_block ?_
    refine at_loop (ι := Nat × List UInt8) (fun ⟨i, l⟩ => [(0, .fz b.length (b.map u8)), (1, .s tg), (7, .sl 24 1 0 (m.toNat + 1)), (26, .i .i64 (m.toNat + 1 : Nat)), (27, .i .i64 (i : Nat))]) (fun ⟨i, l⟩ => ⟨[(24, some (l.map u8))]⟩) (fun ⟨i, l⟩ => i ≤ m.toNat + 1 ∧ l.length = m.toNat + 1) (fun ⟨i, l⟩ => m.toNat + 1 - i) ?_ ?_
    · exact at_ex ((0, List.replicate (m.toNat + 1) 0)) (⟨Nat.zero_le _, by simp⟩) [(24, some 24)] hI rfl rfl ⟨⟨_, rfl, .pure pu⟩, ⟨_, rfl, .pure pu⟩, ⟨_, rfl, .sl rfl (by first | rfl | omega | (simp; done) | (simp [*]; done) | (simp; omega) | (simp [*]; omega) | (simp [D32.len, -List.length_flatten, *]; done) | (simp [D32.len, -List.length_flatten, *]; omega))⟩, ⟨_, rfl, .pure pu⟩, ⟨_, rfl, .pure pu⟩, trivial⟩ ⟨.inr ⟨_, _, rfl, rfl, .of (by simp) (.pure pul)⟩, trivial⟩
    rintro ⟨i, l⟩ ⟨hi, hl⟩
    dsimp only
    refine at_seq ?_
    refine at_region ?_
    refine s1 (y_p rfl) rfl <| ?_
    refine at_nil ?_
    refine x_tn ?_
    refine at_seq ?_
    refine at_cond rfl (fun hc28 => ?_) (fun hc28 => ?_)
    · have hi2 : i < m.toNat + 1 := by have := of_decide_eq_true hc28; omega
      refine at_skip ?_
      refine x_tn ?_
      refine at_seq ?_
      refine at_block ?_
      refine at_seq ?_
      refine at_region ?_
      refine s1 (y_p rfl) rfl <| s1 (y_p rfl) rfl <| ?_
      refine at_nil ?_
      refine x_tn ?_
      refine at_seq ?_
      refine at_region ?_
      refine s1 (y_p rfl) rfl <| s1 (y_p rfl) rfl <| s1 (y_p rfl) rfl <| s1 (ofN_u8 i Tryd.underlying3 Tryd.underlying5 rfl rfl) rfl <| s1 (y_ixs _ Tryd.underlying22 ti5 rfl rfl rfl rfl (by omega) rfl) rfl <| ?_
      refine at_op rfl (n_store1 ti5 rfl rfl rfl rfl (by simp; omega) rfl ?_)
      refine at_nil ?_
      refine x_tn ?_
      refine at_seq ?_
      refine at_region ?_
      refine s1 (y_p rfl) rfl <| s1 (y_len Tryd.underlying22 rfl rfl rfl) rfl <| s1 (y_p rfl) rfl <| ?_
      refine at_nil ?_
      refine x_tn ?_
      refine at_cond rfl (fun hc37 => ?_) (fun hc37 => ?_)
      · have hb0 : 0 < b.length := by have := of_decide_eq_true hc37; omega
        have hmod := Nat.mod_lt i hb0
        refine at_region ?_
        refine s1 (y_p rfl) rfl <| s1 (y_p rfl) rfl <| s1 (y_p rfl) rfl <| s1 (y_p rfl) rfl <| s1 (y_p rfl) rfl <| s1 (y_len Tryd.underlying22 rfl rfl rfl) rfl <| s1 (remN i b.length rfl rfl rfl rfl hb0) rfl <| s1 (y_ixf _ Tryd.underlying22 ti5 rfl rfl rfl (by omega) rfl) rfl <| s1 (y_load ti5 rfl rfl (getB _ hmod rfl)) rfl <| s1 (y_ixs _ Tryd.underlying22 ti5 rfl rfl rfl rfl (by omega) rfl) rfl <| ?_
        refine at_op rfl (n_store1 ti5 rfl rfl rfl rfl (by simp; omega) rfl ?_)
        refine at_nil ?_
        refine x_bn ?_
        refine x_tn ?_
        refine at_region ?_
        refine s1 (addN _ 1 rfl rfl rfl rfl (by omega)) rfl <| s1 (y_p rfl) rfl <| ?_
        refine at_nil ?_
        exact at_end (x := (i, l)) ((i + 1, (l.set i (UInt8.ofNat i)).set i (b.getD (i % b.length) 0))) (⟨by dsimp only; omega, by simp [hl]⟩) (by dsimp only; omega) [(24, some 24)] hI rfl rfl ⟨⟨_, rfl, .pure pu⟩, ⟨_, rfl, .pure pu⟩, ⟨_, rfl, .sl rfl (by first | rfl | omega | (simp; done) | (simp [*]; done) | (simp; omega) | (simp [*]; omega) | (simp [D32.len, -List.length_flatten, *]; done) | (simp [D32.len, -List.length_flatten, *]; omega))⟩, ⟨_, rfl, .pure pu⟩, ⟨_, rfl, .pure pu⟩, trivial⟩ ⟨.inr ⟨_, _, rfl, rfl, .of (by rw [set_u8, set_u8]) (.pure pul)⟩, trivial⟩
      · skip
        refine at_skip ?_
        refine x_bn ?_
        refine x_tn ?_
        refine at_region ?_
        refine s1 (addN _ 1 rfl rfl rfl rfl (by omega)) rfl <| s1 (y_p rfl) rfl <| ?_
        refine at_nil ?_
        exact at_end (x := (i, l)) ((i + 1, l.set i (UInt8.ofNat i))) (⟨by dsimp only; omega, by simp [hl]⟩) (by dsimp only; omega) [(24, some 24)] hI rfl rfl ⟨⟨_, rfl, .pure pu⟩, ⟨_, rfl, .pure pu⟩, ⟨_, rfl, .sl rfl (by first | rfl | omega | (simp; done) | (simp [*]; done) | (simp; omega) | (simp [*]; omega) | (simp [D32.len, -List.length_flatten, *]; done) | (simp [D32.len, -List.length_flatten, *]; omega))⟩, ⟨_, rfl, .pure pu⟩, ⟨_, rfl, .pure pu⟩, trivial⟩ ⟨.inr ⟨_, _, rfl, rfl, .of (by rw [set_u8]) (.pure pul)⟩, trivial⟩
    · skip
      refine at_exit ?_
      refine x_te ?_
      refine x_te ?_
      refine x_be ?_
      refine x_tn ?_
      refine at_seq ?_
      refine at_seq ?_
      refine at_frz 7 rfl rfl pul (view_eq (by simp [hl]) rfl) ?_
      refine at_say 7 rfl (v' := slA l) (congrArg (fun k => A.fz k (l.map u8)) hl.symm) ?_
      refine at_region ?_
      refine s1 (y_p rfl) rfl <| s1 (y_p rfl) rfl <| ?_
      refine at_op rfl (n_bs1 51 rfl Tryd.underlying24 ti22 rfl rfl rfl rfl rfl ?_)
      refine s1 (y_len Tryd.underlying24 rfl rfl rfl) rfl <| s1 ((y_p rfl).v (v' := .i .i64 0) rfl) rfl <| ?_
      refine at_nil ?_
      refine x_tn ?_
      refine at_block ?_
      refine at_loop (ι := Nat) (fun j => [(1, .s tg), (51, .sl 51 1 0 2), (52, .i .i64 (2 : Nat)), (53, .i .i64 (j : Nat))]) (fun j => ⟨[(51, some ([b, l].map slA))]⟩) (fun j => True) (fun j => 2 - j) ?_ ?_
      · exact at_ex (0) (trivial) [(51, some 51)] hI rfl rfl ⟨⟨_, rfl, .pure pu⟩, ⟨_, rfl, .sl rfl (by first | rfl | omega | (simp; done) | (simp [*]; done) | (simp; omega) | (simp [*]; omega) | (simp [D32.len, -List.length_flatten, *]; done) | (simp [D32.len, -List.length_flatten, *]; omega))⟩, ⟨_, rfl, .pure pu⟩, ⟨_, rfl, .pure pu⟩, trivial⟩ ⟨.inr ⟨_, _, rfl, rfl, .pure pul⟩, trivial⟩
      rintro j -
      refine at_seq ?_
      refine at_region ?_
      refine s1 (y_p rfl) rfl <| ?_
      refine at_nil ?_
      refine x_tn ?_
      refine at_seq ?_
      refine at_cond rfl (fun hc54 => ?_) (fun hc54 => ?_)
      · have hj : j < 2 := by have := of_decide_eq_true hc54; omega
        obtain ⟨c, hc, hcl⟩ : ∃ c, [b, l][j]? = some c ∧ c.length ≤ 300 := by
          match j, hj with
          | 0, _ => exact ⟨b, rfl, by omega⟩
          | 1, _ => exact ⟨l, rfl, by omega⟩
        refine at_skip ?_
        refine x_tn ?_
        refine at_seq ?_
        refine at_block ?_
        refine at_seq ?_
        refine at_region ?_
        refine s1 (y_ixs _ Tryd.underlying24 ti22 rfl rfl rfl rfl (by omega) rfl) rfl <| s1 (y_load ti22 rfl rfl (getD2 hc)) rfl <| s1 (y_p rfl) rfl <| ?_
        refine at_nil ?_
        refine x_tn ?_
        refine at_seq ?_
        refine at_region ?_
        refine s1 (y_p rfl) rfl <| ?_
        refine at_op rfl (n_call false rfl (.cons (.pure pu) (.nil)) (sum_ok c (by omega)) pu (.inl rfl) rfl ?_)
        refine s1 (y_p rfl) rfl <| ?_
        refine at_op rfl (n_call false rfl (.cons (.pure pu) (.nil)) (rsum_ok c (by omega)) pu (.inl rfl) rfl ?_)
        refine s1 ((y_aqn Tryd.underlying26 Tryd.underlying5 ti5 (by kernel_rfl) rfl rfl (by first | assumption | (simp; done) | (simp [*]; done)) (by first | assumption | (simp; done) | (simp [*]; done))).v (v' := .b false) (congrArg A.b (by simp))) rfl <| s1 (y_p rfl) rfl <| g1 rfl rfl (y_p rfl) rfl <| g1 rfl rfl (y_p rfl) rfl <| ?_
        refine at_opg rfl rfl rfl (n_call false rfl (.cons (.pure pu) (.cons (.pure pu) (.nil))) (tagged_ok tg c (by omega) (by omega)) pu (.inl rfl) rfl ?_)
        refine g1 rfl rfl (y_p rfl) rfl <| g1 rfl rfl (y_p rfl) rfl <| ?_
        refine at_opg rfl rfl rfl (n_call false rfl (.cons (.pure pu) (.cons (.pure pu) (.nil))) (rtagged_ok tg c (by omega) (by omega)) pu (.inl rfl) rfl ?_)
        refine g1 rfl rfl ((y_aqn Tryd.underlying26 Tryd.underlying5 ti5 (by kernel_rfl) rfl rfl (by first | assumption | (simp; done) | (simp [*]; done)) (by first | assumption | (simp; done) | (simp [*]; done))).v (v' := .b false) (congrArg A.b (by simp))) rfl <| s1 (y_p rfl) rfl <| ?_
        refine at_nil ?_
        refine x_tn ?_
        refine at_else rfl ?_
        refine at_skip ?_
        refine x_bn ?_
        refine x_tn ?_
        refine at_region ?_
        refine s1 (addN _ 1 rfl rfl rfl rfl (by omega)) rfl <| s1 (y_p rfl) rfl <| ?_
        refine at_nil ?_
        exact at_end (j + 1) (trivial) (by omega) [(51, some 51)] hI rfl rfl ⟨⟨_, rfl, .pure pu⟩, ⟨_, rfl, .sl rfl (by first | rfl | omega | (simp; done) | (simp [*]; done) | (simp; omega) | (simp [*]; omega) | (simp [D32.len, -List.length_flatten, *]; done) | (simp [D32.len, -List.length_flatten, *]; omega))⟩, ⟨_, rfl, .pure pu⟩, ⟨_, rfl, .pure pu⟩, trivial⟩ ⟨.inr ⟨_, _, rfl, rfl, .pure pul⟩, trivial⟩
      · skip
        refine at_exit ?_
        refine x_te ?_
        refine x_te ?_
        refine x_be ?_
        refine x_tn ?_
        refine at_seq ?_
        refine at_region ?_
        refine s1 (y_p rfl) rfl <| ?_
        refine at_nil ?_
        refine x_tn ?_
        refine at_ret ?_
        refine at_result (rs := [.tmp 6]) rfl (r_tmp rfl r_nil) rfl

set_option linter.unusedSimpArgs false in
set_option maxHeartbeats 1000000 in
theorem law_climbs (s : List UInt8) : Con Tryd.prog 6 [.fz s.length (s.map u8)] (Ret (.b true)) := by
  refine enter Tryd.func6 rfl Tryd.ntmps6 (by kernel_rfl) (Nat.le_of_ble_eq_true rfl) fun w0 X0 hI => ?_
  refine at_seq ?_
  refine at_region ?_
  refine s1 (y_p rfl) rfl <| ?_
  refine at_nil ?_
  refine x_tn ?_
  refine at_seq ?_
  refine at_seq ?_
  refine at_region ?_
  refine at_op rfl (n_call false rfl (.nil) (sane_ok) pu (.inl rfl) rfl ?_)
  refine s1 (y_p rfl) rfl <| ?_
  refine at_nil ?_
  refine x_tn ?_
  refine at_else rfl ?_
  refine at_skip ?_
  refine x_tn ?_
  refine at_seq ?_
  refine at_region ?_
  refine s1 (y_p rfl) rfl <| ?_
  refine at_op rfl (n_call false rfl (.cons (.pure pu) (.nil)) (digsOf_ok s) pu (.inl rfl) rfl ?_)
  refine s1 (y_p rfl) rfl <| ?_
  refine at_nil ?_
  refine x_tn ?_
  refine at_seq ?_
  refine at_region ?_
  refine s1 (y_p rfl) rfl <| ?_
  refine at_op rfl (n_call false rfl (.cons (.pure pu) (.nil)) (tree_ok _ (digs s) (Nat.le_refl _) (D32_digs s) (by have := len_digs s; omega)) pu (.inl rfl) rfl ?_)
  refine at_op rfl (n_alloc 4 rfl ti26 rfl rfl ?_)
  refine at_op rfl (n_storeA ti26 rfl rfl rfl (by first | rfl | omega | (simp; done) | (simp [*]; done) | (simp; omega) | (simp [*]; omega) | (simp [D32.len, -List.length_flatten, *]; done) | (simp [D32.len, -List.length_flatten, *]; omega)) (by first | rfl | omega | (simp; done) | (simp [*]; done) | (simp; omega) | (simp [*]; omega) | (simp [D32.len, -List.length_flatten, *]; done) | (simp [D32.len, -List.length_flatten, *]; omega)) ?_)
  refine at_nil ?_
  refine x_tn ?_
  refine at_seq ?_
  refine at_seq ?_
  refine at_region ?_
  refine s1 (y_p rfl) rfl <| s1 (y_len Tryd.underlying30 rfl rfl rfl) rfl <| s1 ((y_p rfl).v (v' := .i .i64 0) rfl) rfl <| ?_
  refine at_nil ?_
  refine x_tn ?_
  refine at_block ?_
  refine at_loop (ι := Nat) (fun i => [(3, dgs (digs s)), (4, .p 4 0), (19, dgs (digs s)), (20, .i .i64 ((digs s).length : Nat)), (21, .i .i64 (i : Nat))]) (fun i => ⟨[(4, some ((tree (digs s)).map u8))]⟩) (fun i => i ≤ (digs s).length) (fun i => (digs s).length - i) ?_ ?_
  · exact at_ex (0) (Nat.zero_le _) [(4, some 4)] hI rfl rfl ⟨⟨_, rfl, .pure pu⟩, ⟨_, rfl, .p rfl⟩, ⟨_, rfl, .pure pu⟩, ⟨_, rfl, .pure pu⟩, ⟨_, rfl, .pure pu⟩, trivial⟩ ⟨.inr ⟨_, _, rfl, rfl, .pure pul⟩, trivial⟩
  rintro i hi
  have h24 := len_digs s
  refine at_seq ?_
  refine at_region ?_
  refine s1 (y_p rfl) rfl <| ?_
  refine at_nil ?_
  refine x_tn ?_
  refine at_seq ?_
  refine at_cond rfl (fun hc22 => ?_) (fun hc22 => ?_)
  · have hi2 : i < (digs s).length := by have := of_decide_eq_true hc22; omega
    obtain ⟨q, hq⟩ : ∃ q, (digs s)[i]? = some q := ⟨_, List.getElem?_eq_getElem hi2⟩
    have hq32 := D32_digs s q (List.mem_of_getElem? hq)
    have hp5 := path_5 (i := i) h24
    have hDP := D32_path _ (digs s) i (Nat.le_refl _)
    have hDQ := hDP.app (.one hq32)
    refine at_skip ?_
    refine x_tn ?_
    refine at_seq ?_
    refine at_block ?_
    refine at_seq ?_
    refine at_region ?_
    refine s1 (y_p rfl) rfl <| s1 (y_ixf _ Tryd.underlying30 ti26 rfl rfl rfl (by omega) rfl) rfl <| s1 (y_loadA ti26 rfl rfl (get_d (D32_digs s) hq) (by simp [hq32])) rfl <| ?_
    refine at_op rfl (n_alloc 6 rfl ti26 rfl rfl ?_)
    refine s1 (y_p rfl) rfl <| ?_
    refine at_op rfl (n_storeA ti26 rfl rfl rfl (by first | rfl | omega | (simp; done) | (simp [*]; done) | (simp; omega) | (simp [*]; omega) | (simp [D32.len, -List.length_flatten, *]; done) | (simp [D32.len, -List.length_flatten, *]; omega)) (by first | rfl | omega | (simp; done) | (simp [*]; done) | (simp; omega) | (simp [*]; omega) | (simp [D32.len, -List.length_flatten, *]; done) | (simp [D32.len, -List.length_flatten, *]; omega)) ?_)
    refine at_nil ?_
    refine x_tn ?_
    refine at_seq ?_
    refine at_region ?_
    refine s1 (y_p rfl) rfl <| s1 (y_p rfl) rfl <| ?_
    refine at_op rfl (n_call false rfl (.cons (.pure pu) (.cons (.pure pu) (.nil))) (Con.cast (pathN_ok (digs s) (i : Int) (D32_digs s) (by have := len_digs s; omega)) (by rw [(pathN_nat hi2).1, (pathN_nat hi2).2])) pu (.inl rfl) rfl ?_)
    refine s1 (y_p rfl) rfl <| s1 (y_p rfl) rfl <| s1 (y_p rfl) rfl <| s1 (y_p rfl) rfl <| s1 (y_p rfl) rfl <| ?_
    refine at_nil ?_
    refine x_tn ?_
    refine at_seq ?_
    refine at_region ?_
    refine s1 (y_loadA0 ti26 rfl rfl (by simp [hq32])) rfl <| s1 (y_p rfl) rfl <| s1 (y_p rfl) rfl <| s1 (y_len Tryd.underlying30 rfl rfl rfl) rfl <| s1 (y_p rfl) rfl <| ?_
    refine at_op rfl (n_call false rfl (.cons (.pure pu) (.cons (.pure pu) (.cons (.pure pu) (.cons (.pure pu) (.nil))))) (Con.cast (climbD_ok q hq32 (i : Int) ((digs s).length : Int) (path (digs s) i) hDP) (by rw [(climb_good hq (by omega)).1, (climb_good hq (by omega)).2])) pu (.inl rfl) rfl ?_)
    refine s1 (y_p rfl) rfl <| s1 (y_p rfl) rfl <| s1 (y_p rfl) rfl <| ?_
    refine at_op rfl (n_alloc 9 rfl ti26 rfl rfl ?_)
    refine at_op rfl (n_storeA ti26 rfl rfl rfl (by first | rfl | omega | (simp; done) | (simp [*]; done) | (simp; omega) | (simp [*]; omega) | (simp [D32.len, -List.length_flatten, *]; done) | (simp [D32.len, -List.length_flatten, *]; omega)) (by first | rfl | omega | (simp; done) | (simp [*]; done) | (simp; omega) | (simp [*]; omega) | (simp [D32.len, -List.length_flatten, *]; done) | (simp [D32.len, -List.length_flatten, *]; omega)) ?_)
    refine s1 (y_p rfl) rfl <| ?_
    refine at_nil ?_
    refine x_tn ?_
    refine at_seq ?_
    refine at_fs ⟨_, [], []⟩ 16 4 hmix (le_refl rfl) ?_
    refine fs_q 0 [] [(6, none)] (y_loadA0 ti26 rfl rfl (by simp [hq32])) rfl rfl ?_
    refine fs_q 1 [] [] (y_p rfl) rfl rfl ?_
    refine fs_q 2 [] [] (y_p rfl) rfl rfl ?_
    refine fs_q 3 [2] [] (y_len Tryd.underlying30 rfl rfl rfl) rfl rfl ?_
    refine fs_bs 46 4 [] gy0 Tryd.underlying30 ti26 rfl rfl rfl (by first | (simp [cellsA]; done) | (simp [cellsA, *]; done)) rfl rfl rfl rfl rfl ?_
    refine fs_q 5 [] [] (y_p rfl) rfl rfl ?_
    refine fs_app 48 6 [4, 5] [(46, some 4)] gy0 Tryd.underlying30 ti26 rfl (.sl rfl (by first | rfl | omega | (simp; done) | (simp [*]; done) | (simp; omega) | (simp [*]; omega) | (simp [D32.len, -List.length_flatten, *]; done) | (simp [D32.len, -List.length_flatten, *]; omega))) rfl rfl (by rw [List.length_map, hDP.len]) (by simp only [maxLen]; omega) (by omega) rfl rfl rfl rfl ?_
    refine fs_q 7 [] [(6, none)] (y_loadA0 ti26 rfl rfl (by simp [hq32])) rfl rfl ?_
    refine fs_bs 50 8 [7] gy0 Tryd.underlying30 ti26 rfl rfl rfl (by first | (simp [cellsA]; done) | (simp [cellsA, *]; done)) (List.append_nil (q.map u8)) rfl rfl rfl rfl ?_
    refine fs_app 51 9 [6, 8] [(48, some 6), (50, some 8)] gy0 Tryd.underlying30 ti26 rfl (.sl rfl (by rw [List.length_append, List.length_map, hDP.len]; simp [flatA])) rfl (SM_full rfl (by first | rfl | omega | (simp; done) | (simp [*]; done) | (simp; omega) | (simp [*]; omega) | (simp [D32.len, -List.length_flatten, *]; done) | (simp [D32.len, -List.length_flatten, *]; omega))) (by simp [hq32]) (by simp only [maxLen]; omega) (by omega) rfl (show (flatA [] ++ (path (digs s) i).flatten.map u8) ++ q.map u8 = (path (digs s) i ++ [q]).flatten.map u8 by simp [flatA]) rfl rfl ?_
    refine fs_call true 10 [0, 1, 3, 9] [(51, some 9)] gy0 rfl (.cons (.pure pu) (.cons (.pure pu) (.cons (.pure pu) (.cons (.sl rfl rfl (by first | rfl | omega | (simp; done) | (simp [*]; done) | (simp; omega) | (simp [*]; omega) | (simp [D32.len, -List.length_flatten, *]; done) | (simp [D32.len, -List.length_flatten, *]; omega)) (view_eq (by rw [List.length_map, hDQ.len, List.length_append]; simp) (by first | rfl | (simp; done) | (simp [*]; done))) (VwL.pure pul) pul) (.nil))))) (Con.cast (climbD_ok q hq32 (i : Int) ((digs s).length : Int) (path (digs s) i ++ [q]) hDQ) (by rw [climbE_longer])) pu (.inr fu) rfl rfl ?_
    refine fs_q 11 [10] [] (y_p rfl) rfl rfl ?_
    refine fs_q 12 [11] [] (y_p rfl) rfl rfl ?_
    refine fs_q 13 [11] [] (y_p rfl) rfl rfl ?_
    refine fs_alloc 11 14 [] gy0 ti26 rfl rfl rfl ?_
    refine fs_stoA 3 15 [12, 14] [(11, some 14)] rfl gy0 ti26 rfl rfl rfl (by first | rfl | omega | (simp; done) | (simp [*]; done) | (simp; omega) | (simp [*]; omega) | (simp [D32.len, -List.length_flatten, *]; done) | (simp [D32.len, -List.length_flatten, *]; omega)) (by first | rfl | omega | (simp; done) | (simp [*]; done) | (simp; omega) | (simp [*]; omega) | (simp [D32.len, -List.length_flatten, *]; done) | (simp [D32.len, -List.length_flatten, *]; omega)) rfl ?_
    refine fs_end (by kernel_rfl) ?_
    refine s1 (y_p rfl) rfl <| ?_
    refine at_nil ?_
    refine x_tn ?_
    refine at_seq ?_
    refine at_region ?_
    refine s1 (y_p rfl) rfl <| s1 ((y_p rfl).v (v' := .b false) (rfl)) rfl <| s1 (y_p rfl) rfl <| g1 rfl rfl (y_p rfl) rfl <| g1 rfl rfl ((y_p rfl).v (v' := .b false) (rfl)) rfl <| s1 (y_p rfl) rfl <| s1 (y_p rfl) rfl <| g1 rfl rfl (y_loadA0 ti26 rfl rfl (by first | rfl | omega | (simp; done) | (simp [*]; done) | (simp; omega) | (simp [*]; omega) | (simp [D32.len, -List.length_flatten, *]; done) | (simp [D32.len, -List.length_flatten, *]; omega))) rfl <| g1 rfl rfl (y_loadA0 ti26 rfl rfl (by first | rfl | omega | (simp; done) | (simp [*]; done) | (simp; omega) | (simp [*]; omega) | (simp [D32.len, -List.length_flatten, *]; done) | (simp [D32.len, -List.length_flatten, *]; omega))) rfl <| g1 rfl rfl ((y_aqn Tryd.underlying26 Tryd.underlying5 ti5 (by kernel_rfl) rfl rfl (by first | assumption | (simp; done) | (simp [*]; done)) (by first | assumption | (simp; done) | (simp [*]; done))).v (v' := .b false) (congrArg A.b (by simp))) rfl <| ?_
    refine s1 (y_p rfl) rfl <| s1 (y_p rfl) rfl <| g1 rfl rfl (y_p rfl) rfl <| g1 rfl rfl (y_len Tryd.underlying30 rfl rfl rfl) rfl <| g1 rfl rfl ((y_p rfl).v (v' := .b false) (congrArg A.b (by simp; omega))) rfl <| s1 (y_p rfl) rfl <| s1 (y_p rfl) rfl <| g1 rfl rfl (y_p rfl) rfl <| g1 rfl rfl ((y_p rfl).v (v' := .b false) (rfl)) rfl <| s1 (y_p rfl) rfl <| ?_
    refine at_nil ?_
    refine x_tn ?_
    refine at_else rfl ?_
    refine at_skip ?_
    refine x_bn ?_
    refine x_tn ?_
    refine at_region ?_
    refine s1 (addN _ 1 rfl rfl rfl rfl (by omega)) rfl <| s1 (y_p rfl) rfl <| ?_
    refine at_nil ?_
    exact at_end (i + 1) (by omega) (by omega) [(4, some 4)] hI rfl rfl ⟨⟨_, rfl, .pure pu⟩, ⟨_, rfl, .p rfl⟩, ⟨_, rfl, .pure pu⟩, ⟨_, rfl, .pure pu⟩, ⟨_, rfl, .pure pu⟩, trivial⟩ ⟨.inr ⟨_, _, rfl, rfl, .pure pul⟩, trivial⟩
  · skip
    refine at_exit ?_
    refine x_te ?_
    refine x_te ?_
    refine x_be ?_
    refine x_tn ?_
    refine at_seq ?_
    refine at_region ?_
    refine s1 (y_p rfl) rfl <| ?_
    refine at_nil ?_
    refine x_tn ?_
    refine at_ret ?_
    refine at_result (rs := [.tmp 2]) rfl (r_tmp rfl r_nil) rfl

end Go.Abs.D2
