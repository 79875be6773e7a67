/-
  Layer 2: walks of the digest functions. Conditions: each theorem says its own.
-/
import Derived.Test.YtapmhjkfnedbmaaDoorC5F
import Derived.Test.YtapmhjkfnedbmaaDoorAbsK
namespace Go.Abs.D2
open Go Go.Eng Go.Abs Go.Proofs 

set_option linter.unusedSimpArgs false in
set_option linter.unusedVariables false in
set_option maxHeartbeats 1000000 in
theorem law_digits (m o : List UInt8) (S : List (List UInt8)) (hm : m.length = 32) (ho : o.length = 32) (hS : D32 S) : Con Tryd.prog 3 [.ag (m.map u8), .ag (o.map u8), dgs S] (Ret (.b true)) := by
  refine enter Tryd.func3 rfl Tryd.ntmps3 (by kernel_rfl) (Nat.le_of_ble_eq_true rfl) fun w0 X0 hI => ?_
  refine at_seq ?_
  refine at_region ?_
  refine at_op rfl (n_boxA 3 rfl rfl rfl ?_)
  refine at_op rfl (n_boxA 4 rfl rfl rfl ?_)
  refine s1 (y_p rfl) rfl <| ?_
  refine at_nil ?_
  refine x_tn ?_
  refine at_seq ?_
  refine at_seq ?_
  refine at_region ?_
  refine at_op rfl (n_call false rfl (.nil) (sane_ok) pu (.inl rfl) rfl ?_)
  refine s1 (y_p rfl) rfl <| ?_
  refine at_nil ?_
  refine x_tn ?_
  refine at_else rfl ?_
  refine at_skip ?_
  refine x_tn ?_
  refine at_seq ?_
  refine at_seq ?_
  refine at_region ?_
  refine s1 (y_p rfl) rfl <| s1 (y_len Tryd.underlying24 rfl rfl rfl) rfl <| s1 (y_p rfl) rfl <| ?_
  refine at_nil ?_
  refine x_tn ?_
  refine at_cond rfl (fun hc15 => ?_) (fun hc15 => ?_)
  · skip
    refine at_seq ?_
    refine at_region ?_
    refine s1 (y_p rfl) rfl <| ?_
    refine at_nil ?_
    refine x_tn ?_
    refine at_ret ?_
    refine x_tr ?_
    refine at_result (rs := [.tmp 6]) rfl (r_tmp rfl r_nil) rfl
  · skip
    refine at_skip ?_
    refine x_tn ?_
    refine at_seq ?_
    refine at_region ?_
    refine s1 (y_loadA0 ti23 rfl rfl (by first | rfl | omega | (simp; done) | (simp [*]; done) | (simp; omega) | (simp [*]; omega) | (simp [D32.len, -List.length_flatten, *]; done) | (simp [D32.len, -List.length_flatten, *]; omega))) rfl <| s1 (y_p rfl) rfl <| s1 (y_loadA0 ti23 rfl rfl (by first | rfl | omega | (simp; done) | (simp [*]; done) | (simp; omega) | (simp [*]; omega) | (simp [D32.len, -List.length_flatten, *]; done) | (simp [D32.len, -List.length_flatten, *]; omega))) rfl <| ?_
    refine at_op rfl (n_call false rfl (.cons (.pure pu) (.cons (.pure pu) (.cons (.pure pu) (.nil)))) (earlier_ok m o S hm ho) pu (.inl rfl) rfl ?_)
    refine s1 (y_p rfl) rfl <| s1 (y_p rfl) rfl <| s1 (y_p rfl) rfl <| s1 (y_p rfl) rfl <| s1 (y_p rfl) rfl <| ?_
    refine at_nil ?_
    refine x_tn ?_
    refine at_seq ?_
    refine at_region ?_
    refine s1 (y_loadA0 ti23 rfl rfl (by first | rfl | omega | (simp; done) | (simp [*]; done) | (simp; omega) | (simp [*]; omega) | (simp [D32.len, -List.length_flatten, *]; done) | (simp [D32.len, -List.length_flatten, *]; omega))) rfl <| s1 (y_p rfl) rfl <| s1 (y_loadA0 ti23 rfl rfl (by first | rfl | omega | (simp; done) | (simp [*]; done) | (simp; omega) | (simp [*]; omega) | (simp [D32.len, -List.length_flatten, *]; done) | (simp [D32.len, -List.length_flatten, *]; omega))) rfl <| ?_
    refine at_op rfl (n_call false rfl (.cons (.pure pu) (.cons (.pure pu) (.cons (.pure pu) (.nil)))) (rearlier_ok m o S hm ho) pu (.inl rfl) rfl ?_)
    refine s1 (y_p rfl) rfl <| s1 (y_p rfl) rfl <| s1 (y_p rfl) rfl <| s1 (y_p rfl) rfl <| s1 (y_p rfl) rfl <| ?_
    refine at_nil ?_
    refine x_tn ?_
    refine at_seq ?_
    refine at_fs ⟨_, [], []⟩ 15 4 hmix (le_refl rfl) ?_
    refine fs_q 0 [] [(3, none)] (y_loadA0 ti23 rfl rfl (by first | rfl | omega | (simp; done) | (simp [*]; done) | (simp; omega) | (simp [*]; omega) | (simp [D32.len, -List.length_flatten, *]; done) | (simp [D32.len, -List.length_flatten, *]; omega))) rfl rfl ?_
    refine fs_call false 1 [0] [] gy0 rfl (.cons (.pure pu) (.nil)) (digits_ok m hm) pu (.inl rfl) rfl rfl ?_
    refine fs_q 2 [] [(3, none)] (y_loadA0 ti23 rfl rfl (by first | rfl | omega | (simp; done) | (simp [*]; done) | (simp; omega) | (simp [*]; omega) | (simp [D32.len, -List.length_flatten, *]; done) | (simp [D32.len, -List.length_flatten, *]; omega))) rfl rfl ?_
    refine fs_call false 3 [2] [] gy0 rfl (.cons (.pure pu) (.nil)) (rdigits_ok m hm) pu (.inl rfl) rfl rfl ?_
    refine fs_call false 4 [1, 3] [] gy0 rfl (.cons (.pure pu) (.cons (.pure pu) (.nil))) (sameI_19 (digits m) (len_digits m)) pu (.inl rfl) rfl rfl ?_
    refine fs_q 5 [4] [] ((y_p rfl).v (v' := .b true) (rfl)) rfl rfl ?_
    refine fs_qg 6 [5] [] rfl rfl (y_p rfl) rfl rfl ?_
    refine fs_qg 7 [5] [] rfl rfl (y_p rfl) rfl rfl ?_
    refine fs_qg 8 [5, 6, 7] [] rfl rfl ((y_p rfl).v (v' := .b true) (congrArg A.b (by simp))) rfl rfl ?_
    refine fs_q 9 [5, 8] [] ((y_p rfl).v (v' := .b true) (rfl)) rfl rfl ?_
    refine fs_q 10 [9] [] ((y_p rfl).v (v' := .b true) (rfl)) rfl rfl ?_
    refine fs_qg 11 [10] [] rfl rfl (y_p rfl) rfl rfl ?_
    refine fs_qg 12 [10] [] rfl rfl (y_p rfl) rfl rfl ?_
    refine fs_qg 13 [10, 11, 12] [] rfl rfl ((y_eqb Tryd.underlying4 rfl rfl).v (v' := .b true) (congrArg A.b (by simp))) rfl rfl ?_
    refine fs_q 14 [10, 13] [] ((y_p rfl).v (v' := .b true) (rfl)) rfl rfl ?_
    refine fs_end (by kernel_rfl) ?_
    refine s1 (y_p rfl) rfl <| ?_
    refine at_nil ?_
    refine x_tn ?_
    refine at_ret ?_
    refine at_result (rs := [.tmp 6]) rfl (r_tmp rfl r_nil) rfl

set_option linter.unusedSimpArgs false in
set_option linter.unusedVariables false in
set_option maxHeartbeats 1000000 in
theorem law_spec (x m p : List UInt8) (S : List (List UInt8)) (hx : x.length = 32) (hm : m.length = 32) (hp : p.length = 32) (hS : D32 S) : Con Tryd.prog 4 [.ag (x.map u8), .ag (m.map u8), .ag (p.map u8), dgs S] (Ret (.b true)) := by
  refine enter Tryd.func4 rfl Tryd.ntmps4 (by kernel_rfl) (Nat.le_of_ble_eq_true rfl) fun w0 X0 hI => ?_
  refine at_seq ?_
  refine at_region ?_
  refine at_op rfl (n_boxA 4 rfl rfl rfl ?_)
  refine at_op rfl (n_boxA 5 rfl rfl rfl ?_)
  refine at_op rfl (n_boxA 6 rfl rfl rfl ?_)
  refine s1 (y_p rfl) rfl <| ?_
  refine at_nil ?_
  refine x_tn ?_
  refine at_seq ?_
  refine at_seq ?_
  refine at_region ?_
  refine at_op rfl (n_call false rfl (.nil) (sane_ok) pu (.inl rfl) rfl ?_)
  refine s1 (y_p rfl) rfl <| ?_
  refine at_nil ?_
  refine x_tn ?_
  refine at_else rfl ?_
  refine at_skip ?_
  refine x_tn ?_
  refine at_seq ?_
  refine at_seq ?_
  refine at_region ?_
  refine s1 (y_p rfl) rfl <| s1 (y_len Tryd.underlying24 rfl rfl rfl) rfl <| s1 (y_p rfl) rfl <| ?_
  refine at_nil ?_
  refine x_tn ?_
  refine at_cond rfl (fun hc17 => ?_) (fun hc17 => ?_)
  · skip
    refine at_seq ?_
    refine at_region ?_
    refine s1 (y_p rfl) rfl <| ?_
    refine at_nil ?_
    refine x_tn ?_
    refine at_ret ?_
    refine x_tr ?_
    refine at_result (rs := [.tmp 8]) rfl (r_tmp rfl r_nil) rfl
  · skip
    refine at_skip ?_
    refine x_tn ?_
    refine at_seq ?_
    refine at_region ?_
    refine s1 (y_loadA0 ti23 rfl rfl (by first | rfl | omega | (simp; done) | (simp [*]; done) | (simp; omega) | (simp [*]; omega) | (simp [D32.len, -List.length_flatten, *]; done) | (simp [D32.len, -List.length_flatten, *]; omega))) rfl <| s1 (y_p rfl) rfl <| ?_
    refine at_op rfl (n_call false rfl (.cons (.pure pu) (.cons (.pure pu) (.nil))) (recover_ok m S hm hS) pu (.inl rfl) rfl ?_)
    refine s1 (y_p rfl) rfl <| s1 (y_p rfl) rfl <| s1 (y_p rfl) rfl <| ?_
    refine at_op rfl (n_alloc 9 rfl ti23 rfl rfl ?_)
    refine at_op rfl (n_storeA ti23 rfl rfl rfl (by first | rfl | omega | (simp; done) | (simp [*]; done) | (simp; omega) | (simp [*]; omega) | (simp [D32.len, -List.length_flatten, *]; done) | (simp [D32.len, -List.length_flatten, *]; omega)) (by first | rfl | omega | (simp; done) | (simp [*]; done) | (simp; omega) | (simp [*]; omega) | (simp [D32.len, -List.length_flatten, *]; done) | (simp [D32.len, -List.length_flatten, *]; omega)) ?_)
    refine s1 (y_p rfl) rfl <| ?_
    refine at_nil ?_
    refine x_tn ?_
    refine at_seq ?_
    refine at_region ?_
    refine s1 (y_loadA0 ti23 rfl rfl (by first | rfl | omega | (simp; done) | (simp [*]; done) | (simp; omega) | (simp [*]; omega) | (simp [D32.len, -List.length_flatten, *]; done) | (simp [D32.len, -List.length_flatten, *]; omega))) rfl <| s1 (y_p rfl) rfl <| ?_
    refine at_op rfl (n_call false rfl (.cons (.pure pu) (.cons (.pure pu) (.nil))) (rrecover_ok m S hm hS) pu (.inl rfl) rfl ?_)
    refine s1 (y_p rfl) rfl <| s1 (y_p rfl) rfl <| s1 (y_p rfl) rfl <| ?_
    refine at_op rfl (n_alloc 11 rfl ti23 rfl rfl ?_)
    refine at_op rfl (n_storeA ti23 rfl rfl rfl (by first | rfl | omega | (simp; done) | (simp [*]; done) | (simp; omega) | (simp [*]; omega) | (simp [D32.len, -List.length_flatten, *]; done) | (simp [D32.len, -List.length_flatten, *]; omega)) (by first | rfl | omega | (simp; done) | (simp [*]; done) | (simp; omega) | (simp [*]; omega) | (simp [D32.len, -List.length_flatten, *]; done) | (simp [D32.len, -List.length_flatten, *]; omega)) ?_)
    refine s1 (y_p rfl) rfl <| ?_
    refine at_nil ?_
    refine x_tn ?_
    refine at_seq ?_
    refine at_fs ⟨_, [], []⟩ 35 4 hmix (le_refl rfl) ?_
    refine fs_q 0 [] [(4, none)] (y_loadA0 ti23 rfl rfl (by first | rfl | omega | (simp; done) | (simp [*]; done) | (simp; omega) | (simp [*]; omega) | (simp [D32.len, -List.length_flatten, *]; done) | (simp [D32.len, -List.length_flatten, *]; omega))) rfl rfl ?_
    refine fs_call false 1 [0] [] gy0 rfl (.cons (.pure pu) (.nil)) (public_ok x hx) pu (.inl rfl) rfl rfl ?_
    refine fs_q 2 [] [(4, none)] (y_loadA0 ti23 rfl rfl (by first | rfl | omega | (simp; done) | (simp [*]; done) | (simp; omega) | (simp [*]; omega) | (simp [D32.len, -List.length_flatten, *]; done) | (simp [D32.len, -List.length_flatten, *]; omega))) rfl rfl ?_
    refine fs_call false 3 [2] [] gy0 rfl (.cons (.pure pu) (.nil)) (rpublic_ok x hx) pu (.inl rfl) rfl rfl ?_
    refine fs_q 4 [1, 3] [] ((y_aq Tryd.underlying23 Tryd.underlying5 ti5 (by kernel_rfl) rfl rfl (by first | assumption | (simp; done) | (simp [*]; done)) (by first | assumption | (simp; done) | (simp [*]; done))).v (v' := .b true) (congrArg A.b (by simp))) rfl rfl ?_
    refine fs_q 5 [4] [] ((y_p rfl).v (v' := .b true) (rfl)) rfl rfl ?_
    refine fs_qg 6 [5] [(4, none)] rfl rfl (y_loadA0 ti23 rfl rfl (by first | rfl | omega | (simp; done) | (simp [*]; done) | (simp; omega) | (simp [*]; omega) | (simp [D32.len, -List.length_flatten, *]; done) | (simp [D32.len, -List.length_flatten, *]; omega))) rfl rfl ?_
    refine fs_qg 7 [5] [(5, none)] rfl rfl (y_loadA0 ti23 rfl rfl (by first | rfl | omega | (simp; done) | (simp [*]; done) | (simp; omega) | (simp [*]; omega) | (simp [D32.len, -List.length_flatten, *]; done) | (simp [D32.len, -List.length_flatten, *]; omega))) rfl rfl ?_
    refine fs_call false 8 [5, 6, 7] [] (gy1 rfl rfl) rfl (.cons (.pure pu) (.cons (.pure pu) (.nil))) (sign_ok x m hx hm) pu (.inl rfl) rfl rfl ?_
    refine fs_qg 9 [5] [(4, none)] rfl rfl (y_loadA0 ti23 rfl rfl (by first | rfl | omega | (simp; done) | (simp [*]; done) | (simp; omega) | (simp [*]; omega) | (simp [D32.len, -List.length_flatten, *]; done) | (simp [D32.len, -List.length_flatten, *]; omega))) rfl rfl ?_
    refine fs_qg 10 [5] [(5, none)] rfl rfl (y_loadA0 ti23 rfl rfl (by first | rfl | omega | (simp; done) | (simp [*]; done) | (simp; omega) | (simp [*]; omega) | (simp [D32.len, -List.length_flatten, *]; done) | (simp [D32.len, -List.length_flatten, *]; omega))) rfl rfl ?_
    refine fs_call false 11 [5, 9, 10] [] (gy1 rfl rfl) rfl (.cons (.pure pu) (.cons (.pure pu) (.nil))) (rsign_ok x m hx hm) pu (.inl rfl) rfl rfl ?_
    refine fs_call false 12 [5, 8, 11] [] (gy1 rfl rfl) rfl (.cons (.pure pu) (.cons (.pure pu) (.nil))) (same_yes (signD x m) (D32_signL x m 19)) pu (.inl rfl) rfl rfl ?_
    refine fs_q 13 [5, 12] [] ((y_p rfl).v (v' := .b true) (rfl)) rfl rfl ?_
    refine fs_q 14 [13] [] ((y_p rfl).v (v' := .b true) (rfl)) rfl rfl ?_
    refine fs_qg 15 [14] [(9, none)] rfl rfl (y_loadA0 ti23 rfl rfl (by first | rfl | omega | (simp; done) | (simp [*]; done) | (simp; omega) | (simp [*]; omega) | (simp [D32.len, -List.length_flatten, *]; done) | (simp [D32.len, -List.length_flatten, *]; omega))) rfl rfl ?_
    refine fs_qg 16 [14] [(11, none)] rfl rfl (y_loadA0 ti23 rfl rfl (by first | rfl | omega | (simp; done) | (simp [*]; done) | (simp; omega) | (simp [*]; omega) | (simp [D32.len, -List.length_flatten, *]; done) | (simp [D32.len, -List.length_flatten, *]; omega))) rfl rfl ?_
    refine fs_qg 17 [14, 15, 16] [] rfl rfl ((y_aq Tryd.underlying23 Tryd.underlying5 ti5 (by kernel_rfl) rfl rfl (by first | assumption | (simp; done) | (simp [*]; done)) (by first | assumption | (simp; done) | (simp [*]; done))).v (v' := .b true) (congrArg A.b (by simp))) rfl rfl ?_
    refine fs_q 18 [14, 17] [] ((y_p rfl).v (v' := .b true) (rfl)) rfl rfl ?_
    refine fs_q 19 [18] [] ((y_p rfl).v (v' := .b true) (rfl)) rfl rfl ?_
    refine fs_qg 20 [19] [] rfl rfl (y_p rfl) rfl rfl ?_
    refine fs_qg 21 [19] [] rfl rfl (y_p rfl) rfl rfl ?_
    refine fs_qg 22 [19, 20, 21] [] rfl rfl ((y_p rfl).v (v' := .b true) (congrArg A.b (by simp))) rfl rfl ?_
    refine fs_q 23 [19, 22] [] ((y_p rfl).v (v' := .b true) (rfl)) rfl rfl ?_
    refine fs_q 24 [23] [] ((y_p rfl).v (v' := .b true) (rfl)) rfl rfl ?_
    refine fs_qg 25 [24] [(6, none)] rfl rfl (y_loadA0 ti23 rfl rfl (by first | rfl | omega | (simp; done) | (simp [*]; done) | (simp; omega) | (simp [*]; omega) | (simp [D32.len, -List.length_flatten, *]; done) | (simp [D32.len, -List.length_flatten, *]; omega))) rfl rfl ?_
    refine fs_qg 26 [24] [(5, none)] rfl rfl (y_loadA0 ti23 rfl rfl (by first | rfl | omega | (simp; done) | (simp [*]; done) | (simp; omega) | (simp [*]; omega) | (simp [D32.len, -List.length_flatten, *]; done) | (simp [D32.len, -List.length_flatten, *]; omega))) rfl rfl ?_
    refine fs_qg 27 [24] [] rfl rfl (y_p rfl) rfl rfl ?_
    refine fs_call false 28 [24, 25, 26, 27] [] (gy1 rfl rfl) rfl (.cons (.pure pu) (.cons (.pure pu) (.cons (.pure pu) (.nil)))) (verify_ok p m S hp hm hS) pu (.inl rfl) rfl rfl ?_
    refine fs_qg 29 [24] [(6, none)] rfl rfl (y_loadA0 ti23 rfl rfl (by first | rfl | omega | (simp; done) | (simp [*]; done) | (simp; omega) | (simp [*]; omega) | (simp [D32.len, -List.length_flatten, *]; done) | (simp [D32.len, -List.length_flatten, *]; omega))) rfl rfl ?_
    refine fs_qg 30 [24] [(5, none)] rfl rfl (y_loadA0 ti23 rfl rfl (by first | rfl | omega | (simp; done) | (simp [*]; done) | (simp; omega) | (simp [*]; omega) | (simp [D32.len, -List.length_flatten, *]; done) | (simp [D32.len, -List.length_flatten, *]; omega))) rfl rfl ?_
    refine fs_qg 31 [24] [] rfl rfl (y_p rfl) rfl rfl ?_
    refine fs_call false 32 [24, 29, 30, 31] [] (gy1 rfl rfl) rfl (.cons (.pure pu) (.cons (.pure pu) (.cons (.pure pu) (.nil)))) (rverify_ok p m S hp hm hS) pu (.inl rfl) rfl rfl ?_
    refine fs_qg 33 [24, 28, 32] [] rfl rfl ((y_eqb Tryd.underlying4 rfl rfl).v (v' := .b true) (congrArg A.b (by simp))) rfl rfl ?_
    refine fs_q 34 [24, 33] [] ((y_p rfl).v (v' := .b true) (rfl)) rfl rfl ?_
    refine fs_end (by kernel_rfl) ?_
    refine s1 (y_p rfl) rfl <| ?_
    refine at_nil ?_
    refine x_tn ?_
    refine at_ret ?_
    refine at_result (rs := [.tmp 8]) rfl (r_tmp rfl r_nil) rfl

set_option linter.unusedSimpArgs false in
set_option linter.unusedVariables false in
set_option maxHeartbeats 1000000 in
theorem law_signed (x m o : List UInt8) (hx : x.length = 32) (hm : m.length = 32) (ho : o.length = 32) : Con Tryd.prog 5 [.ag (x.map u8), .ag (m.map u8), .ag (o.map u8)] (Ret (.b true)) := by
  refine enter Tryd.func5 rfl Tryd.ntmps5 (by kernel_rfl) (Nat.le_of_ble_eq_true rfl) fun w0 X0 hI => ?_
  refine at_seq ?_
  refine at_region ?_
  refine at_op rfl (n_boxA 3 rfl rfl rfl ?_)
  refine at_op rfl (n_boxA 4 rfl rfl rfl ?_)
  refine at_op rfl (n_boxA 5 rfl rfl rfl ?_)
  refine s1 (y_p rfl) rfl <| ?_
  refine at_nil ?_
  refine x_tn ?_
  refine at_seq ?_
  refine at_seq ?_
  refine at_region ?_
  refine at_op rfl (n_call false rfl (.nil) (sane_ok) pu (.inl rfl) rfl ?_)
  refine s1 (y_p rfl) rfl <| ?_
  refine at_nil ?_
  refine x_tn ?_
  refine at_else rfl ?_
  refine at_skip ?_
  refine x_tn ?_
  refine at_seq ?_
  refine at_region ?_
  refine s1 (y_loadA0 ti23 rfl rfl (by first | rfl | omega | (simp; done) | (simp [*]; done) | (simp; omega) | (simp [*]; omega) | (simp [D32.len, -List.length_flatten, *]; done) | (simp [D32.len, -List.length_flatten, *]; omega))) rfl <| s1 (y_loadA0 ti23 rfl rfl (by first | rfl | omega | (simp; done) | (simp [*]; done) | (simp; omega) | (simp [*]; omega) | (simp [D32.len, -List.length_flatten, *]; done) | (simp [D32.len, -List.length_flatten, *]; omega))) rfl <| ?_
  refine at_op rfl (n_call false rfl (.cons (.pure pu) (.cons (.pure pu) (.nil))) (sign_ok x m hx hm) pu (.inl rfl) rfl ?_)
  refine s1 (y_p rfl) rfl <| ?_
  refine at_nil ?_
  refine x_tn ?_
  refine at_seq ?_
  refine at_region ?_
  refine s1 (y_loadA0 ti23 rfl rfl (by first | rfl | omega | (simp; done) | (simp [*]; done) | (simp; omega) | (simp [*]; omega) | (simp [D32.len, -List.length_flatten, *]; done) | (simp [D32.len, -List.length_flatten, *]; omega))) rfl <| s1 (y_p rfl) rfl <| ?_
  refine at_op rfl (n_call false rfl (.cons (.pure pu) (.cons (.pure pu) (.nil))) (Con.cast (recover_ok m (signD x m) hm (D32_signL x m 19)) (by rw [(recD_sign x m).1, (recD_sign x m).2])) pu (.inl rfl) rfl ?_)
  refine s1 (y_p rfl) rfl <| s1 (y_p rfl) rfl <| s1 (y_p rfl) rfl <| ?_
  refine at_op rfl (n_alloc 8 rfl ti23 rfl rfl ?_)
  refine at_op rfl (n_storeA ti23 rfl rfl rfl (by first | rfl | omega | (simp; done) | (simp [*]; done) | (simp; omega) | (simp [*]; omega) | (simp [D32.len, -List.length_flatten, *]; done) | (simp [D32.len, -List.length_flatten, *]; omega)) (by first | rfl | omega | (simp; done) | (simp [*]; done) | (simp; omega) | (simp [*]; omega) | (simp [D32.len, -List.length_flatten, *]; done) | (simp [D32.len, -List.length_flatten, *]; omega)) ?_)
  refine s1 (y_p rfl) rfl <| ?_
  refine at_nil ?_
  refine x_tn ?_
  refine at_seq ?_
  refine at_fs ⟨_, [], []⟩ 24 4 hmix (le_refl rfl) ?_
  refine fs_q 0 [] [] (y_p rfl) rfl rfl ?_
  refine fs_q 1 [0] [] ((y_p rfl).v (v' := .b true) (congrArg A.b (by decide))) rfl rfl ?_
  refine fs_q 2 [1] [] ((y_p rfl).v (v' := .b true) (rfl)) rfl rfl ?_
  refine fs_qg 3 [2] [(8, none)] rfl rfl (y_loadA0 ti23 rfl rfl (by first | rfl | omega | (simp; done) | (simp [*]; done) | (simp; omega) | (simp [*]; omega) | (simp [D32.len, -List.length_flatten, *]; done) | (simp [D32.len, -List.length_flatten, *]; omega))) rfl rfl ?_
  refine fs_qg 4 [2] [(3, none)] rfl rfl (y_loadA0 ti23 rfl rfl (by first | rfl | omega | (simp; done) | (simp [*]; done) | (simp; omega) | (simp [*]; omega) | (simp [D32.len, -List.length_flatten, *]; done) | (simp [D32.len, -List.length_flatten, *]; omega))) rfl rfl ?_
  refine fs_call false 5 [2, 4] [] (gy1 rfl rfl) rfl (.cons (.pure pu) (.nil)) (public_ok x hx) pu (.inl rfl) rfl rfl ?_
  refine fs_qg 6 [2, 3, 5] [] rfl rfl ((y_aq Tryd.underlying23 Tryd.underlying5 ti5 (by kernel_rfl) rfl rfl (by first | assumption | (simp; done) | (simp [*]; done)) (by first | assumption | (simp; done) | (simp [*]; done))).v (v' := .b true) (congrArg A.b (by simp))) rfl rfl ?_
  refine fs_q 7 [2, 6] [] ((y_p rfl).v (v' := .b true) (rfl)) rfl rfl ?_
  refine fs_q 8 [7] [] ((y_p rfl).v (v' := .b true) (rfl)) rfl rfl ?_
  refine fs_qg 9 [8] [(8, none)] rfl rfl (y_loadA0 ti23 rfl rfl (by first | rfl | omega | (simp; done) | (simp [*]; done) | (simp; omega) | (simp [*]; omega) | (simp [D32.len, -List.length_flatten, *]; done) | (simp [D32.len, -List.length_flatten, *]; omega))) rfl rfl ?_
  refine fs_qg 10 [8] [(4, none)] rfl rfl (y_loadA0 ti23 rfl rfl (by first | rfl | omega | (simp; done) | (simp [*]; done) | (simp; omega) | (simp [*]; omega) | (simp [D32.len, -List.length_flatten, *]; done) | (simp [D32.len, -List.length_flatten, *]; omega))) rfl rfl ?_
  refine fs_qg 11 [8] [] rfl rfl (y_p rfl) rfl rfl ?_
  refine fs_call false 12 [8, 9, 10, 11] [] (gy1 rfl rfl) rfl (.cons (.pure pu) (.cons (.pure pu) (.cons (.pure pu) (.nil)))) (Con.cast (verify_ok (pubD x) m (signD x m) (by simp) hm (D32_signL x m 19)) (by rw [ver_sign, beq_self_eq_true])) pu (.inl rfl) rfl rfl ?_
  refine fs_q 13 [8, 12] [] ((y_p rfl).v (v' := .b true) (rfl)) rfl rfl ?_
  refine fs_q 14 [13] [] ((y_p rfl).v (v' := .b true) (rfl)) rfl rfl ?_
  refine fs_qg 15 [14] [(5, none)] rfl rfl (y_loadA0 ti23 rfl rfl (by first | rfl | omega | (simp; done) | (simp [*]; done) | (simp; omega) | (simp [*]; omega) | (simp [D32.len, -List.length_flatten, *]; done) | (simp [D32.len, -List.length_flatten, *]; omega))) rfl rfl ?_
  refine fs_qg 16 [14] [(4, none)] rfl rfl (y_loadA0 ti23 rfl rfl (by first | rfl | omega | (simp; done) | (simp [*]; done) | (simp; omega) | (simp [*]; omega) | (simp [D32.len, -List.length_flatten, *]; done) | (simp [D32.len, -List.length_flatten, *]; omega))) rfl rfl ?_
  refine fs_qg 17 [14] [] rfl rfl (y_p rfl) rfl rfl ?_
  refine fs_call false 18 [14, 15, 16, 17] [] (gy1 rfl rfl) rfl (.cons (.pure pu) (.cons (.pure pu) (.cons (.pure pu) (.nil)))) (Con.cast (verify_ok o m (signD x m) ho hm (D32_signL x m 19)) (by rw [ver_sign])) pu (.inl rfl) rfl rfl ?_
  refine fs_qg 19 [14] [(5, none)] rfl rfl (y_loadA0 ti23 rfl rfl (by first | rfl | omega | (simp; done) | (simp [*]; done) | (simp; omega) | (simp [*]; omega) | (simp [D32.len, -List.length_flatten, *]; done) | (simp [D32.len, -List.length_flatten, *]; omega))) rfl rfl ?_
  refine fs_qg 20 [14] [(8, none)] rfl rfl (y_loadA0 ti23 rfl rfl (by first | rfl | omega | (simp; done) | (simp [*]; done) | (simp; omega) | (simp [*]; omega) | (simp [D32.len, -List.length_flatten, *]; done) | (simp [D32.len, -List.length_flatten, *]; omega))) rfl rfl ?_
  refine fs_qg 21 [14, 19, 20] [] rfl rfl (y_aq Tryd.underlying23 Tryd.underlying5 ti5 (by kernel_rfl) rfl rfl (by first | assumption | (simp; done) | (simp [*]; done)) (by first | assumption | (simp; done) | (simp [*]; done))) rfl rfl ?_
  refine fs_qg 22 [14, 18, 21] [] rfl rfl ((y_eqb Tryd.underlying4 rfl rfl).v (v' := .b true) (congrArg A.b (beq_sw _ _))) rfl rfl ?_
  refine fs_q 23 [14, 22] [] ((y_p rfl).v (v' := .b true) (rfl)) rfl rfl ?_
  refine fs_end (by kernel_rfl) ?_
  refine s1 (y_p rfl) rfl <| ?_
  refine at_nil ?_
  refine x_tn ?_
  refine at_ret ?_
  refine at_result (rs := [.tmp 6]) rfl (r_tmp rfl r_nil) rfl

end Go.Abs.D2
