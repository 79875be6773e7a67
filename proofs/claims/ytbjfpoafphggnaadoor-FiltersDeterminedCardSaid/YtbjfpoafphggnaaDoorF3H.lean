/-
  Layer 2: walks of the digest functions. Conditions: each theorem says its own.
-/
import Derived.Test.YtbjfpoafphggnaaDoorF3F
namespace Go.Abs.D2
open Go Go.Eng Go.Abs Go.Proofs 

set_option linter.unusedSimpArgs false in
set_option linter.unusedVariables false in
set_option maxHeartbeats 1000000 in
theorem law_order (x : List UInt8) (f : Fil) (ids : List UInt16) (tn : UInt8) (hx : x.length = 32) : Con Tryd.prog 6 [.ag (x.map u8), .ag [.i .i64 f.lv, .i .i64 f.nb, slA f.D], .fz ids.length (ids.map u16), u8 tn] (Ret (.b true)) := by
  refine enter Tryd.func6 rfl Tryd.ntmps6 (by kernel_rfl) (Nat.le_of_ble_eq_true rfl) fun w0 X0 hI => ?_
  refine at_seq ?_
  refine at_region ?_
  refine at_op rfl (n_boxA 4 rfl rfl rfl ?_)
  refine at_op rfl (n_boxA 5 rfl rfl rfl ?_)
  refine s1 (y_p rfl) rfl <| ?_
  refine at_nil ?_
  refine x_tn ?_
  refine at_seq ?_
  refine at_seq ?_
  refine at_region ?_
  refine at_op rfl (n_call false rfl (.nil) (sane_ok) pu (.inl rfl) rfl ?_)
  refine s1 (y_p rfl) rfl <| ?_
  refine at_nil ?_
  refine x_tn ?_
  refine at_else rfl ?_
  refine at_skip ?_
  refine x_tn ?_
  refine at_seq ?_
  refine at_seq ?_
  refine at_region ?_
  refine s1 (y_fld Tryd.underlying26 rfl ti24 (by decide) rfl rfl) rfl <| s1 (y_load ti24 rfl rfl rfl) rfl <| s1 (y_len Tryd.underlying24 rfl rfl rfl) rfl <| s1 (y_p rfl) rfl <| s1 (y_p rfl) rfl <| ?_
  refine g_or 3 rfl rfl rfl rfl (fun hb18 => .step (y_p rfl) rfl rfl <| .step (y_len Tryd.underlying42 rfl rfl rfl) rfl rfl <| .step (y_p rfl) rfl rfl <| .done) rfl rfl ?_
  refine at_nil ?_
  refine x_tn ?_
  refine at_cond rfl (fun hc22 => ?_) (fun hc22 => ?_)
  · skip
    refine at_seq ?_
    refine at_region ?_
    refine s1 (y_p rfl) rfl <| ?_
    refine at_nil ?_
    refine x_tn ?_
    refine at_ret ?_
    refine x_tr ?_
    refine at_result (rs := [.tmp 8]) rfl (r_tmp rfl r_nil) rfl
  · have hD : f.D.length ≤ 600 ∧ ids.length ≤ 40 := by simp at hc22; omega
    refine at_skip ?_
    refine x_tn ?_
    refine at_seq ?_
    refine at_region ?_
    refine s1 ((y_p rfl).v (v' := .i .i64 0) rfl) rfl <| ?_
    refine at_nil ?_
    refine x_tn ?_
    refine at_seq ?_
    refine at_seq ?_
    refine at_region ?_
    refine s1 (y_p rfl) rfl <| s1 (y_len Tryd.underlying42 rfl rfl rfl) rfl <| s1 (y_p rfl) rfl <| ?_
    refine at_nil ?_
    refine x_tn ?_
    refine at_cond rfl (fun hc25 => ?_) (fun hc25 => ?_)
    · have h25 : 0 < ids.length := by have := of_decide_eq_true hc25; omega
      refine at_region ?_
      refine s1 (y_p rfl) rfl <| s1 ((y_conv Tryd.underlying5 Tryd.underlying3 rfl).v (conv8J _)) rfl <| s1 (y_p rfl) rfl <| s1 (y_len Tryd.underlying42 rfl rfl rfl) rfl <| s1 (remN tn.toNat ids.length rfl rfl rfl rfl h25) rfl <| s1 (y_p rfl) rfl <| ?_
      refine at_nil ?_
      refine x_tn ?_
      refine at_seq ?_
      have hkl : tn.toNat % ids.length ≤ ids.length := Nat.le_of_lt (Nat.mod_lt _ h25)
      generalize tn.toNat % ids.length = k at hkl ⊢
      refine at_region ?_
      refine s1 (y_loadA0 ti23 rfl rfl (by first | rfl | omega | (simp; done) | (simp [*]; done) | (simp; omega) | (simp [*]; omega) | (simp [D32.len, -List.length_flatten, *]; done) | (simp [D32.len, -List.length_flatten, *]; omega))) rfl <| s1 (y_loadA0 ti26 rfl rfl (by first | rfl | omega | (simp; done) | (simp [*]; done) | (simp; omega) | (simp [*]; omega) | (simp [D32.len, -List.length_flatten, *]; done) | (simp [D32.len, -List.length_flatten, *]; omega))) rfl <| s1 (y_p rfl) rfl <| ?_
      refine at_op rfl (n_call false rfl (.cons (.pure pu) (.cons (.pure pu) (.cons (.pure pu) (.nil)))) (added_ok x f ids hx (by omega)) pu (.inl rfl) rfl ?_)
      refine at_op rfl (n_alloc 10 rfl ti26 rfl rfl ?_)
      refine at_op rfl (n_storeA ti26 rfl rfl rfl (by first | rfl | omega | (simp; done) | (simp [*]; done) | (simp; omega) | (simp [*]; omega) | (simp [D32.len, -List.length_flatten, *]; done) | (simp [D32.len, -List.length_flatten, *]; omega)) (by first | rfl | omega | (simp; done) | (simp [*]; done) | (simp; omega) | (simp [*]; omega) | (simp [D32.len, -List.length_flatten, *]; done) | (simp [D32.len, -List.length_flatten, *]; omega)) ?_)
      refine at_nil ?_
      refine x_tn ?_
      refine at_seq ?_
      refine at_fs ⟨_, [], []⟩ 13 4 hmix (le_refl rfl) ?_
      refine fs_q 0 [] [(4, none)] (y_loadA0 ti23 rfl rfl (by first | rfl | omega | (simp; done) | (simp [*]; done) | (simp; omega) | (simp [*]; omega) | (simp [D32.len, -List.length_flatten, *]; done) | (simp [D32.len, -List.length_flatten, *]; omega))) rfl rfl ?_
      refine fs_q 1 [] [(5, none)] (y_loadA0 ti26 rfl rfl (by first | rfl | omega | (simp; done) | (simp [*]; done) | (simp; omega) | (simp [*]; omega) | (simp [D32.len, -List.length_flatten, *]; done) | (simp [D32.len, -List.length_flatten, *]; omega))) rfl rfl ?_
      refine fs_bs1 37 2 [] gy0 Tryd.underlying42 ti44 rfl rfl rfl rfl rfl rfl ?_
      refine fs_q 3 [] [] (y_p rfl) rfl rfl ?_
      refine fs_q 4 [] [] (y_p rfl) rfl rfl ?_
      refine fs_q 5 [3, 4] [] (y_cutf (ids.length - k) Tryd.underlying42 ti44 rfl (by simp) (bs rfl rfl) bn (by omega) (by omega) (by omega) rfl) rfl rfl ?_
      refine fs_app 41 6 [2, 5] [(37, some 2)] gy0 Tryd.underlying42 ti44 rfl (.sl rfl (by first | rfl | omega | (simp; done) | (simp [*]; done) | (simp; omega) | (simp [*]; omega) | (simp [D32.len, -List.length_flatten, *]; done) | (simp [D32.len, -List.length_flatten, *]; omega))) rfl rfl (by simp) (by first | omega | (simp only [maxLen]; omega) | (simp [maxLen]; done) | (simp [maxLen]; omega) | (simp [maxLen, *]; omega)) (by first | omega | (simp only [maxLen]; omega) | (simp [maxLen]; done) | (simp [maxLen]; omega) | (simp [maxLen, *]; omega)) rfl rfl rfl rfl ?_
      refine fs_q 7 [] [] (y_p rfl) rfl rfl ?_
      refine fs_q 8 [] [] (y_p rfl) rfl rfl ?_
      refine fs_q 9 [7, 8] [] (y_cutf k Tryd.underlying42 ti44 rfl (by simp) bn (bs rfl rfl) (by omega) (by omega) (by omega) rfl) rfl rfl ?_
      refine fs_app 45 10 [6, 9] [(41, some 6)] gy0 Tryd.underlying42 ti44 rfl (.sl rfl (by simp)) rfl rfl (by simp; omega) (by first | omega | (simp only [maxLen]; omega) | (simp [maxLen]; done) | (simp [maxLen]; omega) | (simp [maxLen, *]; omega)) (by first | omega | (simp only [maxLen]; omega) | (simp [maxLen]; done) | (simp [maxLen]; omega) | (simp [maxLen, *]; omega)) rfl rfl rfl rfl ?_
      refine fs_callF 45 11 [0, 1, 10] [(45, some 10)] gy0 rfl rfl  pul (by rw [len_turn hkl]; omega) (view_eq (by simp; omega) (turn_cells ids k)) rfl (by exact pul) (Con.cast (added_ok x f (ids.drop k ++ ids.take k) hx (by rw [len_turn hkl]; omega)) (by rw [added_turn])) pu rfl rfl ?_
      refine fs_alloc 11 12 [] gy0 ti26 rfl rfl rfl ?_
      refine fs_end (by kernel_rfl) ?_
      refine at_op rfl (n_storeA ti26 rfl rfl rfl (by first | rfl | omega | (simp; done) | (simp [*]; done) | (simp; omega) | (simp [*]; omega) | (simp [D32.len, -List.length_flatten, *]; done) | (simp [D32.len, -List.length_flatten, *]; omega)) (by first | rfl | omega | (simp; done) | (simp [*]; done) | (simp; omega) | (simp [*]; omega) | (simp [D32.len, -List.length_flatten, *]; done) | (simp [D32.len, -List.length_flatten, *]; omega)) ?_)
      refine at_nil ?_
      refine x_tn ?_
      refine at_seq ?_
      refine at_fs ⟨_, [], []⟩ 11 4 hmix (le_refl rfl) ?_
      refine fs_q 0 [] [(10, none)] (y_loadA0 ti26 rfl rfl (by first | rfl | omega | (simp; done) | (simp [*]; done) | (simp; omega) | (simp [*]; omega) | (simp [D32.len, -List.length_flatten, *]; done) | (simp [D32.len, -List.length_flatten, *]; omega))) rfl rfl ?_
      refine fs_q 1 [] [(11, none)] (y_loadA0 ti26 rfl rfl (by first | rfl | omega | (simp; done) | (simp [*]; done) | (simp; omega) | (simp [*]; omega) | (simp [D32.len, -List.length_flatten, *]; done) | (simp [D32.len, -List.length_flatten, *]; omega))) rfl rfl ?_
      refine fs_call false 2 [0, 1] [] gy0 rfl (.cons (.pure pu) (.cons (.pure pu) (.nil))) (Con.cast (rsame_ok f.lv f.nb f.lv f.nb (addedD x f.lv f.nb f.D ids) (addedD x f.lv f.nb f.D ids)) (congrArg A.b (by simp : _ = true))) pu (.inl rfl) rfl rfl ?_
      refine fs_q 3 [2] [] (y_p rfl) rfl rfl ?_
      refine fs_qg 4 [3] [(4, none)] rfl rfl (y_loadA0 ti23 rfl rfl (by first | rfl | omega | (simp; done) | (simp [*]; done) | (simp; omega) | (simp [*]; omega) | (simp [D32.len, -List.length_flatten, *]; done) | (simp [D32.len, -List.length_flatten, *]; omega))) rfl rfl ?_
      refine fs_qg 5 [3] [(10, none)] rfl rfl (y_loadA0 ti26 rfl rfl (by first | rfl | omega | (simp; done) | (simp [*]; done) | (simp; omega) | (simp [*]; omega) | (simp [D32.len, -List.length_flatten, *]; done) | (simp [D32.len, -List.length_flatten, *]; omega))) rfl rfl ?_
      refine fs_qg 6 [3] [] rfl rfl (y_p rfl) rfl rfl ?_
      refine fs_call false 7 [3, 4, 5, 6] [] (gy1 rfl rfl) rfl (.cons (.pure pu) (.cons (.pure pu) (.cons (.pure pu) (.nil)))) (Con.cast (added_ok x ⟨f.lv, f.nb, (addedD x f.lv f.nb f.D ids)⟩ ids hx (by omega)) (by rw [added_twice])) pu (.inl rfl) rfl rfl ?_
      refine fs_qg 8 [3] [(10, none)] rfl rfl (y_loadA0 ti26 rfl rfl (by first | rfl | omega | (simp; done) | (simp [*]; done) | (simp; omega) | (simp [*]; omega) | (simp [D32.len, -List.length_flatten, *]; done) | (simp [D32.len, -List.length_flatten, *]; omega))) rfl rfl ?_
      refine fs_call false 9 [3, 7, 8] [] (gy1 rfl rfl) rfl (.cons (.pure pu) (.cons (.pure pu) (.nil))) (Con.cast (rsame_ok f.lv f.nb f.lv f.nb (addedD x f.lv f.nb f.D ids) (addedD x f.lv f.nb f.D ids)) (congrArg A.b (by simp : _ = true))) pu (.inl rfl) rfl rfl ?_
      refine fs_q 10 [3, 9] [] (y_p rfl) rfl rfl ?_
      refine fs_end (by kernel_rfl) ?_
      refine s1 (y_p rfl) rfl <| ?_
      refine at_nil ?_
      refine x_tn ?_
      refine at_ret ?_
      refine at_result (rs := [.tmp 8]) rfl (r_tmp rfl r_nil) rfl
    · skip
      refine at_skip ?_
      refine x_tn ?_
      refine at_seq ?_
      obtain ⟨k, hk⟩ : ∃ k : Nat, k = 0 := ⟨0, rfl⟩
      refine at_say 9 rfl (v' := nJ k) (by rw [hk]; rfl) ?_
      have hkl : k ≤ ids.length := by omega
      refine at_region ?_
      refine s1 (y_loadA0 ti23 rfl rfl (by first | rfl | omega | (simp; done) | (simp [*]; done) | (simp; omega) | (simp [*]; omega) | (simp [D32.len, -List.length_flatten, *]; done) | (simp [D32.len, -List.length_flatten, *]; omega))) rfl <| s1 (y_loadA0 ti26 rfl rfl (by first | rfl | omega | (simp; done) | (simp [*]; done) | (simp; omega) | (simp [*]; omega) | (simp [D32.len, -List.length_flatten, *]; done) | (simp [D32.len, -List.length_flatten, *]; omega))) rfl <| s1 (y_p rfl) rfl <| ?_
      refine at_op rfl (n_call false rfl (.cons (.pure pu) (.cons (.pure pu) (.cons (.pure pu) (.nil)))) (added_ok x f ids hx (by omega)) pu (.inl rfl) rfl ?_)
      refine at_op rfl (n_alloc 10 rfl ti26 rfl rfl ?_)
      refine at_op rfl (n_storeA ti26 rfl rfl rfl (by first | rfl | omega | (simp; done) | (simp [*]; done) | (simp; omega) | (simp [*]; omega) | (simp [D32.len, -List.length_flatten, *]; done) | (simp [D32.len, -List.length_flatten, *]; omega)) (by first | rfl | omega | (simp; done) | (simp [*]; done) | (simp; omega) | (simp [*]; omega) | (simp [D32.len, -List.length_flatten, *]; done) | (simp [D32.len, -List.length_flatten, *]; omega)) ?_)
      refine at_nil ?_
      refine x_tn ?_
      refine at_seq ?_
      refine at_fs ⟨_, [], []⟩ 13 4 hmix (le_refl rfl) ?_
      refine fs_q 0 [] [(4, none)] (y_loadA0 ti23 rfl rfl (by first | rfl | omega | (simp; done) | (simp [*]; done) | (simp; omega) | (simp [*]; omega) | (simp [D32.len, -List.length_flatten, *]; done) | (simp [D32.len, -List.length_flatten, *]; omega))) rfl rfl ?_
      refine fs_q 1 [] [(5, none)] (y_loadA0 ti26 rfl rfl (by first | rfl | omega | (simp; done) | (simp [*]; done) | (simp; omega) | (simp [*]; omega) | (simp [D32.len, -List.length_flatten, *]; done) | (simp [D32.len, -List.length_flatten, *]; omega))) rfl rfl ?_
      refine fs_bs1 37 2 [] gy0 Tryd.underlying42 ti44 rfl rfl rfl rfl rfl rfl ?_
      refine fs_q 3 [] [] (y_p rfl) rfl rfl ?_
      refine fs_q 4 [] [] (y_p rfl) rfl rfl ?_
      refine fs_q 5 [3, 4] [] (y_cutf (ids.length - k) Tryd.underlying42 ti44 rfl (by simp) (bs rfl rfl) bn (by omega) (by omega) (by omega) rfl) rfl rfl ?_
      refine fs_app 41 6 [2, 5] [(37, some 2)] gy0 Tryd.underlying42 ti44 rfl (.sl rfl (by first | rfl | omega | (simp; done) | (simp [*]; done) | (simp; omega) | (simp [*]; omega) | (simp [D32.len, -List.length_flatten, *]; done) | (simp [D32.len, -List.length_flatten, *]; omega))) rfl rfl (by simp) (by first | omega | (simp only [maxLen]; omega) | (simp [maxLen]; done) | (simp [maxLen]; omega) | (simp [maxLen, *]; omega)) (by first | omega | (simp only [maxLen]; omega) | (simp [maxLen]; done) | (simp [maxLen]; omega) | (simp [maxLen, *]; omega)) rfl rfl rfl rfl ?_
      refine fs_q 7 [] [] (y_p rfl) rfl rfl ?_
      refine fs_q 8 [] [] (y_p rfl) rfl rfl ?_
      refine fs_q 9 [7, 8] [] (y_cutf k Tryd.underlying42 ti44 rfl (by simp) bn (bs rfl rfl) (by omega) (by omega) (by omega) rfl) rfl rfl ?_
      refine fs_app 45 10 [6, 9] [(41, some 6)] gy0 Tryd.underlying42 ti44 rfl (.sl rfl (by simp)) rfl rfl (by simp; omega) (by first | omega | (simp only [maxLen]; omega) | (simp [maxLen]; done) | (simp [maxLen]; omega) | (simp [maxLen, *]; omega)) (by first | omega | (simp only [maxLen]; omega) | (simp [maxLen]; done) | (simp [maxLen]; omega) | (simp [maxLen, *]; omega)) rfl rfl rfl rfl ?_
      refine fs_callF 45 11 [0, 1, 10] [(45, some 10)] gy0 rfl rfl  pul (by rw [len_turn hkl]; omega) (view_eq (by simp; omega) (turn_cells ids k)) rfl (by exact pul) (Con.cast (added_ok x f (ids.drop k ++ ids.take k) hx (by rw [len_turn hkl]; omega)) (by rw [added_turn])) pu rfl rfl ?_
      refine fs_alloc 11 12 [] gy0 ti26 rfl rfl rfl ?_
      refine fs_end (by kernel_rfl) ?_
      refine at_op rfl (n_storeA ti26 rfl rfl rfl (by first | rfl | omega | (simp; done) | (simp [*]; done) | (simp; omega) | (simp [*]; omega) | (simp [D32.len, -List.length_flatten, *]; done) | (simp [D32.len, -List.length_flatten, *]; omega)) (by first | rfl | omega | (simp; done) | (simp [*]; done) | (simp; omega) | (simp [*]; omega) | (simp [D32.len, -List.length_flatten, *]; done) | (simp [D32.len, -List.length_flatten, *]; omega)) ?_)
      refine at_nil ?_
      refine x_tn ?_
      refine at_seq ?_
      refine at_fs ⟨_, [], []⟩ 11 4 hmix (le_refl rfl) ?_
      refine fs_q 0 [] [(10, none)] (y_loadA0 ti26 rfl rfl (by first | rfl | omega | (simp; done) | (simp [*]; done) | (simp; omega) | (simp [*]; omega) | (simp [D32.len, -List.length_flatten, *]; done) | (simp [D32.len, -List.length_flatten, *]; omega))) rfl rfl ?_
      refine fs_q 1 [] [(11, none)] (y_loadA0 ti26 rfl rfl (by first | rfl | omega | (simp; done) | (simp [*]; done) | (simp; omega) | (simp [*]; omega) | (simp [D32.len, -List.length_flatten, *]; done) | (simp [D32.len, -List.length_flatten, *]; omega))) rfl rfl ?_
      refine fs_call false 2 [0, 1] [] gy0 rfl (.cons (.pure pu) (.cons (.pure pu) (.nil))) (Con.cast (rsame_ok f.lv f.nb f.lv f.nb (addedD x f.lv f.nb f.D ids) (addedD x f.lv f.nb f.D ids)) (congrArg A.b (by simp : _ = true))) pu (.inl rfl) rfl rfl ?_
      refine fs_q 3 [2] [] (y_p rfl) rfl rfl ?_
      refine fs_qg 4 [3] [(4, none)] rfl rfl (y_loadA0 ti23 rfl rfl (by first | rfl | omega | (simp; done) | (simp [*]; done) | (simp; omega) | (simp [*]; omega) | (simp [D32.len, -List.length_flatten, *]; done) | (simp [D32.len, -List.length_flatten, *]; omega))) rfl rfl ?_
      refine fs_qg 5 [3] [(10, none)] rfl rfl (y_loadA0 ti26 rfl rfl (by first | rfl | omega | (simp; done) | (simp [*]; done) | (simp; omega) | (simp [*]; omega) | (simp [D32.len, -List.length_flatten, *]; done) | (simp [D32.len, -List.length_flatten, *]; omega))) rfl rfl ?_
      refine fs_qg 6 [3] [] rfl rfl (y_p rfl) rfl rfl ?_
      refine fs_call false 7 [3, 4, 5, 6] [] (gy1 rfl rfl) rfl (.cons (.pure pu) (.cons (.pure pu) (.cons (.pure pu) (.nil)))) (Con.cast (added_ok x ⟨f.lv, f.nb, (addedD x f.lv f.nb f.D ids)⟩ ids hx (by omega)) (by rw [added_twice])) pu (.inl rfl) rfl rfl ?_
      refine fs_qg 8 [3] [(10, none)] rfl rfl (y_loadA0 ti26 rfl rfl (by first | rfl | omega | (simp; done) | (simp [*]; done) | (simp; omega) | (simp [*]; omega) | (simp [D32.len, -List.length_flatten, *]; done) | (simp [D32.len, -List.length_flatten, *]; omega))) rfl rfl ?_
      refine fs_call false 9 [3, 7, 8] [] (gy1 rfl rfl) rfl (.cons (.pure pu) (.cons (.pure pu) (.nil))) (Con.cast (rsame_ok f.lv f.nb f.lv f.nb (addedD x f.lv f.nb f.D ids) (addedD x f.lv f.nb f.D ids)) (congrArg A.b (by simp : _ = true))) pu (.inl rfl) rfl rfl ?_
      refine fs_q 10 [3, 9] [] (y_p rfl) rfl rfl ?_
      refine fs_end (by kernel_rfl) ?_
      refine s1 (y_p rfl) rfl <| ?_
      refine at_nil ?_
      refine x_tn ?_
      refine at_ret ?_
      refine at_result (rs := [.tmp 8]) rfl (r_tmp rfl r_nil) rfl

set_option linter.unusedSimpArgs false in
set_option linter.unusedVariables false in
set_option maxHeartbeats 1000000 in
theorem law_false (x : List UInt8) (lv nb : Int) (ids : List UInt16) (id : Int) (hx : x.length = 32) : Con Tryd.prog 7 [.ag (x.map u8), .i .i64 lv, .i .i64 nb, .fz ids.length (ids.map u16), .i .i64 id] (Ret (.b true)) := by
  refine enter Tryd.func7 rfl Tryd.ntmps7 (by kernel_rfl) (Nat.le_of_ble_eq_true rfl) fun w0 X0 hI => ?_
  refine at_seq ?_
  refine at_region ?_
  refine at_op rfl (n_boxA 5 rfl rfl rfl ?_)
  refine s1 (y_p rfl) rfl <| ?_
  refine at_nil ?_
  refine x_tn ?_
  refine at_seq ?_
  refine at_seq ?_
  refine at_region ?_
  refine at_op rfl (n_call false rfl (.nil) (sane_ok) pu (.inl rfl) rfl ?_)
  refine s1 (y_p rfl) rfl <| ?_
  refine at_nil ?_
  refine x_tn ?_
  refine at_else rfl ?_
  refine at_skip ?_
  refine x_tn ?_
  refine at_seq ?_
  refine at_seq ?_
  refine at_region ?_
  refine s1 (y_p rfl) rfl <| s1 (y_len Tryd.underlying42 rfl rfl rfl) rfl <| s1 (y_p rfl) rfl <| ?_
  refine at_nil ?_
  refine x_tn ?_
  refine at_cond rfl (fun hc28 => ?_) (fun hc28 => ?_)
  · skip
    refine at_seq ?_
    refine at_region ?_
    refine s1 (y_p rfl) rfl <| ?_
    refine at_nil ?_
    refine x_tn ?_
    refine at_ret ?_
    refine x_tr ?_
    refine at_result (rs := [.tmp 10]) rfl (r_tmp rfl r_nil) rfl
  · have hD : ids.length ≤ 40 := by have := of_decide_eq_false hc28; omega
    refine at_skip ?_
    refine x_tn ?_
    refine at_seq ?_
    rcases (Decidable.em (sizedP lv nb)).symm with hcs | hcs
    · skip
      refine at_region ?_
      refine s1 (y_p rfl) rfl <| s1 (y_p rfl) rfl <| ?_
      refine at_op rfl (n_call false rfl (.cons (.pure pu) (.cons (.pure pu) (.nil))) (Con.cast (fnew_ok _ _) (new_no hcs)) pu (.inl rfl) rfl ?_)
      refine s1 (y_p rfl) rfl <| s1 (y_p rfl) rfl <| s1 (y_p rfl) rfl <| ?_
      refine at_op rfl (n_alloc 11 rfl ti26 rfl rfl ?_)
      refine at_op rfl (n_storeA ti26 rfl rfl rfl (by first | rfl | omega | (simp; done) | (simp [*]; done) | (simp; omega) | (simp [*]; omega) | (simp [D32.len, -List.length_flatten, *]; done) | (simp [D32.len, -List.length_flatten, *]; omega)) (by first | rfl | omega | (simp; done) | (simp [*]; done) | (simp; omega) | (simp [*]; omega) | (simp [D32.len, -List.length_flatten, *]; done) | (simp [D32.len, -List.length_flatten, *]; omega)) ?_)
      refine s1 (y_p rfl) rfl <| ?_
      refine at_nil ?_
      refine x_tn ?_
      refine at_seq ?_
      refine at_region ?_
      refine s1 (y_loadA0 ti23 rfl rfl (by first | rfl | omega | (simp; done) | (simp [*]; done) | (simp; omega) | (simp [*]; omega) | (simp [D32.len, -List.length_flatten, *]; done) | (simp [D32.len, -List.length_flatten, *]; omega))) rfl <| s1 (y_loadA0 ti26 rfl rfl (by first | rfl | omega | (simp; done) | (simp [*]; done) | (simp; omega) | (simp [*]; omega) | (simp [D32.len, -List.length_flatten, *]; done) | (simp [D32.len, -List.length_flatten, *]; omega))) rfl <| s1 (y_p rfl) rfl <| ?_
      refine at_op rfl (n_call false rfl (.cons (.pure pu) (.cons (.pure pu) (.cons (.pure pu) (.nil)))) (Con.cast (fbits_ok x 0 0 id [] hx) (bits_no (ok_chk chk_00))) pu (.inl rfl) rfl ?_)
      refine s1 (y_p rfl) rfl <| s1 (y_p rfl) rfl <| s1 (y_p rfl) rfl <| s1 (y_p rfl) rfl <| s1 (y_p rfl) rfl <| ?_
      refine at_nil ?_
      refine x_tn ?_
      refine at_seq ?_
      refine at_seq ?_
      refine at_region ?_
      refine s1 (y_p rfl) rfl <| s1 ((y_p rfl).v (v' := .b true) (rfl)) rfl <| s1 (y_p rfl) rfl <| g0 rfl rfl rfl rfl <| g0 rfl rfl rfl rfl <| s1 (y_p rfl) rfl <| ?_
      refine at_nil ?_
      refine x_tn ?_
      refine at_then rfl ?_
      refine at_seq ?_
      refine at_region ?_
      refine s1 (y_p rfl) rfl <| ?_
      refine at_nil ?_
      refine x_tn ?_
      refine at_ret ?_
      refine x_tr ?_
      refine at_result (rs := [.tmp 10]) rfl (r_tmp rfl r_nil) rfl
    · have hsz := hcs
      obtain ⟨l, n, rfl, rfl, h1, h2, h3⟩ := sized_nat hcs
      have hZ := chk_zero hsz
      refine at_region ?_
      refine s1 (y_p rfl) rfl <| s1 (y_p rfl) rfl <| ?_
      refine at_op rfl (n_call false rfl (.cons (.pure pu) (.cons (.pure pu) (.nil))) (Con.cast (fnew_ok _ _) (new_yes hcs)) pu (.inl rfl) rfl ?_)
      refine s1 (y_p rfl) rfl <| s1 (y_p rfl) rfl <| s1 (y_p rfl) rfl <| ?_
      refine at_op rfl (n_alloc 11 rfl ti26 rfl rfl ?_)
      refine at_op rfl (n_storeA ti26 rfl rfl rfl (by first | rfl | omega | (simp; done) | (simp [*]; done) | (simp; omega) | (simp [*]; omega) | (simp [D32.len, -List.length_flatten, *]; done) | (simp [D32.len, -List.length_flatten, *]; omega)) (by first | rfl | omega | (simp; done) | (simp [*]; done) | (simp; omega) | (simp [*]; omega) | (simp [D32.len, -List.length_flatten, *]; done) | (simp [D32.len, -List.length_flatten, *]; omega)) ?_)
      refine s1 (y_p rfl) rfl <| ?_
      refine at_nil ?_
      refine x_tn ?_
      refine at_seq ?_
      rcases tf (okB l n (List.replicate ((n + 7) / 8) 0) id) with hcs | hcs
      · skip
        refine at_region ?_
        refine s1 (y_loadA0 ti23 rfl rfl (by first | rfl | omega | (simp; done) | (simp [*]; done) | (simp; omega) | (simp [*]; omega) | (simp [D32.len, -List.length_flatten, *]; done) | (simp [D32.len, -List.length_flatten, *]; omega))) rfl <| s1 (y_loadA0 ti26 rfl rfl (by first | rfl | omega | (simp; done) | (simp [*]; done) | (simp; omega) | (simp [*]; omega) | (simp [D32.len, -List.length_flatten, *]; done) | (simp [D32.len, -List.length_flatten, *]; omega))) rfl <| s1 (y_p rfl) rfl <| ?_
        refine at_op rfl (n_call false rfl (.cons (.pure pu) (.cons (.pure pu) (.cons (.pure pu) (.nil)))) (Con.cast (fbits_ok x l n id (List.replicate ((n + 7) / 8) 0) hx) (bits_no hcs)) pu (.inl rfl) rfl ?_)
        refine s1 (y_p rfl) rfl <| s1 (y_p rfl) rfl <| s1 (y_p rfl) rfl <| s1 (y_p rfl) rfl <| s1 (y_p rfl) rfl <| ?_
        refine at_nil ?_
        refine x_tn ?_
        refine at_seq ?_
        refine at_seq ?_
        refine at_region ?_
        refine s1 (y_p rfl) rfl <| s1 ((y_p rfl).v (v' := .b false) (rfl)) rfl <| s1 (y_p rfl) rfl <| g1 rfl rfl (y_p rfl) rfl <| g1 rfl rfl ((y_p rfl).v (v' := .b true) (rfl)) rfl <| s1 (y_p rfl) rfl <| ?_
        refine at_nil ?_
        refine x_tn ?_
        refine at_then rfl ?_
        refine at_seq ?_
        refine at_region ?_
        refine s1 (y_p rfl) rfl <| ?_
        refine at_nil ?_
        refine x_tn ?_
        refine at_ret ?_
        refine x_tr ?_
        refine at_result (rs := [.tmp 10]) rfl (r_tmp rfl r_nil) rfl
      · have hok := hcs
        obtain ⟨_, _, j, _, _, rfl, _⟩ := ok_nat hcs
        have hj := id_lt hcs
        refine at_region ?_
        refine s1 (y_loadA0 ti23 rfl rfl (by first | rfl | omega | (simp; done) | (simp [*]; done) | (simp; omega) | (simp [*]; omega) | (simp [D32.len, -List.length_flatten, *]; done) | (simp [D32.len, -List.length_flatten, *]; omega))) rfl <| s1 (y_loadA0 ti26 rfl rfl (by first | rfl | omega | (simp; done) | (simp [*]; done) | (simp; omega) | (simp [*]; omega) | (simp [D32.len, -List.length_flatten, *]; done) | (simp [D32.len, -List.length_flatten, *]; omega))) rfl <| s1 (y_p rfl) rfl <| ?_
        refine at_op rfl (n_call false rfl (.cons (.pure pu) (.cons (.pure pu) (.cons (.pure pu) (.nil)))) (Con.cast (fbits_ok x l n j (List.replicate ((n + 7) / 8) 0) hx) (bits_yes hcs)) pu (.inl rfl) rfl ?_)
        refine s1 (y_p rfl) rfl <| s1 (y_p rfl) rfl <| s1 (y_p rfl) rfl <| s1 (y_p rfl) rfl <| s1 (y_p rfl) rfl <| ?_
        refine at_nil ?_
        refine x_tn ?_
        refine at_seq ?_
        refine at_seq ?_
        refine at_region ?_
        refine s1 (y_p rfl) rfl <| s1 ((y_p rfl).v (v' := .b false) (rfl)) rfl <| s1 (y_p rfl) rfl <| g1 rfl rfl (y_p rfl) rfl <| g1 rfl rfl ((y_p rfl).v (v' := .b false) (rfl)) rfl <| s1 (y_p rfl) rfl <| ?_
        refine at_nil ?_
        refine x_tn ?_
        refine at_else rfl ?_
        refine at_skip ?_
        refine x_tn ?_
        refine at_seq ?_
        refine at_region ?_
        refine s1 (y_loadA0 ti23 rfl rfl (by first | rfl | omega | (simp; done) | (simp [*]; done) | (simp; omega) | (simp [*]; omega) | (simp [D32.len, -List.length_flatten, *]; done) | (simp [D32.len, -List.length_flatten, *]; omega))) rfl <| s1 (y_loadA0 ti26 rfl rfl (by first | rfl | omega | (simp; done) | (simp [*]; done) | (simp; omega) | (simp [*]; omega) | (simp [D32.len, -List.length_flatten, *]; done) | (simp [D32.len, -List.length_flatten, *]; omega))) rfl <| s1 (y_p rfl) rfl <| ?_
        refine at_op rfl (n_call false rfl (.cons (.pure pu) (.cons (.pure pu) (.cons (.pure pu) (.nil)))) (added_ok x ⟨l, n, (List.replicate ((n + 7) / 8) 0)⟩ ids hx (by omega)) pu (.inl rfl) rfl ?_)
        refine at_op rfl (n_alloc 15 rfl ti26 rfl rfl ?_)
        refine at_op rfl (n_storeA ti26 rfl rfl rfl (by first | rfl | omega | (simp; done) | (simp [*]; done) | (simp; omega) | (simp [*]; omega) | (simp [D32.len, -List.length_flatten, *]; done) | (simp [D32.len, -List.length_flatten, *]; omega)) (by first | rfl | omega | (simp; done) | (simp [*]; done) | (simp; omega) | (simp [*]; omega) | (simp [D32.len, -List.length_flatten, *]; done) | (simp [D32.len, -List.length_flatten, *]; omega)) ?_)
        refine at_nil ?_
        refine x_tn ?_
        refine at_seq ?_
        refine at_region ?_
        refine s1 (y_p rfl) rfl <| s1 (y_len Tryd.underlying31 rfl rfl rfl) rfl <| ?_
        refine at_op rfl (n_make 54 rfl _ _ Tryd.underlying47 ti4 rfl rfl rfl rfl rfl (by first | omega | (simp only [maxLen]; omega) | (simp [maxLen]; done) | (simp [maxLen]; omega) | (simp [maxLen, *]; omega)) (by first | omega | (simp only [maxLen]; omega) | (simp [maxLen]; done) | (simp [maxLen]; omega) | (simp [maxLen, *]; omega)) (by first | omega | (simp only [maxLen]; omega) | (simp [maxLen]; done) | (simp [maxLen]; omega) | (simp [maxLen, *]; omega)) rfl ?_)
        refine s1 (y_p rfl) rfl <| ?_
        refine at_nil ?_
        refine x_tn ?_
        refine at_seq ?_
        refine at_seq ?_
        refine at_region ?_
        refine s1 (y_p rfl) rfl <| s1 (y_len Tryd.underlying42 rfl rfl rfl) rfl <| s1 ((y_p rfl).v (v' := .i .i64 0) rfl) rfl <| ?_
        refine at_nil ?_
        refine x_tn ?_
        refine at_block ?_
        refine at_loop (ι := Nat) (fun i => [(4, nJ j), (5, .p 5 0), (11, .p 11 0), (13, .fz 2 ((bitL x l n j 2).map nJ)), (15, .p 15 0), (16, .sl 54 1 0 2), (55, .fz ids.length (ids.map u16)), (56, nJ ids.length), (57, nJ i)]) (fun i => ⟨[(5, some (x.map u8)), (11, some ([nJ l, nJ n, slA (List.replicate ((n + 7) / 8) 0)])), (15, some ([nJ l, nJ n, slA (addedD x l n (List.replicate ((n + 7) / 8) 0) ids)])), (54, some ([.b (hitB x l n (ids.take i) (bN x l n j 0)), .b (hitB x l n (ids.take i) (bN x l n j 1))]))]⟩) (fun i => i ≤ ids.length) (fun i => ids.length - i) ?_ ?_
        · exact at_ex (0) (Nat.zero_le _) [(5, some 5), (11, some 11), (15, some 15), (54, some 54)] hI rfl rfl ⟨⟨_, rfl, .pure pu⟩, ⟨_, rfl, .p rfl⟩, ⟨_, rfl, .p rfl⟩, ⟨_, rfl, .pure pu⟩, ⟨_, rfl, .p rfl⟩, ⟨_, rfl, .sl rfl (by first | rfl | omega | (simp; done) | (simp [*]; done) | (simp; omega) | (simp [*]; omega) | (simp [D32.len, -List.length_flatten, *]; done) | (simp [D32.len, -List.length_flatten, *]; omega))⟩, ⟨_, rfl, .pure pu⟩, ⟨_, rfl, .pure pu⟩, ⟨_, rfl, .pure pu⟩, trivial⟩ ⟨.inr ⟨_, _, rfl, rfl, .pure pul⟩, .inr ⟨_, _, rfl, rfl, .pure pul⟩, .inr ⟨_, _, rfl, rfl, .pure pul⟩, .inr ⟨_, _, rfl, rfl, .of (by rfl) (.pure pul)⟩, trivial⟩
        rintro i hi
        refine at_seq ?_
        refine at_region ?_
        refine s1 (y_p rfl) rfl <| ?_
        refine at_nil ?_
        refine x_tn ?_
        refine at_seq ?_
        refine at_cond rfl (fun hc58 => ?_) (fun hc58 => ?_)
        · have h58 : i < ids.length := by have := of_decide_eq_true hc58; omega
          obtain ⟨q, hq⟩ : ∃ q, ids[i]? = some q := ⟨_, List.getElem?_eq_getElem h58⟩
          refine at_skip ?_
          refine x_tn ?_
          refine at_seq ?_
          refine at_block ?_
          refine at_seq ?_
          refine at_region ?_
          refine s1 (y_ixf i Tryd.underlying42 ti44 rfl rfl rfl (by omega) rfl) rfl <| s1 (y_load ti44 rfl rfl (get16 hq)) rfl <| s1 (y_p rfl) rfl <| ?_
          refine at_nil ?_
          refine x_tn ?_
          refine at_seq ?_
          rcases tf (okB l n (List.replicate ((n + 7) / 8) 0) ((q.toNat : Nat) : Int)) with hcs | hcs
          · skip
            refine at_region ?_
            refine s1 (y_loadA0 ti23 rfl rfl (by first | rfl | omega | (simp; done) | (simp [*]; done) | (simp; omega) | (simp [*]; omega) | (simp [D32.len, -List.length_flatten, *]; done) | (simp [D32.len, -List.length_flatten, *]; omega))) rfl <| s1 (y_loadA0 ti26 rfl rfl (by first | rfl | omega | (simp; done) | (simp [*]; done) | (simp; omega) | (simp [*]; omega) | (simp [D32.len, -List.length_flatten, *]; done) | (simp [D32.len, -List.length_flatten, *]; omega))) rfl <| s1 (y_p rfl) rfl <| s1 ((y_conv Tryd.underlying44 Tryd.underlying3 rfl).v (conv16J _)) rfl <| ?_
            refine at_op rfl (n_call false rfl (.cons (.pure pu) (.cons (.pure pu) (.cons (.pure pu) (.nil)))) (Con.cast (fbits_ok x l n _ (List.replicate ((n + 7) / 8) 0) hx) (bits_no hcs)) pu (.inl rfl) rfl ?_)
            refine s1 (y_p rfl) rfl <| s1 (y_p rfl) rfl <| s1 (y_p rfl) rfl <| s1 (y_p rfl) rfl <| s1 (y_p rfl) rfl <| ?_
            refine at_nil ?_
            refine x_tn ?_
            refine at_seq ?_
            refine at_seq ?_
            refine at_region ?_
            refine s1 (y_p rfl) rfl <| s1 ((y_p rfl).v (v' := .b true) (rfl)) rfl <| ?_
            refine at_nil ?_
            refine x_tn ?_
            refine at_then rfl ?_
            refine at_exit ?_
            refine x_te ?_
            refine x_be ?_
            refine x_tn ?_
            refine at_region ?_
            refine s1 (addN _ 1 rfl rfl rfl rfl (by omega)) rfl <| s1 (y_p rfl) rfl <| ?_
            refine at_nil ?_
            exact at_end (i + 1) (by omega) (by omega) [(5, some 5), (11, some 11), (15, some 15), (54, some 54)] hI rfl rfl ⟨⟨_, rfl, .pure pu⟩, ⟨_, rfl, .p rfl⟩, ⟨_, rfl, .p rfl⟩, ⟨_, rfl, .pure pu⟩, ⟨_, rfl, .p rfl⟩, ⟨_, rfl, .sl rfl (by first | rfl | omega | (simp; done) | (simp [*]; done) | (simp; omega) | (simp [*]; omega) | (simp [D32.len, -List.length_flatten, *]; done) | (simp [D32.len, -List.length_flatten, *]; omega))⟩, ⟨_, rfl, .pure pu⟩, ⟨_, rfl, .pure pu⟩, ⟨_, rfl, .pure pu⟩, trivial⟩ ⟨.inr ⟨_, _, rfl, rfl, .pure pul⟩, .inr ⟨_, _, rfl, rfl, .pure pul⟩, .inr ⟨_, _, rfl, rfl, .pure pul⟩, .inr ⟨_, _, rfl, rfl, .of (met_skip hq (id_ge hZ hcs)) (.pure pul)⟩, trivial⟩
          · skip
            refine at_region ?_
            refine s1 (y_loadA0 ti23 rfl rfl (by first | rfl | omega | (simp; done) | (simp [*]; done) | (simp; omega) | (simp [*]; omega) | (simp [D32.len, -List.length_flatten, *]; done) | (simp [D32.len, -List.length_flatten, *]; omega))) rfl <| s1 (y_loadA0 ti26 rfl rfl (by first | rfl | omega | (simp; done) | (simp [*]; done) | (simp; omega) | (simp [*]; omega) | (simp [D32.len, -List.length_flatten, *]; done) | (simp [D32.len, -List.length_flatten, *]; omega))) rfl <| s1 (y_p rfl) rfl <| s1 ((y_conv Tryd.underlying44 Tryd.underlying3 rfl).v (conv16J _)) rfl <| ?_
            refine at_op rfl (n_call false rfl (.cons (.pure pu) (.cons (.pure pu) (.cons (.pure pu) (.nil)))) (Con.cast (fbits_ok x l n _ (List.replicate ((n + 7) / 8) 0) hx) (bits_yes hcs)) pu (.inl rfl) rfl ?_)
            refine s1 (y_p rfl) rfl <| s1 (y_p rfl) rfl <| s1 (y_p rfl) rfl <| s1 (y_p rfl) rfl <| s1 (y_p rfl) rfl <| ?_
            refine at_nil ?_
            refine x_tn ?_
            refine at_seq ?_
            refine at_seq ?_
            refine at_region ?_
            refine s1 (y_p rfl) rfl <| s1 ((y_p rfl).v (v' := .b false) (rfl)) rfl <| ?_
            refine at_nil ?_
            refine x_tn ?_
            refine at_else rfl ?_
            refine at_skip ?_
            refine x_tn ?_
            refine at_seq ?_
            refine at_region ?_
            refine s1 (y_p rfl) rfl <| s1 (y_len Tryd.underlying31 rfl rfl rfl) rfl <| s1 ((y_p rfl).v (v' := .i .i64 0) rfl) rfl <| ?_
            refine at_nil ?_
            refine x_tn ?_
            refine at_block ?_
            refine at_loop (ι := Nat) (fun u => [(4, nJ j), (5, .p 5 0), (11, .p 11 0), (13, .fz 2 ((bitL x l n j 2).map nJ)), (15, .p 15 0), (16, .sl 54 1 0 2), (55, .fz ids.length (ids.map u16)), (56, nJ ids.length), (57, nJ i), (19, .fz 2 ((bitL x l n q.toNat 2).map nJ)), (71, .fz 2 ((bitL x l n q.toNat 2).map nJ)), (72, nJ 2), (73, nJ u)]) (fun u => ⟨[(5, some (x.map u8)), (11, some ([nJ l, nJ n, slA (List.replicate ((n + 7) / 8) 0)])), (15, some ([nJ l, nJ n, slA (addedD x l n (List.replicate ((n + 7) / 8) 0) ids)])), (54, some (metA x l n (ids.take i) q.toNat (bN x l n j 0) (bN x l n j 1) u 0))]⟩) (fun u => u ≤ 2) (fun u => 2 - u) ?_ ?_
            · exact at_ex (0) (Nat.zero_le _) [(5, some 5), (11, some 11), (15, some 15), (54, some 54)] hI rfl rfl ⟨⟨_, rfl, .pure pu⟩, ⟨_, rfl, .p rfl⟩, ⟨_, rfl, .p rfl⟩, ⟨_, rfl, .pure pu⟩, ⟨_, rfl, .p rfl⟩, ⟨_, rfl, .sl rfl (by first | rfl | omega | (simp; done) | (simp [*]; done) | (simp; omega) | (simp [*]; omega) | (simp [D32.len, -List.length_flatten, *]; done) | (simp [D32.len, -List.length_flatten, *]; omega))⟩, ⟨_, rfl, .pure pu⟩, ⟨_, rfl, .pure pu⟩, ⟨_, rfl, .pure pu⟩, ⟨_, rfl, .pure pu⟩, ⟨_, rfl, .pure pu⟩, ⟨_, rfl, .pure pu⟩, ⟨_, rfl, .pure pu⟩, trivial⟩ ⟨.inr ⟨_, _, rfl, rfl, .pure pul⟩, .inr ⟨_, _, rfl, rfl, .pure pul⟩, .inr ⟨_, _, rfl, rfl, .pure pul⟩, .inr ⟨_, _, rfl, rfl, .of (met_0 ..) (.pure pul)⟩, trivial⟩
            rintro u hu
            refine at_seq ?_
            refine at_region ?_
            refine s1 (y_p rfl) rfl <| ?_
            refine at_nil ?_
            refine x_tn ?_
            refine at_seq ?_
            refine at_cond rfl (fun hc74 => ?_) (fun hc74 => ?_)
            · have h74 : u < 2 := by have := of_decide_eq_true hc74; omega
              refine at_skip ?_
              refine x_tn ?_
              refine at_seq ?_
              refine at_block ?_
              refine at_seq ?_
              refine at_region ?_
              refine s1 (y_ixf u Tryd.underlying31 ti3 rfl rfl rfl (by omega) rfl) rfl <| s1 (y_load ti3 rfl rfl (bitL_get x l n q.toNat u h74)) rfl <| s1 (y_p rfl) rfl <| ?_
              refine at_nil ?_
              refine x_tn ?_
              refine at_seq ?_
              refine at_region ?_
              refine s1 (y_p rfl) rfl <| s1 (y_len Tryd.underlying31 rfl rfl rfl) rfl <| s1 ((y_p rfl).v (v' := .i .i64 0) rfl) rfl <| ?_
              refine at_nil ?_
              refine x_tn ?_
              refine at_block ?_
              refine at_loop (ι := Nat) (fun v => [(4, nJ j), (5, .p 5 0), (11, .p 11 0), (13, .fz 2 ((bitL x l n j 2).map nJ)), (15, .p 15 0), (16, .sl 54 1 0 2), (55, .fz ids.length (ids.map u16)), (56, nJ ids.length), (57, nJ i), (19, .fz 2 ((bitL x l n q.toNat 2).map nJ)), (71, .fz 2 ((bitL x l n q.toNat 2).map nJ)), (72, nJ 2), (73, nJ u), (22, nJ (bN x l n q.toNat u)), (77, .fz 2 ((bitL x l n j 2).map nJ)), (78, nJ 2), (79, nJ v)]) (fun v => ⟨[(5, some (x.map u8)), (11, some ([nJ l, nJ n, slA (List.replicate ((n + 7) / 8) 0)])), (15, some ([nJ l, nJ n, slA (addedD x l n (List.replicate ((n + 7) / 8) 0) ids)])), (54, some (metA x l n (ids.take i) q.toNat (bN x l n j 0) (bN x l n j 1) u v))]⟩) (fun v => v ≤ 2) (fun v => 2 - v) ?_ ?_
              · exact at_ex (0) (Nat.zero_le _) [(5, some 5), (11, some 11), (15, some 15), (54, some 54)] hI rfl rfl ⟨⟨_, rfl, .pure pu⟩, ⟨_, rfl, .p rfl⟩, ⟨_, rfl, .p rfl⟩, ⟨_, rfl, .pure pu⟩, ⟨_, rfl, .p rfl⟩, ⟨_, rfl, .sl rfl (by first | rfl | omega | (simp; done) | (simp [*]; done) | (simp; omega) | (simp [*]; omega) | (simp [D32.len, -List.length_flatten, *]; done) | (simp [D32.len, -List.length_flatten, *]; omega))⟩, ⟨_, rfl, .pure pu⟩, ⟨_, rfl, .pure pu⟩, ⟨_, rfl, .pure pu⟩, ⟨_, rfl, .pure pu⟩, ⟨_, rfl, .pure pu⟩, ⟨_, rfl, .pure pu⟩, ⟨_, rfl, .pure pu⟩, ⟨_, rfl, .pure pu⟩, ⟨_, rfl, .pure pu⟩, ⟨_, rfl, .pure pu⟩, ⟨_, rfl, .pure pu⟩, trivial⟩ ⟨.inr ⟨_, _, rfl, rfl, .pure pul⟩, .inr ⟨_, _, rfl, rfl, .pure pul⟩, .inr ⟨_, _, rfl, rfl, .pure pul⟩, .inr ⟨_, _, rfl, rfl, .pure pul⟩, trivial⟩
              rintro v hv
              refine at_seq ?_
              refine at_region ?_
              refine s1 (y_p rfl) rfl <| ?_
              refine at_nil ?_
              refine x_tn ?_
              refine at_seq ?_
              refine at_cond rfl (fun hc80 => ?_) (fun hc80 => ?_)
              · have h80 : v < 2 := by have := of_decide_eq_true hc80; omega
                refine at_skip ?_
                refine x_tn ?_
                refine at_seq ?_
                refine at_block ?_
                refine at_seq ?_
                rcases show v = 0 ∨ v = 1 by omega with hcs | hcs
                · subst hcs
                  refine at_region ?_
                  refine s1 (y_p rfl) rfl <| s1 (y_p rfl) rfl <| ?_
                  refine at_nil ?_
                  refine x_tn ?_
                  refine at_region ?_
                  refine s1 (y_p rfl) rfl <| s1 (y_p rfl) rfl <| s1 (y_p rfl) rfl <| s1 (y_p rfl) rfl <| s1 (y_ixs 0 Tryd.underlying47 ti4 rfl rfl rfl rfl (by omega) rfl) rfl <| s1 (y_load ti4 rfl rfl rfl) rfl <| s1 (y_p rfl) rfl <| ?_
                  refine g_or 6 rfl rfl rfl rfl (fun hb88 => .step (y_p rfl) rfl rfl <| .step (y_p rfl) rfl rfl <| .step (y_ixf 0 Tryd.underlying31 ti3 rfl rfl rfl (by omega) rfl) rfl rfl <| .step (y_load ti3 rfl rfl (bitL_get x l n j 0 (by omega))) rfl rfl <| .step (y_p rfl) rfl rfl <| .step (y_p rfl) rfl rfl <| .done) rfl rfl ?_
                  refine s1 (y_ixs 0 Tryd.underlying47 ti4 rfl rfl rfl rfl (by omega) rfl) rfl <| ?_
                  refine at_op rfl (n_store1 ti4 rfl rfl rfl rfl (by first | rfl | omega | (simp; done) | (simp [*]; done) | (simp; omega) | (simp [*]; omega) | (simp [D32.len, -List.length_flatten, *]; done) | (simp [D32.len, -List.length_flatten, *]; omega)) rfl ?_)
                  refine at_nil ?_
                  refine x_bn ?_
                  refine x_tn ?_
                  refine at_region ?_
                  refine s1 (addN _ 1 rfl rfl rfl rfl (by omega)) rfl <| s1 (y_p rfl) rfl <| ?_
                  refine at_nil ?_
                  exact at_end (0 + 1) (by omega) (by omega) [(5, some 5), (11, some 11), (15, some 15), (54, some 54)] hI rfl rfl ⟨⟨_, rfl, .pure pu⟩, ⟨_, rfl, .p rfl⟩, ⟨_, rfl, .p rfl⟩, ⟨_, rfl, .pure pu⟩, ⟨_, rfl, .p rfl⟩, ⟨_, rfl, .sl rfl (by first | rfl | omega | (simp; done) | (simp [*]; done) | (simp; omega) | (simp [*]; omega) | (simp [D32.len, -List.length_flatten, *]; done) | (simp [D32.len, -List.length_flatten, *]; omega))⟩, ⟨_, rfl, .pure pu⟩, ⟨_, rfl, .pure pu⟩, ⟨_, rfl, .pure pu⟩, ⟨_, rfl, .pure pu⟩, ⟨_, rfl, .pure pu⟩, ⟨_, rfl, .pure pu⟩, ⟨_, rfl, .pure pu⟩, ⟨_, rfl, .pure pu⟩, ⟨_, rfl, .pure pu⟩, ⟨_, rfl, .pure pu⟩, ⟨_, rfl, .pure pu⟩, trivial⟩ ⟨.inr ⟨_, _, rfl, rfl, .pure pul⟩, .inr ⟨_, _, rfl, rfl, .pure pul⟩, .inr ⟨_, _, rfl, rfl, .pure pul⟩, .inr ⟨_, _, rfl, rfl, .of (met_set0 ..) (.pure pul)⟩, trivial⟩
                · subst hcs
                  refine at_region ?_
                  refine s1 (y_p rfl) rfl <| s1 (y_p rfl) rfl <| ?_
                  refine at_nil ?_
                  refine x_tn ?_
                  refine at_region ?_
                  refine s1 (y_p rfl) rfl <| s1 (y_p rfl) rfl <| s1 (y_p rfl) rfl <| s1 (y_p rfl) rfl <| s1 (y_ixs 1 Tryd.underlying47 ti4 rfl rfl rfl rfl (by omega) rfl) rfl <| s1 (y_load ti4 rfl rfl rfl) rfl <| s1 (y_p rfl) rfl <| ?_
                  refine g_or 6 rfl rfl rfl rfl (fun hb88 => .step (y_p rfl) rfl rfl <| .step (y_p rfl) rfl rfl <| .step (y_ixf 1 Tryd.underlying31 ti3 rfl rfl rfl (by omega) rfl) rfl rfl <| .step (y_load ti3 rfl rfl (bitL_get x l n j 1 (by omega))) rfl rfl <| .step (y_p rfl) rfl rfl <| .step (y_p rfl) rfl rfl <| .done) rfl rfl ?_
                  refine s1 (y_ixs 1 Tryd.underlying47 ti4 rfl rfl rfl rfl (by omega) rfl) rfl <| ?_
                  refine at_op rfl (n_store1 ti4 rfl rfl rfl rfl (by first | rfl | omega | (simp; done) | (simp [*]; done) | (simp; omega) | (simp [*]; omega) | (simp [D32.len, -List.length_flatten, *]; done) | (simp [D32.len, -List.length_flatten, *]; omega)) rfl ?_)
                  refine at_nil ?_
                  refine x_bn ?_
                  refine x_tn ?_
                  refine at_region ?_
                  refine s1 (addN _ 1 rfl rfl rfl rfl (by omega)) rfl <| s1 (y_p rfl) rfl <| ?_
                  refine at_nil ?_
                  exact at_end (1 + 1) (by omega) (by omega) [(5, some 5), (11, some 11), (15, some 15), (54, some 54)] hI rfl rfl ⟨⟨_, rfl, .pure pu⟩, ⟨_, rfl, .p rfl⟩, ⟨_, rfl, .p rfl⟩, ⟨_, rfl, .pure pu⟩, ⟨_, rfl, .p rfl⟩, ⟨_, rfl, .sl rfl (by first | rfl | omega | (simp; done) | (simp [*]; done) | (simp; omega) | (simp [*]; omega) | (simp [D32.len, -List.length_flatten, *]; done) | (simp [D32.len, -List.length_flatten, *]; omega))⟩, ⟨_, rfl, .pure pu⟩, ⟨_, rfl, .pure pu⟩, ⟨_, rfl, .pure pu⟩, ⟨_, rfl, .pure pu⟩, ⟨_, rfl, .pure pu⟩, ⟨_, rfl, .pure pu⟩, ⟨_, rfl, .pure pu⟩, ⟨_, rfl, .pure pu⟩, ⟨_, rfl, .pure pu⟩, ⟨_, rfl, .pure pu⟩, ⟨_, rfl, .pure pu⟩, trivial⟩ ⟨.inr ⟨_, _, rfl, rfl, .pure pul⟩, .inr ⟨_, _, rfl, rfl, .pure pul⟩, .inr ⟨_, _, rfl, rfl, .pure pul⟩, .inr ⟨_, _, rfl, rfl, .of (met_set1 ..) (.pure pul)⟩, trivial⟩
              · have h80 : v = 2 := by have := of_decide_eq_false hc80; omega
                subst h80
                refine at_exit ?_
                refine x_te ?_
                refine x_te ?_
                refine x_be ?_
                refine x_bn ?_
                refine x_tn ?_
                refine at_region ?_
                refine s1 (addN _ 1 rfl rfl rfl rfl (by omega)) rfl <| s1 (y_p rfl) rfl <| ?_
                refine at_nil ?_
                exact at_end (u + 1) (by omega) (by omega) [(5, some 5), (11, some 11), (15, some 15), (54, some 54)] hI rfl rfl ⟨⟨_, rfl, .pure pu⟩, ⟨_, rfl, .p rfl⟩, ⟨_, rfl, .p rfl⟩, ⟨_, rfl, .pure pu⟩, ⟨_, rfl, .p rfl⟩, ⟨_, rfl, .sl rfl (by first | rfl | omega | (simp; done) | (simp [*]; done) | (simp; omega) | (simp [*]; omega) | (simp [D32.len, -List.length_flatten, *]; done) | (simp [D32.len, -List.length_flatten, *]; omega))⟩, ⟨_, rfl, .pure pu⟩, ⟨_, rfl, .pure pu⟩, ⟨_, rfl, .pure pu⟩, ⟨_, rfl, .pure pu⟩, ⟨_, rfl, .pure pu⟩, ⟨_, rfl, .pure pu⟩, ⟨_, rfl, .pure pu⟩, trivial⟩ ⟨.inr ⟨_, _, rfl, rfl, .pure pul⟩, .inr ⟨_, _, rfl, rfl, .pure pul⟩, .inr ⟨_, _, rfl, rfl, .pure pul⟩, .inr ⟨_, _, rfl, rfl, .of (met_row ..) (.pure pul)⟩, trivial⟩
            · have h74 : u = 2 := by have := of_decide_eq_false hc74; omega
              subst h74
              refine at_exit ?_
              refine x_te ?_
              refine x_te ?_
              refine x_be ?_
              refine x_bn ?_
              refine x_tn ?_
              refine at_region ?_
              refine s1 (addN _ 1 rfl rfl rfl rfl (by omega)) rfl <| s1 (y_p rfl) rfl <| ?_
              refine at_nil ?_
              exact at_end (i + 1) (by omega) (by omega) [(5, some 5), (11, some 11), (15, some 15), (54, some 54)] hI rfl rfl ⟨⟨_, rfl, .pure pu⟩, ⟨_, rfl, .p rfl⟩, ⟨_, rfl, .p rfl⟩, ⟨_, rfl, .pure pu⟩, ⟨_, rfl, .p rfl⟩, ⟨_, rfl, .sl rfl (by first | rfl | omega | (simp; done) | (simp [*]; done) | (simp; omega) | (simp [*]; omega) | (simp [D32.len, -List.length_flatten, *]; done) | (simp [D32.len, -List.length_flatten, *]; omega))⟩, ⟨_, rfl, .pure pu⟩, ⟨_, rfl, .pure pu⟩, ⟨_, rfl, .pure pu⟩, trivial⟩ ⟨.inr ⟨_, _, rfl, rfl, .pure pul⟩, .inr ⟨_, _, rfl, rfl, .pure pul⟩, .inr ⟨_, _, rfl, rfl, .pure pul⟩, .inr ⟨_, _, rfl, rfl, .of (met_next hq (id_lt hcs)) (.pure pul)⟩, trivial⟩
        · have h58 : i = ids.length := by have := of_decide_eq_false hc58; omega
          subst h58
          refine at_exit ?_
          refine x_te ?_
          refine x_te ?_
          refine x_be ?_
          refine x_tn ?_
          refine at_seq ?_
          rcases tf (hitB x l n ids (bN x l n j 0)) with hcs | hcs
          · rw [List.take_length]
            refine at_fs ⟨_, [], []⟩ 18 4 hmix (le_refl rfl) ?_
            refine fs_q 0 [] [] (y_p rfl) rfl rfl ?_
            refine fs_q 1 [0] [] (y_len Tryd.underlying31 rfl rfl rfl) rfl rfl ?_
            refine fs_q 2 [1] [] ((y_p rfl).v (v' := .b true) (rfl)) rfl rfl ?_
            refine fs_q 3 [2] [] (y_p rfl) rfl rfl ?_
            refine fs_qg 4 [3] [(5, none)] rfl rfl (y_loadA0 ti23 rfl rfl (by first | rfl | omega | (simp; done) | (simp [*]; done) | (simp; omega) | (simp [*]; omega) | (simp [D32.len, -List.length_flatten, *]; done) | (simp [D32.len, -List.length_flatten, *]; omega))) rfl rfl ?_
            refine fs_qg 5 [3] [(15, none)] rfl rfl (y_loadA0 ti26 rfl rfl (by first | rfl | omega | (simp; done) | (simp [*]; done) | (simp; omega) | (simp [*]; omega) | (simp [D32.len, -List.length_flatten, *]; done) | (simp [D32.len, -List.length_flatten, *]; omega))) rfl rfl ?_
            refine fs_qg 6 [3] [] rfl rfl (y_p rfl) rfl rfl ?_
            refine fs_call false 7 [3, 4, 5, 6] [] (gy1 rfl rfl) rfl (.cons (.pure pu) (.cons (.pure pu) (.cons (.pure pu) (.nil)))) (Con.cast (has_ok x l n j (addedD x l n (List.replicate ((n + 7) / 8) 0) ids) hx) (congrArg A.b (has_false hsz hj ids))) pu (.inl rfl) rfl rfl ?_
            refine fs_qg 8 [3] [(54, none)] rfl rfl (y_p rfl) rfl rfl ?_
            refine fs_qg 9 [3, 8] [(54, none)] rfl rfl (y_ixs 0 Tryd.underlying47 ti4 rfl rfl rfl rfl (by omega) rfl) rfl rfl ?_
            refine fs_qg 10 [3, 9] [(54, none)] rfl rfl ((y_load ti4 rfl rfl rfl).v (v' := .b false) (congrArg A.b hcs)) rfl rfl ?_
            refine fs_qg 11 [3, 10] [] rfl rfl (y_p rfl) rfl rfl ?_
            refine fs_q0 12 [11] rfl rfl rfl rfl rfl ?_
            refine fs_q0 13 [11, 12] rfl rfl rfl rfl rfl ?_
            refine fs_q0 14 [11, 13] rfl rfl rfl rfl rfl ?_
            refine fs_qg 15 [3, 11, 14] [] rfl rfl (y_p rfl) rfl rfl ?_
            refine fs_qg 16 [3, 7, 15] [] rfl rfl ((y_eqb Tryd.underlying4 rfl rfl).v (v' := .b true) (congrArg A.b (by rw [hcs]; rfl))) rfl rfl ?_
            refine fs_q 17 [3, 16] [] (y_p rfl) rfl rfl ?_
            refine fs_end (by kernel_rfl) ?_
            refine s1 (y_p rfl) rfl <| ?_
            refine at_nil ?_
            refine x_tn ?_
            refine at_ret ?_
            refine at_result (rs := [.tmp 10]) rfl (r_tmp rfl r_nil) rfl
          · rw [List.take_length]
            refine at_fs ⟨_, [], []⟩ 18 4 hmix (le_refl rfl) ?_
            refine fs_q 0 [] [] (y_p rfl) rfl rfl ?_
            refine fs_q 1 [0] [] (y_len Tryd.underlying31 rfl rfl rfl) rfl rfl ?_
            refine fs_q 2 [1] [] ((y_p rfl).v (v' := .b true) (rfl)) rfl rfl ?_
            refine fs_q 3 [2] [] (y_p rfl) rfl rfl ?_
            refine fs_qg 4 [3] [(5, none)] rfl rfl (y_loadA0 ti23 rfl rfl (by first | rfl | omega | (simp; done) | (simp [*]; done) | (simp; omega) | (simp [*]; omega) | (simp [D32.len, -List.length_flatten, *]; done) | (simp [D32.len, -List.length_flatten, *]; omega))) rfl rfl ?_
            refine fs_qg 5 [3] [(15, none)] rfl rfl (y_loadA0 ti26 rfl rfl (by first | rfl | omega | (simp; done) | (simp [*]; done) | (simp; omega) | (simp [*]; omega) | (simp [D32.len, -List.length_flatten, *]; done) | (simp [D32.len, -List.length_flatten, *]; omega))) rfl rfl ?_
            refine fs_qg 6 [3] [] rfl rfl (y_p rfl) rfl rfl ?_
            refine fs_call false 7 [3, 4, 5, 6] [] (gy1 rfl rfl) rfl (.cons (.pure pu) (.cons (.pure pu) (.cons (.pure pu) (.nil)))) (Con.cast (has_ok x l n j (addedD x l n (List.replicate ((n + 7) / 8) 0) ids) hx) (congrArg A.b (has_false hsz hj ids))) pu (.inl rfl) rfl rfl ?_
            refine fs_qg 8 [3] [(54, none)] rfl rfl (y_p rfl) rfl rfl ?_
            refine fs_qg 9 [3, 8] [(54, none)] rfl rfl (y_ixs 0 Tryd.underlying47 ti4 rfl rfl rfl rfl (by omega) rfl) rfl rfl ?_
            refine fs_qg 10 [3, 9] [(54, none)] rfl rfl ((y_load ti4 rfl rfl rfl).v (v' := .b true) (congrArg A.b hcs)) rfl rfl ?_
            refine fs_qg 11 [3, 10] [] rfl rfl (y_p rfl) rfl rfl ?_
            refine fs_qg 12 [11] [(54, none)] rfl rfl (y_p rfl) rfl rfl ?_
            refine fs_qg 13 [11, 12] [(54, none)] rfl rfl (y_ixs 1 Tryd.underlying47 ti4 rfl rfl rfl rfl (by omega) rfl) rfl rfl ?_
            refine fs_qg 14 [11, 13] [(54, none)] rfl rfl (y_load ti4 rfl rfl rfl) rfl rfl ?_
            refine fs_qg 15 [3, 11, 14] [] rfl rfl (y_p rfl) rfl rfl ?_
            refine fs_qg 16 [3, 7, 15] [] rfl rfl ((y_eqb Tryd.underlying4 rfl rfl).v (v' := .b true) (congrArg A.b (by rw [hcs]; simp))) rfl rfl ?_
            refine fs_q 17 [3, 16] [] (y_p rfl) rfl rfl ?_
            refine fs_end (by kernel_rfl) ?_
            refine s1 (y_p rfl) rfl <| ?_
            refine at_nil ?_
            refine x_tn ?_
            refine at_ret ?_
            refine at_result (rs := [.tmp 10]) rfl (r_tmp rfl r_nil) rfl

theorem sameI_bits (x : List UInt8) (l n j : Nat) : Con Tryd.prog 17 [.fz 2 ((bitL x l n j 2).map nJ), .fz 2 ((bitL x l n j 2).map nJ)] (Ret (.b true)) := by
  have := sameI_ok (List.map (fun n : Nat => (n : Int)) (bitL x l n j 2)) (List.map (fun n : Nat => (n : Int)) (bitL x l n j 2)) (by simp)
  rw [List.map_map, List.length_map, len_bitL, beq_self_eq_true] at this
  exact this

set_option linter.unusedSimpArgs false in
set_option linter.unusedVariables false in
set_option maxHeartbeats 1000000 in
theorem law_determined (x : List UInt8) (lv nb : Int) (D : List UInt8) (q : UInt16) (hx : x.length = 32) : Con Tryd.prog 8 [.ag (x.map u8), filA lv nb D, u16 q] (Ret (.b true)) := by
  refine enter Tryd.func8 rfl Tryd.ntmps8 (by kernel_rfl) (Nat.le_of_ble_eq_true rfl) fun w0 X0 hI => ?_
  refine at_seq ?_
  refine at_region ?_
  refine at_op rfl (n_boxA 3 rfl rfl rfl ?_)
  refine at_op rfl (n_boxA 4 rfl rfl rfl ?_)
  refine s1 (y_p rfl) rfl <| ?_
  refine at_nil ?_
  refine x_tn ?_
  refine at_seq ?_
  refine at_seq ?_
  refine at_region ?_
  refine at_op rfl (n_call false rfl (.nil) (sane_ok) pu (.inl rfl) rfl ?_)
  refine s1 (y_p rfl) rfl <| ?_
  refine at_nil ?_
  refine x_tn ?_
  refine at_else rfl ?_
  refine at_skip ?_
  refine x_tn ?_
  refine at_seq ?_
  refine at_seq ?_
  rcases tf (chkB lv nb D) with hcs | hcs
  · skip
    refine at_region ?_
    refine s1 (y_fld Tryd.underlying26 rfl ti24 (by decide) rfl rfl) rfl <| s1 (y_load ti24 rfl rfl rfl) rfl <| s1 (y_len Tryd.underlying24 rfl rfl rfl) rfl <| s1 (y_p rfl) rfl <| ?_
    refine at_bc 23 rfl (fun hc23 => ?_) (fun hc23 => ?_)
    · skip
      refine s1 (y_p rfl) rfl <| g0 rfl rfl rfl rfl <| g0 rfl rfl rfl rfl <| g0 rfl rfl rfl rfl <| s1 (y_p rfl) rfl <| s1 (y_p rfl) rfl <| g0 rfl rfl rfl rfl <| g0 rfl rfl rfl rfl <| s1 (y_p rfl) rfl <| ?_
      refine at_nil ?_
      refine x_tn ?_
      refine at_then rfl ?_
      refine at_seq ?_
      refine at_region ?_
      refine s1 (y_p rfl) rfl <| ?_
      refine at_nil ?_
      refine x_tn ?_
      refine at_ret ?_
      refine x_tr ?_
      refine at_result (rs := [.tmp 6]) rfl (r_tmp rfl r_nil) rfl
    · skip
      refine s1 (y_p rfl) rfl <| g1 rfl rfl (y_loadA0 ti26 rfl rfl (by first | rfl | omega | (simp; done) | (simp [*]; done) | (simp; omega) | (simp [*]; omega) | (simp [D32.len, -List.length_flatten, *]; done) | (simp [D32.len, -List.length_flatten, *]; omega))) rfl <| ?_
      refine at_opg rfl rfl rfl (n_call false rfl (.cons (.pure pu) (.nil)) (Con.cast (fchk_ok lv nb D) (congrArg (A.i .i64) (by rw [hcs]; rfl : errF (chkB lv nb D) = 330))) pu (.inl rfl) rfl ?_)
      refine g1 rfl rfl ((y_p rfl).v (v' := .b true) (rfl)) rfl <| s1 (y_p rfl) rfl <| s1 (y_p rfl) rfl <| g0 rfl rfl rfl rfl <| g0 rfl rfl rfl rfl <| s1 (y_p rfl) rfl <| ?_
      refine at_nil ?_
      refine x_tn ?_
      refine at_then rfl ?_
      refine at_seq ?_
      refine at_region ?_
      refine s1 (y_p rfl) rfl <| ?_
      refine at_nil ?_
      refine x_tn ?_
      refine at_ret ?_
      refine x_tr ?_
      refine at_result (rs := [.tmp 6]) rfl (r_tmp rfl r_nil) rfl
  · have hchk := hcs
    refine at_region ?_
    refine s1 (y_fld Tryd.underlying26 rfl ti24 (by decide) rfl rfl) rfl <| s1 (y_load ti24 rfl rfl rfl) rfl <| s1 (y_len Tryd.underlying24 rfl rfl rfl) rfl <| s1 (y_p rfl) rfl <| ?_
    refine at_bc 23 rfl (fun hc23 => ?_) (fun hc23 => ?_)
    · skip
      refine s1 (y_p rfl) rfl <| g0 rfl rfl rfl rfl <| g0 rfl rfl rfl rfl <| g0 rfl rfl rfl rfl <| s1 (y_p rfl) rfl <| s1 (y_p rfl) rfl <| g0 rfl rfl rfl rfl <| g0 rfl rfl rfl rfl <| s1 (y_p rfl) rfl <| ?_
      refine at_nil ?_
      refine x_tn ?_
      refine at_then rfl ?_
      refine at_seq ?_
      refine at_region ?_
      refine s1 (y_p rfl) rfl <| ?_
      refine at_nil ?_
      refine x_tn ?_
      refine at_ret ?_
      refine x_tr ?_
      refine at_result (rs := [.tmp 6]) rfl (r_tmp rfl r_nil) rfl
    · skip
      refine s1 (y_p rfl) rfl <| g1 rfl rfl (y_loadA0 ti26 rfl rfl (by first | rfl | omega | (simp; done) | (simp [*]; done) | (simp; omega) | (simp [*]; omega) | (simp [D32.len, -List.length_flatten, *]; done) | (simp [D32.len, -List.length_flatten, *]; omega))) rfl <| ?_
      refine at_opg rfl rfl rfl (n_call false rfl (.cons (.pure pu) (.nil)) (Con.cast (fchk_ok lv nb D) (congrArg (A.i .i64) (by rw [hcs]; rfl : errF (chkB lv nb D) = 0))) pu (.inl rfl) rfl ?_)
      refine g1 rfl rfl ((y_p rfl).v (v' := .b false) (rfl)) rfl <| s1 (y_p rfl) rfl <| s1 (y_p rfl) rfl <| g1 rfl rfl (y_p rfl) rfl <| g1 rfl rfl (y_p rfl) rfl <| s1 (y_p rfl) rfl <| ?_
      refine at_nil ?_
      refine x_tn ?_
      refine at_cond rfl (fun hc32 => ?_) (fun hc32 => ?_)
      · skip
        refine at_seq ?_
        refine at_region ?_
        refine s1 (y_p rfl) rfl <| ?_
        refine at_nil ?_
        refine x_tn ?_
        refine at_ret ?_
        refine x_tr ?_
        refine at_result (rs := [.tmp 6]) rfl (r_tmp rfl r_nil) rfl
      · have hq : q.toNat < 1024 := by have := of_decide_eq_false hc32; omega
        obtain ⟨l, n, rfl, rfl, h1, h2, h3, h4, h5⟩ := chk_nat hchk
        have hsz := nat_sized h1 h2 h3
        have hok := okB_eq hchk hq
        have hokZ := okB_eq (chk_zero hsz) hq
        refine at_skip ?_
        refine x_tn ?_
        refine at_seq ?_
        refine at_region ?_
        refine s1 (y_loadA0 ti23 rfl rfl (by first | rfl | omega | (simp; done) | (simp [*]; done) | (simp; omega) | (simp [*]; omega) | (simp [D32.len, -List.length_flatten, *]; done) | (simp [D32.len, -List.length_flatten, *]; omega))) rfl <| s1 (y_loadA0 ti26 rfl rfl (by first | rfl | omega | (simp; done) | (simp [*]; done) | (simp; omega) | (simp [*]; omega) | (simp [D32.len, -List.length_flatten, *]; done) | (simp [D32.len, -List.length_flatten, *]; omega))) rfl <| s1 (y_p rfl) rfl <| s1 ((y_conv Tryd.underlying44 Tryd.underlying3 rfl).v (conv16J _)) rfl <| ?_
        refine at_op rfl (n_call false rfl (.cons (.pure pu) (.cons (.pure pu) (.cons (.pure pu) (.nil)))) (Con.cast (fbits_ok x l n _ D hx) (bits_yes hok)) pu (.inl rfl) rfl ?_)
        refine s1 (y_p rfl) rfl <| s1 (y_p rfl) rfl <| s1 (y_p rfl) rfl <| s1 (y_p rfl) rfl <| s1 (y_p rfl) rfl <| ?_
        refine at_nil ?_
        refine x_tn ?_
        refine at_seq ?_
        refine at_region ?_
        refine s1 (y_fld Tryd.underlying26 rfl ti3 (by decide) rfl rfl) rfl <| s1 (y_load ti3 rfl rfl rfl) rfl <| s1 (y_fld Tryd.underlying26 rfl ti3 (by decide) rfl rfl) rfl <| s1 (y_load ti3 rfl rfl rfl) rfl <| ?_
        refine at_op rfl (n_call false rfl (.cons (.pure pu) (.cons (.pure pu) (.nil))) (Con.cast (fnew_ok l n) (new_yes hsz)) pu (.inl rfl) rfl ?_)
        refine s1 (y_p rfl) rfl <| s1 (y_p rfl) rfl <| s1 (y_p rfl) rfl <| ?_
        refine at_op rfl (n_alloc 9 rfl ti26 rfl rfl ?_)
        refine at_op rfl (n_storeA ti26 rfl rfl rfl (by first | rfl | omega | (simp; done) | (simp [*]; done) | (simp; omega) | (simp [*]; omega) | (simp [D32.len, -List.length_flatten, *]; done) | (simp [D32.len, -List.length_flatten, *]; omega)) (by first | rfl | omega | (simp; done) | (simp [*]; done) | (simp; omega) | (simp [*]; omega) | (simp [D32.len, -List.length_flatten, *]; done) | (simp [D32.len, -List.length_flatten, *]; omega)) ?_)
        refine s1 (y_p rfl) rfl <| ?_
        refine at_nil ?_
        refine x_tn ?_
        refine at_seq ?_
        refine at_region ?_
        refine s1 (y_loadA0 ti23 rfl rfl (by first | rfl | omega | (simp; done) | (simp [*]; done) | (simp; omega) | (simp [*]; omega) | (simp [D32.len, -List.length_flatten, *]; done) | (simp [D32.len, -List.length_flatten, *]; omega))) rfl <| s1 (y_loadA0 ti26 rfl rfl (by first | rfl | omega | (simp; done) | (simp [*]; done) | (simp; omega) | (simp [*]; omega) | (simp [D32.len, -List.length_flatten, *]; done) | (simp [D32.len, -List.length_flatten, *]; omega))) rfl <| s1 (y_p rfl) rfl <| s1 ((y_conv Tryd.underlying44 Tryd.underlying3 rfl).v (conv16J _)) rfl <| ?_
        refine at_op rfl (n_call false rfl (.cons (.pure pu) (.cons (.pure pu) (.cons (.pure pu) (.nil)))) (Con.cast (fbits_ok x l n _ (List.replicate ((n + 7) / 8) 0) hx) (bits_yes hokZ)) pu (.inl rfl) rfl ?_)
        refine s1 (y_p rfl) rfl <| s1 (y_p rfl) rfl <| s1 (y_p rfl) rfl <| s1 (y_p rfl) rfl <| s1 (y_p rfl) rfl <| ?_
        refine at_nil ?_
        refine x_tn ?_
        refine at_seq ?_
        refine at_seq ?_
        refine at_region ?_
        refine s1 (y_p rfl) rfl <| s1 ((y_p rfl).v (v' := .b false) (rfl)) rfl <| s1 (y_p rfl) rfl <| g1 rfl rfl (y_p rfl) rfl <| g1 rfl rfl ((y_p rfl).v (v' := .b false) (rfl)) rfl <| s1 (y_p rfl) rfl <| s1 (y_p rfl) rfl <| g1 rfl rfl (y_p rfl) rfl <| g1 rfl rfl ((y_p rfl).v (v' := .b false) (rfl)) rfl <| s1 (y_p rfl) rfl <| ?_
        refine s1 (y_p rfl) rfl <| g1 rfl rfl (y_p rfl) rfl <| g1 rfl rfl (y_len Tryd.underlying31 rfl rfl rfl) rfl <| g1 rfl rfl ((y_p rfl).v (v' := .b false) (rfl)) rfl <| s1 (y_p rfl) rfl <| s1 (y_p rfl) rfl <| g1 rfl rfl (y_p rfl) rfl <| g1 rfl rfl (y_p rfl) rfl <| ?_
        refine at_opg rfl rfl rfl (n_call false rfl (.cons (.pure pu) (.cons (.pure pu) (.nil))) (sameI_bits x l n q.toNat) pu (.inl rfl) rfl ?_)
        refine g1 rfl rfl (y_p rfl) rfl <| s1 (y_p rfl) rfl <| ?_
        refine at_nil ?_
        refine x_tn ?_
        refine at_else rfl ?_
        refine at_skip ?_
        refine x_tn ?_
        refine at_seq ?_
        refine at_fs ⟨_, [], []⟩ 13 4 hmix (le_refl rfl) ?_
        refine fs_q 0 [] [(3, none)] (y_cuta0 Tryd.underlying23 ti5 rfl rfl (by simp [hx]) (by simp [maxLen])) rfl rfl ?_
        refine fs_q 1 [] [(4, none)] (y_fld Tryd.underlying26 rfl ti3 (by decide) rfl rfl) rfl rfl ?_
        refine fs_q 2 [1] [(4, none)] (y_load ti3 rfl rfl rfl) rfl rfl ?_
        refine fs_q 3 [2] [] (ofN_u8 l Tryd.underlying3 Tryd.underlying5 rfl rfl) rfl rfl ?_
        refine fs_q 4 [] [] (y_p rfl) rfl rfl ?_
        refine fs_q 5 [4] [] (y_shr rfl rfl (by decide)) rfl rfl ?_
        refine fs_q 6 [5] [] ((y_conv Tryd.underlying44 Tryd.underlying5 rfl).v (hi_byte q)) rfl rfl ?_
        refine fs_q 7 [] [] (y_p rfl) rfl rfl ?_
        refine fs_q 8 [7] [] ((y_conv Tryd.underlying44 Tryd.underlying5 rfl).v (lo_byte q)) rfl rfl ?_
        refine fs_bs1 87 9 [3, 6, 8] gy0 Tryd.underlying24 ti5 rfl rfl rfl rfl rfl rfl ?_
        refine fs_app 88 10 [0, 9] [(3, none), (87, some 9)] gy0 Tryd.underlying24 ti5 rfl (.sl rfl (by simp [hx])) rfl (SM_full rfl (by rfl)) (by first | rfl | omega | (simp; done) | (simp [*]; done) | (simp; omega) | (simp [*]; omega) | (simp [D32.len, -List.length_flatten, *]; done) | (simp [D32.len, -List.length_flatten, *]; omega)) (by simp [maxLen]) (by simp) rfl rfl rfl rfl ?_
        refine fs_call true 11 [10] [(88, some 10)] gy0 rfl (.cons (.pure pu) (.cons (.sl rfl rfl rfl (view_eq (by simp [hx]) (head_bytes2 hq)) (VwL.pure pul) pul) .nil)) (tag_filter x l q.toNat hx) pu (.inr fu) rfl rfl ?_
        refine fs_alloc 13 12 [] gy0 ti23 rfl rfl rfl ?_
        refine fs_end (by kernel_rfl) ?_
        refine at_op rfl (n_storeA ti23 rfl rfl rfl (by first | rfl | omega | (simp; done) | (simp [*]; done) | (simp; omega) | (simp [*]; omega) | (simp [D32.len, -List.length_flatten, *]; done) | (simp [D32.len, -List.length_flatten, *]; omega)) (by first | rfl | omega | (simp; done) | (simp [*]; done) | (simp; omega) | (simp [*]; omega) | (simp [D32.len, -List.length_flatten, *]; done) | (simp [D32.len, -List.length_flatten, *]; omega)) ?_)
        refine at_nil ?_
        refine x_tn ?_
        refine at_seq ?_
        refine at_seq ?_
        refine at_region ?_
        refine s1 (y_p rfl) rfl <| s1 (y_len Tryd.underlying31 rfl rfl rfl) rfl <| s1 ((y_p rfl).v (v' := .i .i64 0) rfl) rfl <| ?_
        refine at_nil ?_
        refine x_tn ?_
        refine at_block ?_
        refine at_loop (ι := Nat) (fun i => [(4, .p 4 0), (7, .fz 2 ((bitL x l n q.toNat 2).map nJ)), (13, .p 13 0), (90, .fz 2 ((bitL x l n q.toNat 2).map nJ)), (91, nJ 2), (92, nJ i)]) (fun i => ⟨[(4, some ([nJ l, nJ n, slA D])), (13, some ((filD x l q.toNat).map u8))]⟩) (fun i => i ≤ 2) (fun i => 2 - i) ?_ ?_
        · exact at_ex (0) (Nat.zero_le _) [(4, some 4), (13, some 13)] hI rfl rfl ⟨⟨_, rfl, .p rfl⟩, ⟨_, rfl, .pure pu⟩, ⟨_, rfl, .p rfl⟩, ⟨_, rfl, .pure pu⟩, ⟨_, rfl, .pure pu⟩, ⟨_, rfl, .pure pu⟩, trivial⟩ ⟨.inr ⟨_, _, rfl, rfl, .pure pul⟩, .inr ⟨_, _, rfl, rfl, .pure pul⟩, trivial⟩
        rintro i hi
        refine at_seq ?_
        refine at_region ?_
        refine s1 (y_p rfl) rfl <| ?_
        refine at_nil ?_
        refine x_tn ?_
        refine at_seq ?_
        refine at_cond rfl (fun hc93 => ?_) (fun hc93 => ?_)
        · have h93 : i < 2 := by have := of_decide_eq_true hc93; omega
          refine at_skip ?_
          refine x_tn ?_
          refine at_seq ?_
          refine at_block ?_
          refine at_seq ?_
          refine at_region ?_
          refine s1 (y_p rfl) rfl <| s1 (y_p rfl) rfl <| ?_
          refine at_nil ?_
          refine x_tn ?_
          refine at_seq ?_
          refine at_region ?_
          refine s1 ((y_p rfl).v (v' := .i .i64 0) rfl) rfl <| ?_
          refine at_nil ?_
          refine x_tn ?_
          refine at_seq ?_
          refine at_seq ?_
          refine at_region ?_
          refine s1 (y_p rfl) rfl <| s1 (mulN 4 _ rfl rfl rfl rfl (by omega)) rfl <| s1 (y_p rfl) rfl <| s1 (mulN 4 _ rfl rfl rfl rfl (by omega)) rfl <| s1 (addN _ 4 rfl rfl rfl rfl (by omega)) rfl <| s1 (y_cuta (o' := 0 + 4 * i * 1) 4 Tryd.underlying23 ti5 rfl rfl (by simp) (by simp [maxLen]) (bs rfl rfl) (bs rfl rfl) (by omega) (by omega) (by omega) (by rw [if_neg (by omega)])) rfl <| s1 (y_len Tryd.underlying24 rfl rfl rfl) rfl <| s1 ((y_p rfl).v (v' := .i .i64 0) rfl) rfl <| ?_
          refine at_nil ?_
          refine x_tn ?_
          refine at_block ?_
          refine at_loop (ι := Nat) (fun k => [(4, .p 4 0), (7, .fz 2 ((bitL x l n q.toNat 2).map nJ)), (13, .p 13 0), (90, .fz 2 ((bitL x l n q.toNat 2).map nJ)), (91, nJ 2), (92, nJ i), (14, nJ i), (15, nJ (numD (filD x l q.toNat) (4 * i) k)), (100, .sl 13 1 (0 + 4 * i * 1) 4), (101, nJ 4), (102, nJ k)]) (fun k => ⟨[(4, some ([nJ l, nJ n, slA D])), (13, some ((filD x l q.toNat).map u8))]⟩) (fun k => k ≤ 4) (fun k => 4 - k) ?_ ?_
          · exact at_ex (0) (Nat.zero_le _) [(4, some 4), (13, some 13)] hI rfl rfl ⟨⟨_, rfl, .p rfl⟩, ⟨_, rfl, .pure pu⟩, ⟨_, rfl, .p rfl⟩, ⟨_, rfl, .pure pu⟩, ⟨_, rfl, .pure pu⟩, ⟨_, rfl, .pure pu⟩, ⟨_, rfl, .pure pu⟩, ⟨_, rfl, .of (by rfl) (.pure pu)⟩, ⟨_, rfl, .sl rfl (by first | rfl | omega | (simp; done) | (simp [*]; done) | (simp; omega) | (simp [*]; omega) | (simp [D32.len, -List.length_flatten, *]; done) | (simp [D32.len, -List.length_flatten, *]; omega))⟩, ⟨_, rfl, .pure pu⟩, ⟨_, rfl, .pure pu⟩, trivial⟩ ⟨.inr ⟨_, _, rfl, rfl, .pure pul⟩, .inr ⟨_, _, rfl, rfl, .pure pul⟩, trivial⟩
          rintro k hk
          have hnl := numD_lt (filD x l q.toNat) (4 * i) k
          have hk4 : 256 ^ k ≤ 256 ^ 4 := Nat.pow_le_pow_right (by omega) hk
          refine at_seq ?_
          refine at_region ?_
          refine s1 (y_p rfl) rfl <| ?_
          refine at_nil ?_
          refine x_tn ?_
          refine at_seq ?_
          refine at_cond rfl (fun hc103 => ?_) (fun hc103 => ?_)
          · have h103 : k < 4 := by have := of_decide_eq_true hc103; omega
            have hk3 : numD (filD x l q.toNat) (4 * i) k < 16777216 := Nat.lt_of_lt_of_le hnl (Nat.pow_le_pow_right (by omega) (show k ≤ 3 by omega))
            refine at_skip ?_
            refine x_tn ?_
            refine at_seq ?_
            refine at_block ?_
            refine at_seq ?_
            refine at_region ?_
            refine s1 (y_ixs k Tryd.underlying24 ti5 rfl rfl rfl rfl (by omega) rfl) rfl <| s1 (y_load ti5 rfl rfl (getO3 k (by simp; omega) rfl)) rfl <| s1 (y_p rfl) rfl <| ?_
            refine at_nil ?_
            refine x_tn ?_
            refine at_region ?_
            refine s1 (y_p rfl) rfl <| s1 ((y_shl rfl rfl (by decide)).v (congrArg (A.i .i64) (shl_byte _ hk3))) rfl <| s1 (y_p rfl) rfl <| s1 ((y_conv Tryd.underlying5 Tryd.underlying3 rfl).v (conv8J _)) rfl <| s1 ((y_bits rfl rfl (.inr (.inl rfl))).v (congrArg (A.i .i64) (or_byte _ _ hk3))) rfl <| s1 (y_p rfl) rfl <| ?_
            refine at_nil ?_
            refine x_bn ?_
            refine x_tn ?_
            refine at_region ?_
            refine s1 (addN _ 1 rfl rfl rfl rfl (by omega)) rfl <| s1 (y_p rfl) rfl <| ?_
            refine at_nil ?_
            exact at_end (k + 1) (by omega) (by omega) [(4, some 4), (13, some 13)] hI rfl rfl ⟨⟨_, rfl, .p rfl⟩, ⟨_, rfl, .pure pu⟩, ⟨_, rfl, .p rfl⟩, ⟨_, rfl, .pure pu⟩, ⟨_, rfl, .pure pu⟩, ⟨_, rfl, .pure pu⟩, ⟨_, rfl, .pure pu⟩, ⟨_, rfl, .pure pu⟩, ⟨_, rfl, .sl rfl (by first | rfl | omega | (simp; done) | (simp [*]; done) | (simp; omega) | (simp [*]; omega) | (simp [D32.len, -List.length_flatten, *]; done) | (simp [D32.len, -List.length_flatten, *]; omega))⟩, ⟨_, rfl, .pure pu⟩, ⟨_, rfl, .pure pu⟩, trivial⟩ ⟨.inr ⟨_, _, rfl, rfl, .pure pul⟩, .inr ⟨_, _, rfl, rfl, .pure pul⟩, trivial⟩
          · have h103 : k = 4 := by have := of_decide_eq_false hc103; omega
            subst h103
            refine at_exit ?_
            refine x_te ?_
            refine x_te ?_
            refine x_be ?_
            refine x_tn ?_
            refine at_seq ?_
            refine at_draw_tail 8 hmix (by kernel_rfl) ?_
            refine t1 (y_p rfl) rfl <| t1 (y_p rfl) rfl <| t1 (y_ixf i Tryd.underlying31 ti3 rfl rfl rfl (by omega) rfl) rfl <| t1 (y_load ti3 rfl rfl (bitL_get x l n q.toNat i h93)) rfl <| t1 (y_p rfl) rfl <| t1 (y_fld Tryd.underlying26 rfl ti3 (by decide) rfl rfl) rfl <| t1 (y_load ti3 rfl rfl rfl) rfl <| t1 (remN (numD (filD x l q.toNat) (4 * i) 4) n rfl rfl rfl rfl (by omega)) rfl <| ?_
            refine at_snil ?_
            refine s1 ((y_p rfl).v (v' := .b false) (congrArg A.b (by rw [bN_eq]; simp))) rfl <| ?_
            refine at_nil ?_
            refine x_tn ?_
            refine at_else rfl ?_
            refine at_skip ?_
            refine x_bn ?_
            refine x_tn ?_
            refine at_region ?_
            refine s1 (addN _ 1 rfl rfl rfl rfl (by omega)) rfl <| s1 (y_p rfl) rfl <| ?_
            refine at_nil ?_
            exact at_end (i + 1) (by omega) (by omega) [(4, some 4), (13, some 13)] hI rfl rfl ⟨⟨_, rfl, .p rfl⟩, ⟨_, rfl, .pure pu⟩, ⟨_, rfl, .p rfl⟩, ⟨_, rfl, .pure pu⟩, ⟨_, rfl, .pure pu⟩, ⟨_, rfl, .pure pu⟩, trivial⟩ ⟨.inr ⟨_, _, rfl, rfl, .pure pul⟩, .inr ⟨_, _, rfl, rfl, .pure pul⟩, trivial⟩
        · skip
          refine at_exit ?_
          refine x_te ?_
          refine x_te ?_
          refine x_be ?_
          refine x_tn ?_
          refine at_seq ?_
          refine at_region ?_
          refine s1 (y_p rfl) rfl <| ?_
          refine at_nil ?_
          refine x_tn ?_
          refine at_ret ?_
          refine at_result (rs := [.tmp 6]) rfl (r_tmp rfl r_nil) rfl

end Go.Abs.D2
