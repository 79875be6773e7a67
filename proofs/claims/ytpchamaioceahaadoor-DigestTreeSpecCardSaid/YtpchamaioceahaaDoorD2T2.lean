/-
  Layer 2: walks of the digest functions. Conditions: each theorem says its own.
-/
import Derived.Test.YtpchamaioceahaaDoorD2T1
namespace Go.Abs.D2
open Go Go.Eng Go.Abs Go.Proofs 

set_option linter.unusedSimpArgs false in
set_option maxHeartbeats 1000000 in
theorem trace_step (L : List (List UInt8)) (i : Nat) (hD : D32 L) (hi : i < L.length) (hl : L.length ≤ 1048576) (ih : ∀ (M : List (List UInt8)) (i : Nat), M.length < L.length → D32 M → i < M.length → Con Tryd.prog 34 [dgs M, .i .i64 (i : Nat)] (RetO 32 (path M i).length ((path M i).flatten.map u8))) : Con Tryd.prog 34 [dgs L, .i .i64 (i : Nat)] (RetO 32 (path L i).length ((path L i).flatten.map u8)) := by
  refine enter Tryd.func34 rfl Tryd.ntmps34 (by kernel_rfl) (Nat.le_of_ble_eq_true rfl) fun w0 X0 hI => ?_
  refine at_seq ?_
  refine at_region ?_
  refine s1 (y_p rfl) rfl <| ?_
  refine at_nil ?_
  refine x_tn ?_
  refine at_seq ?_
  refine at_seq ?_
  refine at_region ?_
  refine s1 (y_p rfl) rfl <| s1 (y_len Tryd.underlying30 rfl rfl rfl) rfl <| s1 (y_p rfl) rfl <| ?_
  refine at_nil ?_
  refine x_tn ?_
  refine at_cond rfl (fun hc8 => ?_) (fun hc8 => ?_)
  · have h8 : L.length = 1 := by have := of_decide_eq_true hc8; omega
    refine at_seq ?_
    refine at_region ?_
    refine s1 (y_p rfl) rfl <| ?_
    refine at_nil ?_
    refine x_tn ?_
    refine at_ret ?_
    refine x_tr ?_
    refine at_ph 99 rfl 4 32 rfl ?_
    refine at_result (rs := [.tmp 4]) rfl (r_tmp rfl r_nil) ⟨99, ?_, ?_⟩
    · rw [path_one i (by omega)]; rfl
    · rw [path_one i (by omega)]; rfl
  · have h8 : ¬ L.length = 1 := by have := of_decide_eq_false hc8; omega
    refine at_skip ?_
    refine x_tn ?_
    refine at_seq ?_
    refine at_region ?_
    refine s1 (y_p rfl) rfl <| s1 (y_len Tryd.underlying30 rfl rfl rfl) rfl <| ?_
    refine at_op rfl (n_call false rfl (.cons (.pure pu) (.nil)) (half_ok L.length (by omega) (by omega)) pu (.inl rfl) rfl ?_)
    refine s1 (y_p rfl) rfl <| ?_
    refine at_nil ?_
    refine x_tn ?_
    refine at_seq ?_
    refine at_seq ?_
    refine at_region ?_
    refine s1 (y_p rfl) rfl <| s1 (y_p rfl) rfl <| s1 (y_p rfl) rfl <| ?_
    refine at_nil ?_
    refine x_tn ?_
    refine at_cond rfl (fun hc14 => ?_) (fun hc14 => ?_)
    · have h14 : i < (halfN L.length) := by have := of_decide_eq_true hc14; omega
      have hh := halfN_lt (n := L.length) (by omega)
      have hpl := len_path L.length (L.take (halfN L.length)) i (by rw [List.length_take]; omega)
      refine at_seq ?_
      refine at_fs ⟨_, [], []⟩ 11 4 hmix (le_refl rfl) ?_
      refine fs_q 0 [] [] (y_p rfl) rfl rfl ?_
      refine fs_q 1 [] [] (y_p rfl) rfl rfl ?_
      refine fs_q 2 [0, 1] [] ((y_cutf (halfN L.length) Tryd.underlying30 ti26 rfl (by rw [List.length_map, hD.len]) bn (bs rfl rfl) (by omega) (by omega) rfl rfl).v (v' := dgs (L.take (halfN L.length))) (cut_take hD (by omega))) rfl rfl ?_
      refine fs_q 3 [] [] (y_p rfl) rfl rfl ?_
      refine fs_callO 19 false 4 [2, 3] [] gy0 rfl (.cons (.pure pu) (.cons (.pure pu) (.nil))) (ih (L.take (halfN L.length)) i (by rw [List.length_take]; omega) (hD.take _) (by rw [List.length_take]; omega)) pul (.inl rfl) rfl rfl ?_
      refine fs_q 5 [] [] (y_p rfl) rfl rfl ?_
      refine fs_q 6 [] [] (y_p rfl) rfl rfl ?_
      refine fs_q 7 [5, 6] [] ((y_cutf (L.length - (halfN L.length)) Tryd.underlying30 ti26 rfl (by rw [List.length_map, hD.len]) (bs rfl rfl) bn (by omega) (by omega) rfl rfl).v (v' := dgs (L.drop (halfN L.length))) (cut_drop hD rfl)) rfl rfl ?_
      refine fs_call false 8 [7] [] gy0 rfl (.cons (.pure pu) (.nil)) (tree_ok _ (L.drop (halfN L.length)) (Nat.le_refl _) (hD.drop _) (by rw [List.length_drop]; omega)) pu (.inl rfl) rfl rfl ?_
      refine fs_bs 24 9 [8] gy0 Tryd.underlying30 ti26 rfl rfl rfl (by first | (simp [cellsA]; done) | (simp [cellsA, *]; done)) (List.append_nil ((tree (L.drop (halfN L.length))).map u8)) rfl rfl rfl rfl ?_
      refine fs_app 25 10 [4, 9] [(19, some 4), (24, some 9)] gy0 Tryd.underlying30 ti26 rfl (.sl rfl (by rw [List.length_map, (D32_path _ (L.take (halfN L.length)) i (Nat.le_refl _)).len])) rfl (SM_full rfl (by first | rfl | omega | (simp; done) | (simp [*]; done) | (simp; omega) | (simp [*]; omega) | (simp [D32.len, -List.length_flatten, *]; done) | (simp [D32.len, -List.length_flatten, *]; omega))) (by simp [len_tree]) (by simp only [maxLen]; omega) (by omega) rfl rfl rfl rfl ?_
      refine fs_end (by kernel_rfl) ?_
      refine s1 (y_p rfl) rfl <| ?_
      refine at_nil ?_
      refine x_tn ?_
      refine at_ret ?_
      refine x_tr ?_
      refine at_result (rs := [.tmp 4]) rfl (r_tmp rfl r_nil) ⟨25, ?_, ?_⟩
      · rw [path_left (by omega) h14, List.length_append]; rfl
      · rw [path_left (by omega) h14]
        exact congrArg some (by simp)
    · have h14 : ¬ i < (halfN L.length) := by have := of_decide_eq_false hc14; omega
      have hh := halfN_lt (n := L.length) (by omega)
      have hpl := len_path L.length (L.drop (halfN L.length)) (i - (halfN L.length)) (by rw [List.length_drop]; omega)
      refine at_skip ?_
      refine x_tn ?_
      refine at_seq ?_
      refine at_fs ⟨_, [], []⟩ 13 4 hmix (le_refl rfl) ?_
      refine fs_q 0 [] [] (y_p rfl) rfl rfl ?_
      refine fs_q 1 [] [] (y_p rfl) rfl rfl ?_
      refine fs_q 2 [0, 1] [] ((y_cutf (L.length - (halfN L.length)) Tryd.underlying30 ti26 rfl (by rw [List.length_map, hD.len]) (bs rfl rfl) bn (by omega) (by omega) rfl rfl).v (v' := dgs (L.drop (halfN L.length))) (cut_drop hD rfl)) rfl rfl ?_
      refine fs_q 3 [] [] (y_p rfl) rfl rfl ?_
      refine fs_q 4 [] [] (y_p rfl) rfl rfl ?_
      refine fs_q 5 [3, 4] [] (subN i (halfN L.length) rfl rfl rfl rfl (by omega) (by omega)) rfl rfl ?_
      refine fs_callO 32 false 6 [2, 5] [] gy0 rfl (.cons (.pure pu) (.cons (.pure pu) (.nil))) (ih (L.drop (halfN L.length)) (i - (halfN L.length)) (by rw [List.length_drop]; omega) (hD.drop _) (by rw [List.length_drop]; omega)) pul (.inl rfl) rfl rfl ?_
      refine fs_q 7 [] [] (y_p rfl) rfl rfl ?_
      refine fs_q 8 [] [] (y_p rfl) rfl rfl ?_
      refine fs_q 9 [7, 8] [] ((y_cutf (halfN L.length) Tryd.underlying30 ti26 rfl (by rw [List.length_map, hD.len]) bn (bs rfl rfl) (by omega) (by omega) rfl rfl).v (v' := dgs (L.take (halfN L.length))) (cut_take hD (by omega))) rfl rfl ?_
      refine fs_call false 10 [9] [] gy0 rfl (.cons (.pure pu) (.nil)) (tree_ok _ (L.take (halfN L.length)) (Nat.le_refl _) (hD.take _) (by rw [List.length_take]; omega)) pu (.inl rfl) rfl rfl ?_
      refine fs_bs 37 11 [10] gy0 Tryd.underlying30 ti26 rfl rfl rfl (by first | (simp [cellsA]; done) | (simp [cellsA, *]; done)) (List.append_nil ((tree (L.take (halfN L.length))).map u8)) rfl rfl rfl rfl ?_
      refine fs_app 38 12 [6, 11] [(32, some 6), (37, some 11)] gy0 Tryd.underlying30 ti26 rfl (.sl rfl (by rw [List.length_map, (D32_path _ (L.drop (halfN L.length)) (i - (halfN L.length)) (Nat.le_refl _)).len])) rfl (SM_full rfl (by first | rfl | omega | (simp; done) | (simp [*]; done) | (simp; omega) | (simp [*]; omega) | (simp [D32.len, -List.length_flatten, *]; done) | (simp [D32.len, -List.length_flatten, *]; omega))) (by simp [len_tree]) (by simp only [maxLen]; omega) (by omega) rfl rfl rfl rfl ?_
      refine fs_end (by kernel_rfl) ?_
      refine s1 (y_p rfl) rfl <| ?_
      refine at_nil ?_
      refine x_tn ?_
      refine at_ret ?_
      refine at_result (rs := [.tmp 4]) rfl (r_tmp rfl r_nil) ⟨38, ?_, ?_⟩
      · rw [path_right (by omega) h14, List.length_append]; rfl
      · rw [path_right (by omega) h14]
        exact congrArg some (by simp)

theorem trace_ok : ∀ (n : Nat) (L : List (List UInt8)) (i : Nat), L.length ≤ n → D32 L → i < L.length → L.length ≤ 1048576 → Con Tryd.prog 34 [dgs L, .i .i64 (i : Nat)] (RetO 32 (path L i).length ((path L i).flatten.map u8))
  | 0, L, i, h, hD, hi, hl => absurd hi (by omega)
  | n + 1, L, i, h, hD, hi, hl => trace_step L i hD hi hl (fun M i hM hM2 hi => trace_ok n M i (by omega) hM2 hi (by omega))

set_option linter.unusedSimpArgs false in
set_option maxHeartbeats 1000000 in
theorem rpath_step (L : List (List UInt8)) (i : Nat) (hD : D32 L) (hi : i < L.length) (hl : L.length ≤ 1048576) (ih : ∀ (M : List (List UInt8)) (i : Nat), M.length < L.length → D32 M → i < M.length → Con Tryd.prog 35 [dgs M, .i .i64 (i : Nat)] (RetO 32 (path M i).length ((path M i).flatten.map u8))) : Con Tryd.prog 35 [dgs L, .i .i64 (i : Nat)] (RetO 32 (path L i).length ((path L i).flatten.map u8)) := by
  refine enter Tryd.func35 rfl Tryd.ntmps35 (by kernel_rfl) (Nat.le_of_ble_eq_true rfl) fun w0 X0 hI => ?_
  refine at_seq ?_
  refine at_region ?_
  refine s1 (y_p rfl) rfl <| ?_
  refine at_nil ?_
  refine x_tn ?_
  refine at_seq ?_
  refine at_seq ?_
  refine at_region ?_
  refine s1 (y_p rfl) rfl <| s1 (y_len Tryd.underlying30 rfl rfl rfl) rfl <| s1 (y_p rfl) rfl <| ?_
  refine at_nil ?_
  refine x_tn ?_
  refine at_cond rfl (fun hc8 => ?_) (fun hc8 => ?_)
  · have h8 : L.length = 1 := by have := of_decide_eq_true hc8; omega
    refine at_seq ?_
    refine at_region ?_
    refine at_op rfl (n_bs 9 rfl Tryd.underlying30 ti26 rfl rfl rfl (by first | (simp [cellsA]; done) | (simp [cellsA, *]; done)) rfl rfl rfl rfl ?_)
    refine s1 (y_p rfl) rfl <| ?_
    refine at_nil ?_
    refine x_tn ?_
    refine at_ret ?_
    refine x_tr ?_
    refine at_result (rs := [.tmp 4]) rfl (r_tmp rfl r_nil) ⟨9, ?_, ?_⟩
    · rw [path_one i (by omega)]; rfl
    · rw [path_one i (by omega)]; rfl
  · have h8 : ¬ L.length = 1 := by have := of_decide_eq_false hc8; omega
    refine at_skip ?_
    refine x_tn ?_
    refine at_seq ?_
    refine at_region ?_
    refine s1 (y_p rfl) rfl <| s1 (y_len Tryd.underlying30 rfl rfl rfl) rfl <| ?_
    refine at_op rfl (n_call false rfl (.cons (.pure pu) (.nil)) (rhalf_ok L.length (by omega) (by omega)) pu (.inl rfl) rfl ?_)
    refine s1 (y_p rfl) rfl <| ?_
    refine at_nil ?_
    refine x_tn ?_
    refine at_seq ?_
    refine at_seq ?_
    refine at_region ?_
    refine s1 (y_p rfl) rfl <| s1 (y_p rfl) rfl <| s1 (y_p rfl) rfl <| ?_
    refine at_nil ?_
    refine x_tn ?_
    refine at_cond rfl (fun hc15 => ?_) (fun hc15 => ?_)
    · have h14 : i < (halfN L.length) := by have := of_decide_eq_true hc15; omega
      have hh := halfN_lt (n := L.length) (by omega)
      have hpl := len_path L.length (L.take (halfN L.length)) i (by rw [List.length_take]; omega)
      refine at_seq ?_
      refine at_fs ⟨_, [], []⟩ 11 4 hmix (le_refl rfl) ?_
      refine fs_q 0 [] [] (y_p rfl) rfl rfl ?_
      refine fs_q 1 [] [] (y_p rfl) rfl rfl ?_
      refine fs_q 2 [0, 1] [] ((y_cutf (halfN L.length) Tryd.underlying30 ti26 rfl (by rw [List.length_map, hD.len]) bn (bs rfl rfl) (by omega) (by omega) rfl rfl).v (v' := dgs (L.take (halfN L.length))) (cut_take hD (by omega))) rfl rfl ?_
      refine fs_q 3 [] [] (y_p rfl) rfl rfl ?_
      refine fs_callO 20 false 4 [2, 3] [] gy0 rfl (.cons (.pure pu) (.cons (.pure pu) (.nil))) (ih (L.take (halfN L.length)) i (by rw [List.length_take]; omega) (hD.take _) (by rw [List.length_take]; omega)) pul (.inl rfl) rfl rfl ?_
      refine fs_q 5 [] [] (y_p rfl) rfl rfl ?_
      refine fs_q 6 [] [] (y_p rfl) rfl rfl ?_
      refine fs_q 7 [5, 6] [] ((y_cutf (L.length - (halfN L.length)) Tryd.underlying30 ti26 rfl (by rw [List.length_map, hD.len]) (bs rfl rfl) bn (by omega) (by omega) rfl rfl).v (v' := dgs (L.drop (halfN L.length))) (cut_drop hD rfl)) rfl rfl ?_
      refine fs_call false 8 [7] [] gy0 rfl (.cons (.pure pu) (.nil)) (rtree_ok _ (L.drop (halfN L.length)) (Nat.le_refl _) (hD.drop _) (by rw [List.length_drop]; omega)) pu (.inl rfl) rfl rfl ?_
      refine fs_bs 25 9 [8] gy0 Tryd.underlying30 ti26 rfl rfl rfl (by first | (simp [cellsA]; done) | (simp [cellsA, *]; done)) (List.append_nil ((tree (L.drop (halfN L.length))).map u8)) rfl rfl rfl rfl ?_
      refine fs_app 26 10 [4, 9] [(20, some 4), (25, some 9)] gy0 Tryd.underlying30 ti26 rfl (.sl rfl (by rw [List.length_map, (D32_path _ (L.take (halfN L.length)) i (Nat.le_refl _)).len])) rfl (SM_full rfl (by first | rfl | omega | (simp; done) | (simp [*]; done) | (simp; omega) | (simp [*]; omega) | (simp [D32.len, -List.length_flatten, *]; done) | (simp [D32.len, -List.length_flatten, *]; omega))) (by simp [len_tree]) (by simp only [maxLen]; omega) (by omega) rfl rfl rfl rfl ?_
      refine fs_end (by kernel_rfl) ?_
      refine s1 (y_p rfl) rfl <| ?_
      refine at_nil ?_
      refine x_tn ?_
      refine at_ret ?_
      refine x_tr ?_
      refine at_result (rs := [.tmp 4]) rfl (r_tmp rfl r_nil) ⟨26, ?_, ?_⟩
      · rw [path_left (by omega) h14, List.length_append]; rfl
      · rw [path_left (by omega) h14]
        exact congrArg some (by simp)
    · have h14 : ¬ i < (halfN L.length) := by have := of_decide_eq_false hc15; omega
      have hh := halfN_lt (n := L.length) (by omega)
      have hpl := len_path L.length (L.drop (halfN L.length)) (i - (halfN L.length)) (by rw [List.length_drop]; omega)
      refine at_skip ?_
      refine x_tn ?_
      refine at_seq ?_
      refine at_fs ⟨_, [], []⟩ 13 4 hmix (le_refl rfl) ?_
      refine fs_q 0 [] [] (y_p rfl) rfl rfl ?_
      refine fs_q 1 [] [] (y_p rfl) rfl rfl ?_
      refine fs_q 2 [0, 1] [] ((y_cutf (L.length - (halfN L.length)) Tryd.underlying30 ti26 rfl (by rw [List.length_map, hD.len]) (bs rfl rfl) bn (by omega) (by omega) rfl rfl).v (v' := dgs (L.drop (halfN L.length))) (cut_drop hD rfl)) rfl rfl ?_
      refine fs_q 3 [] [] (y_p rfl) rfl rfl ?_
      refine fs_q 4 [] [] (y_p rfl) rfl rfl ?_
      refine fs_q 5 [3, 4] [] (subN i (halfN L.length) rfl rfl rfl rfl (by omega) (by omega)) rfl rfl ?_
      refine fs_callO 33 false 6 [2, 5] [] gy0 rfl (.cons (.pure pu) (.cons (.pure pu) (.nil))) (ih (L.drop (halfN L.length)) (i - (halfN L.length)) (by rw [List.length_drop]; omega) (hD.drop _) (by rw [List.length_drop]; omega)) pul (.inl rfl) rfl rfl ?_
      refine fs_q 7 [] [] (y_p rfl) rfl rfl ?_
      refine fs_q 8 [] [] (y_p rfl) rfl rfl ?_
      refine fs_q 9 [7, 8] [] ((y_cutf (halfN L.length) Tryd.underlying30 ti26 rfl (by rw [List.length_map, hD.len]) bn (bs rfl rfl) (by omega) (by omega) rfl rfl).v (v' := dgs (L.take (halfN L.length))) (cut_take hD (by omega))) rfl rfl ?_
      refine fs_call false 10 [9] [] gy0 rfl (.cons (.pure pu) (.nil)) (rtree_ok _ (L.take (halfN L.length)) (Nat.le_refl _) (hD.take _) (by rw [List.length_take]; omega)) pu (.inl rfl) rfl rfl ?_
      refine fs_bs 38 11 [10] gy0 Tryd.underlying30 ti26 rfl rfl rfl (by first | (simp [cellsA]; done) | (simp [cellsA, *]; done)) (List.append_nil ((tree (L.take (halfN L.length))).map u8)) rfl rfl rfl rfl ?_
      refine fs_app 39 12 [6, 11] [(33, some 6), (38, some 11)] gy0 Tryd.underlying30 ti26 rfl (.sl rfl (by rw [List.length_map, (D32_path _ (L.drop (halfN L.length)) (i - (halfN L.length)) (Nat.le_refl _)).len])) rfl (SM_full rfl (by first | rfl | omega | (simp; done) | (simp [*]; done) | (simp; omega) | (simp [*]; omega) | (simp [D32.len, -List.length_flatten, *]; done) | (simp [D32.len, -List.length_flatten, *]; omega))) (by simp [len_tree]) (by simp only [maxLen]; omega) (by omega) rfl rfl rfl rfl ?_
      refine fs_end (by kernel_rfl) ?_
      refine s1 (y_p rfl) rfl <| ?_
      refine at_nil ?_
      refine x_tn ?_
      refine at_ret ?_
      refine at_result (rs := [.tmp 4]) rfl (r_tmp rfl r_nil) ⟨39, ?_, ?_⟩
      · rw [path_right (by omega) h14, List.length_append]; rfl
      · rw [path_right (by omega) h14]
        exact congrArg some (by simp)

theorem rpath_ok : ∀ (n : Nat) (L : List (List UInt8)) (i : Nat), L.length ≤ n → D32 L → i < L.length → L.length ≤ 1048576 → Con Tryd.prog 35 [dgs L, .i .i64 (i : Nat)] (RetO 32 (path L i).length ((path L i).flatten.map u8))
  | 0, L, i, h, hD, hi, hl => absurd hi (by omega)
  | n + 1, L, i, h, hD, hi, hl => rpath_step L i hD hi hl (fun M i hM hM2 hi => rpath_ok n M i (by omega) hM2 hi (by omega))

end Go.Abs.D2
