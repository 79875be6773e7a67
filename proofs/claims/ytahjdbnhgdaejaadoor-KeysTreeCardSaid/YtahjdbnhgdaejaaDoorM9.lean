/-
  The engine, the plain laws and the walks that the rows need, part 9. Conditions: none.
-/
import Derived.Test.YtahjdbnhgdaejaaDoorM8

/-! D2T1 -/
namespace Go.Abs.D2
open Go Go.Eng Go.Abs Go.Proofs 
set_option linter.unusedSimpArgs false in
set_option linter.unusedVariables false in
set_option maxHeartbeats 1000000 in
set_option maxRecDepth 10000 in
theorem rnode_ok (htag : ∀ (t b : List UInt8), t.length ≤ 1048576 → b.length ≤ 1048576 → Con Tryd.prog 41 [.s t, .fz b.length (b.map u8)] (Ret (.ag ((tagged t b).map u8)))) (a b : List UInt8) (ha : a.length = 32) (hb : b.length = 32) : Con Tryd.prog 68 [.ag (a.map u8), .ag (b.map u8)] (Ret (.ag ((tagged [110, 111, 100, 101] (a ++ b)).map u8))) := by
  refine enter Tryd.func68 rfl Tryd.ntmps68 (by kernel_rfl) (Nat.le_of_ble_eq_true rfl) fun w0 X0 hI => ?_
  refine at_seq ?_
  refine at_region ?_
  refine at_op rfl (n_boxA 2 rfl rfl rfl ?_)
  refine at_op rfl (n_boxA 3 rfl rfl rfl ?_)
  refine at_op rfl (n_alloc 4 rfl ti23 rfl rfl ?_)
  refine at_nil ?_
  refine x_tn ?_
  refine at_seq ?_
  refine at_fs ⟨_, [], []⟩ 6 4 hmix (le_refl rfl) ?_
  refine fs_bs1 5 0 [] gy0 Tryd.underlying65 ti5 rfl rfl rfl rfl rfl rfl ?_
  refine fs_q 1 [] [(2, none)] (y_cuta0 Tryd.underlying23 ti5 rfl rfl (by first | rfl | omega | (simp; done) | (simp [*]; done) | (simp; omega) | (simp [*]; omega) | (simp [D32.len, -List.length_flatten, *]; done) | (simp [D32.len, -List.length_flatten, *]; omega)) (by simp [maxLen])) rfl rfl ?_
  refine fs_app 7 2 [0, 1] [(2, none), (5, some 0)] gy0 Tryd.underlying65 ti5 rfl (.sl rfl (by first | rfl | omega | (simp; done) | (simp [*]; done) | (simp; omega) | (simp [*]; omega) | (simp [D32.len, -List.length_flatten, *]; done) | (simp [D32.len, -List.length_flatten, *]; omega))) rfl (SM_full rfl (by first | rfl | omega | (simp; done) | (simp [*]; done) | (simp; omega) | (simp [*]; omega) | (simp [D32.len, -List.length_flatten, *]; done) | (simp [D32.len, -List.length_flatten, *]; omega))) (by first | rfl | omega | (simp; done) | (simp [*]; done) | (simp; omega) | (simp [*]; omega) | (simp [D32.len, -List.length_flatten, *]; done) | (simp [D32.len, -List.length_flatten, *]; omega)) (by first | omega | (simp only [maxLen]; omega) | (simp [maxLen]; done) | (simp [maxLen]; omega) | (simp [maxLen, *]; omega)) (by first | omega | (simp only [maxLen]; omega) | (simp [maxLen]; done) | (simp [maxLen]; omega) | (simp [maxLen, *]; omega)) rfl rfl rfl rfl ?_
  refine fs_q 3 [] [(3, none)] (y_cuta0 Tryd.underlying23 ti5 rfl rfl (by first | rfl | omega | (simp; done) | (simp [*]; done) | (simp; omega) | (simp [*]; omega) | (simp [D32.len, -List.length_flatten, *]; done) | (simp [D32.len, -List.length_flatten, *]; omega)) (by simp [maxLen])) rfl rfl ?_
  refine fs_app 9 4 [2, 3] [(3, none), (7, some 2)] gy0 Tryd.underlying65 ti5 rfl (.sl rfl (by first | rfl | omega | (simp; done) | (simp [*]; done) | (simp; omega) | (simp [*]; omega) | (simp [D32.len, -List.length_flatten, *]; done) | (simp [D32.len, -List.length_flatten, *]; omega))) rfl (SM_full rfl (by first | rfl | omega | (simp; done) | (simp [*]; done) | (simp; omega) | (simp [*]; omega) | (simp [D32.len, -List.length_flatten, *]; done) | (simp [D32.len, -List.length_flatten, *]; omega))) (by first | rfl | omega | (simp; done) | (simp [*]; done) | (simp; omega) | (simp [*]; omega) | (simp [D32.len, -List.length_flatten, *]; done) | (simp [D32.len, -List.length_flatten, *]; omega)) (by first | omega | (simp only [maxLen]; omega) | (simp [maxLen]; done) | (simp [maxLen]; omega) | (simp [maxLen, *]; omega)) (by first | omega | (simp only [maxLen]; omega) | (simp [maxLen]; done) | (simp [maxLen]; omega) | (simp [maxLen, *]; omega)) rfl rfl rfl rfl ?_
  refine fs_call true 5 [4] [(9, some 4)] gy0 rfl (.cons (.pure pu) (.cons (.sl rfl rfl (by first | rfl | omega | (simp; done) | (simp [*]; done) | (simp; omega) | (simp [*]; omega) | (simp [D32.len, -List.length_flatten, *]; done) | (simp [D32.len, -List.length_flatten, *]; omega)) (view_eq (by first | rfl | omega | (simp; done) | (simp [*]; done) | (simp; omega) | (simp [*]; omega) | (simp [D32.len, -List.length_flatten, *]; done) | (simp [D32.len, -List.length_flatten, *]; omega)) (by first | rfl | (simp; done) | (simp [*]; done))) (VwL.pure pul) pul) (.nil))) (htag _ (a ++ b) (by simp) (by simp; omega)) pu (.inr fu) rfl rfl ?_
  refine fs_end (by kernel_rfl) ?_
  refine at_op rfl (n_storeA ti23 rfl rfl rfl (by first | rfl | omega | (simp; done) | (simp [*]; done) | (simp; omega) | (simp [*]; omega) | (simp [D32.len, -List.length_flatten, *]; done) | (simp [D32.len, -List.length_flatten, *]; omega)) (by first | rfl | omega | (simp; done) | (simp [*]; done) | (simp; omega) | (simp [*]; omega) | (simp [D32.len, -List.length_flatten, *]; done) | (simp [D32.len, -List.length_flatten, *]; omega)) ?_)
  refine at_nil ?_
  refine x_tn ?_
  refine at_ret ?_
  refine at_result (rs := [.cell 4 23]) rfl (r_cellA ti23 rfl rfl (List.take_of_length_le (by simp)) (by simp) r_nil) rfl
set_option linter.unusedSimpArgs false in
set_option linter.unusedVariables false in
set_option maxHeartbeats 1000000 in
set_option maxRecDepth 10000 in
theorem rhalf_ok (n : Nat) (h : 2 ≤ n) (hn : n ≤ 1099511627776) : Con Tryd.prog 67 [.i .i64 (n : Nat)] (Ret (.i .i64 (halfN n : Nat))) := by
  refine enter Tryd.func67 rfl Tryd.ntmps67 (by kernel_rfl) (Nat.le_of_ble_eq_true rfl) fun w0 X0 hI => ?_
  refine at_seq ?_
  refine at_region ?_
  refine s1 ((y_p rfl).v (v' := .i .i64 0) rfl) rfl <| ?_
  refine at_nil ?_
  refine x_tn ?_
  refine at_seq ?_
  refine at_region ?_
  refine s1 ((y_p rfl).v (v' := .i .i64 1) rfl) rfl <| ?_
  refine at_nil ?_
  refine x_tn ?_
  refine at_seq ?_
  refine at_block ?_
  refine at_loop (ι := Nat) (fun e => [(0, .i .i64 (n : Nat)), (3, .i .i64 (2 ^ e : Nat))]) (fun e => ⟨[]⟩) (fun e => 2 ^ e < n) (fun e => n - 2 ^ e) ?_ ?_
  · exact at_ex (0) (by omega) [] hI rfl rfl ⟨⟨_, rfl, .pure pu⟩, ⟨_, rfl, .of rfl (.pure pu)⟩, trivial⟩ trivial
  rintro e he
  have hpe := Nat.two_pow_pos e
  refine at_seq ?_
  refine at_seq ?_
  refine at_region ?_
  refine s1 (y_p rfl) rfl <| s1 (mulN 2 (2 ^ e) rfl rfl rfl rfl (by omega)) rfl <| s1 (y_p rfl) rfl <| s1 (y_p rfl) rfl <| ?_
  refine at_nil ?_
  refine x_tn ?_
  refine at_cond rfl (fun hc7 => ?_) (fun hc7 => ?_)
  · have h7 : 2 * 2 ^ e < n := by have := of_decide_eq_true hc7; omega
    refine at_skip ?_
    refine x_tn ?_
    refine at_block ?_
    refine at_region ?_
    refine s1 (y_p rfl) rfl <| s1 (mulN 2 (2 ^ e) rfl rfl rfl rfl (by omega)) rfl <| s1 (y_p rfl) rfl <| ?_
    refine at_nil ?_
    refine x_bn ?_
    exact at_end (e + 1) (by rw [Nat.pow_succ]; omega) (by rw [Nat.pow_succ]; omega) [] hI rfl rfl ⟨⟨_, rfl, .pure pu⟩, ⟨_, rfl, .of (congrArg (fun k : Nat => A.i .i64 (k : Int)) (by rw [Nat.pow_succ, Nat.mul_comm])) (.pure pu)⟩, trivial⟩ trivial
  · have h7 : ¬ 2 * 2 ^ e < n := by have := of_decide_eq_false hc7; omega
    refine at_exit ?_
    refine x_te ?_
    refine x_te ?_
    refine x_be ?_
    refine x_tn ?_
    refine at_seq ?_
    refine at_region ?_
    refine s1 (y_p rfl) rfl <| s1 (y_p rfl) rfl <| ?_
    refine at_nil ?_
    refine x_tn ?_
    refine at_ret ?_
    refine at_result (rs := [.tmp 2]) rfl (r_tmp rfl r_nil) ?_
    exact congrArg (fun k : Nat => A.i .i64 (k : Int)) (halfN_of e rfl he (by omega))
set_option linter.unusedSimpArgs false in
set_option linter.unusedVariables false in
set_option maxHeartbeats 1000000 in
set_option maxRecDepth 10000 in
theorem tree_step (L : List (List UInt8)) (hD : D32 L) (hl : L.length ≤ 1048576) (ih : ∀ M : List (List UInt8), M.length < L.length → D32 M → Con Tryd.prog 28 [dgs M] (Ret (.ag ((tree M).map u8)))) : Con Tryd.prog 28 [dgs L] (Ret (.ag ((tree L).map u8))) := by
  refine enter Tryd.func28 rfl Tryd.ntmps28 (by kernel_rfl) (Nat.le_of_ble_eq_true rfl) fun w0 X0 hI => ?_
  refine at_seq ?_
  refine at_region ?_
  refine at_op rfl (n_alloc 2 rfl ti23 rfl rfl ?_)
  refine at_nil ?_
  refine x_tn ?_
  refine at_seq ?_
  refine at_seq ?_
  refine at_region ?_
  refine s1 (y_p rfl) rfl <| s1 (y_len Tryd.underlying26 rfl rfl rfl) rfl <| ?_
  refine at_nil ?_
  refine x_tn ?_
  refine at_block ?_
  refine at_seq ?_
  refine at_region ?_
  refine s1 (y_p rfl) rfl <| s1 (y_p rfl) rfl <| ?_
  refine at_nil ?_
  refine x_tn ?_
  refine at_cond rfl (fun hc6 => ?_) (fun hc6 => ?_)
  · have h6 : L.length = 0 := by have := of_decide_eq_true hc6; omega
    obtain rfl := List.eq_nil_of_length_eq_zero h6
    refine at_seq ?_
    refine at_region ?_
    refine at_op rfl (n_call false rfl (.cons (.pure pu) (.cons .nl (.nil))) (tagged_ok _ [] (by simp) (by simp)) pu (.inl rfl) rfl ?_)
    refine at_op rfl (n_storeA ti23 rfl rfl rfl (by first | rfl | omega | (simp; done) | (simp [*]; done) | (simp; omega) | (simp [*]; omega) | (simp [D32.len, -List.length_flatten, *]; done) | (simp [D32.len, -List.length_flatten, *]; omega)) (by first | rfl | omega | (simp; done) | (simp [*]; done) | (simp; omega) | (simp [*]; omega) | (simp [D32.len, -List.length_flatten, *]; done) | (simp [D32.len, -List.length_flatten, *]; omega)) ?_)
    refine at_nil ?_
    refine x_tn ?_
    refine at_ret ?_
    refine x_br ?_
    refine x_tr ?_
    refine at_result (rs := [.cell 2 23]) rfl (r_cellA ti23 rfl rfl (List.take_of_length_le (by simp [len_tree])) (by simp [len_tree]) r_nil) ?_
    rw [tree_nil]
    rfl
  · have h6 : ¬ L.length = 0 := by have := of_decide_eq_false hc6; omega
    refine at_seq ?_
    refine at_region ?_
    refine s1 (y_p rfl) rfl <| s1 (y_p rfl) rfl <| ?_
    refine at_nil ?_
    refine x_tn ?_
    refine at_cond rfl (fun hc9 => ?_) (fun hc9 => ?_)
    · have h9 : L.length = 1 := by have := of_decide_eq_true hc9; omega
      obtain ⟨x, rfl⟩ := List.length_eq_one_iff.1 h9
      have hx := hD x (.head _)
      refine at_seq ?_
      refine at_region ?_
      refine s1 (y_p rfl) rfl <| s1 (y_ixf 0 Tryd.underlying26 ti23 rfl rfl rfl (by simp) rfl) rfl <| s1 ((y_cutfa 32 Tryd.underlying23 ti5 rfl (by simp [maxLen]) bn bn (Nat.zero_le _) (Nat.le_refl _) (by simp) rfl rfl).v (cut_one hx)) rfl <| ?_
      refine at_op rfl (n_call false rfl (.cons (.pure pu) (.cons (.pure pu) (.nil))) (tagged_ok _ x (by omega) (by simp)) pu (.inl rfl) rfl ?_)
      refine at_op rfl (n_storeA ti23 rfl rfl rfl (by first | rfl | omega | (simp; done) | (simp [*]; done) | (simp; omega) | (simp [*]; omega) | (simp [D32.len, -List.length_flatten, *]; done) | (simp [D32.len, -List.length_flatten, *]; omega)) (by first | rfl | omega | (simp; done) | (simp [*]; done) | (simp; omega) | (simp [*]; omega) | (simp [D32.len, -List.length_flatten, *]; done) | (simp [D32.len, -List.length_flatten, *]; omega)) ?_)
      refine at_nil ?_
      refine x_tn ?_
      refine at_ret ?_
      refine x_br ?_
      refine x_tr ?_
      refine at_result (rs := [.cell 2 23]) rfl (r_cellA ti23 rfl rfl (List.take_of_length_le (by simp [len_tree])) (by simp [len_tree]) r_nil) ?_
      rw [tree_one]
      rfl
    · have h9 : ¬ L.length = 1 := by have := of_decide_eq_false hc9; omega
      refine at_skip ?_
      refine x_bn ?_
      refine x_tn ?_
      refine at_seq ?_
      refine at_region ?_
      refine s1 (y_p rfl) rfl <| s1 (y_len Tryd.underlying26 rfl rfl rfl) rfl <| ?_
      refine at_op rfl (n_call false rfl (.cons (.pure pu) (.nil)) (half_ok L.length (by omega) (by omega)) pu (.inl rfl) rfl ?_)
      refine s1 (y_p rfl) rfl <| ?_
      refine at_nil ?_
      refine x_tn ?_
      refine at_seq ?_
      refine at_fs ⟨_, [], []⟩ 9 4 hmix (le_refl rfl) ?_
      have hh := halfN_lt (n := L.length) (by omega)
      refine fs_q 0 [] [] (y_p rfl) rfl rfl ?_
      refine fs_q 1 [] [] (y_p rfl) rfl rfl ?_
      refine fs_q 2 [0, 1] [] ((y_cutf (halfN L.length) Tryd.underlying26 ti23 rfl (by rw [List.length_map, hD.len]) bn (bs rfl rfl) (by omega) (by omega) rfl rfl).v (v' := dgs (L.take (halfN L.length))) (cut_take hD (by omega))) rfl rfl ?_
      refine fs_call false 3 [2] [] gy0 rfl (.cons (.pure pu) (.nil)) (ih (L.take (halfN L.length)) (by rw [List.length_take]; omega) (hD.take _)) pu (.inl rfl) rfl rfl ?_
      refine fs_q 4 [] [] (y_p rfl) rfl rfl ?_
      refine fs_q 5 [] [] (y_p rfl) rfl rfl ?_
      refine fs_q 6 [4, 5] [] ((y_cutf (L.length - halfN L.length) Tryd.underlying26 ti23 rfl (by rw [List.length_map, hD.len]) (bs rfl rfl) bn (by omega) (by omega) rfl rfl).v (v' := dgs (L.drop (halfN L.length))) (cut_drop hD rfl)) rfl rfl ?_
      refine fs_call false 7 [6] [] gy0 rfl (.cons (.pure pu) (.nil)) (ih (L.drop (halfN L.length)) (by rw [List.length_drop]; omega) (hD.drop _)) pu (.inl rfl) rfl rfl ?_
      refine fs_call false 8 [3, 7] [] gy0 rfl (.cons (.pure pu) (.cons (.pure pu) (.nil))) (node_ok (fun t b h1 h2 => tagged_ok t b (by omega) (by omega)) _ _ (len_tree _) (len_tree _)) pu (.inl rfl) rfl rfl ?_
      refine fs_end (by kernel_rfl) ?_
      refine at_op rfl (n_storeA ti23 rfl rfl rfl (by first | rfl | omega | (simp; done) | (simp [*]; done) | (simp; omega) | (simp [*]; omega) | (simp [D32.len, -List.length_flatten, *]; done) | (simp [D32.len, -List.length_flatten, *]; omega)) (by first | rfl | omega | (simp; done) | (simp [*]; done) | (simp; omega) | (simp [*]; omega) | (simp [D32.len, -List.length_flatten, *]; done) | (simp [D32.len, -List.length_flatten, *]; omega)) ?_)
      refine at_nil ?_
      refine x_tn ?_
      refine at_ret ?_
      refine at_result (rs := [.cell 2 23]) rfl (r_cellA ti23 rfl rfl (List.take_of_length_le (by simp [len_tree])) (by simp [len_tree]) r_nil) ?_
      rw [tree_two (L := L) (by omega)]
      rfl
theorem tree_ok : ∀ (n : Nat) (L : List (List UInt8)), L.length ≤ n → D32 L → L.length ≤ 1048576 → Con Tryd.prog 28 [dgs L] (Ret (.ag ((tree L).map u8)))
  | 0, L, h, hD, hl => tree_step L hD hl (fun M hM => absurd hM (by omega))
  | n + 1, L, h, hD, hl => tree_step L hD hl (fun M hM hM2 => tree_ok n M (by omega) hM2 (by omega))
set_option linter.unusedSimpArgs false in
set_option linter.unusedVariables false in
set_option maxHeartbeats 1000000 in
set_option maxRecDepth 10000 in
theorem rtree_step (L : List (List UInt8)) (hD : D32 L) (hl : L.length ≤ 1048576) (ih : ∀ M : List (List UInt8), M.length < L.length → D32 M → Con Tryd.prog 33 [dgs M] (Ret (.ag ((tree M).map u8)))) : Con Tryd.prog 33 [dgs L] (Ret (.ag ((tree L).map u8))) := by
  refine enter Tryd.func33 rfl Tryd.ntmps33 (by kernel_rfl) (Nat.le_of_ble_eq_true rfl) fun w0 X0 hI => ?_
  refine at_seq ?_
  refine at_region ?_
  refine at_op rfl (n_alloc 2 rfl ti23 rfl rfl ?_)
  refine at_nil ?_
  refine x_tn ?_
  refine at_seq ?_
  refine at_seq ?_
  refine at_region ?_
  refine s1 (y_p rfl) rfl <| s1 (y_len Tryd.underlying26 rfl rfl rfl) rfl <| s1 (y_p rfl) rfl <| ?_
  refine at_nil ?_
  refine x_tn ?_
  refine at_cond rfl (fun hc6 => ?_) (fun hc6 => ?_)
  · have h6 : L.length = 0 := by have := of_decide_eq_true hc6; omega
    obtain rfl := List.eq_nil_of_length_eq_zero h6
    refine at_seq ?_
    refine at_region ?_
    refine at_op rfl (n_call false rfl (.cons (.pure pu) (.cons .nl (.nil))) (rtagged_ok _ [] (by simp) (by simp)) pu (.inl rfl) rfl ?_)
    refine at_op rfl (n_storeA ti23 rfl rfl rfl (by first | rfl | omega | (simp; done) | (simp [*]; done) | (simp; omega) | (simp [*]; omega) | (simp [D32.len, -List.length_flatten, *]; done) | (simp [D32.len, -List.length_flatten, *]; omega)) (by first | rfl | omega | (simp; done) | (simp [*]; done) | (simp; omega) | (simp [*]; omega) | (simp [D32.len, -List.length_flatten, *]; done) | (simp [D32.len, -List.length_flatten, *]; omega)) ?_)
    refine at_nil ?_
    refine x_tn ?_
    refine at_ret ?_
    refine x_tr ?_
    refine at_result (rs := [.cell 2 23]) rfl (r_cellA ti23 rfl rfl (List.take_of_length_le (by simp [len_tree])) (by simp [len_tree]) r_nil) ?_
    rw [tree_nil]
    rfl
  · have h6 : ¬ L.length = 0 := by have := of_decide_eq_false hc6; omega
    refine at_skip ?_
    refine x_tn ?_
    refine at_seq ?_
    refine at_seq ?_
    refine at_region ?_
    refine s1 (y_p rfl) rfl <| s1 (y_len Tryd.underlying26 rfl rfl rfl) rfl <| s1 (y_p rfl) rfl <| ?_
    refine at_nil ?_
    refine x_tn ?_
    refine at_cond rfl (fun hc10 => ?_) (fun hc10 => ?_)
    · have h9 : L.length = 1 := by have := of_decide_eq_true hc10; omega
      obtain ⟨x, rfl⟩ := List.length_eq_one_iff.1 h9
      have hx := hD x (.head _)
      refine at_seq ?_
      refine at_region ?_
      refine s1 (y_p rfl) rfl <| s1 (y_ixf 0 Tryd.underlying26 ti23 rfl rfl rfl (by simp) rfl) rfl <| s1 ((y_cutfa 32 Tryd.underlying23 ti5 rfl (by simp [maxLen]) bn bn (Nat.zero_le _) (Nat.le_refl _) (by simp) rfl rfl).v (cut_one hx)) rfl <| ?_
      refine at_op rfl (n_call false rfl (.cons (.pure pu) (.cons (.pure pu) (.nil))) (rtagged_ok _ x (by omega) (by simp)) pu (.inl rfl) rfl ?_)
      refine at_op rfl (n_storeA ti23 rfl rfl rfl (by first | rfl | omega | (simp; done) | (simp [*]; done) | (simp; omega) | (simp [*]; omega) | (simp [D32.len, -List.length_flatten, *]; done) | (simp [D32.len, -List.length_flatten, *]; omega)) (by first | rfl | omega | (simp; done) | (simp [*]; done) | (simp; omega) | (simp [*]; omega) | (simp [D32.len, -List.length_flatten, *]; done) | (simp [D32.len, -List.length_flatten, *]; omega)) ?_)
      refine at_nil ?_
      refine x_tn ?_
      refine at_ret ?_
      refine x_tr ?_
      refine at_result (rs := [.cell 2 23]) rfl (r_cellA ti23 rfl rfl (List.take_of_length_le (by simp [len_tree])) (by simp [len_tree]) r_nil) ?_
      rw [tree_one]
      rfl
    · have h9 : ¬ L.length = 1 := by have := of_decide_eq_false hc10; omega
      refine at_skip ?_
      refine x_tn ?_
      refine at_seq ?_
      refine at_region ?_
      refine s1 (y_p rfl) rfl <| s1 (y_len Tryd.underlying26 rfl rfl rfl) rfl <| ?_
      refine at_op rfl (n_call false rfl (.cons (.pure pu) (.nil)) (rhalf_ok L.length (by omega) (by omega)) pu (.inl rfl) rfl ?_)
      refine s1 (y_p rfl) rfl <| ?_
      refine at_nil ?_
      refine x_tn ?_
      refine at_seq ?_
      refine at_fs ⟨_, [], []⟩ 9 4 hmix (le_refl rfl) ?_
      have hh := halfN_lt (n := L.length) (by omega)
      refine fs_q 0 [] [] (y_p rfl) rfl rfl ?_
      refine fs_q 1 [] [] (y_p rfl) rfl rfl ?_
      refine fs_q 2 [0, 1] [] ((y_cutf (halfN L.length) Tryd.underlying26 ti23 rfl (by rw [List.length_map, hD.len]) bn (bs rfl rfl) (by omega) (by omega) rfl rfl).v (v' := dgs (L.take (halfN L.length))) (cut_take hD (by omega))) rfl rfl ?_
      refine fs_call false 3 [2] [] gy0 rfl (.cons (.pure pu) (.nil)) (ih (L.take (halfN L.length)) (by rw [List.length_take]; omega) (hD.take _)) pu (.inl rfl) rfl rfl ?_
      refine fs_q 4 [] [] (y_p rfl) rfl rfl ?_
      refine fs_q 5 [] [] (y_p rfl) rfl rfl ?_
      refine fs_q 6 [4, 5] [] ((y_cutf (L.length - halfN L.length) Tryd.underlying26 ti23 rfl (by rw [List.length_map, hD.len]) (bs rfl rfl) bn (by omega) (by omega) rfl rfl).v (v' := dgs (L.drop (halfN L.length))) (cut_drop hD rfl)) rfl rfl ?_
      refine fs_call false 7 [6] [] gy0 rfl (.cons (.pure pu) (.nil)) (ih (L.drop (halfN L.length)) (by rw [List.length_drop]; omega) (hD.drop _)) pu (.inl rfl) rfl rfl ?_
      refine fs_call false 8 [3, 7] [] gy0 rfl (.cons (.pure pu) (.cons (.pure pu) (.nil))) (rnode_ok (fun t b h1 h2 => rtagged_ok t b (by omega) (by omega)) _ _ (len_tree _) (len_tree _)) pu (.inl rfl) rfl rfl ?_
      refine fs_end (by kernel_rfl) ?_
      refine at_op rfl (n_storeA ti23 rfl rfl rfl (by first | rfl | omega | (simp; done) | (simp [*]; done) | (simp; omega) | (simp [*]; omega) | (simp [D32.len, -List.length_flatten, *]; done) | (simp [D32.len, -List.length_flatten, *]; omega)) (by first | rfl | omega | (simp; done) | (simp [*]; done) | (simp; omega) | (simp [*]; omega) | (simp [D32.len, -List.length_flatten, *]; done) | (simp [D32.len, -List.length_flatten, *]; omega)) ?_)
      refine at_nil ?_
      refine x_tn ?_
      refine at_ret ?_
      refine at_result (rs := [.cell 2 23]) rfl (r_cellA ti23 rfl rfl (List.take_of_length_le (by simp [len_tree])) (by simp [len_tree]) r_nil) ?_
      rw [tree_two (L := L) (by omega)]
      rfl
theorem rtree_ok : ∀ (n : Nat) (L : List (List UInt8)), L.length ≤ n → D32 L → L.length ≤ 1048576 → Con Tryd.prog 33 [dgs L] (Ret (.ag ((tree L).map u8)))
  | 0, L, h, hD, hl => rtree_step L hD hl (fun M hM => absurd hM (by omega))
  | n + 1, L, h, hD, hl => rtree_step L hD hl (fun M hM hM2 => rtree_ok n M (by omega) hM2 (by omega))
end Go.Abs.D2

/-! D2T2 -/
namespace Go.Abs.D2
open Go Go.Eng Go.Abs Go.Proofs 
set_option linter.unusedSimpArgs false in
set_option linter.unusedVariables false in
set_option maxHeartbeats 1000000 in
set_option maxRecDepth 10000 in
theorem trace_step (L : List (List UInt8)) (i : Nat) (hD : D32 L) (hi : i < L.length) (hl : L.length ≤ 1048576) (ih : ∀ (M : List (List UInt8)) (i : Nat), M.length < L.length → D32 M → i < M.length → Con Tryd.prog 86 [dgs M, .i .i64 (i : Nat)] (RetO 32 (path M i).length ((path M i).flatten.map u8))) : Con Tryd.prog 86 [dgs L, .i .i64 (i : Nat)] (RetO 32 (path L i).length ((path L i).flatten.map u8)) := by
  refine enter Tryd.func86 rfl Tryd.ntmps86 (by kernel_rfl) (Nat.le_of_ble_eq_true rfl) fun w0 X0 hI => ?_
  refine at_seq ?_
  refine at_region ?_
  refine s1 (y_p rfl) rfl <| ?_
  refine at_nil ?_
  refine x_tn ?_
  refine at_seq ?_
  refine at_seq ?_
  refine at_region ?_
  refine s1 (y_p rfl) rfl <| s1 (y_len Tryd.underlying26 rfl rfl rfl) rfl <| s1 (y_p rfl) rfl <| ?_
  refine at_nil ?_
  refine x_tn ?_
  refine at_cond rfl (fun hc8 => ?_) (fun hc8 => ?_)
  · have h8 : L.length = 1 := by have := of_decide_eq_true hc8; omega
    refine at_seq ?_
    refine at_region ?_
    refine s1 (y_p rfl) rfl <| ?_
    refine at_nil ?_
    refine x_tn ?_
    refine at_ret ?_
    refine x_tr ?_
    refine at_ph 99 rfl 4 32 rfl ?_
    refine at_result (rs := [.tmp 4]) rfl (r_tmp rfl r_nil) ⟨99, ?_, ?_⟩
    · rw [path_one i (by omega)]; rfl
    · rw [path_one i (by omega)]; rfl
  · have h8 : ¬ L.length = 1 := by have := of_decide_eq_false hc8; omega
    refine at_skip ?_
    refine x_tn ?_
    refine at_seq ?_
    refine at_region ?_
    refine s1 (y_p rfl) rfl <| s1 (y_len Tryd.underlying26 rfl rfl rfl) rfl <| ?_
    refine at_op rfl (n_call false rfl (.cons (.pure pu) (.nil)) (half_ok L.length (by omega) (by omega)) pu (.inl rfl) rfl ?_)
    refine s1 (y_p rfl) rfl <| ?_
    refine at_nil ?_
    refine x_tn ?_
    refine at_seq ?_
    refine at_seq ?_
    refine at_region ?_
    refine s1 (y_p rfl) rfl <| s1 (y_p rfl) rfl <| s1 (y_p rfl) rfl <| ?_
    refine at_nil ?_
    refine x_tn ?_
    refine at_cond rfl (fun hc14 => ?_) (fun hc14 => ?_)
    · have h14 : i < (halfN L.length) := by have := of_decide_eq_true hc14; omega
      have hh := halfN_lt (n := L.length) (by omega)
      have hpl := len_path L.length (L.take (halfN L.length)) i (by rw [List.length_take]; omega)
      refine at_seq ?_
      refine at_fs ⟨_, [], []⟩ 11 4 hmix (le_refl rfl) ?_
      refine fs_q 0 [] [] (y_p rfl) rfl rfl ?_
      refine fs_q 1 [] [] (y_p rfl) rfl rfl ?_
      refine fs_q 2 [0, 1] [] ((y_cutf (halfN L.length) Tryd.underlying26 ti23 rfl (by rw [List.length_map, hD.len]) bn (bs rfl rfl) (by omega) (by omega) rfl rfl).v (v' := dgs (L.take (halfN L.length))) (cut_take hD (by omega))) rfl rfl ?_
      refine fs_q 3 [] [] (y_p rfl) rfl rfl ?_
      refine fs_callO 19 false 4 [2, 3] [] gy0 rfl (.cons (.pure pu) (.cons (.pure pu) (.nil))) (ih (L.take (halfN L.length)) i (by rw [List.length_take]; omega) (hD.take _) (by rw [List.length_take]; omega)) pul (.inl rfl) rfl rfl ?_
      refine fs_q 5 [] [] (y_p rfl) rfl rfl ?_
      refine fs_q 6 [] [] (y_p rfl) rfl rfl ?_
      refine fs_q 7 [5, 6] [] ((y_cutf (L.length - (halfN L.length)) Tryd.underlying26 ti23 rfl (by rw [List.length_map, hD.len]) (bs rfl rfl) bn (by omega) (by omega) rfl rfl).v (v' := dgs (L.drop (halfN L.length))) (cut_drop hD rfl)) rfl rfl ?_
      refine fs_call false 8 [7] [] gy0 rfl (.cons (.pure pu) (.nil)) (tree_ok _ (L.drop (halfN L.length)) (Nat.le_refl _) (hD.drop _) (by rw [List.length_drop]; omega)) pu (.inl rfl) rfl rfl ?_
      refine fs_bs 24 9 [8] gy0 Tryd.underlying26 ti23 rfl rfl rfl (by first | (simp [cellsA]; done) | (simp [cellsA, *]; done)) (List.append_nil ((tree (L.drop (halfN L.length))).map u8)) rfl rfl rfl rfl ?_
      refine fs_app 25 10 [4, 9] [(19, some 4), (24, some 9)] gy0 Tryd.underlying26 ti23 rfl (.sl rfl (by rw [List.length_map, (D32_path _ (L.take (halfN L.length)) i (Nat.le_refl _)).len])) rfl (SM_full rfl (by first | rfl | omega | (simp; done) | (simp [*]; done) | (simp; omega) | (simp [*]; omega) | (simp [D32.len, -List.length_flatten, *]; done) | (simp [D32.len, -List.length_flatten, *]; omega))) (by simp [len_tree]) (by simp only [maxLen]; omega) (by omega) rfl rfl rfl rfl ?_
      refine fs_end (by kernel_rfl) ?_
      refine s1 (y_p rfl) rfl <| ?_
      refine at_nil ?_
      refine x_tn ?_
      refine at_ret ?_
      refine x_tr ?_
      refine at_result (rs := [.tmp 4]) rfl (r_tmp rfl r_nil) ⟨25, ?_, ?_⟩
      · rw [path_left (by omega) h14, List.length_append]; rfl
      · rw [path_left (by omega) h14]
        exact congrArg some (by simp)
    · have h14 : ¬ i < (halfN L.length) := by have := of_decide_eq_false hc14; omega
      have hh := halfN_lt (n := L.length) (by omega)
      have hpl := len_path L.length (L.drop (halfN L.length)) (i - (halfN L.length)) (by rw [List.length_drop]; omega)
      refine at_skip ?_
      refine x_tn ?_
      refine at_seq ?_
      refine at_fs ⟨_, [], []⟩ 13 4 hmix (le_refl rfl) ?_
      refine fs_q 0 [] [] (y_p rfl) rfl rfl ?_
      refine fs_q 1 [] [] (y_p rfl) rfl rfl ?_
      refine fs_q 2 [0, 1] [] ((y_cutf (L.length - (halfN L.length)) Tryd.underlying26 ti23 rfl (by rw [List.length_map, hD.len]) (bs rfl rfl) bn (by omega) (by omega) rfl rfl).v (v' := dgs (L.drop (halfN L.length))) (cut_drop hD rfl)) rfl rfl ?_
      refine fs_q 3 [] [] (y_p rfl) rfl rfl ?_
      refine fs_q 4 [] [] (y_p rfl) rfl rfl ?_
      refine fs_q 5 [3, 4] [] (subN i (halfN L.length) rfl rfl rfl rfl (by omega) (by omega)) rfl rfl ?_
      refine fs_callO 32 false 6 [2, 5] [] gy0 rfl (.cons (.pure pu) (.cons (.pure pu) (.nil))) (ih (L.drop (halfN L.length)) (i - (halfN L.length)) (by rw [List.length_drop]; omega) (hD.drop _) (by rw [List.length_drop]; omega)) pul (.inl rfl) rfl rfl ?_
      refine fs_q 7 [] [] (y_p rfl) rfl rfl ?_
      refine fs_q 8 [] [] (y_p rfl) rfl rfl ?_
      refine fs_q 9 [7, 8] [] ((y_cutf (halfN L.length) Tryd.underlying26 ti23 rfl (by rw [List.length_map, hD.len]) bn (bs rfl rfl) (by omega) (by omega) rfl rfl).v (v' := dgs (L.take (halfN L.length))) (cut_take hD (by omega))) rfl rfl ?_
      refine fs_call false 10 [9] [] gy0 rfl (.cons (.pure pu) (.nil)) (tree_ok _ (L.take (halfN L.length)) (Nat.le_refl _) (hD.take _) (by rw [List.length_take]; omega)) pu (.inl rfl) rfl rfl ?_
      refine fs_bs 37 11 [10] gy0 Tryd.underlying26 ti23 rfl rfl rfl (by first | (simp [cellsA]; done) | (simp [cellsA, *]; done)) (List.append_nil ((tree (L.take (halfN L.length))).map u8)) rfl rfl rfl rfl ?_
      refine fs_app 38 12 [6, 11] [(32, some 6), (37, some 11)] gy0 Tryd.underlying26 ti23 rfl (.sl rfl (by rw [List.length_map, (D32_path _ (L.drop (halfN L.length)) (i - (halfN L.length)) (Nat.le_refl _)).len])) rfl (SM_full rfl (by first | rfl | omega | (simp; done) | (simp [*]; done) | (simp; omega) | (simp [*]; omega) | (simp [D32.len, -List.length_flatten, *]; done) | (simp [D32.len, -List.length_flatten, *]; omega))) (by simp [len_tree]) (by simp only [maxLen]; omega) (by omega) rfl rfl rfl rfl ?_
      refine fs_end (by kernel_rfl) ?_
      refine s1 (y_p rfl) rfl <| ?_
      refine at_nil ?_
      refine x_tn ?_
      refine at_ret ?_
      refine at_result (rs := [.tmp 4]) rfl (r_tmp rfl r_nil) ⟨38, ?_, ?_⟩
      · rw [path_right (by omega) h14, List.length_append]; rfl
      · rw [path_right (by omega) h14]
        exact congrArg some (by simp)
theorem trace_ok : ∀ (n : Nat) (L : List (List UInt8)) (i : Nat), L.length ≤ n → D32 L → i < L.length → L.length ≤ 1048576 → Con Tryd.prog 86 [dgs L, .i .i64 (i : Nat)] (RetO 32 (path L i).length ((path L i).flatten.map u8))
  | 0, L, i, h, hD, hi, hl => absurd hi (by omega)
  | n + 1, L, i, h, hD, hi, hl => trace_step L i hD hi hl (fun M i hM hM2 hi => trace_ok n M i (by omega) hM2 hi (by omega))
set_option linter.unusedSimpArgs false in
set_option linter.unusedVariables false in
set_option maxHeartbeats 1000000 in
set_option maxRecDepth 10000 in
theorem rpath_step (L : List (List UInt8)) (i : Nat) (hD : D32 L) (hi : i < L.length) (hl : L.length ≤ 1048576) (ih : ∀ (M : List (List UInt8)) (i : Nat), M.length < L.length → D32 M → i < M.length → Con Tryd.prog 73 [dgs M, .i .i64 (i : Nat)] (RetO 32 (path M i).length ((path M i).flatten.map u8))) : Con Tryd.prog 73 [dgs L, .i .i64 (i : Nat)] (RetO 32 (path L i).length ((path L i).flatten.map u8)) := by
  refine enter Tryd.func73 rfl Tryd.ntmps73 (by kernel_rfl) (Nat.le_of_ble_eq_true rfl) fun w0 X0 hI => ?_
  refine at_seq ?_
  refine at_region ?_
  refine s1 (y_p rfl) rfl <| ?_
  refine at_nil ?_
  refine x_tn ?_
  refine at_seq ?_
  refine at_seq ?_
  refine at_region ?_
  refine s1 (y_p rfl) rfl <| s1 (y_len Tryd.underlying26 rfl rfl rfl) rfl <| s1 (y_p rfl) rfl <| ?_
  refine at_nil ?_
  refine x_tn ?_
  refine at_cond rfl (fun hc8 => ?_) (fun hc8 => ?_)
  · have h8 : L.length = 1 := by have := of_decide_eq_true hc8; omega
    refine at_seq ?_
    refine at_region ?_
    refine at_op rfl (n_bs 9 rfl Tryd.underlying26 ti23 rfl rfl rfl (by first | (simp [cellsA]; done) | (simp [cellsA, *]; done)) rfl rfl rfl rfl ?_)
    refine s1 (y_p rfl) rfl <| ?_
    refine at_nil ?_
    refine x_tn ?_
    refine at_ret ?_
    refine x_tr ?_
    refine at_result (rs := [.tmp 4]) rfl (r_tmp rfl r_nil) ⟨9, ?_, ?_⟩
    · rw [path_one i (by omega)]; rfl
    · rw [path_one i (by omega)]; rfl
  · have h8 : ¬ L.length = 1 := by have := of_decide_eq_false hc8; omega
    refine at_skip ?_
    refine x_tn ?_
    refine at_seq ?_
    refine at_region ?_
    refine s1 (y_p rfl) rfl <| s1 (y_len Tryd.underlying26 rfl rfl rfl) rfl <| ?_
    refine at_op rfl (n_call false rfl (.cons (.pure pu) (.nil)) (rhalf_ok L.length (by omega) (by omega)) pu (.inl rfl) rfl ?_)
    refine s1 (y_p rfl) rfl <| ?_
    refine at_nil ?_
    refine x_tn ?_
    refine at_seq ?_
    refine at_seq ?_
    refine at_region ?_
    refine s1 (y_p rfl) rfl <| s1 (y_p rfl) rfl <| s1 (y_p rfl) rfl <| ?_
    refine at_nil ?_
    refine x_tn ?_
    refine at_cond rfl (fun hc15 => ?_) (fun hc15 => ?_)
    · have h14 : i < (halfN L.length) := by have := of_decide_eq_true hc15; omega
      have hh := halfN_lt (n := L.length) (by omega)
      have hpl := len_path L.length (L.take (halfN L.length)) i (by rw [List.length_take]; omega)
      refine at_seq ?_
      refine at_fs ⟨_, [], []⟩ 11 4 hmix (le_refl rfl) ?_
      refine fs_q 0 [] [] (y_p rfl) rfl rfl ?_
      refine fs_q 1 [] [] (y_p rfl) rfl rfl ?_
      refine fs_q 2 [0, 1] [] ((y_cutf (halfN L.length) Tryd.underlying26 ti23 rfl (by rw [List.length_map, hD.len]) bn (bs rfl rfl) (by omega) (by omega) rfl rfl).v (v' := dgs (L.take (halfN L.length))) (cut_take hD (by omega))) rfl rfl ?_
      refine fs_q 3 [] [] (y_p rfl) rfl rfl ?_
      refine fs_callO 20 false 4 [2, 3] [] gy0 rfl (.cons (.pure pu) (.cons (.pure pu) (.nil))) (ih (L.take (halfN L.length)) i (by rw [List.length_take]; omega) (hD.take _) (by rw [List.length_take]; omega)) pul (.inl rfl) rfl rfl ?_
      refine fs_q 5 [] [] (y_p rfl) rfl rfl ?_
      refine fs_q 6 [] [] (y_p rfl) rfl rfl ?_
      refine fs_q 7 [5, 6] [] ((y_cutf (L.length - (halfN L.length)) Tryd.underlying26 ti23 rfl (by rw [List.length_map, hD.len]) (bs rfl rfl) bn (by omega) (by omega) rfl rfl).v (v' := dgs (L.drop (halfN L.length))) (cut_drop hD rfl)) rfl rfl ?_
      refine fs_call false 8 [7] [] gy0 rfl (.cons (.pure pu) (.nil)) (rtree_ok _ (L.drop (halfN L.length)) (Nat.le_refl _) (hD.drop _) (by rw [List.length_drop]; omega)) pu (.inl rfl) rfl rfl ?_
      refine fs_bs 25 9 [8] gy0 Tryd.underlying26 ti23 rfl rfl rfl (by first | (simp [cellsA]; done) | (simp [cellsA, *]; done)) (List.append_nil ((tree (L.drop (halfN L.length))).map u8)) rfl rfl rfl rfl ?_
      refine fs_app 26 10 [4, 9] [(20, some 4), (25, some 9)] gy0 Tryd.underlying26 ti23 rfl (.sl rfl (by rw [List.length_map, (D32_path _ (L.take (halfN L.length)) i (Nat.le_refl _)).len])) rfl (SM_full rfl (by first | rfl | omega | (simp; done) | (simp [*]; done) | (simp; omega) | (simp [*]; omega) | (simp [D32.len, -List.length_flatten, *]; done) | (simp [D32.len, -List.length_flatten, *]; omega))) (by simp [len_tree]) (by simp only [maxLen]; omega) (by omega) rfl rfl rfl rfl ?_
      refine fs_end (by kernel_rfl) ?_
      refine s1 (y_p rfl) rfl <| ?_
      refine at_nil ?_
      refine x_tn ?_
      refine at_ret ?_
      refine x_tr ?_
      refine at_result (rs := [.tmp 4]) rfl (r_tmp rfl r_nil) ⟨26, ?_, ?_⟩
      · rw [path_left (by omega) h14, List.length_append]; rfl
      · rw [path_left (by omega) h14]
        exact congrArg some (by simp)
    · have h14 : ¬ i < (halfN L.length) := by have := of_decide_eq_false hc15; omega
      have hh := halfN_lt (n := L.length) (by omega)
      have hpl := len_path L.length (L.drop (halfN L.length)) (i - (halfN L.length)) (by rw [List.length_drop]; omega)
      refine at_skip ?_
      refine x_tn ?_
      refine at_seq ?_
      refine at_fs ⟨_, [], []⟩ 13 4 hmix (le_refl rfl) ?_
      refine fs_q 0 [] [] (y_p rfl) rfl rfl ?_
      refine fs_q 1 [] [] (y_p rfl) rfl rfl ?_
      refine fs_q 2 [0, 1] [] ((y_cutf (L.length - (halfN L.length)) Tryd.underlying26 ti23 rfl (by rw [List.length_map, hD.len]) (bs rfl rfl) bn (by omega) (by omega) rfl rfl).v (v' := dgs (L.drop (halfN L.length))) (cut_drop hD rfl)) rfl rfl ?_
      refine fs_q 3 [] [] (y_p rfl) rfl rfl ?_
      refine fs_q 4 [] [] (y_p rfl) rfl rfl ?_
      refine fs_q 5 [3, 4] [] (subN i (halfN L.length) rfl rfl rfl rfl (by omega) (by omega)) rfl rfl ?_
      refine fs_callO 33 false 6 [2, 5] [] gy0 rfl (.cons (.pure pu) (.cons (.pure pu) (.nil))) (ih (L.drop (halfN L.length)) (i - (halfN L.length)) (by rw [List.length_drop]; omega) (hD.drop _) (by rw [List.length_drop]; omega)) pul (.inl rfl) rfl rfl ?_
      refine fs_q 7 [] [] (y_p rfl) rfl rfl ?_
      refine fs_q 8 [] [] (y_p rfl) rfl rfl ?_
      refine fs_q 9 [7, 8] [] ((y_cutf (halfN L.length) Tryd.underlying26 ti23 rfl (by rw [List.length_map, hD.len]) bn (bs rfl rfl) (by omega) (by omega) rfl rfl).v (v' := dgs (L.take (halfN L.length))) (cut_take hD (by omega))) rfl rfl ?_
      refine fs_call false 10 [9] [] gy0 rfl (.cons (.pure pu) (.nil)) (rtree_ok _ (L.take (halfN L.length)) (Nat.le_refl _) (hD.take _) (by rw [List.length_take]; omega)) pu (.inl rfl) rfl rfl ?_
      refine fs_bs 38 11 [10] gy0 Tryd.underlying26 ti23 rfl rfl rfl (by first | (simp [cellsA]; done) | (simp [cellsA, *]; done)) (List.append_nil ((tree (L.take (halfN L.length))).map u8)) rfl rfl rfl rfl ?_
      refine fs_app 39 12 [6, 11] [(33, some 6), (38, some 11)] gy0 Tryd.underlying26 ti23 rfl (.sl rfl (by rw [List.length_map, (D32_path _ (L.drop (halfN L.length)) (i - (halfN L.length)) (Nat.le_refl _)).len])) rfl (SM_full rfl (by first | rfl | omega | (simp; done) | (simp [*]; done) | (simp; omega) | (simp [*]; omega) | (simp [D32.len, -List.length_flatten, *]; done) | (simp [D32.len, -List.length_flatten, *]; omega))) (by simp [len_tree]) (by simp only [maxLen]; omega) (by omega) rfl rfl rfl rfl ?_
      refine fs_end (by kernel_rfl) ?_
      refine s1 (y_p rfl) rfl <| ?_
      refine at_nil ?_
      refine x_tn ?_
      refine at_ret ?_
      refine at_result (rs := [.tmp 4]) rfl (r_tmp rfl r_nil) ⟨39, ?_, ?_⟩
      · rw [path_right (by omega) h14, List.length_append]; rfl
      · rw [path_right (by omega) h14]
        exact congrArg some (by simp)
theorem rpath_ok : ∀ (n : Nat) (L : List (List UInt8)) (i : Nat), L.length ≤ n → D32 L → i < L.length → L.length ≤ 1048576 → Con Tryd.prog 73 [dgs L, .i .i64 (i : Nat)] (RetO 32 (path L i).length ((path L i).flatten.map u8))
  | 0, L, i, h, hD, hi, hl => absurd hi (by omega)
  | n + 1, L, i, h, hD, hi, hl => rpath_step L i hD hi hl (fun M i hM hM2 hi => rpath_ok n M i (by omega) hM2 hi (by omega))
end Go.Abs.D2

/-! D2U -/
namespace Go.Abs.D2
open Go Go.Eng Go.Abs
/-- Whether each step from the root goes to the right half. -/
def rightsF : Nat → Nat → Nat → List Bool
  | 0, _, _ => []
  | f + 1, i, n => if n ≤ 1 then [] else if i < halfN n then false :: rightsF f i (halfN n) else true :: rightsF f (i - halfN n) (n - halfN n)
theorem rightsF_more : ∀ (f g i n : Nat), n ≤ f → n ≤ g → rightsF f i n = rightsF g i n
  | 0, 0, _, _, _, _ => rfl
  | 0, g + 1, i, n, h, _ => by rw [rightsF, rightsF, if_pos (by omega)]
  | f + 1, 0, i, n, _, h => by rw [rightsF, rightsF, if_pos (by omega)]
  | f + 1, g + 1, i, n, h1, h2 => by
    rw [rightsF, rightsF]
    by_cases h : n ≤ 1
    · rw [if_pos h, if_pos h]
    · have hh := halfN_lt (n := n) (by omega)
      rw [if_neg h, if_neg h, rightsF_more f g i (halfN n) (by omega) (by omega), rightsF_more f g _ (n - halfN n) (by omega) (by omega)]
@[irreducible] def rights (i n : Nat) : List Bool := rightsF n i n
theorem rights_one {i n : Nat} (h : n ≤ 1) : rights i n = [] := by
  unfold rights
  match n, h with
  | 0, _ => rfl
  | 1, _ => rfl
theorem rights_left {i n : Nat} (h : 2 ≤ n) (hi : i < halfN n) : rights i n = false :: rights i (halfN n) := by
  have hh := halfN_lt h
  unfold rights
  obtain ⟨f, rfl⟩ : ∃ f, n = f + 1 := ⟨n - 1, by omega⟩
  rw [rightsF, if_neg (by omega), if_pos hi, rightsF_more f _ _ _ (by omega) (Nat.le_refl _)]
theorem rights_right {i n : Nat} (h : 2 ≤ n) (hi : ¬ i < halfN n) : rights i n = true :: rights (i - halfN n) (n - halfN n) := by
  have hh := halfN_lt h
  unfold rights
  obtain ⟨f, rfl⟩ : ∃ f, n = f + 1 := ⟨n - 1, by omega⟩
  rw [rightsF, if_neg (by omega), if_neg hi, rightsF_more f _ _ _ (by omega) (Nat.le_refl _)]
theorem rights_le : ∀ (f i n : Nat), n ≤ f → (rights i n).length ≤ f
  | 0, i, n, h => by rw [rights_one (by omega)]; simp
  | f + 1, i, n, h => by
    by_cases h1 : n ≤ 1
    · rw [rights_one h1]; simp
    · have hh := halfN_lt (n := n) (by omega)
      by_cases hi : i < halfN n
      · rw [rights_left (by omega) hi]; have := rights_le f i (halfN n) (by omega); simp; omega
      · rw [rights_right (by omega) hi]; have := rights_le f (i - halfN n) (n - halfN n) (by omega); simp; omega
theorem rights_pos {i n : Nat} (h : 2 ≤ n) : 1 ≤ (rights i n).length := by
  by_cases hi : i < halfN n
  · rw [rights_left h hi]; simp
  · rw [rights_right h hi]; simp
/-- The steps of a path, from the element up. -/
def fold : List Bool → List (List UInt8) → List UInt8 → List UInt8
  | b :: bs, q :: ps, x => fold bs ps (if b then nodeD q x else nodeD x q)
  | _, _, x => x
theorem fold_snoc : ∀ (bs : List Bool) (ps : List (List UInt8)) (b : Bool) (q x : List UInt8), bs.length = ps.length → fold (bs ++ [b]) (ps ++ [q]) x = if b then nodeD q (fold bs ps x) else nodeD (fold bs ps x) q
  | [], [], b, q, x, _ => by simp [fold]
  | c :: bs, r :: ps, b, q, x, h => by
    simp only [List.cons_append, fold]
    exact fold_snoc bs ps b q _ (by simpa using h)
def leafD (d : List UInt8) : List UInt8 := tagged [108, 101, 97, 102] d
/-- Climbing. -/
def climb (d : List UInt8) (i n : Nat) (p : List (List UInt8)) : List UInt8 := fold (rights i n).reverse p (leafD d)
theorem climb_one {d : List UInt8} {i n : Nat} {p : List (List UInt8)} (h : n ≤ 1) : climb d i n p = leafD d := by
  unfold climb; rw [rights_one h]; simp [fold]
theorem climb_left {d q : List UInt8} {i n : Nat} {p : List (List UInt8)} (h : 2 ≤ n) (hi : i < halfN n) (hl : p.length = (rights i (halfN n)).length) : climb d i n (p ++ [q]) = nodeD (climb d i (halfN n) p) q := by
  unfold climb
  rw [rights_left h hi, List.reverse_cons, fold_snoc _ _ _ _ _ (by simpa using hl.symm)]
  rfl
theorem climb_right {d q : List UInt8} {i n : Nat} {p : List (List UInt8)} (h : 2 ≤ n) (hi : ¬ i < halfN n) (hl : p.length = (rights (i - halfN n) (n - halfN n)).length) : climb d i n (p ++ [q]) = nodeD q (climb d (i - halfN n) (n - halfN n) p) := by
  unfold climb
  rw [rights_right h hi, List.reverse_cons, fold_snoc _ _ _ _ _ (by simpa using hl.symm)]
  rfl
theorem len_fold : ∀ (bs : List Bool) (ps : List (List UInt8)) (x : List UInt8), x.length = 32 → (fold bs ps x).length = 32
  | [], _, x, h => by simpa only [fold] using h
  | _ :: _, [], x, h => by simpa only [fold] using h
  | b :: bs, q :: ps, x, h => by
    simp only [fold]
    exact len_fold bs ps _ (by split <;> exact len_tagged _ _)
@[simp] theorem len_climb (d : List UInt8) (i n : Nat) (p : List (List UInt8)) : (climb d i n p).length = 32 := len_fold _ _ _ (len_tagged _ _)
/-- When a climb is one. -/
def fits (a n : Int) (m : Nat) : Prop := 1 ≤ n ∧ n ≤ 1099511627776 ∧ 0 ≤ a ∧ a < n ∧ m = (rights a.toNat n.toNat).length
instance (a n : Int) (m : Nat) : Decidable (fits a n m) := by unfold fits; infer_instance
def climbA (d : List UInt8) (a n : Int) (p : List (List UInt8)) : A := if fits a n p.length then .tu [.ag ((climb d a.toNat n.toNat p).map u8), .i .i64 0] else .tu [.ag ((List.replicate 32 (0 : UInt8)).map u8), .i .i64 1]
/-- A path, or none. -/
def pathA (L : List (List UInt8)) (a : Int) : A := if 0 ≤ a ∧ a < L.length then .tu [dgs (path L a.toNat), .i .i64 0] else .tu [.nl, .i .i64 1]
theorem rights_path : ∀ (f : Nat) (L : List (List UInt8)) (i : Nat), L.length ≤ f → (path L i).length = (rights i L.length).length
  | 0, L, i, h => by rw [path_one i (by omega), rights_one (by omega)]; rfl
  | f + 1, L, i, h => by
    by_cases h1 : L.length ≤ 1
    · rw [path_one i h1, rights_one h1]; rfl
    · have hh := halfN_lt (n := L.length) (by omega)
      by_cases hi : i < halfN L.length
      · rw [path_left (by omega) hi, rights_left (by omega) hi, List.length_append, rights_path f _ _ (by rw [List.length_take]; omega), List.length_take, Nat.min_eq_left (by omega)]; rfl
      · rw [path_right (by omega) hi, rights_right (by omega) hi, List.length_append, rights_path f _ _ (by rw [List.length_drop]; omega), List.length_drop]; rfl
/-- Climbing the path of an element leads to the digest of the list. -/
theorem climb_path : ∀ (f : Nat) (L : List (List UInt8)) (i : Nat) (d : List UInt8), L.length ≤ f → L[i]? = some d → climb d i L.length (path L i) = tree L
  | 0, L, i, d, h, hd => by
    have := (List.getElem?_eq_some_iff.1 hd).1; omega
  | f + 1, L, i, d, h, hd => by
    have hlt := (List.getElem?_eq_some_iff.1 hd).1
    by_cases h1 : L.length ≤ 1
    · obtain ⟨x, rfl⟩ := List.length_eq_one_iff.1 (show L.length = 1 by omega)
      have : i = 0 := by simp at hlt; omega
      subst this
      simp only [List.getElem?_cons_zero, Option.some.injEq] at hd
      subst hd
      rw [climb_one (by simp), tree_one]; rfl
    · have hh := halfN_lt (n := L.length) (by omega)
      by_cases hi : i < halfN L.length
      · have hT : (L.take (halfN L.length)).length = halfN L.length := by rw [List.length_take]; omega
        have ih := climb_path f (L.take (halfN L.length)) i d (by omega) (by rw [List.getElem?_take, if_pos hi]; exact hd)
        have hr := rights_path f (L.take (halfN L.length)) i (by omega)
        rw [hT] at ih hr
        rw [path_left (by omega) hi, climb_left (by omega) hi hr, ih, tree_two (L := L) (by omega)]
      · have hT : (L.drop (halfN L.length)).length = L.length - halfN L.length := by rw [List.length_drop]
        have ih := climb_path f (L.drop (halfN L.length)) (i - halfN L.length) d (by omega) (by rw [List.getElem?_drop, show halfN L.length + (i - halfN L.length) = i by omega]; exact hd)
        have hr := rights_path f (L.drop (halfN L.length)) (i - halfN L.length) (by omega)
        rw [hT] at ih hr
        rw [path_right (by omega) hi, climb_right (by omega) hi hr, ih, tree_two (L := L) (by omega)]
theorem cut_init {p : List (List UInt8)} {q : List UInt8} (h : D32 (p ++ [q])) : A.fz p.length ((((p ++ [q]).flatten.map u8).drop (0 * 32)).take (p.length * 32)) = dgs p := by
  rw [cut_take h (by simp), List.take_left]
theorem get_d {P : List (List UInt8)} (h : D32 P) {i : Nat} {q : List UInt8} (hq : P[i]? = some q) : ((P.flatten.map u8).drop (i * 32)).take 32 = q.map u8 := by
  have hlt := (List.getElem?_eq_some_iff.1 hq).1
  rw [← List.map_drop, h.drop_flat, ← List.map_take]
  congr 1
  rw [List.drop_eq_getElem_cons hlt, List.flatten_cons, List.take_left' (h _ (List.getElem_mem hlt))]
  exact (List.getElem?_eq_some_iff.1 hq).2
theorem fold_take {bs : List Bool} {ps : List (List UInt8)} {x q : List UInt8} {b : Bool} {j : Nat} (hb : bs[j]? = some b) (hq : ps[j]? = some q) : fold (bs.take (j + 1)) (ps.take (j + 1)) x = if b then nodeD q (fold (bs.take j) (ps.take j) x) else nodeD (fold (bs.take j) (ps.take j) x) q := by
  have h1 := (List.getElem?_eq_some_iff.1 hb).1
  have h2 := (List.getElem?_eq_some_iff.1 hq).1
  rw [List.take_add_one, List.take_add_one, hb, hq]
  exact fold_snoc _ _ _ _ _ (by simp; omega)
theorem get_b {ds : List Bool} {j : Nat} {b : Bool} (hb : ds[j]? = some b) : ((ds.map A.b).drop (0 + j * 1))[0]? = some (.b b) := by
  rw [List.getElem?_drop, List.getElem?_map, show 0 + j * 1 + 0 = j by omega, hb]; rfl
theorem init_last {P : List (List UInt8)} (h : P ≠ []) : ∃ p q, P = p ++ [q] := ⟨P.dropLast, P.getLast h, (List.dropLast_concat_getLast h).symm⟩
end Go.Abs.D2

/-! D2T3 -/
namespace Go.Abs.D2
open Go Go.Eng Go.Abs Go.Proofs 
set_option linter.unusedSimpArgs false in
set_option linter.unusedVariables false in
set_option maxHeartbeats 1000000 in
set_option maxRecDepth 10000 in
theorem pathI_ok (L : List (List UInt8)) (a : Int) (hD : D32 L) (hl : L.length ≤ 1048576) : Con Tryd.prog 70 [dgs L, .i .i64 a] (Ret (pathA L a)) := by
  refine enter Tryd.func70 rfl Tryd.ntmps70 (by kernel_rfl) (Nat.le_of_ble_eq_true rfl) fun w0 X0 hI => ?_
  refine at_seq ?_
  refine at_region ?_
  refine s1 (y_p rfl) rfl <| s1 ((y_p rfl).v (v' := .i .i64 0) rfl) rfl <| ?_
  refine at_nil ?_
  refine x_tn ?_
  refine at_seq ?_
  refine at_seq ?_
  refine at_region ?_
  refine s1 (y_p rfl) rfl <| s1 (y_p rfl) rfl <| s1 (y_p rfl) rfl <| ?_
  refine g_or 4 rfl rfl rfl rfl (fun hb8 => .step (y_p rfl) rfl rfl <| .step (y_p rfl) rfl rfl <| .step (y_len Tryd.underlying26 rfl rfl rfl) rfl rfl <| .step (y_p rfl) rfl rfl <| .done) rfl rfl ?_
  refine at_nil ?_
  refine x_tn ?_
  refine at_cond rfl (fun hc13 => ?_) (fun hc13 => ?_)
  · have h13 : ¬ (0 ≤ a ∧ a < L.length) := by simp at hc13; omega
    refine at_seq ?_
    refine at_region ?_
    refine s1 (y_p rfl) rfl <| s1 ((y_p rfl).v (v' := .i .i64 1) rfl) rfl <| ?_
    refine at_nil ?_
    refine x_tn ?_
    refine at_ret ?_
    refine x_tr ?_
    refine at_result (rs := [.tmp 4, .tmp 5]) rfl (r_tmp rfl (r_tmp rfl r_nil)) ?_
    rw [pathA, if_neg h13]
    rfl
  · have h13 : 0 ≤ a ∧ a < L.length := by simp at hc13; omega
    obtain ⟨i, rfl⟩ : ∃ i : Nat, a = (i : Int) := ⟨a.toNat, by omega⟩
    refine at_skip ?_
    refine x_tn ?_
    refine at_seq ?_
    refine at_region ?_
    refine s1 (y_p rfl) rfl <| s1 (y_p rfl) rfl <| ?_
    refine at_op rfl (n_callO 16 rfl false rfl (.cons (.pure pu) (.cons (.pure pu) (.nil))) (trace_ok _ L i (Nat.le_refl _) hD (by omega) hl) pul (.inl rfl) rfl ?_)
    refine s1 (y_p rfl) rfl <| s1 ((y_p rfl).v (v' := .i .i64 0) rfl) rfl <| ?_
    refine at_nil ?_
    refine x_tn ?_
    refine at_ret ?_
    refine at_frz 4 rfl rfl pul (view_eq (by rw [List.length_map, (D32_path _ L i (Nat.le_refl _)).len]) rfl) ?_
    refine at_result (rs := [.tmp 4, .tmp 5]) rfl (r_tmp rfl (r_tmp rfl r_nil)) ?_
    rw [pathA, if_pos h13, Int.toNat_natCast]
    rfl
set_option linter.unusedSimpArgs false in
set_option linter.unusedVariables false in
set_option maxHeartbeats 1000000 in
set_option maxRecDepth 10000 in
theorem rpathI_ok (L : List (List UInt8)) (a : Int) (hD : D32 L) (hl : L.length ≤ 1048576) : Con Tryd.prog 38 [dgs L, .i .i64 a] (Ret (pathA L a)) := by
  refine enter Tryd.func38 rfl Tryd.ntmps38 (by kernel_rfl) (Nat.le_of_ble_eq_true rfl) fun w0 X0 hI => ?_
  refine at_seq ?_
  refine at_region ?_
  refine s1 (y_p rfl) rfl <| s1 ((y_p rfl).v (v' := .i .i64 0) rfl) rfl <| ?_
  refine at_nil ?_
  refine x_tn ?_
  refine at_seq ?_
  refine at_seq ?_
  refine at_region ?_
  refine s1 (y_p rfl) rfl <| s1 (y_p rfl) rfl <| s1 (y_p rfl) rfl <| ?_
  refine g_or 4 rfl rfl rfl rfl (fun hb8 => .step (y_p rfl) rfl rfl <| .step (y_p rfl) rfl rfl <| .step (y_len Tryd.underlying26 rfl rfl rfl) rfl rfl <| .step (y_p rfl) rfl rfl <| .done) rfl rfl ?_
  refine at_nil ?_
  refine x_tn ?_
  refine at_cond rfl (fun hc13 => ?_) (fun hc13 => ?_)
  · have h13 : ¬ (0 ≤ a ∧ a < L.length) := by simp at hc13; omega
    refine at_seq ?_
    refine at_region ?_
    refine s1 (y_p rfl) rfl <| s1 ((y_p rfl).v (v' := .i .i64 1) rfl) rfl <| ?_
    refine at_nil ?_
    refine x_tn ?_
    refine at_ret ?_
    refine x_tr ?_
    refine at_result (rs := [.tmp 4, .tmp 5]) rfl (r_tmp rfl (r_tmp rfl r_nil)) ?_
    rw [pathA, if_neg h13]
    rfl
  · have h13 : 0 ≤ a ∧ a < L.length := by simp at hc13; omega
    obtain ⟨i, rfl⟩ : ∃ i : Nat, a = (i : Int) := ⟨a.toNat, by omega⟩
    refine at_skip ?_
    refine x_tn ?_
    refine at_seq ?_
    refine at_region ?_
    refine s1 (y_p rfl) rfl <| s1 (y_p rfl) rfl <| ?_
    refine at_op rfl (n_callO 16 rfl false rfl (.cons (.pure pu) (.cons (.pure pu) (.nil))) (rpath_ok _ L i (Nat.le_refl _) hD (by omega) hl) pul (.inl rfl) rfl ?_)
    refine s1 (y_p rfl) rfl <| s1 ((y_p rfl).v (v' := .i .i64 0) rfl) rfl <| ?_
    refine at_nil ?_
    refine x_tn ?_
    refine at_ret ?_
    refine at_frz 4 rfl rfl pul (view_eq (by rw [List.length_map, (D32_path _ L i (Nat.le_refl _)).len]) rfl) ?_
    refine at_result (rs := [.tmp 4, .tmp 5]) rfl (r_tmp rfl (r_tmp rfl r_nil)) ?_
    rw [pathA, if_pos h13, Int.toNat_natCast]
    rfl
set_option linter.unusedSimpArgs false in
set_option linter.unusedVariables false in
set_option maxHeartbeats 1000000 in
set_option maxRecDepth 10000 in
theorem length_step (i n : Nat) (h1 : 1 ≤ n) (hi : i < n) (hn : n ≤ 1099511627776) (ih : ∀ i m : Nat, m < n → 1 ≤ m → i < m → Con Tryd.prog 79 [.i .i64 (i : Nat), .i .i64 (m : Nat)] (Ret (.i .i64 ((rights i m).length : Nat)))) : Con Tryd.prog 79 [.i .i64 (i : Nat), .i .i64 (n : Nat)] (Ret (.i .i64 ((rights i n).length : Nat))) := by
  refine enter Tryd.func79 rfl Tryd.ntmps79 (by kernel_rfl) (Nat.le_of_ble_eq_true rfl) fun w0 X0 hI => ?_
  refine at_seq ?_
  refine at_region ?_
  refine s1 ((y_p rfl).v (v' := .i .i64 0) rfl) rfl <| ?_
  refine at_nil ?_
  refine x_tn ?_
  refine at_seq ?_
  refine at_seq ?_
  refine at_region ?_
  refine s1 (y_p rfl) rfl <| s1 (y_p rfl) rfl <| ?_
  refine at_nil ?_
  refine x_tn ?_
  refine at_cond rfl (fun hc7 => ?_) (fun hc7 => ?_)
  · have h7 : n = 1 := by have := of_decide_eq_true hc7; omega
    refine at_seq ?_
    refine at_region ?_
    refine s1 ((y_p rfl).v (v' := .i .i64 0) rfl) rfl <| ?_
    refine at_nil ?_
    refine x_tn ?_
    refine at_ret ?_
    refine x_tr ?_
    refine at_result (rs := [.tmp 4]) rfl (r_tmp rfl r_nil) ?_
    exact congrArg (fun k : Nat => A.i .i64 (k : Int)) (by rw [rights_one (by omega)]; rfl)
  · have h7 : ¬ n = 1 := by have := of_decide_eq_false hc7; omega
    have hh := halfN_lt (n := n) (by omega)
    refine at_skip ?_
    refine x_tn ?_
    refine at_seq ?_
    refine at_region ?_
    refine s1 (y_p rfl) rfl <| ?_
    refine at_op rfl (n_call false rfl (.cons (.pure pu) (.nil)) (rhalf_ok n (by omega) hn) pu (.inl rfl) rfl ?_)
    refine s1 (y_p rfl) rfl <| ?_
    refine at_nil ?_
    refine x_tn ?_
    refine at_seq ?_
    refine at_seq ?_
    refine at_region ?_
    refine s1 (y_p rfl) rfl <| s1 (y_p rfl) rfl <| s1 (y_p rfl) rfl <| ?_
    refine at_nil ?_
    refine x_tn ?_
    refine at_cond rfl (fun hc12 => ?_) (fun hc12 => ?_)
    · have h12 : i < halfN n := by have := of_decide_eq_true hc12; omega
      have hr := rights_le _ i (halfN n) (Nat.le_refl _)
      refine at_seq ?_
      refine at_region ?_
      refine s1 (y_p rfl) rfl <| s1 (y_p rfl) rfl <| ?_
      refine at_op rfl (n_call false rfl (.cons (.pure pu) (.cons (.pure pu) (.nil))) (ih i (halfN n) (by omega) (by omega) (by omega)) pu (.inl rfl) rfl ?_)
      refine s1 (addN 1 _ rfl rfl rfl rfl (by omega)) rfl <| s1 (y_p rfl) rfl <| ?_
      refine at_nil ?_
      refine x_tn ?_
      refine at_ret ?_
      refine x_tr ?_
      refine at_result (rs := [.tmp 4]) rfl (r_tmp rfl r_nil) ?_
      exact congrArg (fun k : Nat => A.i .i64 (k : Int)) (by rw [rights_left (by omega) h12, List.length_cons]; omega)
    · have h12 : ¬ i < halfN n := by have := of_decide_eq_false hc12; omega
      have hr := rights_le _ (i - halfN n) (n - halfN n) (Nat.le_refl _)
      refine at_skip ?_
      refine x_tn ?_
      refine at_seq ?_
      refine at_region ?_
      refine s1 (y_p rfl) rfl <| s1 (y_p rfl) rfl <| s1 (subN i (halfN n) rfl rfl rfl rfl (by omega) (by omega)) rfl <| s1 (y_p rfl) rfl <| s1 (y_p rfl) rfl <| s1 (subN n (halfN n) rfl rfl rfl rfl (by omega) (by omega)) rfl <| ?_
      refine at_op rfl (n_call false rfl (.cons (.pure pu) (.cons (.pure pu) (.nil))) (ih (i - halfN n) (n - halfN n) (by omega) (by omega) (by omega)) pu (.inl rfl) rfl ?_)
      refine s1 (addN 1 _ rfl rfl rfl rfl (by omega)) rfl <| s1 (y_p rfl) rfl <| ?_
      refine at_nil ?_
      refine x_tn ?_
      refine at_ret ?_
      refine at_result (rs := [.tmp 4]) rfl (r_tmp rfl r_nil) ?_
      exact congrArg (fun k : Nat => A.i .i64 (k : Int)) (by rw [rights_right (by omega) h12, List.length_cons]; omega)
theorem length_ok : ∀ (f i n : Nat), n ≤ f → 1 ≤ n → i < n → n ≤ 1099511627776 → Con Tryd.prog 79 [.i .i64 (i : Nat), .i .i64 (n : Nat)] (Ret (.i .i64 ((rights i n).length : Nat)))
  | 0, i, n, h, h1, _, _ => absurd h1 (by omega)
  | f + 1, i, n, h, h1, hi, hn => length_step i n h1 hi hn (fun i m hm h1 hi => length_ok f i m (by omega) h1 hi (by omega))
set_option linter.unusedSimpArgs false in
set_option linter.unusedVariables false in
set_option maxHeartbeats 1000000 in
set_option maxRecDepth 10000 in
theorem climb_step (d : List UInt8) (hd : d.length = 32) (i n : Nat) (P : List (List UInt8)) (h1 : 1 ≤ n) (hi : i < n) (hn : n ≤ 1099511627776) (hD : D32 P) (hP : P.length = (rights i n).length) (ih : ∀ (i m : Nat) (p : List (List UInt8)), m < n → 1 ≤ m → i < m → D32 p → p.length = (rights i m).length → Con Tryd.prog 80 [.ag (d.map u8), .i .i64 (i : Nat), .i .i64 (m : Nat), dgs p] (Ret (.ag ((climb d i m p).map u8)))) : Con Tryd.prog 80 [.ag (d.map u8), .i .i64 (i : Nat), .i .i64 (n : Nat), dgs P] (Ret (.ag ((climb d i n P).map u8))) := by
  refine enter Tryd.func80 rfl Tryd.ntmps80 (by kernel_rfl) (Nat.le_of_ble_eq_true rfl) fun w0 X0 hI => ?_
  refine at_seq ?_
  refine at_region ?_
  refine at_op rfl (n_boxA 4 rfl rfl rfl ?_)
  refine at_op rfl (n_alloc 8 rfl ti23 rfl rfl ?_)
  refine at_nil ?_
  refine x_tn ?_
  refine at_seq ?_
  refine at_seq ?_
  refine at_region ?_
  refine s1 (y_p rfl) rfl <| s1 (y_p rfl) rfl <| ?_
  refine at_nil ?_
  refine x_tn ?_
  refine at_cond rfl (fun hc12 => ?_) (fun hc12 => ?_)
  · have h12 : n = 1 := by have := of_decide_eq_true hc12; omega
    refine at_seq ?_
    refine at_region ?_
    refine s1 (y_cuta0 Tryd.underlying23 ti5 rfl rfl (by simp [hd]) (by simp [maxLen])) rfl <| ?_
    refine at_op rfl (n_call true rfl (.cons (.pure pu) (.cons (.sl rfl rfl (by first | rfl | omega | (simp; done) | (simp [*]; done) | (simp; omega) | (simp [*]; omega) | (simp [D32.len, -List.length_flatten, *]; done) | (simp [D32.len, -List.length_flatten, *]; omega)) (view_eq (by first | rfl | omega | (simp; done) | (simp [*]; done) | (simp; omega) | (simp [*]; omega) | (simp [D32.len, -List.length_flatten, *]; done) | (simp [D32.len, -List.length_flatten, *]; omega)) (by first | rfl | (simp; done) | (simp [*]; done))) (VwL.pure pul) pul) (.nil))) (by have h := rtagged_ok [108, 101, 97, 102] d (by omega) (by simp); rw [hd] at h; exact h) pu (.inr fu) rfl ?_)
    refine at_op rfl (n_storeA ti23 rfl rfl rfl (by simp) (by simp) ?_)
    refine at_nil ?_
    refine x_tn ?_
    refine at_ret ?_
    refine x_tr ?_
    refine at_result (rs := [.cell 8 23]) rfl (r_cellA ti23 rfl rfl (List.take_of_length_le (by simp [len_tagged])) (by simp [len_tagged]) r_nil) ?_
    exact congrArg (fun l : List UInt8 => A.ag (l.map u8)) (by rw [climb_one (by omega)]; rfl)
  · have h12 : ¬ n = 1 := by have := of_decide_eq_false hc12; omega
    have hh := halfN_lt (n := n) (by omega)
    have hr := rights_le _ i n (Nat.le_refl _)
    obtain ⟨p, q, rfl⟩ := init_last (P := P) (by intro h; subst h; have := rights_pos (i := i) (n := n) (by omega); rw [← hP] at this; simp at this)
    have hDp : D32 p := fun x hx => hD x (by simp [hx])
    have hDq : q.length = 32 := hD q (by simp)
    refine at_skip ?_
    refine x_tn ?_
    refine at_seq ?_
    refine at_region ?_
    refine s1 (y_p rfl) rfl <| ?_
    refine at_op rfl (n_call false rfl (.cons (.pure pu) (.nil)) (rhalf_ok n (by omega) hn) pu (.inl rfl) rfl ?_)
    refine s1 (y_p rfl) rfl <| ?_
    refine at_nil ?_
    refine x_tn ?_
    refine at_seq ?_
    refine at_region ?_
    refine s1 (y_p rfl) rfl <| s1 (y_p rfl) rfl <| s1 (y_len Tryd.underlying26 rfl rfl rfl) rfl <| s1 ((subN (p ++ [q]).length 1 rfl rfl rfl rfl (by simp) (by rw [hP]; omega)).v (v' := .i .i64 (p.length : Nat)) (congrArg (fun k : Nat => A.i .i64 (k : Int)) (by simp))) rfl <| s1 (y_ixf p.length Tryd.underlying26 ti23 rfl rfl rfl (by simp) rfl) rfl <| s1 (y_loadA ti23 rfl rfl (get_d hD (q := q) (by simp)) (by simp [hDq])) rfl <| ?_
    refine at_op rfl (n_alloc 10 rfl ti23 rfl rfl ?_)
    refine at_op rfl (n_storeA ti23 rfl rfl rfl (by simp [hDq]) (by simp) ?_)
    refine at_nil ?_
    refine x_tn ?_
    refine at_seq ?_
    refine at_seq ?_
    refine at_region ?_
    refine s1 (y_p rfl) rfl <| s1 (y_p rfl) rfl <| s1 (y_p rfl) rfl <| ?_
    refine at_nil ?_
    refine x_tn ?_
    refine at_cond rfl (fun hc25 => ?_) (fun hc25 => ?_)
    · have h25 : i < halfN n := by have := of_decide_eq_true hc25; omega
      have hp : p.length = (rights i (halfN n)).length := by rw [rights_left (by omega) h25] at hP; simpa using hP
      refine at_seq ?_
      refine at_fs ⟨_, [], []⟩ 11 4 hmix (le_refl rfl) ?_
      refine fs_q 0 [] [(4, none)] (y_loadA0 ti23 rfl rfl (by simp [hd])) rfl rfl ?_
      refine fs_q 1 [] [] (y_p rfl) rfl rfl ?_
      refine fs_q 2 [] [] (y_p rfl) rfl rfl ?_
      refine fs_q 3 [] [] (y_p rfl) rfl rfl ?_
      refine fs_q 4 [] [] (y_p rfl) rfl rfl ?_
      refine fs_q 5 [4] [] (y_len Tryd.underlying26 rfl rfl rfl) rfl rfl ?_
      refine fs_q 6 [5] [] ((subN (p ++ [q]).length 1 rfl rfl rfl rfl (by simp) (by rw [hP]; omega)).v (v' := .i .i64 (p.length : Nat)) (congrArg (fun k : Nat => A.i .i64 (k : Int)) (by simp))) rfl rfl ?_
      refine fs_q 7 [3, 6] [] ((y_cutf p.length Tryd.underlying26 ti23 rfl (by rw [List.length_map, hD.len]) bn (bs rfl rfl) (by omega) (by simp) rfl rfl).v (v' := dgs p) (cut_init hD)) rfl rfl ?_
      refine fs_call false 8 [0, 1, 2, 7] [] gy0 rfl (.cons (.pure pu) (.cons (.pure pu) (.cons (.pure pu) (.cons (.pure pu) (.nil))))) (ih i (halfN n) p (by omega) (by omega) (by omega) hDp hp) pu (.inl rfl) rfl rfl ?_
      refine fs_q 9 [] [(10, none)] (y_loadA0 ti23 rfl rfl (by simp [hDq])) rfl rfl ?_
      refine fs_call false 10 [8, 9] [] gy0 rfl (.cons (.pure pu) (.cons (.pure pu) (.nil))) (rnode_ok (fun t b h1 h2 => rtagged_ok t b (by omega) (by omega)) _ q (len_climb _ _ _ _) hDq) pu (.inl rfl) rfl rfl ?_
      refine fs_end (by kernel_rfl) ?_
      refine at_op rfl (n_storeA ti23 rfl rfl rfl (by simp) (by simp) ?_)
      refine at_nil ?_
      refine x_tn ?_
      refine at_ret ?_
      refine x_tr ?_
      refine at_result (rs := [.cell 8 23]) rfl (r_cellA ti23 rfl rfl (List.take_of_length_le (by simp [len_tagged])) (by simp [len_tagged]) r_nil) ?_
      exact congrArg (fun l : List UInt8 => A.ag (l.map u8)) (by rw [climb_left (by omega) h25 hp]; rfl)
    · have h25 : ¬ i < halfN n := by have := of_decide_eq_false hc25; omega
      have hp : p.length = (rights (i - halfN n) (n - halfN n)).length := by rw [rights_right (by omega) h25] at hP; simpa using hP
      refine at_skip ?_
      refine x_tn ?_
      refine at_seq ?_
      refine at_fs ⟨_, [], []⟩ 15 4 hmix (le_refl rfl) ?_
      refine fs_q 0 [] [(10, none)] (y_loadA0 ti23 rfl rfl (by simp [hDq])) rfl rfl ?_
      refine fs_q 1 [] [(4, none)] (y_loadA0 ti23 rfl rfl (by simp [hd])) rfl rfl ?_
      refine fs_q 2 [] [] (y_p rfl) rfl rfl ?_
      refine fs_q 3 [] [] (y_p rfl) rfl rfl ?_
      refine fs_q 4 [2, 3] [] (subN i (halfN n) rfl rfl rfl rfl (by omega) (by omega)) rfl rfl ?_
      refine fs_q 5 [] [] (y_p rfl) rfl rfl ?_
      refine fs_q 6 [] [] (y_p rfl) rfl rfl ?_
      refine fs_q 7 [5, 6] [] (subN n (halfN n) rfl rfl rfl rfl (by omega) (by omega)) rfl rfl ?_
      refine fs_q 8 [] [] (y_p rfl) rfl rfl ?_
      refine fs_q 9 [] [] (y_p rfl) rfl rfl ?_
      refine fs_q 10 [9] [] (y_len Tryd.underlying26 rfl rfl rfl) rfl rfl ?_
      refine fs_q 11 [10] [] ((subN (p ++ [q]).length 1 rfl rfl rfl rfl (by simp) (by rw [hP]; omega)).v (v' := .i .i64 (p.length : Nat)) (congrArg (fun k : Nat => A.i .i64 (k : Int)) (by simp))) rfl rfl ?_
      refine fs_q 12 [8, 11] [] ((y_cutf p.length Tryd.underlying26 ti23 rfl (by rw [List.length_map, hD.len]) bn (bs rfl rfl) (by omega) (by simp) rfl rfl).v (v' := dgs p) (cut_init hD)) rfl rfl ?_
      refine fs_call false 13 [1, 4, 7, 12] [] gy0 rfl (.cons (.pure pu) (.cons (.pure pu) (.cons (.pure pu) (.cons (.pure pu) (.nil))))) (ih (i - halfN n) (n - halfN n) p (by omega) (by omega) (by omega) hDp hp) pu (.inl rfl) rfl rfl ?_
      refine fs_call false 14 [0, 13] [] gy0 rfl (.cons (.pure pu) (.cons (.pure pu) (.nil))) (rnode_ok (fun t b h1 h2 => rtagged_ok t b (by omega) (by omega)) q _ hDq (len_climb _ _ _ _)) pu (.inl rfl) rfl rfl ?_
      refine fs_end (by kernel_rfl) ?_
      refine at_op rfl (n_storeA ti23 rfl rfl rfl (by simp) (by simp) ?_)
      refine at_nil ?_
      refine x_tn ?_
      refine at_ret ?_
      refine at_result (rs := [.cell 8 23]) rfl (r_cellA ti23 rfl rfl (List.take_of_length_le (by simp [len_tagged])) (by simp [len_tagged]) r_nil) ?_
      exact congrArg (fun l : List UInt8 => A.ag (l.map u8)) (by rw [climb_right (by omega) h25 hp]; rfl)
theorem climb_ok (d : List UInt8) (hd : d.length = 32) : ∀ (f i n : Nat) (p : List (List UInt8)), n ≤ f → 1 ≤ n → i < n → n ≤ 1099511627776 → D32 p → p.length = (rights i n).length → Con Tryd.prog 80 [.ag (d.map u8), .i .i64 (i : Nat), .i .i64 (n : Nat), dgs p] (Ret (.ag ((climb d i n p).map u8)))
  | 0, i, n, p, h, h1, _, _, _, _ => absurd h1 (by omega)
  | f + 1, i, n, p, h, h1, hi, hn, hD, hP => climb_step d hd i n p h1 hi hn hD hP (fun i m p hm h1 hi hD hP => climb_ok d hd f i m p (by omega) h1 hi (by omega) hD hP)
end Go.Abs.D2

/-! D2T5 -/
namespace Go.Abs.D2
open Go Go.Eng Go.Abs Go.Proofs 
set_option linter.unusedSimpArgs false in
set_option linter.unusedVariables false in
set_option maxHeartbeats 1000000 in
set_option maxRecDepth 10000 in
theorem rclimb_bad (d : List UInt8) (_hd : d.length = 32) (a nn : Int) (P : List (List UInt8)) (hc : ¬ (1 ≤ nn ∧ nn ≤ 1099511627776 ∧ 0 ≤ a ∧ a < nn)) : Con Tryd.prog 50 [.ag (d.map u8), .i .i64 a, .i .i64 nn, dgs P] (Ret (climbA d a nn P)) := by
  refine enter Tryd.func50 rfl Tryd.ntmps50 (by kernel_rfl) (Nat.le_of_ble_eq_true rfl) fun w0 X0 hI => ?_
  refine at_seq ?_
  refine at_region ?_
  refine at_op rfl (n_boxA 4 rfl rfl rfl ?_)
  refine at_op rfl (n_alloc 8 rfl ti23 rfl rfl ?_)
  refine s1 ((y_p rfl).v (v' := .i .i64 0) rfl) rfl <| ?_
  refine at_nil ?_
  refine x_tn ?_
  refine at_seq ?_
  refine at_seq ?_
  refine at_region ?_
  refine s1 (y_p rfl) rfl <| s1 (y_p rfl) rfl <| s1 (y_p rfl) rfl <| ?_
  refine g_or 2 rfl rfl rfl rfl (fun hb12 => .step (y_p rfl) rfl rfl <| .step (y_p rfl) rfl rfl <| .done) rfl rfl ?_
  refine s1 (y_p rfl) rfl <| ?_
  refine g_or 2 rfl rfl rfl rfl (fun hb16 => .step (y_p rfl) rfl rfl <| .step (y_p rfl) rfl rfl <| .done) rfl rfl ?_
  refine s1 (y_p rfl) rfl <| ?_
  refine g_or 3 rfl rfl rfl rfl (fun hb20 => .step (y_p rfl) rfl rfl <| .step (y_p rfl) rfl rfl <| .step (y_p rfl) rfl rfl <| .done) rfl rfl ?_
  refine at_say 24 rfl (v' := .b true) (congrArg A.b (by simp; omega)) ?_
  refine s1 (y_p rfl) rfl <| g0 rfl rfl rfl rfl <| g0 rfl rfl rfl rfl <| g0 rfl rfl rfl rfl <| g0 rfl rfl rfl rfl <| g0 rfl rfl rfl rfl <| g0 rfl rfl rfl rfl <| s1 (y_p rfl) rfl <| ?_
  refine at_nil ?_
  refine x_tn ?_
  refine at_then rfl ?_
  refine at_seq ?_
  refine at_region ?_
  refine s1 ((y_bld0 ti23 rfl Tryd.underlying23 ti5 rfl).v (v' := .ag ((List.replicate 32 (0 : UInt8)).map u8)) (by kernel_rfl)) rfl <| ?_
  refine at_op rfl (n_storeA ti23 rfl rfl rfl (by simp) (by simp) ?_)
  refine s1 ((y_p rfl).v (v' := .i .i64 1) rfl) rfl <| ?_
  refine at_nil ?_
  refine x_tn ?_
  refine at_ret ?_
  refine x_tr ?_
  have hbad : ¬ fits a nn P.length := fun h => hc ⟨h.1, h.2.1, h.2.2.1, h.2.2.2.1⟩
  refine at_result (rs := [.cell 8 23, .tmp 9]) rfl (r_cellA ti23 rfl rfl (List.take_of_length_le (by simp)) (by simp) (r_tmp rfl r_nil)) ?_
  rw [climbA, if_neg hbad]
  rfl
set_option linter.unusedSimpArgs false in
set_option linter.unusedVariables false in
set_option maxHeartbeats 1000000 in
set_option maxRecDepth 10000 in
theorem rclimb_fit (d : List UInt8) (hd : d.length = 32) (i n : Nat) (P : List (List UInt8)) (hD : D32 P) (h1 : 1 ≤ n) (hn : n ≤ 1099511627776) (hi : i < n) : Con Tryd.prog 50 [.ag (d.map u8), .i .i64 (i : Nat), .i .i64 (n : Nat), dgs P] (Ret (climbA d (i : Int) (n : Int) P)) := by
  refine enter Tryd.func50 rfl Tryd.ntmps50 (by kernel_rfl) (Nat.le_of_ble_eq_true rfl) fun w0 X0 hI => ?_
  refine at_seq ?_
  refine at_region ?_
  refine at_op rfl (n_boxA 4 rfl rfl rfl ?_)
  refine at_op rfl (n_alloc 8 rfl ti23 rfl rfl ?_)
  refine s1 ((y_p rfl).v (v' := .i .i64 0) rfl) rfl <| ?_
  refine at_nil ?_
  refine x_tn ?_
  refine at_seq ?_
  refine at_seq ?_
  refine at_region ?_
  refine s1 (y_p rfl) rfl <| s1 (y_p rfl) rfl <| s1 (y_p rfl) rfl <| ?_
  refine g_or 2 rfl rfl rfl rfl (fun hb12 => .step (y_p rfl) rfl rfl <| .step (y_p rfl) rfl rfl <| .done) rfl rfl ?_
  refine s1 (y_p rfl) rfl <| ?_
  refine g_or 2 rfl rfl rfl rfl (fun hb16 => .step (y_p rfl) rfl rfl <| .step (y_p rfl) rfl rfl <| .done) rfl rfl ?_
  refine s1 (y_p rfl) rfl <| ?_
  refine g_or 3 rfl rfl rfl rfl (fun hb20 => .step (y_p rfl) rfl rfl <| .step (y_p rfl) rfl rfl <| .step (y_p rfl) rfl rfl <| .done) rfl rfl ?_
  refine at_say 24 rfl (v' := .b false) (congrArg A.b (by simp; omega)) ?_
  refine s1 (y_p rfl) rfl <| g1 rfl rfl (y_p rfl) rfl <| g1 rfl rfl (y_len Tryd.underlying26 rfl rfl rfl) rfl <| g1 rfl rfl (y_p rfl) rfl <| g1 rfl rfl (y_p rfl) rfl <| ?_
  refine at_opg rfl rfl rfl (n_call false rfl (.cons (.pure pu) (.cons (.pure pu) (.nil))) (length_ok _ i n (Nat.le_refl _) h1 hi hn) pu (.inl rfl) rfl ?_)
  refine g1 rfl rfl (y_p rfl) rfl <| s1 (y_p rfl) rfl <| ?_
  refine at_nil ?_
  refine x_tn ?_
  refine at_cond rfl (fun hc32 => ?_) (fun hc32 => ?_)
  · have hbad : ¬ fits (i : Int) (n : Int) P.length := by
      intro h
      have h5 := h.2.2.2.2
      rw [Int.toNat_natCast, Int.toNat_natCast] at h5
      have := bne_iff_ne.1 hc32
      omega
    refine at_seq ?_
    refine at_region ?_
    refine s1 ((y_bld0 ti23 rfl Tryd.underlying23 ti5 rfl).v (v' := .ag ((List.replicate 32 (0 : UInt8)).map u8)) (by kernel_rfl)) rfl <| ?_
    refine at_op rfl (n_storeA ti23 rfl rfl rfl (by simp) (by simp) ?_)
    refine s1 ((y_p rfl).v (v' := .i .i64 1) rfl) rfl <| ?_
    refine at_nil ?_
    refine x_tn ?_
    refine at_ret ?_
    refine x_tr ?_
    refine at_result (rs := [.cell 8 23, .tmp 9]) rfl (r_cellA ti23 rfl rfl (List.take_of_length_le (by simp)) (by simp) (r_tmp rfl r_nil)) ?_
    rw [climbA, if_neg hbad]
    rfl
  · have hP : P.length = (rights i n).length := by have := bne_eq_false_iff_eq.1 hc32; omega
    have hfit : fits (i : Int) (n : Int) P.length := ⟨by omega, by omega, by omega, by omega, by rw [Int.toNat_natCast, Int.toNat_natCast]; exact hP⟩
    refine at_skip ?_
    refine x_tn ?_
    refine at_seq ?_
    refine at_region ?_
    refine s1 (y_loadA0 ti23 rfl rfl (by simp [hd])) rfl <| s1 (y_p rfl) rfl <| s1 (y_p rfl) rfl <| s1 (y_p rfl) rfl <| ?_
    refine at_op rfl (n_call false rfl (.cons (.pure pu) (.cons (.pure pu) (.cons (.pure pu) (.cons (.pure pu) (.nil))))) (climb_ok d hd _ i n P (Nat.le_refl _) h1 hi hn hD hP) pu (.inl rfl) rfl ?_)
    refine at_op rfl (n_storeA ti23 rfl rfl rfl (by simp) (by simp) ?_)
    refine s1 ((y_p rfl).v (v' := .i .i64 0) rfl) rfl <| ?_
    refine at_nil ?_
    refine x_tn ?_
    refine at_ret ?_
    refine at_result (rs := [.cell 8 23, .tmp 9]) rfl (r_cellA ti23 rfl rfl (List.take_of_length_le (by simp)) (by simp) (r_tmp rfl r_nil)) ?_
    rw [climbA, if_pos hfit, Int.toNat_natCast, Int.toNat_natCast]
    rfl
theorem rclimbI_ok (d : List UInt8) (hd : d.length = 32) (a nn : Int) (P : List (List UInt8)) (hD : D32 P) : Con Tryd.prog 50 [.ag (d.map u8), .i .i64 a, .i .i64 nn, dgs P] (Ret (climbA d a nn P)) := by
  by_cases h : 1 ≤ nn ∧ nn ≤ 1099511627776 ∧ 0 ≤ a ∧ a < nn
  · obtain ⟨i, rfl⟩ : ∃ i : Nat, a = (i : Int) := ⟨a.toNat, by omega⟩
    obtain ⟨n, rfl⟩ : ∃ n : Nat, nn = (n : Int) := ⟨nn.toNat, by omega⟩
    exact rclimb_fit d hd i n P hD (by omega) (by omega) (by omega)
  · exact rclimb_bad d hd a nn P h
end Go.Abs.D2

/-! D2T4 -/
namespace Go.Abs.D2
open Go Go.Eng Go.Abs Go.Proofs 
set_option linter.unusedSimpArgs false in
set_option linter.unusedVariables false in
set_option maxHeartbeats 1000000 in
set_option maxRecDepth 10000 in
theorem climbI_ok (d : List UInt8) (hd : d.length = 32) (a nn : Int) (P : List (List UInt8)) (hD : D32 P) : Con Tryd.prog 29 [.ag (d.map u8), .i .i64 a, .i .i64 nn, dgs P] (Ret (climbA d a nn P)) := by
  refine enter Tryd.func29 rfl Tryd.ntmps29 (by kernel_rfl) (Nat.le_of_ble_eq_true rfl) fun w0 X0 hI => ?_
  refine at_seq ?_
  refine at_region ?_
  refine at_op rfl (n_boxA 4 rfl rfl rfl ?_)
  refine at_op rfl (n_alloc 8 rfl ti23 rfl rfl ?_)
  refine s1 ((y_p rfl).v (v' := .i .i64 0) rfl) rfl <| ?_
  refine at_nil ?_
  refine x_tn ?_
  refine at_seq ?_
  refine at_seq ?_
  refine at_region ?_
  refine s1 (y_p rfl) rfl <| s1 (y_p rfl) rfl <| s1 (y_p rfl) rfl <| ?_
  refine g_or 2 rfl rfl rfl rfl (fun hb16 => .step (y_p rfl) rfl rfl <| .step (y_p rfl) rfl rfl <| .done) rfl rfl ?_
  refine s1 (y_p rfl) rfl <| ?_
  refine g_or 2 rfl rfl rfl rfl (fun hb20 => .step (y_p rfl) rfl rfl <| .step (y_p rfl) rfl rfl <| .done) rfl rfl ?_
  refine s1 (y_p rfl) rfl <| ?_
  refine g_or 3 rfl rfl rfl rfl (fun hb24 => .step (y_p rfl) rfl rfl <| .step (y_p rfl) rfl rfl <| .step (y_p rfl) rfl rfl <| .done) rfl rfl ?_
  refine at_nil ?_
  refine x_tn ?_
  refine at_cond rfl (fun hc28 => ?_) (fun hc28 => ?_)
  · have hbad : ¬ fits a nn P.length := by intro h; unfold fits at h; simp at hc28; omega
    refine at_seq ?_
    refine at_region ?_
    refine s1 (y_loadA0 ti23 rfl rfl (by simp)) rfl <| ?_
    refine at_op rfl (n_storeA ti23 rfl rfl rfl (by simp) (by simp) ?_)
    refine s1 ((y_p rfl).v (v' := .i .i64 1) rfl) rfl <| ?_
    refine at_nil ?_
    refine x_tn ?_
    refine at_ret ?_
    refine x_tr ?_
    refine at_result (rs := [.cell 8 23, .tmp 9]) rfl (r_cellA ti23 rfl rfl (List.take_of_length_le (by simp)) (by simp) (r_tmp rfl r_nil)) ?_
    rw [climbA, if_neg hbad]
    rfl
  · have h28 : 1 ≤ nn ∧ nn ≤ 1099511627776 ∧ 0 ≤ a ∧ a < nn := by simp at hc28; omega
    obtain ⟨i, rfl⟩ : ∃ i : Nat, a = (i : Int) := ⟨a.toNat, by omega⟩
    obtain ⟨n, rfl⟩ : ∃ n : Nat, nn = (n : Int) := ⟨nn.toNat, by omega⟩
    have hn1 : 1 ≤ n := by omega
    have hn : n ≤ 1099511627776 := by omega
    have hi : i < n := by omega
    refine at_skip ?_
    refine x_tn ?_
    refine at_seq ?_
    refine at_region ?_
    refine s1 (y_p rfl) rfl <| ?_
    refine at_nil ?_
    refine x_tn ?_
    refine at_seq ?_
    refine at_block ?_
    refine at_loop (ι := List Bool × Nat × Nat) (fun ⟨ds, i2, n2⟩ => [(1, .i .i64 (i2 : Nat)), (2, .i .i64 (n2 : Nat)), (3, dgs P), (4, .p 4 0), (8, .p 8 0), (10, .sl 10 1 0 ds.length)]) (fun ⟨ds, i2, n2⟩ => ⟨[(4, some (d.map u8)), (8, some (List.replicate 32 (u8 0))), (10, some (ds.map A.b))]⟩) (fun ⟨ds, i2, n2⟩ => rights i n = ds ++ rights i2 n2 ∧ 1 ≤ n2 ∧ i2 < n2 ∧ n2 ≤ n ∧ ds.length + (rights i2 n2).length ≤ n) (fun ⟨ds, i2, n2⟩ => n2) ?_ ?_
    · exact at_ex (([], i, n)) (⟨rfl, hn1, hi, Nat.le_refl _, by have := rights_le _ i n (Nat.le_refl _); simpa using this⟩) [(4, some 4), (8, some 8), (10, none)] hI rfl rfl ⟨⟨_, rfl, .pure pu⟩, ⟨_, rfl, .pure pu⟩, ⟨_, rfl, .pure pu⟩, ⟨_, rfl, .p rfl⟩, ⟨_, rfl, .p rfl⟩, ⟨_, rfl, .nl rfl⟩, trivial⟩ ⟨.inr ⟨_, _, rfl, rfl, .pure pul⟩, .inr ⟨_, _, rfl, rfl, .pure pul⟩, .inl ⟨rfl, rfl⟩, trivial⟩
    rintro ⟨ds, i2, n2⟩ ⟨hr, h1, hi2, hn2, hlen⟩
    dsimp only
    refine at_seq ?_
    refine at_seq ?_
    refine at_region ?_
    refine s1 (y_p rfl) rfl <| s1 (y_p rfl) rfl <| ?_
    refine at_nil ?_
    refine x_tn ?_
    refine at_cond rfl (fun hc31 => ?_) (fun hc31 => ?_)
    · have h31 : 2 ≤ n2 := by have := of_decide_eq_true hc31; omega
      have hh := halfN_lt h31
      refine at_skip ?_
      refine x_tn ?_
      refine at_block ?_
      refine at_seq ?_
      refine at_region ?_
      refine s1 (y_p rfl) rfl <| ?_
      refine at_op rfl (n_call false rfl (.cons (.pure pu) (.nil)) (half_ok n2 (by omega) (by omega)) pu (.inl rfl) rfl ?_)
      refine s1 (y_p rfl) rfl <| ?_
      refine at_nil ?_
      refine x_tn ?_
      refine at_seq ?_
      refine at_region ?_
      refine s1 (y_p rfl) rfl <| s1 (y_p rfl) rfl <| s1 (y_p rfl) rfl <| s1 (y_p rfl) rfl <| ?_
      refine at_op rfl (n_bs1 38 rfl Tryd.underlying86 ti4 rfl rfl rfl rfl rfl ?_)
      refine at_op rfl (n_app 39 rfl Tryd.underlying86 ti4 rfl (.sl rfl (by simp)) rfl (SM_full rfl (by first | rfl | omega | (simp; done) | (simp [*]; done) | (simp; omega) | (simp [*]; omega) | (simp [D32.len, -List.length_flatten, *]; done) | (simp [D32.len, -List.length_flatten, *]; omega))) (by first | rfl | omega | (simp; done) | (simp [*]; done) | (simp; omega) | (simp [*]; omega) | (simp [D32.len, -List.length_flatten, *]; done) | (simp [D32.len, -List.length_flatten, *]; omega)) (by simp only [maxLen]; omega) (by omega) rfl rfl rfl ?_)
      refine s1 (y_p rfl) rfl <| ?_
      refine at_nil ?_
      refine x_tn ?_
      refine at_seq ?_
      refine at_region ?_
      refine s1 (y_p rfl) rfl <| s1 (y_p rfl) rfl <| s1 (y_p rfl) rfl <| ?_
      refine at_nil ?_
      refine x_tn ?_
      refine at_cond rfl (fun hc42 => ?_) (fun hc42 => ?_)
      · have h42 : (i2 : Int) ≥ (halfN n2) := of_decide_eq_true hc42
        have h42n : ¬ i2 < (halfN n2) := by omega
        refine at_region ?_
        refine s1 (y_p rfl) rfl <| s1 (y_p rfl) rfl <| s1 (subN i2 (halfN n2) rfl rfl rfl rfl (by omega) (by omega)) rfl <| s1 (y_p rfl) rfl <| s1 (y_p rfl) rfl <| s1 (subN n2 (halfN n2) rfl rfl rfl rfl (by omega) (by omega)) rfl <| s1 (y_p rfl) rfl <| s1 (y_p rfl) rfl <| ?_
        refine at_nil ?_
        refine x_bn ?_
        exact at_end (x := (ds, i2, n2)) ((ds ++ [true], i2 - (halfN n2), n2 - (halfN n2))) (⟨by rw [hr, rights_right (by omega) h42n]; simp, by dsimp only; omega, by dsimp only; omega, by dsimp only; omega, by rw [rights_right (by omega) h42n, List.length_cons] at hlen; dsimp only; rw [List.length_append]; simp; omega⟩) (by dsimp only; omega) [(4, some 4), (8, some 8), (10, some 39)] hI rfl rfl ⟨⟨_, rfl, .pure pu⟩, ⟨_, rfl, .pure pu⟩, ⟨_, rfl, .pure pu⟩, ⟨_, rfl, .p rfl⟩, ⟨_, rfl, .p rfl⟩, ⟨_, rfl, .sl rfl (by first | rfl | omega | (simp; done) | (simp [*]; done) | (simp; omega) | (simp [*]; omega) | (simp [D32.len, -List.length_flatten, *]; done) | (simp [D32.len, -List.length_flatten, *]; omega))⟩, trivial⟩ ⟨.inr ⟨_, _, rfl, rfl, .pure pul⟩, .inr ⟨_, _, rfl, rfl, .pure pul⟩, .inr ⟨_, _, rfl, rfl, .of (by simp [h42]) (.pure pul)⟩, trivial⟩
      · have h42 : ¬ (i2 : Int) ≥ (halfN n2) := of_decide_eq_false hc42
        have h42n : i2 < (halfN n2) := by omega
        refine at_region ?_
        refine s1 (y_p rfl) rfl <| s1 (y_p rfl) rfl <| ?_
        refine at_nil ?_
        refine x_bn ?_
        exact at_end (x := (ds, i2, n2)) ((ds ++ [false], i2, (halfN n2))) (⟨by rw [hr, rights_left (by omega) h42n]; simp, by dsimp only; omega, by dsimp only; omega, by dsimp only; omega, by rw [rights_left (by omega) h42n, List.length_cons] at hlen; dsimp only; rw [List.length_append]; simp; omega⟩) (by dsimp only; omega) [(4, some 4), (8, some 8), (10, some 39)] hI rfl rfl ⟨⟨_, rfl, .pure pu⟩, ⟨_, rfl, .pure pu⟩, ⟨_, rfl, .pure pu⟩, ⟨_, rfl, .p rfl⟩, ⟨_, rfl, .p rfl⟩, ⟨_, rfl, .sl rfl (by first | rfl | omega | (simp; done) | (simp [*]; done) | (simp; omega) | (simp [*]; omega) | (simp [D32.len, -List.length_flatten, *]; done) | (simp [D32.len, -List.length_flatten, *]; omega))⟩, trivial⟩ ⟨.inr ⟨_, _, rfl, rfl, .pure pul⟩, .inr ⟨_, _, rfl, rfl, .pure pul⟩, .inr ⟨_, _, rfl, rfl, .of (by simp [h42]) (.pure pul)⟩, trivial⟩
    · have h31 : n2 = 1 := by have := of_decide_eq_false hc31; omega
      subst h31
      rw [rights_one (Nat.le_refl _), List.append_nil] at hr
      subst hr
      refine at_exit ?_
      refine x_te ?_
      refine x_te ?_
      refine x_be ?_
      refine x_tn ?_
      refine at_seq ?_
      refine at_seq ?_
      refine at_region ?_
      refine s1 (y_p rfl) rfl <| s1 (y_len Tryd.underlying26 rfl rfl rfl) rfl <| s1 (y_p rfl) rfl <| s1 (y_len Tryd.underlying86 rfl rfl rfl) rfl <| s1 (y_p rfl) rfl <| ?_
      refine at_nil ?_
      refine x_tn ?_
      refine at_cond rfl (fun hc54 => ?_) (fun hc54 => ?_)
      · have hbad : ¬ fits (i : Int) (n : Int) P.length := by
          intro h
          unfold fits at h
          have h5 := h.2.2.2.2
          rw [Int.toNat_natCast, Int.toNat_natCast] at h5
          have := bne_iff_ne.1 hc54
          omega
        refine at_seq ?_
        refine at_region ?_
        refine s1 (y_loadA0 ti23 rfl rfl (by simp)) rfl <| ?_
        refine at_op rfl (n_storeA ti23 rfl rfl rfl (by simp) (by simp) ?_)
        refine s1 ((y_p rfl).v (v' := .i .i64 1) rfl) rfl <| ?_
        refine at_nil ?_
        refine x_tn ?_
        refine at_ret ?_
        refine x_tr ?_
        refine at_result (rs := [.cell 8 23, .tmp 9]) rfl (r_cellA ti23 rfl rfl (List.take_of_length_le (by simp)) (by simp) (r_tmp rfl r_nil)) ?_
        rw [climbA, if_neg hbad]
        rfl
      · have hP : P.length = (rights i n).length := by have := bne_eq_false_iff_eq.1 hc54; omega
        have hfit : fits (i : Int) (n : Int) P.length := ⟨by omega, by omega, by omega, by omega, by rw [Int.toNat_natCast, Int.toNat_natCast]; exact hP⟩
        refine at_skip ?_
        refine x_tn ?_
        refine at_seq ?_
        refine at_region ?_
        refine s1 (y_cuta0 Tryd.underlying23 ti5 rfl rfl (by simp [hd]) (by simp [maxLen])) rfl <| ?_
        refine at_op rfl (n_call true rfl (.cons (.pure pu) (.cons (.sl rfl rfl (by first | rfl | omega | (simp; done) | (simp [*]; done) | (simp; omega) | (simp [*]; omega) | (simp [D32.len, -List.length_flatten, *]; done) | (simp [D32.len, -List.length_flatten, *]; omega)) (view_eq (by first | rfl | omega | (simp; done) | (simp [*]; done) | (simp; omega) | (simp [*]; omega) | (simp [D32.len, -List.length_flatten, *]; done) | (simp [D32.len, -List.length_flatten, *]; omega)) (by first | rfl | (simp; done) | (simp [*]; done))) (VwL.pure pul) pul) (.nil))) (by have h := tagged_ok [108, 101, 97, 102] d (by omega) (by simp); rw [hd] at h; exact h) pu (.inr fu) rfl ?_)
        refine at_op rfl (n_storeA ti23 rfl rfl rfl (by simp) (by simp) ?_)
        refine at_nil ?_
        refine x_tn ?_
        refine at_seq ?_
        refine at_seq ?_
        refine at_region ?_
        refine s1 (y_p rfl) rfl <| s1 (y_len Tryd.underlying26 rfl rfl rfl) rfl <| s1 ((y_p rfl).v (v' := .i .i64 0) rfl) rfl <| ?_
        refine at_nil ?_
        refine x_tn ?_
        refine at_block ?_
        refine at_loop (ι := Nat) (fun j => [(8, .p 8 0), (10, .sl 10 1 0 (rights i n).length), (58, dgs P), (59, .i .i64 (P.length : Nat)), (60, .i .i64 (j : Nat))]) (fun j => ⟨[(8, some ((fold ((rights i n).reverse.take j) (P.take j) (leafD d)).map u8)), (10, some ((rights i n).map A.b))]⟩) (fun j => j ≤ P.length) (fun j => P.length - j) ?_ ?_
        · exact at_ex (0) (Nat.zero_le _) [(8, some 8), (10, some 10)] hI rfl rfl ⟨⟨_, rfl, .p rfl⟩, ⟨_, rfl, .sl rfl (by first | rfl | omega | (simp; done) | (simp [*]; done) | (simp; omega) | (simp [*]; omega) | (simp [D32.len, -List.length_flatten, *]; done) | (simp [D32.len, -List.length_flatten, *]; omega))⟩, ⟨_, rfl, .pure pu⟩, ⟨_, rfl, .pure pu⟩, ⟨_, rfl, .pure pu⟩, trivial⟩ ⟨.inr ⟨_, _, rfl, rfl, .of (by rw [List.take_zero]; rfl) (.pure pul)⟩, .inr ⟨_, _, rfl, rfl, .pure pul⟩, trivial⟩
        rintro j hj
        have hlf : (fold ((rights i n).reverse.take j) (P.take j) (leafD d)).length = 32 := len_fold _ _ _ (len_tagged _ _)
        have hrl := rights_le _ i n (Nat.le_refl _)
        refine at_seq ?_
        refine at_region ?_
        refine s1 (y_p rfl) rfl <| ?_
        refine at_nil ?_
        refine x_tn ?_
        refine at_seq ?_
        refine at_cond rfl (fun hc61 => ?_) (fun hc61 => ?_)
        · have hj2 : j < P.length := by have := of_decide_eq_true hc61; omega
          obtain ⟨q, hq⟩ : ∃ q, P[j]? = some q := ⟨_, List.getElem?_eq_getElem hj2⟩
          have hq32 : q.length = 32 := hD q (List.mem_of_getElem? hq)
          obtain ⟨b, hb⟩ : ∃ b, (rights i n).reverse[j]? = some b := ⟨_, List.getElem?_eq_getElem (by simp; omega)⟩
          have hb2 : (rights i n)[(rights i n).length - 1 - j]? = some b := by rw [List.getElem?_reverse (by omega)] at hb; exact hb
          refine at_skip ?_
          refine x_tn ?_
          refine at_seq ?_
          refine at_block ?_
          refine at_seq ?_
          refine at_region ?_
          refine s1 (y_p rfl) rfl <| s1 (y_ixf j Tryd.underlying26 ti23 rfl rfl rfl (by omega) rfl) rfl <| s1 (y_loadA ti23 rfl rfl (get_d hD hq) (by simp [hq32])) rfl <| ?_
          refine at_op rfl (n_alloc 13 rfl ti23 rfl rfl ?_)
          refine s1 (y_p rfl) rfl <| ?_
          refine at_op rfl (n_storeA ti23 rfl rfl rfl (by simp [hq32]) (by simp) ?_)
          refine at_nil ?_
          refine x_tn ?_
          refine at_seq ?_
          refine at_region ?_
          refine s1 (y_p rfl) rfl <| s1 (y_p rfl) rfl <| s1 (y_len Tryd.underlying86 rfl rfl rfl) rfl <| s1 (subN (rights i n).length 1 rfl rfl rfl rfl (by omega) (by omega)) rfl <| s1 (y_p rfl) rfl <| s1 (subN ((rights i n).length - 1) j rfl rfl rfl rfl (by omega) (by omega)) rfl <| s1 (y_ixs ((rights i n).length - 1 - j) Tryd.underlying86 ti4 rfl rfl rfl rfl (by omega) rfl) rfl <| s1 (y_load ti4 rfl rfl (get_b hb2)) rfl <| ?_
          refine at_nil ?_
          refine x_tn ?_
          refine at_cond rfl (fun hc72 => ?_) (fun hc72 => ?_)
          · skip
            refine at_region ?_
            refine s1 (y_loadA0 ti23 rfl rfl (by simp [hq32])) rfl <| s1 (y_loadA0 ti23 rfl rfl (by simp [hlf])) rfl <| ?_
            refine at_op rfl (n_call false rfl (.cons (.pure pu) (.cons (.pure pu) (.nil))) (node_ok (fun t b h1 h2 => tagged_ok t b (by omega) (by omega)) q _ hq32 hlf) pu (.inl rfl) rfl ?_)
            refine at_op rfl (n_storeA ti23 rfl rfl rfl (by simp) (by simp [hlf]) ?_)
            refine at_nil ?_
            refine x_bn ?_
            refine x_tn ?_
            refine at_region ?_
            refine s1 (addN _ 1 rfl rfl rfl rfl (by omega)) rfl <| s1 (y_p rfl) rfl <| ?_
            refine at_nil ?_
            exact at_end (j + 1) (by omega) (by omega) [(8, some 8), (10, some 10)] hI rfl rfl ⟨⟨_, rfl, .p rfl⟩, ⟨_, rfl, .sl rfl (by first | rfl | omega | (simp; done) | (simp [*]; done) | (simp; omega) | (simp [*]; omega) | (simp [D32.len, -List.length_flatten, *]; done) | (simp [D32.len, -List.length_flatten, *]; omega))⟩, ⟨_, rfl, .pure pu⟩, ⟨_, rfl, .pure pu⟩, ⟨_, rfl, .pure pu⟩, trivial⟩ ⟨.inr ⟨_, _, rfl, rfl, .of (by rw [fold_take hb hq, if_pos hc72]; rfl) (.pure pul)⟩, .inr ⟨_, _, rfl, rfl, .pure pul⟩, trivial⟩
          · skip
            refine at_region ?_
            refine s1 (y_loadA0 ti23 rfl rfl (by simp [hlf])) rfl <| s1 (y_loadA0 ti23 rfl rfl (by simp [hq32])) rfl <| ?_
            refine at_op rfl (n_call false rfl (.cons (.pure pu) (.cons (.pure pu) (.nil))) (node_ok (fun t b h1 h2 => tagged_ok t b (by omega) (by omega)) _ q hlf hq32) pu (.inl rfl) rfl ?_)
            refine at_op rfl (n_storeA ti23 rfl rfl rfl (by simp) (by simp [hlf]) ?_)
            refine at_nil ?_
            refine x_bn ?_
            refine x_tn ?_
            refine at_region ?_
            refine s1 (addN _ 1 rfl rfl rfl rfl (by omega)) rfl <| s1 (y_p rfl) rfl <| ?_
            refine at_nil ?_
            exact at_end (j + 1) (by omega) (by omega) [(8, some 8), (10, some 10)] hI rfl rfl ⟨⟨_, rfl, .p rfl⟩, ⟨_, rfl, .sl rfl (by first | rfl | omega | (simp; done) | (simp [*]; done) | (simp; omega) | (simp [*]; omega) | (simp [D32.len, -List.length_flatten, *]; done) | (simp [D32.len, -List.length_flatten, *]; omega))⟩, ⟨_, rfl, .pure pu⟩, ⟨_, rfl, .pure pu⟩, ⟨_, rfl, .pure pu⟩, trivial⟩ ⟨.inr ⟨_, _, rfl, rfl, .of (by rw [fold_take hb hq, if_neg (by rw [hc72]; decide)]; rfl) (.pure pul)⟩, .inr ⟨_, _, rfl, rfl, .pure pul⟩, trivial⟩
        · have hj2 : j = P.length := by have := of_decide_eq_false hc61; omega
          subst hj2
          have hct : fold ((rights i n).reverse.take P.length) (P.take P.length) (leafD d) = climb d i n P := by rw [List.take_length, List.take_of_length_le (by simp; omega)]; rfl
          refine at_exit ?_
          refine x_te ?_
          refine x_te ?_
          refine x_be ?_
          refine x_tn ?_
          refine at_seq ?_
          refine at_sayO 8 rfl (cs' := (climb d i n P).map u8) (by rw [hct]) ?_
          refine at_region ?_
          refine s1 (y_loadA0 ti23 rfl rfl (by simp)) rfl <| ?_
          refine at_op rfl (n_storeA ti23 rfl rfl rfl (by simp) (by simp) ?_)
          refine s1 ((y_p rfl).v (v' := .i .i64 0) rfl) rfl <| ?_
          refine at_nil ?_
          refine x_tn ?_
          refine at_ret ?_
          refine at_result (rs := [.cell 8 23, .tmp 9]) rfl (r_cellA ti23 rfl rfl (List.take_of_length_le (by simp)) (by simp) (r_tmp rfl r_nil)) ?_
          rw [climbA, if_pos hfit, Int.toNat_natCast, Int.toNat_natCast]
          rfl
end Go.Abs.D2

/-! C5Q -/
namespace Go.Abs.D2
open Go Go.Eng Go.Abs
theorem iter_add (x : List UInt8) (j : Nat) : ∀ k, iterD k (iterD j x) = iterD (k + j) x
  | 0 => by rw [Nat.zero_add]; rfl
  | k + 1 => by rw [show k + 1 + j = (k + j) + 1 by omega]; show stepD _ = stepD _; rw [iter_add x j k]
theorem sign_at (s m : List UInt8) {n i : Nat} (h : i < n) : (signL s m n).getD i [] = iterD (dg m i) (firstD s i) := by
  simp [signL, h]
theorem rec_sign (s m : List UInt8) : ∀ i, i ≤ 19 → recL m (signD s m) i = pubL s i
  | 0, _ => by rw [recL_0, pubL_0]
  | i + 1, h => by
    rw [recL_succ, pubL_succ, rec_sign s m i (by omega), sign_at s m (by omega), iter_add, show 3 - dg m i + dg m i = 3 by have := dg_lt m i; omega]
theorem recD_sign (s m : List UInt8) : recD m (signD s m) = pubD s ∧ recE (signD s m) = 0 := by
  obtain ⟨h1, h2⟩ := rec_yes (m := m) (S := signD s m) (by simp)
  exact ⟨by rw [h1, rec_sign s m 19 (by omega)]; rfl, h2⟩
theorem ver_sign (p s m : List UInt8) : verD p m (signD s m) = (pubD s == p) := by
  unfold verD
  rw [(recD_sign s m).1, (recD_sign s m).2]
  simp
theorem get_nI {l : List Nat} {j q : Nat} (h : l[j]? = some q) : ((l.map nI).drop (j * 1))[0]? = some (nI q) := by
  rw [List.getElem?_drop, show j * 1 + 0 = j by omega, List.getElem?_map, h]; rfl
theorem get_sign (s m : List UInt8) {i : Nat} (h : i < 19) : (signD s m)[i]? = some (iterD (dg m i) (firstD s i)) := by
  simp [signD, signL, h]
end Go.Abs.D2

/-! C5R -/
namespace Go.Abs.D2
open Go Go.Eng Go.Abs
end Go.Abs.D2

/-! D2V -/
namespace Go.Abs.D2
open Go Go.Eng Go.Abs
/-- A digest of a list that bytes determine. -/
def dig1 (s : List UInt8) (k : Nat) : List UInt8 := [s.getD k 0 % 4, UInt8.ofNat (k / 8)] ++ List.replicate 30 0
def digsK (s : List UInt8) (i : Nat) : List (List UInt8) := (List.range i).map (dig1 s)
def digs (s : List UInt8) : List (List UInt8) := digsK s (min s.length 24)
@[simp] theorem len_digsK (s : List UInt8) (i : Nat) : (digsK s i).length = i := by simp [digsK]
theorem len_digs (s : List UInt8) : (digs s).length ≤ 24 := by simp [digs]; omega
@[simp] theorem len_dig1 (s : List UInt8) (k : Nat) : (dig1 s k).length = 32 := by simp [dig1]
theorem dig1_cells (s : List UInt8) (k : Nat) : [u8 (s.getD k 0 % 4), u8 (UInt8.ofNat (k / 8))] ++ ((List.replicate 32 (Value.int .u8 0)).map evC).drop 2 = (dig1 s k).map u8 := by
  simp only [dig1, List.map_append, List.map_cons, List.map_nil, List.map_replicate]
  rfl
theorem fits_nat {i n m : Nat} (h : i < n) (hn : n ≤ 1099511627776) (hm : m = (rights i n).length) : fits (i : Int) (n : Int) m := ⟨by omega, by omega, by omega, by omega, by rw [Int.toNat_natCast, Int.toNat_natCast]; exact hm⟩
def climbD (d : List UInt8) (a n : Int) (p : List (List UInt8)) : List UInt8 := if fits a n p.length then climb d a.toNat n.toNat p else List.replicate 32 0
def climbE (a n : Int) (m : Nat) : Int := if fits a n m then 0 else 1
theorem climbA_eq (d : List UInt8) (a n : Int) (p : List (List UInt8)) : climbA d a n p = .tu [.ag ((climbD d a n p).map u8), .i .i64 (climbE a n p.length)] := by
  unfold climbA climbD climbE
  split <;> rfl
@[simp] theorem len_climbD (d : List UInt8) (a n : Int) (p : List (List UInt8)) : (climbD d a n p).length = 32 := by
  unfold climbD
  split <;> simp
theorem path_fits {L : List (List UInt8)} {i : Nat} (h : i < L.length) (hl : L.length ≤ 1099511627776) : fits (i : Int) (L.length : Int) (path L i).length := fits_nat h hl (rights_path _ L i (Nat.le_refl _))
def oneD : List UInt8 := 1 :: List.replicate 31 0
@[simp] theorem len_oneD : oneD.length = 32 := rfl
@[simp] theorem len_leafD (d : List UInt8) : (leafD d).length = 32 := len_tagged _ _
@[simp] theorem len_nodeD (a b : List UInt8) : (nodeD a b).length = 32 := len_tagged _ _
theorem climb_good {L : List (List UInt8)} {i : Nat} {q : List UInt8} (h : L[i]? = some q) (hl : L.length ≤ 1099511627776) : climbD q (i : Int) (L.length : Int) (path L i) = tree L ∧ climbE (i : Int) (L.length : Int) (path L i).length = 0 := by
  have hi := (List.getElem?_eq_some_iff.1 h).1
  have hf := path_fits hi hl
  unfold climbD climbE
  rw [if_pos hf, if_pos hf, Int.toNat_natCast, Int.toNat_natCast]
  exact ⟨climb_path _ L i q (Nat.le_refl _) h, rfl⟩
end Go.Abs.D2

/-! AbsP -/
namespace Go.Abs
open Go Go.Eng
section
variable {P : Program} {w0 : Bw} {X0 : Xs} {n : Nat} {E : Ev} {st : St} {K : Act → World → Prop}
/-- What a slot's pointer leads to is turned no more. -/
theorem at_frzP (t : Nat) {id : Nat} {cs : List A} (ht : E.at? t = some (.p id 0)) (hg : st.get id = some cs) (hp : PureL cs) (h : At w0 X0 n ((t, .fp cs) :: E) (st.del id) K) : At w0 X0 n E st K := by
  rintro a w ⟨β, X, hr⟩
  obtain ⟨u, g1, g2⟩ := hr.slot t _ ht
  simp only [V] at g2
  obtain ⟨b, N, hβ, rfl⟩ := g2
  obtain ⟨m1, m2, m3, m4⟩ := hr.mem.freeze hg hβ
  refine h a w ⟨β, _, hr.say ht m1 m2 m3 fun u hu => ?_⟩
  simp only [V] at hu ⊢
  obtain ⟨b', N', hb', rfl⟩ := hu
  rw [hβ] at hb'
  simp only [Option.some.injEq, BL.bk.injEq] at hb'
  obtain ⟨rfl, rfl⟩ := hb'
  have := m4 0 cs.length hp
  rw [List.drop_zero, List.take_length] at this
  exact ⟨b, 0, rfl, this⟩
variable {t t' ty : TypeId} {x : Operand}
end
end Go.Abs

/-! AbsQ -/
namespace Go.Abs
open Go Go.Eng
mutual
/-- The second says no more than the first. -/
inductive Wk : A → A → Prop where
  | eq {v v' : A} (h : v = v') : Wk v v'
  | nl : Wk .nl (.fz 0 [])
  | ag {cs cs' : List A} (h : WkL cs cs') : Wk (.ag cs) (.ag cs')
  | tu {cs cs' : List A} (h : WkL cs cs') : Wk (.tu cs) (.tu cs')
inductive WkL : List A → List A → Prop where
  | nil : WkL [] []
  | cons {c c' : A} {cs cs' : List A} (h : Wk c c') (hs : WkL cs cs') : WkL (c :: cs) (c' :: cs')
end
instance {v k} [h : IsFlat v] : IsFlatL (List.replicate k v) := ⟨FlatL_mem.2 fun c hc => by rw [List.eq_of_mem_replicate hc]; exact h.out⟩
theorem WkL.same : ∀ {cs : List A}, WkL cs cs
  | [] => .nil
  | _ :: _ => .cons (.eq rfl) WkL.same
mutual
theorem Wk_V {X : Xs} {w : World} {β : Bm} : ∀ {v v' : A} {u : Value}, Wk v v' → V X w β v u → V X w β v' u
  | _, _, _, .eq h, hv => h ▸ hv
  | _, _, _, .nl, hv => V_nlfz hv
  | _, _, _, .ag h, hv => by
    simp only [V] at hv ⊢
    obtain ⟨us, e1, e2, e3⟩ := hv
    exact ⟨us, e1, WkL_VS h e2, e3⟩
  | _, _, _, .tu h, hv => by
    simp only [V] at hv ⊢
    obtain ⟨us, e1, e2⟩ := hv
    exact ⟨us, e1, WkL_VS h e2⟩
theorem WkL_VS {X : Xs} {w : World} {β : Bm} : ∀ {cs cs' : List A} {us : List Value}, WkL cs cs' → VS X w β cs us → VS X w β cs' us
  | _, _, _, .nil, hv => hv
  | _, _, _, .cons h hs, hv => by
    simp only [VS] at hv
    obtain ⟨u, r, rfl, h1, h2⟩ := hv
    exact VS_cons (Wk_V h h1) (WkL_VS hs h2)
end
section
variable {P : Program} {w0 : Bw} {X0 : Xs} {n : Nat} {E : Ev} {st : St} {K : Act → World → Prop}
theorem at_wk (t : Nat) {v v' : A} (ht : E.at? t = some v) (hw : Wk v v') (h : At w0 X0 n ((t, v') :: E) st K) : At w0 X0 n E st K := by
  rintro a w ⟨β, X, hr⟩
  exact h a w ⟨β, X, hr.say ht hr.mem (fun _ _ h => ⟨h, rfl⟩) (fun _ _ h => .inl h) (fun u hu => Wk_V hw hu)⟩
theorem at_wkO (id : Nat) {cs cs' : List A} (hg : st.get id = some cs) (hw : WkL cs cs') (h : At w0 X0 n E (st.put id cs') K) : At w0 X0 n E st K := by
  rintro a w ⟨β, X, hr⟩
  have hm : Mem w0 β X (st.put id cs') w := by
    refine .of hr.mem.below hr.mem.b0 hr.mem.xlt (fun k hk => ?_) (fun k ds hk => ?_) (fun i j ci cj b M N hij h1 h2 => ?_)
    · rw [St.free_put] at hk
      split at hk
      · cases hk
      · exact hr.mem.dom k hk
    · rw [St.get_put] at hk
      split at hk
      · rename_i he
        subst he
        simp only [Option.some.injEq] at hk
        subst hk
        have := hr.mem.obj id cs hg
        unfold OB at this ⊢
        split at this
        · exact this
        · subst this; cases hw; rfl
        · obtain ⟨h1, h2, us, rest, ty, h3, h4, h5, h6⟩ := this
          exact ⟨h1, h2, us, rest, ty, h3, h4, WkL_VS hw h5, h6⟩
      · exact hr.mem.obj k ds hk
    · have g : ∀ (k : Nat) (c : List A), (st.put id cs').get k = some c → ∃ c', st.get k = some c' := by
        intro k c hk
        rw [St.get_put] at hk
        split at hk
        · rename_i he; subst he; exact ⟨_, hg⟩
        · exact ⟨_, hk⟩
      obtain ⟨c1, e1⟩ := g _ _ h1
      obtain ⟨c2, e2⟩ := g _ _ h2
      exact hr.mem.inj i j c1 c2 b M N hij e1 e2
  exact h a w ⟨β, X, .of hr.x0 hr.xn hm hr.gl hr.size hr.defers hr.sslot hr.slot⟩
end
section
variable {P : Program} {w0 : Bw} {X0 : Xs} {n : Nat} {E F : Ev} {st : St} {K : Act → World → Prop} {Q : Exit → Act → World → Prop}
variable {r : Option Nat} {ds0 : List Nat} {N : Nat} {E0 : EV} {st0 : St} {ops : Array Oper} {k g : Nat} {plan : List Stp} {rest : List Oper} {gd : Option (Nat × Bool)} {d : Nat} {ty : TypeId} {pos : String} {aft : Array Edge}
theorem fs_copyC {dT sT e : TypeId} {by' : Nat} {zero : List Value} {agg : Bool} {x y : Operand} {vy : A} {id off m kk : Nat} {cs news cs' : List A} (c k0 : Nat) (deps : List Nat) (need : List (Nat × Option Nat)) (hg : GuardYes ops (keepI (E0.at k0) deps k0 E) gd) (ht : P.underlying dT = some (.slice e)) (he : TI P e 1 by' zero agg) (hx : ev (keepI (E0.at k0) deps k0 E) x = some (.sl id 1 off m)) (hgt : (nst plan st0 need).get id = some cs) (hy : ev (keepI (E0.at k0) deps k0 E) y = some vy) (hn : SM (nst plan st0 need) vy = some (kk, news)) (hnl : news.length = kk)
    (hc : c = Nat.min kk m) (hc0 : 0 < c) (hfit : off + c ≤ cs.length) (hcs : cs.take off ++ news.take c ++ cs.drop (off + c) = cs') (hb : Nat.ble (d + 1) N = true) (hd : depB k0 deps need = true) (h : FS r ds0 P w0 X0 N Q ops k g E0 st0 (plan ++ [⟨d, .i .i64 (c : Int), deps, [], [(id, cs')], need, [id]⟩]) (k0 + 1) ((d, .i .i64 (c : Int)) :: E) (st.put id cs') rest) :
    FS r ds0 P w0 X0 N Q ops k g E0 st0 plan k0 E st (⟨some d, .call { callee := .builtin .copy, args := #[x, y], argTypes := #[dT, sT] }, ty, pos, aft, gd⟩ :: rest) :=
  fs_gen ⟨d, .i .i64 (c : Int), deps, [], [(id, cs')], need, [id]⟩ (fun hk hE _ _ _ hD hs _ hK => have he' := hD.fin hE hk; ob_gy hg he' (n_copyC c ht he (ev_le he' hx) (hs _ _ hgt) (ev_le he' hy) (SM_le hs hn) hnl hc hc0 hfit hcs hb hK)) hd h
end
end Go.Abs
namespace Go.Eng
theorem madeCells_rep (z : Value) (s m : Nat) (hs : 0 < s) : madeCells (List.replicate s z).toArray m = (List.replicate m z).toArray := by
  unfold madeCells
  apply Array.ext
  · simp
  · intro i h1 h2
    have hlt : i % s < s := Nat.mod_lt _ hs
    simp [hlt]
section
variable {P : Program} {n : Nat} {E : Env} {S : List World} {H : List (Nat × Obj)} {Q : Exit → Act → World → Prop}
theorem n_makeZ {d : Nat} {t e : TypeId} {by' s : Nat} {z : Value} {agg} {x y : Operand} {k k' : IntKind} {iv jv : Int} {ty : TypeId} {pos aft g} {K : Act → World → Prop} (l c : Nat) (ht : P.underlying t = some (.slice e)) (he : TI P e s by' (List.replicate s z) agg) (hs : 0 < s)
    (hx : ev E x = some (.int k iv)) (hy : ev E y = some (.int k' jv)) (hl : iv = (l : Int)) (hc : jv = (c : Int)) (hlc : l ≤ c) (hby : by' * c ≤ 281474976710656) (hc63 : c ≤ 9223372036854775807) (hd : Nat.ble (d + 1) n = true)
    (h : ∀ b, leAll S b → ltAll H b → At n ((d, .slice (some ⟨b, 0, none⟩) l c) :: E) S ((b, row e (List.replicate (c * s) z)) :: H) K) :
    At n E S H (fun a w => (⟨some d, .makeSlice t x y, ty, pos, aft, g⟩ : Oper).wp P a w K Q) := by
  intro a w hR hG
  have hf := hG.fresh
  obtain ⟨⟨i, z', h1, h2, h3, h4, h5⟩, _⟩ := he
  have hz' : z'.cells = (List.replicate s z).toArray := by rw [← Array.toList_inj]; simpa using h5
  subst hl; subst hc
  have hrun := run_make (P := P) w t e i z' ht h1 h2 k k' l c (by omega) (by omega) (by rw [h4, ← Int.natCast_mul]; omega) (by omega)
  simp only [Int.toNat_natCast, h3, hz', madeCells_rep z s (c * s) hs] at hrun
  show Oper.wp P _ a w K Q
  unfold Oper.wp
  have e1 : (execOp a.eval ⟨some d, .makeSlice t x y, ty, pos, aft, g⟩).run P w = .ok (.value (.slice (some ⟨w.heap.size, 0, none⟩) l c)) (w.alloc (row e (List.replicate (c * s) z))) := by
    simp only [execOp, hR.ev hx, hR.ev hy]
    rw [Sem.run_bind, hrun]
    rfl
  rw [e1]
  exact h w.heap.size hf.1 hf.2 _ _ (hR.put hd _) (hG.alloc _)
end
end Go.Eng
namespace Go.Abs
open Go Go.Eng
section
variable {P : Program} {w0 : Bw} {X0 : Xs} {n : Nat} {E : Ev} {st : St} {K : Act → World → Prop} {Q : Exit → Act → World → Prop}
/-- 'make([]T, l, c)', elements of cells that are alike. -/
theorem n_makeZ {d : Nat} (id s : Nat) (hf : st.free id = true) {t e : TypeId} {by' : Nat} {z : Value} {agg} {x y : Operand} {k k' : IntKind} {iv jv : Int} {ty : TypeId} {pos aft g} (l c : Nat) (ht : P.underlying t = some (.slice e)) (he : TI P e s by' (List.replicate s z) agg) (hs : 0 < s) (hz : z.oneCell' = true)
    (hx : ev E x = some (.i k iv)) (hy : ev E y = some (.i k' jv)) (hl : iv = (l : Int)) (hc : jv = (c : Int)) (hlc : l ≤ c) (hby : by' * c ≤ 281474976710656) (hc63 : c ≤ 9223372036854775807) (hd : Nat.ble (d + 1) n = true)
    (h : At w0 X0 n ((d, .sl id s 0 l) :: E) (st.put id (List.replicate (l * s) (evC z))) K) :
    At w0 X0 n E st (fun a w => (⟨some d, .makeSlice t x y, ty, pos, aft, g⟩ : Oper).wp P a w K Q) := by
  rintro a w ⟨β, X, hr⟩
  obtain ⟨e1, e2⟩ := hr.evo hx
  obtain ⟨e3, e4⟩ := hr.evo hy
  rw [V_i] at e2 e4
  rw [e2] at e1; rw [e4] at e3
  refine Eng.n_makeZ (S := [w]) (H := []) (E := full a) (n := a.tmps.size) l c ht he hs e1 e3 hl hc hlc hby hc63 (by rw [hr.size]; exact hd) (fun b hS hH a1 w1 hR hG => ?_) a w (full_rep a hr.defers) (Eng.Good.start w)
  have hb : w.heap.size ≤ b := hS.1
  have hbel := gd_below hG (by simp [hb])
  have hw := hG.own _ (.head _)
  simp only at hw
  have hls : l * s + (c - l) * s = c * s := by rw [← Nat.add_mul, show l + (c - l) = c by omega]
  have hm := hr.mem.push id hf (cs := List.replicate (l * s) (evC z)) (us := List.replicate (l * s) z) (rest := List.replicate ((c - l) * s) z) (ty := e) (N := c * s) hbel hb (by rw [hw]; simp only [row, List.replicate_append_replicate]; rw [hls]) (by simp only [List.length_replicate]; exact hls)
    (by have := VS_evC (X := X) (w := w1) (β := upd β id (.bk b (c * s))) (List.replicate (l * s) z); simpa using this) (by intro q hq; rw [List.eq_of_mem_replicate hq]; exact hz)
  exact h a1 w1 ⟨_, X, hr.next hR (ExtX.of_below hr.mem.xlt hbel) (fun _ _ h => .inl h) (upd_ext (hr.mem.dom id hf)) hm (by simp only [V]; exact .inr ⟨b, c * s, c, upd_at, rfl, hlc, by simp only [maxLen]; omega, by omega⟩)⟩
end
end Go.Abs
namespace Go.Abs
open Go Go.Eng
section
variable {P : Program} {w0 : Bw} {X0 : Xs} {n : Nat} {E : Ev} {st : St} {Q : Exit → Act → World → Prop} {r : Option Nat} {ds : List Nat} {ops : Array Oper} {rest : List Oper} {d : Nat} {op : Op} {ty : TypeId} {pos : String} {aft : Array Edge}
theorem RelQ.yields_un {β : Bm} {X : Xs} {a : Act} {w : World} (h : RelQ w0 X0 n E st β X a w) {j t : Nat} (hj : guardSlot ops j = some t) (hb : E.at? t = some un) : yielded ops a.tmps j = none := by
  obtain ⟨u, h1, h2⟩ := h.slot t _ hb
  simp only [V] at h2
  subst h2
  unfold guardSlot at hj
  simp only [yielded, hj, h1, Option.bind_some]
  rfl
theorem g0u {j t : Nat} {b : Bool} (hj : guardSlot ops j = some t) (hb : E.at? t = some un) (hd : Nat.ble (d + 1) n = true)
    (h : At w0 X0 n ((d, un) :: E) st (Pw ds (wpListIn (rF r) 0 P ops Q rest))) : At w0 X0 n E st (Pw ds (wpListIn (rF r) 0 P ops Q (⟨some d, op, ty, pos, aft, some (j, b)⟩ :: rest))) :=
  fun a w ⟨β, X, hr⟩ => by
    show wpListIn (rF r) 0 P ops Q (_ :: rest) (a.wd ds) w
    unfold wpListIn
    rw [if_neg (by simp [Region.wanted, tmps_wd, hr.yields_un hj hb])]
    refine ⟨fun _ _ => trivial, ?_⟩
    rw [put_wd]
    exact h _ _ ⟨β, X, hr.putD (d := some d) hd (by simp [V])⟩
variable {E0 : EV} {st0 : St} {k g : Nat} {plan : List Stp} {ds0 : List Nat}
end
end Go.Abs

/-! K6A -/
namespace Go.Abs.D2
open Go Go.Eng Go.Abs
/-- A byte of a number, from the most significant of four. -/
def seedB (a : Int) (i : Nat) : UInt8 := UInt8.ofNat ((a % 4294967296).toNat / 2 ^ (24 - 8 * i))
def seedBs (a : Int) (k : Nat) : List UInt8 := (List.range k).map (seedB a)
theorem seedBs_succ (a : Int) (k : Nat) : seedBs a (k + 1) = seedBs a k ++ [seedB a k] := by simp [seedBs, List.range_succ]
@[simp] theorem len_seedBs (a : Int) (k : Nat) : (seedBs a k).length = k := by simp [seedBs]
@[irreducible] def seedL (x : List UInt8) (a : Int) : List UInt8 := tagged [108, 101, 97, 102] (x ++ seedBs a 4)
theorem seedL_eq (x : List UInt8) (a : Int) : seedL x a = tagged [108, 101, 97, 102] (x ++ seedBs a 4) := by unfold seedL; rfl
@[simp] theorem len_seedL (x : List UInt8) (a : Int) : (seedL x a).length = 32 := by rw [seedL_eq]; simp
theorem shr_byte (a : Int) (i : Nat) (h : i < 4) : A.i .u8 (IntKind.u8.wrap (a.fdiv (2 ^ min (((24 - 8 * i : Nat) : Int).toNat) IntKind.i64.bits))) = u8 (seedB a i) := by
  refine congrArg (A.i .u8) ?_
  have : i = 0 ∨ i = 1 ∨ i = 2 ∨ i = 3 := by omega
  unfold seedB
  rw [UInt8.toNat_ofNat']
  rcases this with rfl | rfl | rfl | rfl
  · show (a.fdiv 16777216) % 256 = _
    rw [Int.fdiv_eq_ediv_of_nonneg _ (by omega)]; omega
  · show (a.fdiv 65536) % 256 = _
    rw [Int.fdiv_eq_ediv_of_nonneg _ (by omega)]; omega
  · show (a.fdiv 256) % 256 = _
    rw [Int.fdiv_eq_ediv_of_nonneg _ (by omega)]; omega
  · show (a.fdiv 1) % 256 = _
    rw [Int.fdiv_eq_ediv_of_nonneg _ (by omega)]; omega
theorem ref_byte (a : Int) (k i : Nat) (hk : k = 24 - 8 * i) (h : i < 4) : A.i .u8 (IntKind.u8.wrap ((IntKind.u64.wrap a).fdiv (2 ^ min ((k : Int).toNat) IntKind.u64.bits))) = u8 (seedB a i) := by
  subst hk
  refine congrArg (A.i .u8) ?_
  have : i = 0 ∨ i = 1 ∨ i = 2 ∨ i = 3 := by omega
  unfold seedB
  rw [UInt8.toNat_ofNat']
  rcases this with rfl | rfl | rfl | rfl
  · show ((a % 18446744073709551616).fdiv 16777216) % 256 = _
    rw [Int.fdiv_eq_ediv_of_nonneg _ (by omega)]; omega
  · show ((a % 18446744073709551616).fdiv 65536) % 256 = _
    rw [Int.fdiv_eq_ediv_of_nonneg _ (by omega)]; omega
  · show ((a % 18446744073709551616).fdiv 256) % 256 = _
    rw [Int.fdiv_eq_ediv_of_nonneg _ (by omega)]; omega
  · show ((a % 18446744073709551616).fdiv 1) % 256 = _
    rw [Int.fdiv_eq_ediv_of_nonneg _ (by omega)]; omega
theorem ref_byte3 (a : Int) : A.i .u8 (IntKind.u8.wrap (IntKind.u64.wrap a)) = u8 (seedB a 3) := by
  have := ref_byte a 0 3 rfl (by omega)
  rw [show (IntKind.u64.wrap a).fdiv (2 ^ min ((0 : Nat) : Int).toNat IntKind.u64.bits) = IntKind.u64.wrap a from Int.fdiv_one _] at this
  exact this
theorem set_seed {x : List UInt8} (hx : x.length = 32) (a : Int) (i : Nat) (h : i < 4) : ((x ++ seedBs a i ++ List.replicate (4 - i) 0).map u8).set (0 + (32 + i) * 1) (u8 (seedB a i)) = (x ++ seedBs a (i + 1) ++ List.replicate (4 - (i + 1)) 0).map u8 := by
  rw [← List.map_set]
  refine congrArg (List.map u8) ?_
  rw [show 0 + (32 + i) * 1 = (x ++ seedBs a i).length + 0 by simp [hx], List.set_append_right _ _ (by omega), show (x ++ seedBs a i).length + 0 - (x ++ seedBs a i).length = 0 by omega, show 4 - i = (4 - (i + 1)) + 1 by omega, List.replicate_succ, List.set_cons_zero, seedBs_succ]
  simp
theorem copy_seed {x : List UInt8} {a : Int} : ((List.replicate 36 (Value.int .u8 0)).map evC).take 0 ++ x.map u8 ++ ((List.replicate 36 (Value.int .u8 0)).map evC).drop (0 + 32) = (x ++ seedBs a 0 ++ List.replicate (4 - 0) 0).map u8 := by
  simp [seedBs, evC]
/-- The public keys of a tree's leaves. -/
def kpubs (x : List UInt8) (k : Nat) : List (List UInt8) := (List.range k).map fun i => pubD (seedL x ((i : Nat) : Int))
@[simp] theorem len_kpubs (x : List UInt8) (k : Nat) : (kpubs x k).length = k := by simp [kpubs]
theorem kpubs_succ (x : List UInt8) (k : Nat) : kpubs x (k + 1) = kpubs x k ++ [pubD (seedL x ((k : Nat) : Int))] := by simp [kpubs, List.range_succ]
theorem kpubs_flat (x : List UInt8) (k : Nat) : (kpubs x k).flatten.map u8 ++ (pubD (seedL x ((k : Nat) : Int))).map u8 = (kpubs x (k + 1)).flatten.map u8 := by rw [kpubs_succ]; simp
theorem D32_kpubs (x : List UInt8) (k : Nat) : D32 (kpubs x k) := fun y hy => by
  obtain ⟨i, _, rfl⟩ := List.mem_map.1 hy
  exact len_keyD _
theorem kpubs_get {x : List UInt8} {k i : Nat} (h : i < k) : (kpubs x k)[i]? = some (pubD (seedL x ((i : Nat) : Int))) := by simp [kpubs, h]
def sizeK (n : Int) : Prop := 1 ≤ n ∧ n ≤ 256
instance (n : Int) : Decidable (sizeK n) := by unfold sizeK; infer_instance
theorem sizeK_nat {n : Int} (h : sizeK n) : ∃ k : Nat, n = (k : Int) ∧ 1 ≤ k ∧ k ≤ 256 := ⟨n.toNat, by unfold sizeK at h; omega, by unfold sizeK at h; omega, by unfold sizeK at h; omega⟩
abbrev zD : List UInt8 := List.replicate 32 0
theorem zD_cells : (List.replicate 32 (Value.int .u8 0)).map evC = zD.map u8 := rfl
@[irreducible] def rootD (x : List UInt8) (n : Int) : List UInt8 := if sizeK n then tree (kpubs x n.toNat) else zD
def errK (b : Bool) : Int := if b then 0 else 60
theorem rootD_yes {x : List UInt8} {k : Nat} (h : sizeK (k : Int)) : rootD x (k : Int) = tree (kpubs x k) := by unfold rootD; rw [if_pos h]; rfl
theorem rootD_no {x : List UInt8} {n : Int} (h : ¬ sizeK n) : rootD x n = zD := by unfold rootD; rw [if_neg h]
@[simp] theorem len_rootD (x : List UInt8) (n : Int) : (rootD x n).length = 32 := by unfold rootD; split <;> simp
@[irreducible] def rootA (x : List UInt8) (n : Int) : A := .tu [.ag ((rootD x n).map u8), .i .i64 (errK (decide (sizeK n)))]
theorem rootA_eq (x : List UInt8) (n : Int) : rootA x n = .tu [.ag ((rootD x n).map u8), .i .i64 (errK (decide (sizeK n)))] := by unfold rootA; rfl
theorem rootA_yes {x : List UInt8} {k : Nat} (h : sizeK (k : Int)) : rootA x k = .tu [.ag ((tree (kpubs x k)).map u8), .i .i64 0] := by rw [rootA_eq, rootD_yes h, decide_eq_true h]; rfl
theorem rootA_no {x : List UInt8} {n : Int} (h : ¬ sizeK n) : rootA x n = .tu [.ag (zD.map u8), .i .i64 60] := by rw [rootA_eq, rootD_no h, decide_eq_false h]; rfl
abbrev leafA (a : Int) (S P : List (List UInt8)) : A := .ag [.i .i64 a, dgs S, dgs P]
def atK (n a : Int) : Prop := 0 ≤ a ∧ a < n
instance (n a : Int) : Decidable (atK n a) := by unfold atK; infer_instance
@[irreducible] def signA (x : List UInt8) (n a : Int) (m : List UInt8) : A := if sizeK n ∧ atK n a then .tu [leafA a (signD (seedL x a) m) (path (kpubs x n.toNat) a.toNat), .i .i64 0] else .tu [leafA 0 [] [], .i .i64 60]
theorem signA_no {x m : List UInt8} {n a : Int} (h : ¬ (sizeK n ∧ atK n a)) : signA x n a m = .tu [leafA 0 [] [], .i .i64 60] := by unfold signA; rw [if_neg h]
theorem signA_yes {x m : List UInt8} {k i : Nat} (h : sizeK (k : Int)) (hi : i < k) : signA x k i m = .tu [leafA i (signD (seedL x i) m) (path (kpubs x k) i), .i .i64 0] := by unfold signA; rw [if_pos ⟨h, by unfold atK; omega⟩]; rfl
theorem pathA_yes {L : List (List UInt8)} {i : Nat} (h : i < L.length) : pathA L i = .tu [dgs (path L i), .i .i64 0] := by unfold pathA; rw [if_pos (by omega)]; rfl
theorem pathA_no {L : List (List UInt8)} {a : Int} (h : ¬ (0 ≤ a ∧ a < L.length)) : pathA L a = .tu [.nl, .i .i64 1] := by unfold pathA; rw [if_neg h]
theorem D32_signD (x m : List UInt8) : D32 (signD x m) := D32_signL x m 19
/-- Is a signature right? -/
@[irreducible] def verK (r : List UInt8) (n : Int) (m : List UInt8) (a : Int) (S P : List (List UInt8)) : Bool := decide (sizeK n) && (decide (atK n a) && (decide (recE S = 0) && ((climbE a n P.length == 0) && (climbD (recD m S) a n P == r))))
theorem ver_k1 {r m : List UInt8} {n a : Int} {S P : List (List UInt8)} (h : ¬ sizeK n) : verK r n m a S P = false := by unfold verK; simp [h]
theorem ver_k2 {r m : List UInt8} {n a : Int} {S P : List (List UInt8)} (h : ¬ atK n a) : verK r n m a S P = false := by unfold verK; simp [h]
theorem ver_k3 {r m : List UInt8} {n a : Int} {S P : List (List UInt8)} (h : ¬ recE S = 0) : verK r n m a S P = false := by unfold verK; simp [h]
theorem ver_k4 {r m : List UInt8} {n a : Int} {S P : List (List UInt8)} (h : ((climbE a n P.length == 0) && (climbD (recD m S) a n P == r)) = false) : verK r n m a S P = false := by unfold verK; rw [h]; simp
theorem ver_kt {r m : List UInt8} {n a : Int} {S P : List (List UInt8)} (h1 : sizeK n) (h2 : atK n a) (h3 : recE S = 0) (h4 : ((climbE a n P.length == 0) && (climbD (recD m S) a n P == r)) = true) : verK r n m a S P = true := by unfold verK; rw [h4]; simp [h1, h2, h3]
theorem ver_spec {r m : List UInt8} {n a : Int} {S P : List (List UInt8)} (h : verK r n m a S P = true) : sizeK n ∧ atK n a ∧ recE S = 0 ∧ climbE a n P.length = 0 ∧ climbD (recD m S) a n P = r := by
  unfold verK at h
  simp only [Bool.and_eq_true, decide_eq_true_eq, beq_iff_eq] at h
  exact ⟨h.1, h.2.1, h.2.2.1, h.2.2.2.1, h.2.2.2.2⟩
abbrev pubK (m : List UInt8) (S : List (List UInt8)) (i : Nat) : List UInt8 := if i ≤ 2 then zD else recD m S
theorem recE_b (S : List (List UInt8)) : (((recE S : Nat) : Int) == 0) = decide (recE S = 0) := by rw [Bool.eq_iff_iff, beq_iff_eq, decide_eq_true_eq]; omega
theorem atK_b (n a : Int) : (decide (a ≥ 0) && decide (a < n)) = decide (atK n a) := by rw [Bool.eq_iff_iff, Bool.and_eq_true, decide_eq_true_eq, decide_eq_true_eq, decide_eq_true_eq]; unfold atK; omega
end Go.Abs.D2

/-! K6B -/
namespace Go.Abs.D2
open Go Go.Eng Go.Abs Go.Proofs 
theorem tag_seed (x : List UInt8) (a : Int) (hx : x.length = 32) : Con Tryd.prog 40 [.s [108, 101, 97, 102], .fz 36 ((x ++ seedBs a 4).map u8)] (Ret (.ag ((seedL x a).map u8))) := by
  have e2 : (x ++ seedBs a 4).length = 36 := by simp [hx]
  rw [seedL_eq, ← e2]; exact tagged_ok _ _ (by omega) (by simp)
theorem rtag_seed (x : List UInt8) (a : Int) (hx : x.length = 32) : Con Tryd.prog 41 [.s [108, 101, 97, 102], .fz 36 ((x ++ seedBs a 4).map u8)] (Ret (.ag ((seedL x a).map u8))) := by
  have e2 : (x ++ seedBs a 4).length = 36 := by simp [hx]
  rw [seedL_eq, ← e2]; exact rtagged_ok _ _ (by omega) (by simp)
set_option linter.unusedSimpArgs false in
set_option linter.unusedVariables false in
set_option maxHeartbeats 1000000 in
set_option maxRecDepth 10000 in
theorem seed_ok (x : List UInt8) (a : Int) (hx : x.length = 32) : Con Tryd.prog 16 [.ag (x.map u8), .i .i64 a] (Ret (.ag ((seedL x a).map u8))) := by
  refine enter Tryd.func16 rfl Tryd.ntmps16 (by kernel_rfl) (Nat.le_of_ble_eq_true rfl) fun w0 X0 hI => ?_
  refine at_seq ?_
  refine at_region ?_
  refine at_op rfl (n_boxA 2 rfl rfl rfl ?_)
  refine at_op rfl (n_alloc 4 rfl ti23 rfl rfl ?_)
  refine at_nil ?_
  refine x_tn ?_
  refine at_seq ?_
  refine at_region ?_
  refine at_op rfl (n_alloc 5 rfl ti64 rfl rfl ?_)
  refine at_nil ?_
  refine x_tn ?_
  refine at_seq ?_
  refine at_draw_tail 2 hmix (by kernel_rfl) ?_
  refine t1 (y_cuta0 Tryd.underlying64 ti5 rfl rfl (by simp) (by simp [maxLen])) rfl <| t1 (y_cuta0 Tryd.underlying23 ti5 rfl rfl (by simp [hx]) (by simp [maxLen])) rfl <| ?_
  refine at_snil ?_
  refine at_op rfl (n_copy Tryd.underlying65 ti5 rfl rfl rfl (SM_full rfl (by simp [hx])) (by first | rfl | omega | (simp; done) | (simp [*]; done) | (simp; omega) | (simp [*]; omega) | (simp [D32.len, -List.length_flatten, *]; done) | (simp [D32.len, -List.length_flatten, *]; omega)) (by first | omega | (simp only [maxLen]; omega) | (simp [maxLen]; done) | (simp [maxLen]; omega) | (simp [maxLen, *]; omega)) (by first | omega | (simp only [maxLen]; omega) | (simp [maxLen]; done) | (simp [maxLen]; omega) | (simp [maxLen, *]; omega)) (by first | omega | (simp only [maxLen]; omega) | (simp [maxLen]; done) | (simp [maxLen]; omega) | (simp [maxLen, *]; omega)) (copy_seed (a := a)) rfl ?_)
  refine at_nil ?_
  refine x_tn ?_
  refine at_seq ?_
  refine at_seq ?_
  refine at_region ?_
  refine s1 ((y_p rfl).v (v' := .i .i64 0) rfl) rfl <| ?_
  refine at_nil ?_
  refine x_tn ?_
  refine at_block ?_
  refine at_loop (ι := Nat) (fun i => [(1, .i .i64 a), (4, .p 4 0), (5, .p 5 0), (10, .i .i64 (i : Nat))]) (fun i => ⟨[(4, some (zD.map u8)), (5, some ((x ++ seedBs a i ++ List.replicate (4 - i) 0).map u8))]⟩) (fun i => i ≤ 4) (fun i => 4 - i) ?_ ?_
  · exact at_ex (0) (Nat.zero_le _) [(4, some 4), (5, some 5)] hI rfl rfl ⟨⟨_, rfl, .pure pu⟩, ⟨_, rfl, .p rfl⟩, ⟨_, rfl, .p rfl⟩, ⟨_, rfl, .pure pu⟩, trivial⟩ ⟨.inr ⟨_, _, rfl, rfl, .pure pul⟩, .inr ⟨_, _, rfl, rfl, .pure pul⟩, trivial⟩
  rintro i hi
  refine at_seq ?_
  refine at_region ?_
  refine s1 (y_p rfl) rfl <| ?_
  refine at_nil ?_
  refine x_tn ?_
  refine at_seq ?_
  refine at_cond rfl (fun hc11 => ?_) (fun hc11 => ?_)
  · have h11 : i < 4 := by have := of_decide_eq_true hc11; omega
    refine at_skip ?_
    refine x_tn ?_
    refine at_seq ?_
    refine at_block ?_
    refine at_seq ?_
    refine at_region ?_
    refine s1 (y_p rfl) rfl <| s1 (y_p rfl) rfl <| ?_
    refine at_nil ?_
    refine x_tn ?_
    refine at_region ?_
    refine s1 (y_p rfl) rfl <| s1 (addN 32 i rfl rfl rfl rfl (by omega)) rfl <| s1 (y_p rfl) rfl <| s1 (y_p rfl) rfl <| s1 (mulN 8 i rfl rfl rfl rfl (by omega)) rfl <| s1 (subN 24 (8 * i) rfl rfl rfl rfl (by omega) (by omega)) rfl <| s1 (y_shr rfl rfl (by omega)) rfl <| s1 ((y_conv Tryd.underlying3 Tryd.underlying5 rfl).v (shr_byte a i h11)) rfl <| s1 (y_ixa (32 + i) Tryd.underlying64 ti5 rfl rfl rfl (by omega) rfl) rfl <| ?_
    refine at_op rfl (n_store1 ti5 rfl rfl rfl rfl (by simp [hx]; omega) (set_seed hx a i h11) ?_)
    refine at_nil ?_
    refine x_bn ?_
    refine x_tn ?_
    refine at_region ?_
    refine s1 (addN _ 1 rfl rfl rfl rfl (by omega)) rfl <| s1 (y_p rfl) rfl <| ?_
    refine at_nil ?_
    exact at_end (i + 1) (by omega) (by omega) [(4, some 4), (5, some 5)] hI rfl rfl ⟨⟨_, rfl, .pure pu⟩, ⟨_, rfl, .p rfl⟩, ⟨_, rfl, .p rfl⟩, ⟨_, rfl, .pure pu⟩, trivial⟩ ⟨.inr ⟨_, _, rfl, rfl, .pure pul⟩, .inr ⟨_, _, rfl, rfl, .of (by rfl) (.pure pul)⟩, trivial⟩
  · have h11 : i = 4 := by have := of_decide_eq_false hc11; omega
    subst h11
    refine at_exit ?_
    refine x_te ?_
    refine x_te ?_
    refine x_be ?_
    refine x_tn ?_
    refine at_seq ?_
    refine at_region ?_
    refine s1 (y_cuta0 Tryd.underlying64 ti5 rfl rfl (by simp [hx]) (by simp [maxLen])) rfl <| ?_
    refine at_op rfl (n_call true rfl (.cons (.pure pu) (.cons (.sl rfl rfl rfl (view_eq (by simp [hx]) (by simp)) (VwL.pure pul) pul) .nil)) (tag_seed x a hx) pu (.inr fu) rfl ?_)
    refine at_op rfl (n_storeA ti23 rfl rfl rfl (by first | rfl | omega | (simp; done) | (simp [*]; done) | (simp; omega) | (simp [*]; omega) | (simp [D32.len, -List.length_flatten, *]; done) | (simp [D32.len, -List.length_flatten, *]; omega)) (by first | rfl | omega | (simp; done) | (simp [*]; done) | (simp; omega) | (simp [*]; omega) | (simp [D32.len, -List.length_flatten, *]; done) | (simp [D32.len, -List.length_flatten, *]; omega)) ?_)
    refine at_nil ?_
    refine x_tn ?_
    refine at_ret ?_
    refine at_result (rs := [.cell 4 23]) rfl (r_cellA ti23 rfl rfl (List.take_of_length_le (by simp)) (by simp) r_nil) rfl
set_option linter.unusedSimpArgs false in
set_option linter.unusedVariables false in
set_option maxHeartbeats 1000000 in
set_option maxRecDepth 10000 in
theorem publics_ok (x : List UInt8) (n : Nat) : Con Tryd.prog 37 [.ag (x.map u8), nI n] (Ret (.fn (.func 72) [] [.fp [nI n], .fp (x.map u8)])) := by
  refine enter Tryd.func37 rfl Tryd.ntmps37 (by kernel_rfl) (Nat.le_of_ble_eq_true rfl) fun w0 X0 hI => ?_
  refine at_seq ?_
  refine at_region ?_
  refine at_op rfl (n_boxA 2 rfl rfl rfl ?_)
  refine at_op rfl (n_box1 3 rfl rfl rfl rfl ?_)
  refine s1 (y_p rfl) rfl <| ?_
  refine at_nil ?_
  refine x_tn ?_
  refine at_seq ?_
  refine at_frzP 2 rfl rfl pul ?_
  refine at_frzP 3 rfl rfl pul ?_
  refine at_region ?_
  refine s1 (y_func (us := []) (vs := [.fp [nI n], .fp (x.map u8)]) rfl rfl) rfl <| s1 (y_p rfl) rfl <| ?_
  refine at_nil ?_
  refine x_tn ?_
  refine at_ret ?_
  refine at_result (rs := [.tmp 4]) rfl (r_tmp rfl r_nil) rfl
set_option linter.unusedSimpArgs false in
set_option linter.unusedVariables false in
set_option maxHeartbeats 1000000 in
set_option maxRecDepth 10000 in
theorem appendSeqD_ok (x : List UInt8) (n : Nat) (hx : x.length = 32) (hn : n ≤ 256) : Con Tryd.prog 71 [.nl, .fn (.func 72) [] [.fp [nI n], .fp (x.map u8)]] (RetO 32 n ((kpubs x n).flatten.map u8)) := by
  refine enterM Tryd.func71 rfl Tryd.ntmps71 (by kernel_rfl) (Nat.le_of_ble_eq_true rfl) fun w0 X0 hI hS => ?_
  refine at_seq ?_
  refine at_region ?_
  refine at_op rfl (n_box1 2 rfl rfl rfl rfl ?_)
  refine s1 (y_p rfl) rfl <| ?_
  refine at_nil ?_
  refine x_tn ?_
  refine at_seq ?_
  refine at_seq ?_
  refine at_region ?_
  refine s1 (y_p rfl) rfl <| ?_
  refine at_nil ?_
  refine x_tn ?_
  refine at_block ?_
  refine at_range [2] [(0, _), (1, _), (2, _), (4, _), (6, _)] hI rfl ⟨rfl, ⟨rfl, ⟨rfl, ⟨rfl, ⟨rfl, trivial⟩⟩⟩⟩⟩ (by first | rfl | (simp [onlyE, refsE, refs, refsL, refsL_pul, refs_pu, memN]; done)) rfl Tryd.func72 rfl Tryd.ntmps72 (by kernel_rfl) (Nat.le_of_ble_eq_true rfl) fun w1 l1 D1 rc1 hR1 => ?_
  refine at_seq ?_
  refine at_region ?_
  refine s1 (y_load ti3 rfl rfl rfl) rfl <| s1 ((y_p rfl).v (v' := .i .i64 0) rfl) rfl <| ?_
  refine at_nil ?_
  refine x_tn ?_
  refine at_block ?_
  refine at_loop (ι := Nat) (fun i => [(0, yv l1), (1, .fp [nI n]), (2, .fp (x.map u8)), (5, nI n), (6, nI i)]) (fun i => ⟨[(2, some ([.sl 11 32 0 i])), (11, some ((kpubs x i).flatten.map u8))]⟩) (fun i => i ≤ n) (fun i => n - i) ?_ ?_
  · exact at_ex (0) (Nat.zero_le _) [(2, some 2), (11, none)] hR1.sub.ids rfl rfl ⟨⟨_, rfl, .pure trivial⟩, ⟨_, rfl, .pure pu⟩, ⟨_, rfl, .pure pu⟩, ⟨_, rfl, .pure pu⟩, ⟨_, rfl, .pure pu⟩, trivial⟩ ⟨.inr ⟨_, _, rfl, rfl, .cons (.nl rfl) .nil⟩, .inl ⟨rfl, rfl⟩, trivial⟩
  rintro i hi
  have hfl := (D32_kpubs x i).len
  rw [len_kpubs] at hfl
  refine at_seq ?_
  refine at_region ?_
  refine s1 (y_p rfl) rfl <| ?_
  refine at_nil ?_
  refine x_tn ?_
  refine at_seq ?_
  refine at_cond rfl (fun hc7 => ?_) (fun hc7 => ?_)
  · have h7 : i < n := by have := of_decide_eq_true hc7; omega
    refine at_skip ?_
    refine x_tn ?_
    refine at_seq ?_
    refine at_block ?_
    refine at_seq ?_
    refine at_region ?_
    refine s1 (y_p rfl) rfl <| s1 (y_p rfl) rfl <| ?_
    refine at_nil ?_
    refine x_tn ?_
    refine at_seq ?_
    refine at_region ?_
    refine s1 (y_p rfl) rfl <| s1 (y_loadA ti23 rfl rfl (List.take_of_length_le (by simp [hx])) (by simp [hx])) rfl <| s1 (y_p rfl) rfl <| ?_
    refine at_op rfl (n_call false rfl (.cons (.pure pu) (.cons (.pure pu) (.nil))) (seed_ok x (i : Nat) hx) pu (.inl rfl) rfl ?_)
    refine at_op rfl (n_call false rfl (.cons (.pure pu) (.nil)) (public_ok (seedL x (i : Nat)) (by simp)) pu (.inl rfl) rfl ?_)
    refine at_yield [2] [(0, _), (1, _), (2, _), (4, _), (5, _), (6, _), (7, _), (8, _), (9, _), (10, _), (11, _), (12, _), (13, _)] hR1 hR1.sub.ids rfl ⟨rfl, ⟨rfl, ⟨rfl, ⟨rfl, ⟨rfl, ⟨rfl, ⟨rfl, ⟨rfl, ⟨rfl, ⟨rfl, ⟨rfl, ⟨rfl, ⟨rfl, trivial⟩⟩⟩⟩⟩⟩⟩⟩⟩⟩⟩⟩⟩ (by first | rfl | (simp [onlyE, refsE, refs, refsL, refsL_pul, refs_pu, memN]; done)) rfl rfl rfl rfl rfl fun w2 tm2 hd2 => ?_
    refine at_region ?_
    refine at_op rfl (n_alloc 5 rfl ti23 rfl rfl ?_)
    refine at_op rfl (n_storeA ti23 rfl rfl rfl (by first | rfl | omega | (simp; done) | (simp [*]; done) | (simp; omega) | (simp [*]; omega) | (simp [D32.len, -List.length_flatten, *]; done) | (simp [D32.len, -List.length_flatten, *]; omega)) (by first | rfl | omega | (simp; done) | (simp [*]; done) | (simp; omega) | (simp [*]; omega) | (simp [D32.len, -List.length_flatten, *]; done) | (simp [D32.len, -List.length_flatten, *]; omega)) ?_)
    refine at_nil ?_
    refine at_begin hd2 fun w3 hd3 => ?_
    refine at_block ?_
    refine at_region ?_
    refine s1 (y_load ti26 rfl rfl rfl) rfl <| s1 (y_loadA0 ti23 rfl rfl (by first | rfl | omega | (simp; done) | (simp [*]; done) | (simp; omega) | (simp [*]; omega) | (simp [D32.len, -List.length_flatten, *]; done) | (simp [D32.len, -List.length_flatten, *]; omega))) rfl <| ?_
    refine at_op rfl (n_bs 10 rfl Tryd.underlying26 ti23 rfl rfl rfl (by first | (simp [cellsA]; done) | (simp [cellsA, *]; done)) (List.append_nil ((pubD (seedL x (i : Nat))).map u8)) rfl rfl rfl ?_)
    refine at_op rfl (n_app 111 rfl Tryd.underlying26 ti23 rfl (.sl rfl (by rw [List.length_map]; exact hfl)) rfl (SM_full rfl (by first | rfl | omega | (simp; done) | (simp [*]; done) | (simp; omega) | (simp [*]; omega) | (simp [D32.len, -List.length_flatten, *]; done) | (simp [D32.len, -List.length_flatten, *]; omega))) (by simp) (by simp only [maxLen]; omega) (by omega) rfl rfl rfl ?_)
    refine at_op rfl (n_store1 ti26 rfl rfl rfl rfl (by first | rfl | omega | (simp; done) | (simp [*]; done) | (simp; omega) | (simp [*]; omega) | (simp [D32.len, -List.length_flatten, *]; done) | (simp [D32.len, -List.length_flatten, *]; omega)) rfl ?_)
    refine at_nil ?_
    refine x_bn ?_
    refine at_rend hR1 hd3 rfl ?_
    refine s1 (y_p rfl) rfl <| ?_
    refine at_nil ?_
    refine x_tn ?_
    refine at_else rfl ?_
    refine at_skip ?_
    refine x_bn ?_
    refine x_tn ?_
    refine at_region ?_
    refine s1 (addN _ 1 rfl rfl rfl rfl (by omega)) rfl <| s1 (y_p rfl) rfl <| ?_
    refine at_nil ?_
    exact at_end (i + 1) (by omega) (by omega) [(2, some 2), (11, some 111)] hR1.sub.ids rfl rfl ⟨⟨_, rfl, .pure trivial⟩, ⟨_, rfl, .pure pu⟩, ⟨_, rfl, .pure pu⟩, ⟨_, rfl, .pure pu⟩, ⟨_, rfl, .pure pu⟩, trivial⟩ ⟨.inr ⟨_, _, rfl, rfl, .cons (.sl rfl (by first | rfl | omega | (simp; done) | (simp [*]; done) | (simp; omega) | (simp [*]; omega) | (simp [D32.len, -List.length_flatten, *]; done) | (simp [D32.len, -List.length_flatten, *]; omega))) .nil⟩, .inr ⟨_, _, rfl, rfl, .of (kpubs_flat x i) (.pure pul)⟩, trivial⟩
  · have h7 : i = n := by have := of_decide_eq_false hc7; omega
    subst h7
    refine at_exit ?_
    refine x_te ?_
    refine x_te ?_
    refine x_be ?_
    refine at_itnil rfl hR1 hS ?_
    refine x_bn ?_
    refine x_tn ?_
    refine at_seq ?_
    refine at_region ?_
    refine s1 (y_load ti26 rfl rfl rfl) rfl <| s1 (y_p rfl) rfl <| ?_
    refine at_nil ?_
    refine x_tn ?_
    refine at_ret ?_
    refine at_resultM (rs := [.tmp 4]) rfl rfl rfl hS rfl (by simp) rfl (r_tmp rfl r_nil) ⟨11, rfl, rfl⟩
set_option linter.unusedSimpArgs false in
set_option linter.unusedVariables false in
set_option maxHeartbeats 1000000 in
set_option maxRecDepth 10000 in
theorem collectD_ok (x : List UInt8) (n : Nat) (hx : x.length = 32) (hn : n ≤ 256) : Con Tryd.prog 36 [.fn (.func 72) [] [.fp [nI n], .fp (x.map u8)]] (Ret (dgs (kpubs x n))) := by
  refine enter Tryd.func36 rfl Tryd.ntmps36 (by kernel_rfl) (Nat.le_of_ble_eq_true rfl) fun w0 X0 hI => ?_
  refine at_seq ?_
  refine at_region ?_
  refine s1 (y_p rfl) rfl <| ?_
  refine at_nil ?_
  refine x_tn ?_
  refine at_seq ?_
  refine at_region ?_
  refine s1 (y_p rfl) rfl <| ?_
  refine at_op rfl (n_callO 4 rfl false rfl (.cons (.pure pu) (.cons (.pure pu) .nil)) (appendSeqD_ok x n hx hn) pul (.inl rfl) rfl ?_)
  refine s1 (y_p rfl) rfl <| ?_
  refine at_nil ?_
  refine x_tn ?_
  refine at_ret ?_
  refine at_frz 2 rfl rfl pul (view_eq (by rw [List.length_map, (D32_kpubs x n).len, len_kpubs]) rfl) ?_
  refine at_result (rs := [.tmp 2]) rfl (r_tmp rfl r_nil) ?_
  exact congrArg (fun z => A.fz z _) (len_kpubs x n).symm
set_option linter.unusedSimpArgs false in
set_option linter.unusedVariables false in
set_option maxHeartbeats 1000000 in
set_option maxRecDepth 10000 in
theorem pubs_ok (x : List UInt8) (n : Int) (hx : x.length = 32) : Con Tryd.prog 31 [.ag (x.map u8), .i .i64 n] (Ret (if sizeK n then .tu [dgs (kpubs x n.toNat), .i .i64 0] else .tu [.nl, .i .i64 60])) := by
  refine enter Tryd.func31 rfl Tryd.ntmps31 (by kernel_rfl) (Nat.le_of_ble_eq_true rfl) fun w0 X0 hI => ?_
  refine at_seq ?_
  refine at_region ?_
  refine at_op rfl (n_boxA 2 rfl rfl rfl ?_)
  refine s1 (y_p rfl) rfl <| s1 ((y_p rfl).v (v' := .i .i64 0) rfl) rfl <| ?_
  refine at_nil ?_
  refine x_tn ?_
  refine at_seq ?_
  refine at_seq ?_
  refine at_region ?_
  refine s1 (y_p rfl) rfl <| s1 (y_p rfl) rfl <| s1 (y_p rfl) rfl <| ?_
  refine g_or 2 rfl rfl rfl rfl (fun hb8 => .step (y_p rfl) rfl rfl <| .step (y_p rfl) rfl rfl <| .done) rfl rfl ?_
  refine at_nil ?_
  refine x_tn ?_
  refine at_cond rfl (fun hc11 => ?_) (fun hc11 => ?_)
  · have hcs : ¬ sizeK n := by intro h; unfold sizeK at h; simp at hc11; omega
    refine at_seq ?_
    refine at_region ?_
    refine s1 (y_p rfl) rfl <| s1 ((y_p rfl).v (v' := .i .i64 60) rfl) rfl <| ?_
    refine at_nil ?_
    refine x_tn ?_
    refine at_ret ?_
    refine x_tr ?_
    refine at_result (rs := [.tmp 4, .tmp 5]) rfl (r_tmp rfl (r_tmp rfl r_nil)) ?_
    exact (if_neg hcs).symm
  · have hcs : sizeK n := by unfold sizeK; simp at hc11; omega
    have hsz := hcs
    obtain ⟨k, rfl, h1, h2⟩ := sizeK_nat hcs
    refine at_skip ?_
    refine x_tn ?_
    refine at_seq ?_
    refine at_region ?_
    refine s1 (y_loadA0 ti23 rfl rfl (by first | rfl | omega | (simp; done) | (simp [*]; done) | (simp; omega) | (simp [*]; omega) | (simp [D32.len, -List.length_flatten, *]; done) | (simp [D32.len, -List.length_flatten, *]; omega))) rfl <| s1 (y_p rfl) rfl <| ?_
    refine at_op rfl (n_call false rfl (.cons (.pure pu) (.cons (.pure pu) (.nil))) (publics_ok x k) pu (.inl rfl) rfl ?_)
    refine at_op rfl (n_call false rfl (.cons (.pure pu) (.nil)) (collectD_ok x k hx h2) pu (.inl rfl) rfl ?_)
    refine s1 (y_p rfl) rfl <| s1 ((y_p rfl).v (v' := .i .i64 0) rfl) rfl <| ?_
    refine at_nil ?_
    refine x_tn ?_
    refine at_ret ?_
    refine at_result (rs := [.tmp 4, .tmp 5]) rfl (r_tmp rfl (r_tmp rfl r_nil)) ?_
    exact (if_pos hsz).symm
set_option linter.unusedSimpArgs false in
set_option linter.unusedVariables false in
set_option maxHeartbeats 1000000 in
set_option maxRecDepth 10000 in
theorem root_ok (x : List UInt8) (n : Int) (hx : x.length = 32) : Con Tryd.prog 12 [.ag (x.map u8), .i .i64 n] (Ret (rootA x n)) := by
  refine enter Tryd.func12 rfl Tryd.ntmps12 (by kernel_rfl) (Nat.le_of_ble_eq_true rfl) fun w0 X0 hI => ?_
  refine at_seq ?_
  refine at_region ?_
  refine at_op rfl (n_boxA 2 rfl rfl rfl ?_)
  refine at_op rfl (n_alloc 4 rfl ti23 rfl rfl ?_)
  refine s1 ((y_p rfl).v (v' := .i .i64 0) rfl) rfl <| ?_
  refine at_nil ?_
  refine x_tn ?_
  refine at_seq ?_
  rcases (Decidable.em (sizeK n)).symm with hcs | hcs
  · skip
    refine at_region ?_
    refine s1 (y_loadA0 ti23 rfl rfl (by first | rfl | omega | (simp; done) | (simp [*]; done) | (simp; omega) | (simp [*]; omega) | (simp [D32.len, -List.length_flatten, *]; done) | (simp [D32.len, -List.length_flatten, *]; omega))) rfl <| s1 (y_p rfl) rfl <| ?_
    refine at_op rfl (n_call false rfl (.cons (.pure pu) (.cons (.pure pu) (.nil))) (Con.cast (pubs_ok x n hx) (if_neg hcs)) pu (.inl rfl) rfl ?_)
    refine s1 (y_p rfl) rfl <| s1 (y_p rfl) rfl <| s1 (y_p rfl) rfl <| s1 (y_p rfl) rfl <| s1 (y_p rfl) rfl <| ?_
    refine at_nil ?_
    refine x_tn ?_
    refine at_seq ?_
    refine at_seq ?_
    refine at_region ?_
    refine s1 (y_p rfl) rfl <| s1 ((y_p rfl).v (v' := .b true) (rfl)) rfl <| ?_
    refine at_nil ?_
    refine x_tn ?_
    refine at_then rfl ?_
    refine at_seq ?_
    refine at_region ?_
    refine s1 (y_loadA0 ti23 rfl rfl (by first | rfl | omega | (simp; done) | (simp [*]; done) | (simp; omega) | (simp [*]; omega) | (simp [D32.len, -List.length_flatten, *]; done) | (simp [D32.len, -List.length_flatten, *]; omega))) rfl <| s1 (y_p rfl) rfl <| ?_
    refine at_op rfl (n_storeA ti23 rfl rfl rfl (by first | rfl | omega | (simp; done) | (simp [*]; done) | (simp; omega) | (simp [*]; omega) | (simp [D32.len, -List.length_flatten, *]; done) | (simp [D32.len, -List.length_flatten, *]; omega)) (by first | rfl | omega | (simp; done) | (simp [*]; done) | (simp; omega) | (simp [*]; omega) | (simp [D32.len, -List.length_flatten, *]; done) | (simp [D32.len, -List.length_flatten, *]; omega)) ?_)
    refine s1 (y_p rfl) rfl <| ?_
    refine at_nil ?_
    refine x_tn ?_
    refine at_ret ?_
    refine x_tr ?_
    refine at_result (rs := [.cell 4 23, .tmp 5]) rfl (r_cellA ti23 rfl rfl (List.take_of_length_le (by simp)) (by simp) (r_tmp rfl r_nil)) ?_
    exact (rootA_no hcs).symm
  · have hsz := hcs
    obtain ⟨k, rfl, h1, h2⟩ := sizeK_nat hcs
    refine at_region ?_
    refine s1 (y_loadA0 ti23 rfl rfl (by first | rfl | omega | (simp; done) | (simp [*]; done) | (simp; omega) | (simp [*]; omega) | (simp [D32.len, -List.length_flatten, *]; done) | (simp [D32.len, -List.length_flatten, *]; omega))) rfl <| s1 (y_p rfl) rfl <| ?_
    refine at_op rfl (n_call false rfl (.cons (.pure pu) (.cons (.pure pu) (.nil))) (Con.cast (pubs_ok x k hx) (if_pos hsz)) pu (.inl rfl) rfl ?_)
    refine s1 (y_p rfl) rfl <| s1 (y_p rfl) rfl <| s1 (y_p rfl) rfl <| s1 (y_p rfl) rfl <| s1 (y_p rfl) rfl <| ?_
    refine at_nil ?_
    refine x_tn ?_
    refine at_seq ?_
    refine at_seq ?_
    refine at_region ?_
    refine s1 (y_p rfl) rfl <| s1 ((y_p rfl).v (v' := .b false) (rfl)) rfl <| ?_
    refine at_nil ?_
    refine x_tn ?_
    refine at_else rfl ?_
    refine at_skip ?_
    refine x_tn ?_
    refine at_seq ?_
    refine at_region ?_
    refine s1 (y_p rfl) rfl <| ?_
    refine at_op rfl (n_call false rfl (.cons (.pure pu) (.nil)) (tree_ok _ (kpubs x k) (Nat.le_refl _) (D32_kpubs x k) (by simp; omega)) pu (.inl rfl) rfl ?_)
    refine at_op rfl (n_storeA ti23 rfl rfl rfl (by first | rfl | omega | (simp; done) | (simp [*]; done) | (simp; omega) | (simp [*]; omega) | (simp [D32.len, -List.length_flatten, *]; done) | (simp [D32.len, -List.length_flatten, *]; omega)) (by first | rfl | omega | (simp; done) | (simp [*]; done) | (simp; omega) | (simp [*]; omega) | (simp [D32.len, -List.length_flatten, *]; done) | (simp [D32.len, -List.length_flatten, *]; omega)) ?_)
    refine s1 ((y_p rfl).v (v' := .i .i64 0) rfl) rfl <| ?_
    refine at_nil ?_
    refine x_tn ?_
    refine at_ret ?_
    refine at_result (rs := [.cell 4 23, .tmp 5]) rfl (r_cellA ti23 rfl rfl (List.take_of_length_le (by simp)) (by simp) (r_tmp rfl r_nil)) ?_
    exact (rootA_yes hsz).symm
set_option linter.unusedSimpArgs false in
set_option linter.unusedVariables false in
set_option maxHeartbeats 1000000 in
set_option maxRecDepth 10000 in
theorem rsize_ok (n : Int) : Con Tryd.prog 32 [.i .i64 n] (Ret (.b (decide (sizeK n)))) := by
  refine enter Tryd.func32 rfl Tryd.ntmps32 (by kernel_rfl) (Nat.le_of_ble_eq_true rfl) fun w0 X0 hI => ?_
  refine at_seq ?_
  refine at_region ?_
  refine s1 (y_p rfl) rfl <| ?_
  refine at_nil ?_
  refine x_tn ?_
  refine at_seq ?_
  refine at_region ?_
  refine s1 (y_p rfl) rfl <| s1 (y_p rfl) rfl <| s1 (y_p rfl) rfl <| ?_
  refine g_and 2 rfl rfl rfl rfl (fun hb5 => .step (y_p rfl) rfl rfl <| .step (y_p rfl) rfl rfl <| .done) rfl rfl ?_
  refine s1 (y_p rfl) rfl <| ?_
  refine at_nil ?_
  refine x_tn ?_
  refine at_ret ?_
  refine at_result (rs := [.tmp 2]) rfl (r_tmp rfl r_nil) ?_
  exact congrArg A.b (by rw [Bool.eq_iff_iff, decide_eq_true_eq]; simp [sizeK])
end Go.Abs.D2

/-! C5E -/
namespace Go.Abs.D2
open Go Go.Eng Go.Abs Go.Proofs 
theorem rtag_step (x : List UInt8) (hx : x.length = 32) : Con Tryd.prog 41 [.s [115, 116, 101, 112], .fz 32 (x.map u8)] (Ret (.ag ((stepD x).map u8))) := by
  rw [stepD_eq]; simpa [hx] using rtagged_ok [115, 116, 101, 112] x (by omega) (by simp)
theorem rtag_first (x : List UInt8) (i : Nat) (hx : x.length = 32) : Con Tryd.prog 41 [.s [99, 104, 97, 105, 110], .fz 33 (x.map u8 ++ [u8 (UInt8.ofNat i)])] (Ret (.ag ((firstD x i).map u8))) := by
  rw [firstD_eq]; simpa [hx] using rtagged_ok [99, 104, 97, 105, 110] (x ++ [UInt8.ofNat i]) (by simp [hx]) (by simp)
theorem rtag_key (L : List (List UInt8)) (hD : D32 L) (hl : L.length = 19) : Con Tryd.prog 41 [.s [112, 117, 98, 108, 105, 99], .fz (L.length * 32) (L.flatten.map u8)] (Ret (.ag ((keyD L).map u8))) := by
  rw [keyD_eq, ← hD.len]; exact rtagged_ok [112, 117, 98, 108, 105, 99] L.flatten (by rw [hD.len, hl]; omega) (by simp)
set_option linter.unusedSimpArgs false in
set_option linter.unusedVariables false in
set_option maxHeartbeats 1000000 in
set_option maxRecDepth 10000 in
theorem rstep_ok (x : List UInt8) (hx : x.length = 32) : Con Tryd.prog 87 [.ag (x.map u8)] (Ret (.ag ((stepD x).map u8))) := by
  refine enter Tryd.func87 rfl Tryd.ntmps87 (by kernel_rfl) (Nat.le_of_ble_eq_true rfl) fun w0 X0 hI => ?_
  refine at_seq ?_
  refine at_region ?_
  refine at_op rfl (n_boxA 1 rfl rfl rfl ?_)
  refine at_op rfl (n_alloc 2 rfl ti23 rfl rfl ?_)
  refine at_nil ?_
  refine x_tn ?_
  refine at_seq ?_
  refine at_region ?_
  refine s1 (y_cuta0 Tryd.underlying23 ti5 rfl rfl (by first | rfl | omega | (simp; done) | (simp [*]; done) | (simp; omega) | (simp [*]; omega) | (simp [D32.len, -List.length_flatten, *]; done) | (simp [D32.len, -List.length_flatten, *]; omega)) (by simp [maxLen])) rfl <| ?_
  refine at_op rfl (n_call true rfl (.cons (.pure pu) (.cons (.sl rfl rfl (by first | rfl | omega | (simp; done) | (simp [*]; done) | (simp; omega) | (simp [*]; omega) | (simp [D32.len, -List.length_flatten, *]; done) | (simp [D32.len, -List.length_flatten, *]; omega)) (view_eq (by first | rfl | omega | (simp; done) | (simp [*]; done) | (simp; omega) | (simp [*]; omega) | (simp [D32.len, -List.length_flatten, *]; done) | (simp [D32.len, -List.length_flatten, *]; omega)) (by first | rfl | (simp; done) | (simp [*]; done))) (VwL.pure pul) pul) (.nil))) (rtag_step x hx) pu (.inr fu) rfl ?_)
  refine at_op rfl (n_storeA ti23 rfl rfl rfl (by first | rfl | omega | (simp; done) | (simp [*]; done) | (simp; omega) | (simp [*]; omega) | (simp [D32.len, -List.length_flatten, *]; done) | (simp [D32.len, -List.length_flatten, *]; omega)) (by first | rfl | omega | (simp; done) | (simp [*]; done) | (simp; omega) | (simp [*]; omega) | (simp [D32.len, -List.length_flatten, *]; done) | (simp [D32.len, -List.length_flatten, *]; omega)) ?_)
  refine at_nil ?_
  refine x_tn ?_
  refine at_ret ?_
  refine at_result (rs := [.cell 2 23]) rfl (r_cellA ti23 rfl rfl (List.take_of_length_le (by simp)) (by simp) r_nil) rfl
set_option linter.unusedSimpArgs false in
set_option linter.unusedVariables false in
set_option maxHeartbeats 1000000 in
set_option maxRecDepth 10000 in
theorem rsteps_ok (x : List UInt8) (n : Nat) (hx : x.length = 32) (hn : n ≤ 1000) : Con Tryd.prog 74 [.ag (x.map u8), nI n] (Ret (.ag ((iterD n x).map u8))) := by
  refine enter Tryd.func74 rfl Tryd.ntmps74 (by kernel_rfl) (Nat.le_of_ble_eq_true rfl) fun w0 X0 hI => ?_
  refine at_seq ?_
  refine at_region ?_
  refine at_op rfl (n_boxA 2 rfl rfl rfl ?_)
  refine at_op rfl (n_alloc 4 rfl ti23 rfl rfl ?_)
  refine at_nil ?_
  refine x_tn ?_
  refine at_seq ?_
  refine at_seq ?_
  refine at_region ?_
  refine s1 ((y_p rfl).v (v' := .i .i64 0) rfl) rfl <| ?_
  refine at_nil ?_
  refine x_tn ?_
  refine at_block ?_
  refine at_loop (ι := Nat) (fun k => [(1, nI n), (2, .p 2 0), (4, .p 4 0), (5, nI k)]) (fun k => ⟨[(2, some ((iterD k x).map u8)), (4, some (List.replicate 32 (u8 0)))]⟩) (fun k => k ≤ n) (fun k => n - k) ?_ ?_
  · exact at_ex (0) (Nat.zero_le _) [(2, some 2), (4, some 4)] hI rfl rfl ⟨⟨_, rfl, .pure pu⟩, ⟨_, rfl, .p rfl⟩, ⟨_, rfl, .p rfl⟩, ⟨_, rfl, .pure pu⟩, trivial⟩ ⟨.inr ⟨_, _, rfl, rfl, .pure pul⟩, .inr ⟨_, _, rfl, rfl, .pure pul⟩, trivial⟩
  rintro k hk
  have hxk := len_iterD hx k
  refine at_seq ?_
  refine at_seq ?_
  refine at_region ?_
  refine s1 (y_p rfl) rfl <| s1 (y_p rfl) rfl <| s1 (y_p rfl) rfl <| ?_
  refine at_nil ?_
  refine x_tn ?_
  refine at_cond rfl (fun hc8 => ?_) (fun hc8 => ?_)
  · have h8 : k < n := by have := of_decide_eq_true hc8; omega
    refine at_skip ?_
    refine x_tn ?_
    refine at_seq ?_
    refine at_block ?_
    refine at_region ?_
    refine s1 (y_loadA0 ti23 rfl rfl (by first | rfl | omega | (simp; done) | (simp [*]; done) | (simp; omega) | (simp [*]; omega) | (simp [D32.len, -List.length_flatten, *]; done) | (simp [D32.len, -List.length_flatten, *]; omega))) rfl <| ?_
    refine at_op rfl (n_call false rfl (.cons (.pure pu) (.nil)) (rstep_ok (iterD k x) hxk) pu (.inl rfl) rfl ?_)
    refine at_op rfl (n_storeA ti23 rfl rfl rfl (by first | rfl | omega | (simp; done) | (simp [*]; done) | (simp; omega) | (simp [*]; omega) | (simp [D32.len, -List.length_flatten, *]; done) | (simp [D32.len, -List.length_flatten, *]; omega)) (by first | rfl | omega | (simp; done) | (simp [*]; done) | (simp; omega) | (simp [*]; omega) | (simp [D32.len, -List.length_flatten, *]; done) | (simp [D32.len, -List.length_flatten, *]; omega)) ?_)
    refine at_nil ?_
    refine x_bn ?_
    refine x_tn ?_
    refine at_region ?_
    refine s1 (y_p rfl) rfl <| s1 (addN _ 1 rfl rfl rfl rfl (by omega)) rfl <| s1 (y_p rfl) rfl <| ?_
    refine at_nil ?_
    exact at_end (k + 1) (by omega) (by omega) [(2, some 2), (4, some 4)] hI rfl rfl ⟨⟨_, rfl, .pure pu⟩, ⟨_, rfl, .p rfl⟩, ⟨_, rfl, .p rfl⟩, ⟨_, rfl, .pure pu⟩, trivial⟩ ⟨.inr ⟨_, _, rfl, rfl, .of (by rfl) (.pure pul)⟩, .inr ⟨_, _, rfl, rfl, .pure pul⟩, trivial⟩
  · have h8 : k = n := by have := of_decide_eq_false hc8; omega
    subst h8
    refine at_exit ?_
    refine x_te ?_
    refine x_te ?_
    refine x_be ?_
    refine x_tn ?_
    refine at_seq ?_
    refine at_region ?_
    refine s1 (y_loadA0 ti23 rfl rfl (by first | rfl | omega | (simp; done) | (simp [*]; done) | (simp; omega) | (simp [*]; omega) | (simp [D32.len, -List.length_flatten, *]; done) | (simp [D32.len, -List.length_flatten, *]; omega))) rfl <| ?_
    refine at_op rfl (n_storeA ti23 rfl rfl rfl (by first | rfl | omega | (simp; done) | (simp [*]; done) | (simp; omega) | (simp [*]; omega) | (simp [D32.len, -List.length_flatten, *]; done) | (simp [D32.len, -List.length_flatten, *]; omega)) (by first | rfl | omega | (simp; done) | (simp [*]; done) | (simp; omega) | (simp [*]; omega) | (simp [D32.len, -List.length_flatten, *]; done) | (simp [D32.len, -List.length_flatten, *]; omega)) ?_)
    refine at_nil ?_
    refine x_tn ?_
    refine at_ret ?_
    refine at_result (rs := [.cell 4 23]) rfl (r_cellA ti23 rfl rfl (List.take_of_length_le (by simp [hxk])) (by simp [hxk]) r_nil) rfl
set_option linter.unusedSimpArgs false in
set_option linter.unusedVariables false in
set_option maxHeartbeats 1000000 in
set_option maxRecDepth 10000 in
theorem rfirst_ok (x : List UInt8) (i : Nat) (hx : x.length = 32) : Con Tryd.prog 75 [.ag (x.map u8), nI i] (Ret (.ag ((firstD x i).map u8))) := by
  refine enter Tryd.func75 rfl Tryd.ntmps75 (by kernel_rfl) (Nat.le_of_ble_eq_true rfl) fun w0 X0 hI => ?_
  refine at_seq ?_
  refine at_region ?_
  refine at_op rfl (n_boxA 2 rfl rfl rfl ?_)
  refine at_op rfl (n_alloc 4 rfl ti23 rfl rfl ?_)
  refine at_nil ?_
  refine x_tn ?_
  refine at_seq ?_
  refine at_region ?_
  refine at_op rfl (n_bs1 6 rfl Tryd.underlying65 ti5 rfl rfl rfl rfl rfl ?_)
  refine s1 (y_cuta0 Tryd.underlying23 ti5 rfl rfl (by first | rfl | omega | (simp; done) | (simp [*]; done) | (simp; omega) | (simp [*]; omega) | (simp [D32.len, -List.length_flatten, *]; done) | (simp [D32.len, -List.length_flatten, *]; omega)) (by simp [maxLen])) rfl <| ?_
  refine at_op rfl (n_app 8 rfl Tryd.underlying65 ti5 rfl (.sl rfl (by first | rfl | omega | (simp; done) | (simp [*]; done) | (simp; omega) | (simp [*]; omega) | (simp [D32.len, -List.length_flatten, *]; done) | (simp [D32.len, -List.length_flatten, *]; omega))) rfl (SM_full rfl (by first | rfl | omega | (simp; done) | (simp [*]; done) | (simp; omega) | (simp [*]; omega) | (simp [D32.len, -List.length_flatten, *]; done) | (simp [D32.len, -List.length_flatten, *]; omega))) (by first | rfl | omega | (simp; done) | (simp [*]; done) | (simp; omega) | (simp [*]; omega) | (simp [D32.len, -List.length_flatten, *]; done) | (simp [D32.len, -List.length_flatten, *]; omega)) (by first | omega | (simp only [maxLen]; omega) | (simp [maxLen]; done) | (simp [maxLen]; omega) | (simp [maxLen, *]; omega)) (by first | omega | (simp only [maxLen]; omega) | (simp [maxLen]; done) | (simp [maxLen]; omega) | (simp [maxLen, *]; omega)) rfl rfl rfl ?_)
  refine s1 (y_p rfl) rfl <| ?_
  refine at_nil ?_
  refine x_tn ?_
  refine at_seq ?_
  refine at_region ?_
  refine s1 (y_p rfl) rfl <| s1 (y_p rfl) rfl <| s1 (ofN_u8 i Tryd.underlying3 Tryd.underlying5 rfl rfl) rfl <| ?_
  refine at_op rfl (n_bs1 12 rfl Tryd.underlying65 ti5 rfl rfl rfl rfl rfl ?_)
  refine at_op rfl (n_app 13 rfl Tryd.underlying65 ti5 rfl (.sl rfl (by first | rfl | omega | (simp; done) | (simp [*]; done) | (simp; omega) | (simp [*]; omega) | (simp [D32.len, -List.length_flatten, *]; done) | (simp [D32.len, -List.length_flatten, *]; omega))) rfl (SM_full rfl (by first | rfl | omega | (simp; done) | (simp [*]; done) | (simp; omega) | (simp [*]; omega) | (simp [D32.len, -List.length_flatten, *]; done) | (simp [D32.len, -List.length_flatten, *]; omega))) (by first | rfl | omega | (simp; done) | (simp [*]; done) | (simp; omega) | (simp [*]; omega) | (simp [D32.len, -List.length_flatten, *]; done) | (simp [D32.len, -List.length_flatten, *]; omega)) (by first | omega | (simp only [maxLen]; omega) | (simp [maxLen]; done) | (simp [maxLen]; omega) | (simp [maxLen, *]; omega)) (by first | omega | (simp only [maxLen]; omega) | (simp [maxLen]; done) | (simp [maxLen]; omega) | (simp [maxLen, *]; omega)) rfl rfl rfl ?_)
  refine at_op rfl (n_call true rfl (.cons (.pure pu) (.cons (.sl rfl rfl (by first | rfl | omega | (simp; done) | (simp [*]; done) | (simp; omega) | (simp [*]; omega) | (simp [D32.len, -List.length_flatten, *]; done) | (simp [D32.len, -List.length_flatten, *]; omega)) (view_eq (by first | rfl | omega | (simp; done) | (simp [*]; done) | (simp; omega) | (simp [*]; omega) | (simp [D32.len, -List.length_flatten, *]; done) | (simp [D32.len, -List.length_flatten, *]; omega)) (by first | rfl | (simp; done) | (simp [*]; done))) (VwL.pure pul) pul) (.nil))) (rtag_first x i hx) pu (.inr fu) rfl ?_)
  refine at_op rfl (n_storeA ti23 rfl rfl rfl (by first | rfl | omega | (simp; done) | (simp [*]; done) | (simp; omega) | (simp [*]; omega) | (simp [D32.len, -List.length_flatten, *]; done) | (simp [D32.len, -List.length_flatten, *]; omega)) (by first | rfl | omega | (simp; done) | (simp [*]; done) | (simp; omega) | (simp [*]; omega) | (simp [D32.len, -List.length_flatten, *]; done) | (simp [D32.len, -List.length_flatten, *]; omega)) ?_)
  refine at_nil ?_
  refine x_tn ?_
  refine at_ret ?_
  refine at_result (rs := [.cell 4 23]) rfl (r_cellA ti23 rfl rfl (List.take_of_length_le (by simp)) (by simp) r_nil) rfl
set_option linter.unusedSimpArgs false in
set_option linter.unusedVariables false in
set_option maxHeartbeats 1000000 in
set_option maxRecDepth 10000 in
theorem rkey_ok (L : List (List UInt8)) (hD : D32 L) (hl : L.length = 19) : Con Tryd.prog 78 [dgs L] (Ret (.ag ((keyD L).map u8))) := by
  refine enter Tryd.func78 rfl Tryd.ntmps78 (by kernel_rfl) (Nat.le_of_ble_eq_true rfl) fun w0 X0 hI => ?_
  refine at_seq ?_
  refine at_region ?_
  refine at_op rfl (n_alloc 2 rfl ti23 rfl rfl ?_)
  refine at_nil ?_
  refine x_tn ?_
  refine at_seq ?_
  refine at_region ?_
  refine at_op rfl (n_bs1 5 rfl Tryd.underlying65 ti5 rfl rfl rfl rfl rfl ?_)
  refine s1 (y_p rfl) rfl <| ?_
  refine at_nil ?_
  refine x_tn ?_
  refine at_seq ?_
  refine at_seq ?_
  refine at_region ?_
  refine s1 ((y_p rfl).v (v' := .i .i64 0) rfl) rfl <| ?_
  refine at_nil ?_
  refine x_tn ?_
  refine at_block ?_
  refine at_loop (ι := Nat) (fun i => [(0, dgs L), (2, .p 2 0), (3, .sl 5 1 0 (i * 32)), (4, nI i)]) (fun i => ⟨[(2, some (List.replicate 32 (u8 0))), (5, some ((L.take i).flatten.map u8))]⟩) (fun i => i ≤ L.length) (fun i => L.length - i) ?_ ?_
  · exact at_ex (0) (Nat.zero_le _) [(2, some 2), (5, some 5)] hI rfl rfl ⟨⟨_, rfl, .pure pu⟩, ⟨_, rfl, .p rfl⟩, ⟨_, rfl, .sl rfl (by first | rfl | omega | (simp; done) | (simp [*]; done) | (simp; omega) | (simp [*]; omega) | (simp [D32.len, -List.length_flatten, *]; done) | (simp [D32.len, -List.length_flatten, *]; omega))⟩, ⟨_, rfl, .pure pu⟩, trivial⟩ ⟨.inr ⟨_, _, rfl, rfl, .pure pul⟩, .inr ⟨_, _, rfl, rfl, .of (by rfl) (.pure pul)⟩, trivial⟩
  rintro i hi
  have hDi := hD.take i
  refine at_seq ?_
  refine at_seq ?_
  refine at_region ?_
  refine s1 (y_p rfl) rfl <| s1 (y_p rfl) rfl <| s1 (y_len Tryd.underlying26 rfl rfl rfl) rfl <| s1 (y_p rfl) rfl <| ?_
  refine at_nil ?_
  refine x_tn ?_
  refine at_cond rfl (fun hc9 => ?_) (fun hc9 => ?_)
  · have h9 : i < L.length := by have := of_decide_eq_true hc9; omega
    obtain ⟨q, hq⟩ : ∃ q, L[i]? = some q := ⟨_, List.getElem?_eq_getElem h9⟩
    have hq32 := hD q (List.mem_of_getElem? hq)
    refine at_skip ?_
    refine x_tn ?_
    refine at_seq ?_
    refine at_block ?_
    refine at_region ?_
    refine s1 (y_p rfl) rfl <| s1 (y_p rfl) rfl <| s1 (y_p rfl) rfl <| s1 (y_ixf i Tryd.underlying26 ti23 rfl rfl rfl (by omega) rfl) rfl <| s1 ((y_cutfa 32 Tryd.underlying23 ti5 rfl (by simp [maxLen]) bn bn (Nat.zero_le _) (Nat.le_refl _) (by simp) rfl rfl).v (v' := .fz 32 (q.map u8)) (congrArg (A.fz 32) (cut_dig hD hq))) rfl <| ?_
    refine at_op rfl (n_app 17 rfl Tryd.underlying65 ti5 rfl (.sl rfl (by rw [List.length_map, hDi.len, List.length_take]; omega)) rfl rfl (by simp [hq32]) (by simp only [maxLen]; omega) (by omega) rfl rfl rfl ?_)
    refine s1 (y_p rfl) rfl <| ?_
    refine at_nil ?_
    refine x_bn ?_
    refine x_tn ?_
    refine at_region ?_
    refine s1 (y_p rfl) rfl <| s1 (addN _ 1 rfl rfl rfl rfl (by omega)) rfl <| s1 (y_p rfl) rfl <| ?_
    refine at_nil ?_
    exact at_end (i + 1) (by omega) (by omega) [(2, some 2), (5, some 17)] hI rfl rfl ⟨⟨_, rfl, .pure pu⟩, ⟨_, rfl, .p rfl⟩, ⟨_, rfl, .sl rfl (by first | rfl | omega | (simp; done) | (simp [*]; done) | (simp; omega) | (simp [*]; omega) | (simp [D32.len, -List.length_flatten, *]; done) | (simp [D32.len, -List.length_flatten, *]; omega))⟩, ⟨_, rfl, .pure pu⟩, trivial⟩ ⟨.inr ⟨_, _, rfl, rfl, .pure pul⟩, .inr ⟨_, _, rfl, rfl, .of (by rw [← List.map_append, take_next hq]) (.pure pul)⟩, trivial⟩
  · have h9 : i = L.length := by have := of_decide_eq_false hc9; omega
    subst h9
    refine at_sayO 5 rfl (congrArg (fun l : List (List UInt8) => l.flatten.map u8) List.take_length) ?_
    refine at_exit ?_
    refine x_te ?_
    refine x_te ?_
    refine x_be ?_
    refine x_tn ?_
    refine at_seq ?_
    refine at_region ?_
    refine s1 (y_p rfl) rfl <| ?_
    refine at_op rfl (n_call true rfl (.cons (.pure pu) (.cons (.sl rfl rfl rfl (view_eq (by rw [List.length_map, hD.len, Nat.mul_one]) rfl) (VwL.pure pul) pul) .nil)) (rtag_key L hD hl) pu (.inr fu) rfl ?_)
    refine at_op rfl (n_storeA ti23 rfl rfl rfl (by first | rfl | omega | (simp; done) | (simp [*]; done) | (simp; omega) | (simp [*]; omega) | (simp [D32.len, -List.length_flatten, *]; done) | (simp [D32.len, -List.length_flatten, *]; omega)) (by first | rfl | omega | (simp; done) | (simp [*]; done) | (simp; omega) | (simp [*]; omega) | (simp [D32.len, -List.length_flatten, *]; done) | (simp [D32.len, -List.length_flatten, *]; omega)) ?_)
    refine at_nil ?_
    refine x_tn ?_
    refine at_ret ?_
    refine at_result (rs := [.cell 2 23]) rfl (r_cellA ti23 rfl rfl (List.take_of_length_le (by simp)) (by simp) r_nil) rfl
theorem rkey_19 (L : List (List UInt8)) (hD : D32 L) (hl : L.length = 19) : Con Tryd.prog 78 [.fz 19 (L.flatten.map u8)] (Ret (.ag ((keyD L).map u8))) := by
  have := rkey_ok L hD hl
  rwa [dgs, hl] at this
set_option linter.unusedSimpArgs false in
set_option linter.unusedVariables false in
set_option maxHeartbeats 1000000 in
set_option maxRecDepth 10000 in
theorem rpublic_ok (x : List UInt8) (hx : x.length = 32) : Con Tryd.prog 69 [.ag (x.map u8)] (Ret (.ag ((pubD x).map u8))) := by
  refine enter Tryd.func69 rfl Tryd.ntmps69 (by kernel_rfl) (Nat.le_of_ble_eq_true rfl) fun w0 X0 hI => ?_
  refine at_seq ?_
  refine at_region ?_
  refine at_op rfl (n_boxA 1 rfl rfl rfl ?_)
  refine at_op rfl (n_alloc 2 rfl ti23 rfl rfl ?_)
  refine at_nil ?_
  refine x_tn ?_
  refine at_seq ?_
  refine at_region ?_
  refine at_op rfl (n_bs 5 rfl Tryd.underlying26 ti23 rfl rfl rfl (by first | (simp [cellsA]; done) | (simp [cellsA, *]; done)) rfl rfl rfl rfl ?_)
  refine s1 (y_p rfl) rfl <| ?_
  refine at_nil ?_
  refine x_tn ?_
  refine at_seq ?_
  refine at_seq ?_
  refine at_region ?_
  refine s1 ((y_p rfl).v (v' := .i .i64 0) rfl) rfl <| ?_
  refine at_nil ?_
  refine x_tn ?_
  refine at_block ?_
  refine at_loop (ι := Nat) (fun i => [(1, .p 1 0), (2, .p 2 0), (3, .sl 5 32 0 i), (4, nI i)]) (fun i => ⟨[(1, some (x.map u8)), (2, some (List.replicate 32 (u8 0))), (5, some ((pubL x i).flatten.map u8))]⟩) (fun i => i ≤ 19) (fun i => 19 - i) ?_ ?_
  · exact at_ex (0) (Nat.zero_le _) [(1, some 1), (2, some 2), (5, some 5)] hI rfl rfl ⟨⟨_, rfl, .p rfl⟩, ⟨_, rfl, .p rfl⟩, ⟨_, rfl, .sl rfl (by first | rfl | omega | (simp; done) | (simp [*]; done) | (simp; omega) | (simp [*]; omega) | (simp [D32.len, -List.length_flatten, *]; done) | (simp [D32.len, -List.length_flatten, *]; omega))⟩, ⟨_, rfl, .pure pu⟩, trivial⟩ ⟨.inr ⟨_, _, rfl, rfl, .pure pul⟩, .inr ⟨_, _, rfl, rfl, .pure pul⟩, .inr ⟨_, _, rfl, rfl, .of (by rw [pubL_0]; rfl) (.pure pul)⟩, trivial⟩
  rintro i hi
  have hDi := D32_pubL x i
  refine at_seq ?_
  refine at_seq ?_
  refine at_region ?_
  refine s1 (y_p rfl) rfl <| s1 (y_p rfl) rfl <| ?_
  refine at_nil ?_
  refine x_tn ?_
  refine at_cond rfl (fun hc7 => ?_) (fun hc7 => ?_)
  · have h7 : i < 19 := by have := of_decide_eq_true hc7; omega
    refine at_skip ?_
    refine x_tn ?_
    refine at_seq ?_
    refine at_block ?_
    refine at_region ?_
    refine s1 (y_p rfl) rfl <| s1 (y_loadA0 ti23 rfl rfl (by first | rfl | omega | (simp; done) | (simp [*]; done) | (simp; omega) | (simp [*]; omega) | (simp [D32.len, -List.length_flatten, *]; done) | (simp [D32.len, -List.length_flatten, *]; omega))) rfl <| s1 (y_p rfl) rfl <| ?_
    refine at_op rfl (n_call false rfl (.cons (.pure pu) (.cons (.pure pu) (.nil))) (rfirst_ok x i hx) pu (.inl rfl) rfl ?_)
    refine at_op rfl (n_call false rfl (.cons (.pure pu) (.cons (.pure pu) (.nil))) (rsteps_ok (firstD x i) 3 (by simp) (by omega)) pu (.inl rfl) rfl ?_)
    refine at_op rfl (n_bs 15 rfl Tryd.underlying26 ti23 rfl rfl rfl (by simp [cellsA, len_iterD, *]) (List.append_nil ((iterD 3 (firstD x i)).map u8)) rfl rfl rfl ?_)
    refine at_op rfl (n_app 16 rfl Tryd.underlying26 ti23 rfl (.sl rfl (by rw [List.length_map, hDi.len, len_pubL])) rfl (SM_full rfl (by rw [List.length_map, len_iterD (by simp [*])])) (by simp [len_iterD, *]) (by simp only [maxLen]; omega) (by omega) rfl rfl rfl ?_)
    refine s1 (y_p rfl) rfl <| ?_
    refine at_nil ?_
    refine x_bn ?_
    refine x_tn ?_
    refine at_region ?_
    refine s1 (y_p rfl) rfl <| s1 (addN _ 1 rfl rfl rfl rfl (by omega)) rfl <| s1 (y_p rfl) rfl <| ?_
    refine at_nil ?_
    exact at_end (i + 1) (by omega) (by omega) [(1, some 1), (2, some 2), (5, some 16)] hI rfl rfl ⟨⟨_, rfl, .p rfl⟩, ⟨_, rfl, .p rfl⟩, ⟨_, rfl, .sl rfl (by first | rfl | omega | (simp; done) | (simp [*]; done) | (simp; omega) | (simp [*]; omega) | (simp [D32.len, -List.length_flatten, *]; done) | (simp [D32.len, -List.length_flatten, *]; omega))⟩, ⟨_, rfl, .pure pu⟩, trivial⟩ ⟨.inr ⟨_, _, rfl, rfl, .pure pul⟩, .inr ⟨_, _, rfl, rfl, .pure pul⟩, .inr ⟨_, _, rfl, rfl, .of (pub_flat x i) (.pure pul)⟩, trivial⟩
  · have h7 : i = 19 := by have := of_decide_eq_false hc7; omega
    subst h7
    refine at_exit ?_
    refine x_te ?_
    refine x_te ?_
    refine x_be ?_
    refine x_tn ?_
    refine at_seq ?_
    refine at_region ?_
    refine s1 (y_p rfl) rfl <| ?_
    refine at_op rfl (n_call true rfl (.cons (.sl rfl rfl rfl (view_eq (by rw [List.length_map, (D32_pubL x 19).len, (len_pubL x 19)]) rfl) (VwL.pure pul) pul) .nil) (rkey_19 (pubL x 19) (D32_pubL x 19) (len_pubL x 19)) pu (.inr fu) rfl ?_)
    refine at_op rfl (n_storeA ti23 rfl rfl rfl (by first | rfl | omega | (simp; done) | (simp [*]; done) | (simp; omega) | (simp [*]; omega) | (simp [D32.len, -List.length_flatten, *]; done) | (simp [D32.len, -List.length_flatten, *]; omega)) (by first | rfl | omega | (simp; done) | (simp [*]; done) | (simp; omega) | (simp [*]; omega) | (simp [D32.len, -List.length_flatten, *]; done) | (simp [D32.len, -List.length_flatten, *]; omega)) ?_)
    refine at_nil ?_
    refine x_tn ?_
    refine at_ret ?_
    refine at_result (rs := [.cell 2 23]) rfl (r_cellA ti23 rfl rfl (List.take_of_length_le (by simp)) (by simp) r_nil) rfl
set_option linter.unusedSimpArgs false in
set_option linter.unusedVariables false in
set_option maxHeartbeats 1000000 in
set_option maxRecDepth 10000 in
theorem rdigits_ok (m : List UInt8) (hm : m.length = 32) : Con Tryd.prog 55 [.ag (m.map u8)] (Ret (.fz 19 ((digits m).map nI))) := by
  refine enter Tryd.func55 rfl Tryd.ntmps55 (by kernel_rfl) (Nat.le_of_ble_eq_true rfl) fun w0 X0 hI => ?_
  refine at_seq ?_
  refine at_region ?_
  refine at_op rfl (n_boxA 1 rfl rfl rfl ?_)
  refine s1 (y_p rfl) rfl <| ?_
  refine at_nil ?_
  refine x_tn ?_
  refine at_seq ?_
  refine at_region ?_
  refine at_op rfl (n_bs1 9 rfl Tryd.underlying42 ti3 rfl rfl rfl rfl rfl ?_)
  refine s1 (y_p rfl) rfl <| ?_
  refine at_nil ?_
  refine x_tn ?_
  refine at_seq ?_
  refine at_region ?_
  refine s1 ((y_p rfl).v (v' := .i .i64 0) rfl) rfl <| ?_
  refine at_nil ?_
  refine x_tn ?_
  refine at_seq ?_
  refine at_seq ?_
  refine at_region ?_
  refine s1 ((y_p rfl).v (v' := .i .i64 0) rfl) rfl <| ?_
  refine at_nil ?_
  refine x_tn ?_
  refine at_block ?_
  refine at_loop (ι := Nat) (fun i => [(1, .p 1 0), (3, .sl 9 1 0 (4 * i)), (4, nI (sumK m (4 * i))), (5, nI i)]) (fun i => ⟨[(1, some (m.map u8)), (9, some ((dl m (4 * i)).map nI))]⟩) (fun i => i ≤ 4) (fun i => 4 - i) ?_ ?_
  · exact at_ex (0) (Nat.zero_le _) [(1, some 1), (9, some 9)] hI rfl rfl ⟨⟨_, rfl, .p rfl⟩, ⟨_, rfl, .sl rfl (by first | rfl | omega | (simp; done) | (simp [*]; done) | (simp; omega) | (simp [*]; omega) | (simp [D32.len, -List.length_flatten, *]; done) | (simp [D32.len, -List.length_flatten, *]; omega))⟩, ⟨_, rfl, .of (by rw [Nat.mul_zero, sumK_0]; rfl) (.pure pu)⟩, ⟨_, rfl, .pure pu⟩, trivial⟩ ⟨.inr ⟨_, _, rfl, rfl, .pure pul⟩, .inr ⟨_, _, rfl, rfl, .of (by rw [Nat.mul_zero, dl_0]; rfl) (.pure pul)⟩, trivial⟩
  rintro i hi
  have hsi := sumK_le m (4 * i)
  refine at_seq ?_
  refine at_seq ?_
  refine at_region ?_
  refine s1 (y_p rfl) rfl <| s1 (y_p rfl) rfl <| ?_
  refine at_nil ?_
  refine x_tn ?_
  refine at_cond rfl (fun hc11 => ?_) (fun hc11 => ?_)
  · have h11 : i < 4 := by have := of_decide_eq_true hc11; omega
    have hb8 := (m.getD i 0).toNat_lt
    refine at_skip ?_
    refine x_tn ?_
    refine at_seq ?_
    refine at_block ?_
    refine at_seq ?_
    refine at_region ?_
    refine s1 (y_p rfl) rfl <| s1 (y_ixa i Tryd.underlying23 ti5 rfl rfl rfl (by omega) rfl) rfl <| s1 (y_load ti5 rfl rfl (getO i (by omega))) rfl <| s1 ((y_conv Tryd.underlying5 Tryd.underlying3 rfl).v (conv8 _)) rfl <| s1 (y_p rfl) rfl <| ?_
    refine at_nil ?_
    refine x_tn ?_
    refine at_seq ?_
    refine at_region ?_
    refine s1 ((y_p rfl).v (v' := .i .i64 0) rfl) rfl <| ?_
    refine at_nil ?_
    refine x_tn ?_
    refine at_block ?_
    refine at_loop (ι := Nat) (fun k => [(1, .p 1 0), (3, .sl 9 1 0 (4 * i + k)), (4, nI (sumK m (4 * i + k))), (5, nI i), (6, nI (nk (m.getD i 0).toNat k)), (7, nI k)]) (fun k => ⟨[(1, some (m.map u8)), (9, some ((dl m (4 * i + k)).map nI))]⟩) (fun k => k ≤ 4) (fun k => 4 - k) ?_ ?_
    · exact at_ex (0) (Nat.zero_le _) [(1, some 1), (9, some 9)] hI rfl rfl ⟨⟨_, rfl, .p rfl⟩, ⟨_, rfl, .sl rfl (by first | rfl | omega | (simp; done) | (simp [*]; done) | (simp; omega) | (simp [*]; omega) | (simp [D32.len, -List.length_flatten, *]; done) | (simp [D32.len, -List.length_flatten, *]; omega))⟩, ⟨_, rfl, .pure pu⟩, ⟨_, rfl, .pure pu⟩, ⟨_, rfl, .of (congrArg nI (nk_0 hb8).symm) (.pure pu)⟩, ⟨_, rfl, .pure pu⟩, trivial⟩ ⟨.inr ⟨_, _, rfl, rfl, .pure pul⟩, .inr ⟨_, _, rfl, rfl, .pure pul⟩, trivial⟩
    rintro k hk
    have hsk := sumK_le m (4 * i + k)
    have hnk := nk_lt (b := (m.getD i 0).toNat) hk
    refine at_seq ?_
    refine at_seq ?_
    refine at_region ?_
    refine s1 (y_p rfl) rfl <| s1 (y_p rfl) rfl <| ?_
    refine at_nil ?_
    refine x_tn ?_
    refine at_cond rfl (fun hc19 => ?_) (fun hc19 => ?_)
    · have h19 : k < 4 := by have := of_decide_eq_true hc19; omega
      have hdk : nk (m.getD i 0).toNat k / 64 < 4 := by rw [nk_dgt h19]; exact dgt_lt _ _
      refine at_skip ?_
      refine x_tn ?_
      refine at_seq ?_
      refine at_block ?_
      refine at_seq ?_
      refine at_region ?_
      refine s1 (y_p rfl) rfl <| s1 (quoN (nk (m.getD i 0).toNat k) 64 rfl rfl rfl rfl (by decide) (by omega)) rfl <| s1 (y_p rfl) rfl <| ?_
      refine at_nil ?_
      refine x_tn ?_
      refine at_seq ?_
      refine at_region ?_
      refine s1 (y_p rfl) rfl <| s1 (remN (nk (m.getD i 0).toNat k) 64 rfl rfl rfl rfl (by decide)) rfl <| s1 (mulN (nk (m.getD i 0).toNat k % 64) 4 rfl rfl rfl rfl (by omega)) rfl <| s1 (y_p rfl) rfl <| ?_
      refine at_nil ?_
      refine x_tn ?_
      refine at_seq ?_
      refine at_region ?_
      refine s1 (y_p rfl) rfl <| s1 (y_p rfl) rfl <| ?_
      refine at_op rfl (n_bs1 29 rfl Tryd.underlying42 ti3 rfl rfl rfl rfl rfl ?_)
      refine at_op rfl (n_app 30 rfl Tryd.underlying42 ti3 rfl (.sl rfl (by simp)) rfl (SM_full rfl (by first | rfl | omega | (simp; done) | (simp [*]; done) | (simp; omega) | (simp [*]; omega) | (simp [D32.len, -List.length_flatten, *]; done) | (simp [D32.len, -List.length_flatten, *]; omega))) (by first | rfl | omega | (simp; done) | (simp [*]; done) | (simp; omega) | (simp [*]; omega) | (simp [D32.len, -List.length_flatten, *]; done) | (simp [D32.len, -List.length_flatten, *]; omega)) (by first | omega | (simp only [maxLen]; omega) | (simp [maxLen]; done) | (simp [maxLen]; omega) | (simp [maxLen, *]; omega)) (by first | omega | (simp only [maxLen]; omega) | (simp [maxLen]; done) | (simp [maxLen]; omega) | (simp [maxLen, *]; omega)) rfl rfl rfl ?_)
      refine s1 (y_p rfl) rfl <| ?_
      refine at_nil ?_
      refine x_tn ?_
      refine at_region ?_
      refine s1 (y_p rfl) rfl <| s1 (addN (sumK m (4 * i + k)) 3 rfl rfl rfl rfl (by omega)) rfl <| s1 (y_p rfl) rfl <| s1 (subN (sumK m (4 * i + k) + 3) (nk (m.getD i 0).toNat k / 64) rfl rfl rfl rfl (by omega) (by omega)) rfl <| s1 (y_p rfl) rfl <| ?_
      refine at_nil ?_
      refine x_bn ?_
      refine x_tn ?_
      refine at_region ?_
      refine s1 (y_p rfl) rfl <| s1 (addN _ 1 rfl rfl rfl rfl (by omega)) rfl <| s1 (y_p rfl) rfl <| ?_
      refine at_nil ?_
      exact at_end (k + 1) (by omega) (by omega) [(1, some 1), (9, some 30)] hI rfl rfl ⟨⟨_, rfl, .p rfl⟩, ⟨_, rfl, .sl rfl (by first | rfl | omega | (simp; done) | (simp [*]; done) | (simp; omega) | (simp [*]; omega) | (simp [D32.len, -List.length_flatten, *]; done) | (simp [D32.len, -List.length_flatten, *]; omega))⟩, ⟨_, rfl, .of (congrArg nI (sum_step (nk_dgt h19))) (.pure pu)⟩, ⟨_, rfl, .pure pu⟩, ⟨_, rfl, .of (congrArg nI (nk_succ h19)) (.pure pu)⟩, ⟨_, rfl, .pure pu⟩, trivial⟩ ⟨.inr ⟨_, _, rfl, rfl, .pure pul⟩, .inr ⟨_, _, rfl, rfl, .of (dl_step (nk_dgt h19)) (.pure pul)⟩, trivial⟩
    · have h19 : k = 4 := by have := of_decide_eq_false hc19; omega
      subst h19
      refine at_exit ?_
      refine x_te ?_
      refine x_te ?_
      refine x_be ?_
      refine x_bn ?_
      refine x_tn ?_
      refine at_region ?_
      refine s1 (y_p rfl) rfl <| s1 (addN _ 1 rfl rfl rfl rfl (by omega)) rfl <| s1 (y_p rfl) rfl <| ?_
      refine at_nil ?_
      exact at_end (i + 1) (by omega) (by omega) [(1, some 1), (9, some 9)] hI rfl rfl ⟨⟨_, rfl, .p rfl⟩, ⟨_, rfl, .sl rfl (by first | rfl | omega | (simp; done) | (simp [*]; done) | (simp; omega) | (simp [*]; omega) | (simp [D32.len, -List.length_flatten, *]; done) | (simp [D32.len, -List.length_flatten, *]; omega))⟩, ⟨_, rfl, .pure pu⟩, ⟨_, rfl, .pure pu⟩, trivial⟩ ⟨.inr ⟨_, _, rfl, rfl, .pure pul⟩, .inr ⟨_, _, rfl, rfl, .pure pul⟩, trivial⟩
  · have h11 : i = 4 := by have := of_decide_eq_false hc11; omega
    subst h11
    have hs16 := sumK_le m 16
    refine at_exit ?_
    refine x_te ?_
    refine x_te ?_
    refine x_be ?_
    refine x_tn ?_
    refine at_seq ?_
    refine at_region ?_
    refine s1 (y_p rfl) rfl <| s1 (y_p rfl) rfl <| s1 (quoN (sumK m 16) 16 rfl rfl rfl rfl (by decide) (by omega)) rfl <| s1 (y_p rfl) rfl <| s1 (quoN (sumK m 16) 4 rfl rfl rfl rfl (by decide) (by omega)) rfl <| s1 (remN (sumK m 16 / 4) 4 rfl rfl rfl rfl (by decide)) rfl <| s1 (y_p rfl) rfl <| s1 (remN (sumK m 16) 4 rfl rfl rfl rfl (by decide)) rfl <| ?_
    refine at_op rfl (n_bs1 43 rfl Tryd.underlying42 ti3 rfl rfl rfl rfl rfl ?_)
    refine at_op rfl (n_app 44 rfl Tryd.underlying42 ti3 rfl (.sl rfl (by simp)) rfl (SM_full rfl (by first | rfl | omega | (simp; done) | (simp [*]; done) | (simp; omega) | (simp [*]; omega) | (simp [D32.len, -List.length_flatten, *]; done) | (simp [D32.len, -List.length_flatten, *]; omega))) (by first | rfl | omega | (simp; done) | (simp [*]; done) | (simp; omega) | (simp [*]; omega) | (simp [D32.len, -List.length_flatten, *]; done) | (simp [D32.len, -List.length_flatten, *]; omega)) (by first | omega | (simp only [maxLen]; omega) | (simp [maxLen]; done) | (simp [maxLen]; omega) | (simp [maxLen, *]; omega)) (by first | omega | (simp only [maxLen]; omega) | (simp [maxLen]; done) | (simp [maxLen]; omega) | (simp [maxLen, *]; omega)) rfl (digits_end m) rfl ?_)
    refine s1 (y_p rfl) rfl <| ?_
    refine at_nil ?_
    refine x_tn ?_
    refine at_ret ?_
    refine at_frz 2 rfl rfl pul (view_eq (by simp) rfl) ?_
    refine at_result (rs := [.tmp 2]) rfl (r_tmp rfl r_nil) rfl
set_option linter.unusedSimpArgs false in
set_option linter.unusedVariables false in
set_option maxHeartbeats 1000000 in
set_option maxRecDepth 10000 in
theorem rsign_ok (x m : List UInt8) (hx : x.length = 32) (hm : m.length = 32) : Con Tryd.prog 39 [.ag (x.map u8), .ag (m.map u8)] (Ret (dgs (signD x m))) := by
  refine enter Tryd.func39 rfl Tryd.ntmps39 (by kernel_rfl) (Nat.le_of_ble_eq_true rfl) fun w0 X0 hI => ?_
  refine at_seq ?_
  refine at_region ?_
  refine at_op rfl (n_boxA 2 rfl rfl rfl ?_)
  refine at_op rfl (n_boxA 3 rfl rfl rfl ?_)
  refine s1 (y_p rfl) rfl <| ?_
  refine at_nil ?_
  refine x_tn ?_
  refine at_seq ?_
  refine at_region ?_
  refine s1 (y_loadA0 ti23 rfl rfl (by first | rfl | omega | (simp; done) | (simp [*]; done) | (simp; omega) | (simp [*]; omega) | (simp [D32.len, -List.length_flatten, *]; done) | (simp [D32.len, -List.length_flatten, *]; omega))) rfl <| ?_
  refine at_op rfl (n_call false rfl (.cons (.pure pu) (.nil)) (rdigits_ok m hm) pu (.inl rfl) rfl ?_)
  refine s1 (y_p rfl) rfl <| ?_
  refine at_nil ?_
  refine x_tn ?_
  refine at_seq ?_
  refine at_region ?_
  refine at_op rfl (n_bs 10 rfl Tryd.underlying26 ti23 rfl rfl rfl (by first | (simp [cellsA]; done) | (simp [cellsA, *]; done)) rfl rfl rfl rfl ?_)
  refine s1 (y_p rfl) rfl <| ?_
  refine at_nil ?_
  refine x_tn ?_
  refine at_seq ?_
  refine at_seq ?_
  refine at_region ?_
  refine s1 ((y_p rfl).v (v' := .i .i64 0) rfl) rfl <| ?_
  refine at_nil ?_
  refine x_tn ?_
  refine at_block ?_
  refine at_loop (ι := Nat) (fun i => [(2, .p 2 0), (5, .fz 19 ((digits m).map nI)), (6, .sl 10 32 0 i), (7, nI i)]) (fun i => ⟨[(2, some (x.map u8)), (10, some ((signL x m i).flatten.map u8))]⟩) (fun i => i ≤ 19) (fun i => 19 - i) ?_ ?_
  · exact at_ex (0) (Nat.zero_le _) [(2, some 2), (10, some 10)] hI rfl rfl ⟨⟨_, rfl, .p rfl⟩, ⟨_, rfl, .pure pu⟩, ⟨_, rfl, .sl rfl (by first | rfl | omega | (simp; done) | (simp [*]; done) | (simp; omega) | (simp [*]; omega) | (simp [D32.len, -List.length_flatten, *]; done) | (simp [D32.len, -List.length_flatten, *]; omega))⟩, ⟨_, rfl, .pure pu⟩, trivial⟩ ⟨.inr ⟨_, _, rfl, rfl, .pure pul⟩, .inr ⟨_, _, rfl, rfl, .of (by rfl) (.pure pul)⟩, trivial⟩
  rintro i hi
  have hDi := D32_signL x m i
  have hdi := dg_lt m i
  refine at_seq ?_
  refine at_seq ?_
  refine at_region ?_
  refine s1 (y_p rfl) rfl <| s1 (y_p rfl) rfl <| ?_
  refine at_nil ?_
  refine x_tn ?_
  refine at_cond rfl (fun hc12 => ?_) (fun hc12 => ?_)
  · have h12 : i < 19 := by have := of_decide_eq_true hc12; omega
    refine at_skip ?_
    refine x_tn ?_
    refine at_seq ?_
    refine at_block ?_
    refine at_fs ⟨_, [], []⟩ 11 4 hmix (le_refl rfl) ?_
    refine fs_q 0 [] [(10, none)] (y_p rfl) rfl rfl ?_
    refine fs_q 1 [] [(2, none)] (y_loadA0 ti23 rfl rfl (by first | rfl | omega | (simp; done) | (simp [*]; done) | (simp; omega) | (simp [*]; omega) | (simp [D32.len, -List.length_flatten, *]; done) | (simp [D32.len, -List.length_flatten, *]; omega))) rfl rfl ?_
    refine fs_q 2 [] [] (y_p rfl) rfl rfl ?_
    refine fs_call false 3 [1, 2] [] gy0 rfl (.cons (.pure pu) (.cons (.pure pu) (.nil))) (rfirst_ok x i hx) pu (.inl rfl) rfl rfl ?_
    refine fs_q 4 [] [] (y_p rfl) rfl rfl ?_
    refine fs_q 5 [] [] (y_p rfl) rfl rfl ?_
    refine fs_q 6 [4, 5] [] (y_ixf i Tryd.underlying42 ti3 rfl rfl rfl (by omega) rfl) rfl rfl ?_
    refine fs_q 7 [6] [] (y_load ti3 rfl rfl (get_dig3 m i h12)) rfl rfl ?_
    refine fs_call false 8 [3, 7] [] gy0 rfl (.cons (.pure pu) (.cons (.pure pu) (.nil))) (rsteps_ok (firstD x i) (dg m i) (by simp) (by omega)) pu (.inl rfl) rfl rfl ?_
    refine fs_bs 24 9 [8] gy0 Tryd.underlying26 ti23 rfl rfl rfl (by simp [cellsA, len_iterD, *]) (List.append_nil ((iterD (dg m i) (firstD x i)).map u8)) rfl rfl rfl rfl ?_
    refine fs_app 25 10 [0, 9] [(10, none), (24, some 9)] gy0 Tryd.underlying26 ti23 rfl (.sl rfl (by rw [List.length_map, hDi.len, len_signL])) rfl (SM_full rfl (by rw [List.length_map, len_iterD (by simp [*])])) (by simp [len_iterD, *]) (by simp only [maxLen]; omega) (by omega) rfl rfl rfl rfl ?_
    refine fs_end (by kernel_rfl) ?_
    refine s1 (y_p rfl) rfl <| ?_
    refine at_nil ?_
    refine x_bn ?_
    refine x_tn ?_
    refine at_region ?_
    refine s1 (y_p rfl) rfl <| s1 (addN _ 1 rfl rfl rfl rfl (by omega)) rfl <| s1 (y_p rfl) rfl <| ?_
    refine at_nil ?_
    exact at_end (i + 1) (by omega) (by omega) [(2, some 2), (10, some 25)] hI rfl rfl ⟨⟨_, rfl, .p rfl⟩, ⟨_, rfl, .pure pu⟩, ⟨_, rfl, .sl rfl (by first | rfl | omega | (simp; done) | (simp [*]; done) | (simp; omega) | (simp [*]; omega) | (simp [D32.len, -List.length_flatten, *]; done) | (simp [D32.len, -List.length_flatten, *]; omega))⟩, ⟨_, rfl, .pure pu⟩, trivial⟩ ⟨.inr ⟨_, _, rfl, rfl, .pure pul⟩, .inr ⟨_, _, rfl, rfl, .of (sign_flat x m i) (.pure pul)⟩, trivial⟩
  · have h12 : i = 19 := by have := of_decide_eq_false hc12; omega
    subst h12
    refine at_exit ?_
    refine x_te ?_
    refine x_te ?_
    refine x_be ?_
    refine x_tn ?_
    refine at_seq ?_
    refine at_region ?_
    refine s1 (y_p rfl) rfl <| s1 (y_p rfl) rfl <| ?_
    refine at_nil ?_
    refine x_tn ?_
    refine at_ret ?_
    refine at_frz 4 rfl rfl pul (view_eq (by rw [List.length_map, (D32_signL x m _).len, len_signL]) rfl) ?_
    refine at_result (rs := [.tmp 4]) rfl (r_tmp rfl r_nil) ?_
    show A.fz _ _ = dgs (signL x m 19)
    rw [dgs, len_signL]
set_option linter.unusedSimpArgs false in
set_option linter.unusedVariables false in
set_option maxHeartbeats 1000000 in
set_option maxRecDepth 10000 in
theorem rrecover_ok (m : List UInt8) (S : List (List UInt8)) (hm : m.length = 32) (hS : D32 S) : Con Tryd.prog 49 [.ag (m.map u8), dgs S] (Ret (.tu [.ag ((recD m S).map u8), nI (recE S)])) := by
  refine enter Tryd.func49 rfl Tryd.ntmps49 (by kernel_rfl) (Nat.le_of_ble_eq_true rfl) fun w0 X0 hI => ?_
  refine at_seq ?_
  refine at_region ?_
  refine at_op rfl (n_boxA 2 rfl rfl rfl ?_)
  refine at_op rfl (n_alloc 4 rfl ti23 rfl rfl ?_)
  refine s1 ((y_p rfl).v (v' := .i .i64 0) rfl) rfl <| ?_
  refine at_nil ?_
  refine x_tn ?_
  refine at_seq ?_
  refine at_seq ?_
  refine at_region ?_
  refine s1 (y_p rfl) rfl <| s1 (y_len Tryd.underlying26 rfl rfl rfl) rfl <| s1 (y_p rfl) rfl <| ?_
  refine at_nil ?_
  refine x_tn ?_
  refine at_cond rfl (fun hc11 => ?_) (fun hc11 => ?_)
  · have h11 : S.length ≠ 19 := by have := bne_iff_ne.1 hc11; omega
    refine at_seq ?_
    refine at_region ?_
    refine s1 (y_bld0 ti23 rfl Tryd.underlying23 ti5 rfl) rfl <| ?_
    refine at_op rfl (n_storeA ti23 rfl rfl rfl (by first | rfl | omega | (simp; done) | (simp [*]; done) | (simp; omega) | (simp [*]; omega) | (simp [D32.len, -List.length_flatten, *]; done) | (simp [D32.len, -List.length_flatten, *]; omega)) (by first | rfl | omega | (simp; done) | (simp [*]; done) | (simp; omega) | (simp [*]; omega) | (simp [D32.len, -List.length_flatten, *]; done) | (simp [D32.len, -List.length_flatten, *]; omega)) ?_)
    refine s1 ((y_p rfl).v (v' := .i .i64 50) rfl) rfl <| ?_
    refine at_nil ?_
    refine x_tn ?_
    refine at_ret ?_
    refine x_tr ?_
    refine at_result (rs := [.cell 4 23, .tmp 5]) rfl (r_cellA ti23 rfl rfl (List.take_of_length_le (by simp)) (by simp) (r_tmp rfl r_nil)) ?_
    rw [(rec_no h11).1, (rec_no (m := m) h11).2]
    rfl
  · have h11 : S.length = 19 := by have := bne_eq_false_iff_eq.1 hc11; omega
    refine at_skip ?_
    refine x_tn ?_
    refine at_seq ?_
    refine at_region ?_
    refine s1 (y_loadA0 ti23 rfl rfl (by first | rfl | omega | (simp; done) | (simp [*]; done) | (simp; omega) | (simp [*]; omega) | (simp [D32.len, -List.length_flatten, *]; done) | (simp [D32.len, -List.length_flatten, *]; omega))) rfl <| ?_
    refine at_op rfl (n_call false rfl (.cons (.pure pu) (.nil)) (rdigits_ok m hm) pu (.inl rfl) rfl ?_)
    refine s1 (y_p rfl) rfl <| ?_
    refine at_nil ?_
    refine x_tn ?_
    refine at_seq ?_
    refine at_region ?_
    refine at_op rfl (n_bs 15 rfl Tryd.underlying26 ti23 rfl rfl rfl (by first | (simp [cellsA]; done) | (simp [cellsA, *]; done)) rfl rfl rfl rfl ?_)
    refine s1 (y_p rfl) rfl <| ?_
    refine at_nil ?_
    refine x_tn ?_
    refine at_seq ?_
    refine at_seq ?_
    refine at_region ?_
    refine s1 ((y_p rfl).v (v' := .i .i64 0) rfl) rfl <| ?_
    refine at_nil ?_
    refine x_tn ?_
    refine at_block ?_
    refine at_loop (ι := Nat) (fun i => [(1, dgs S), (4, .p 4 0), (6, .fz 19 ((digits m).map nI)), (7, .sl 15 32 0 i), (8, nI i)]) (fun i => ⟨[(4, some (List.replicate 32 (u8 0))), (15, some ((recL m S i).flatten.map u8))]⟩) (fun i => i ≤ 19) (fun i => 19 - i) ?_ ?_
    · exact at_ex (0) (Nat.zero_le _) [(4, some 4), (15, some 15)] hI rfl rfl ⟨⟨_, rfl, .pure pu⟩, ⟨_, rfl, .p rfl⟩, ⟨_, rfl, .pure pu⟩, ⟨_, rfl, .sl rfl (by first | rfl | omega | (simp; done) | (simp [*]; done) | (simp; omega) | (simp [*]; omega) | (simp [D32.len, -List.length_flatten, *]; done) | (simp [D32.len, -List.length_flatten, *]; omega))⟩, ⟨_, rfl, .pure pu⟩, trivial⟩ ⟨.inr ⟨_, _, rfl, rfl, .pure pul⟩, .inr ⟨_, _, rfl, rfl, .of (by rw [recL_0]; rfl) (.pure pul)⟩, trivial⟩
    rintro i hi
    have hDi := D32_recL (m := m) hS i (by omega)
    have hdi := dg_lt m i
    refine at_seq ?_
    refine at_seq ?_
    refine at_region ?_
    refine s1 (y_p rfl) rfl <| s1 (y_p rfl) rfl <| ?_
    refine at_nil ?_
    refine x_tn ?_
    refine at_cond rfl (fun hc17 => ?_) (fun hc17 => ?_)
    · have h17 : i < 19 := by have := of_decide_eq_true hc17; omega
      obtain ⟨q, hq⟩ : ∃ q, S[i]? = some q := ⟨_, List.getElem?_eq_getElem (by omega)⟩
      have hq32 := hS q (List.mem_of_getElem? hq)
      have hq2 : S.getD i [] = q := by simp [hq]
      refine at_skip ?_
      refine x_tn ?_
      refine at_seq ?_
      refine at_block ?_
      refine at_fs ⟨_, [], []⟩ 13 4 hmix (le_refl rfl) ?_
      refine fs_q 0 [] [(15, none)] (y_p rfl) rfl rfl ?_
      refine fs_q 1 [] [] (y_p rfl) rfl rfl ?_
      refine fs_q 2 [] [] (y_p rfl) rfl rfl ?_
      refine fs_q 3 [1, 2] [] (y_ixf i Tryd.underlying26 ti23 rfl rfl rfl (by omega) rfl) rfl rfl ?_
      refine fs_q 4 [3] [] (y_loadA ti23 rfl rfl (get_d5 hS hq) (by simp [hq32])) rfl rfl ?_
      refine fs_q 5 [] [] (y_p rfl) rfl rfl ?_
      refine fs_q 6 [] [] (y_p rfl) rfl rfl ?_
      refine fs_q 7 [5, 6] [] (y_ixf i Tryd.underlying42 ti3 rfl rfl rfl (by omega) rfl) rfl rfl ?_
      refine fs_q 8 [7] [] (y_load ti3 rfl rfl (get_dig3 m i h17)) rfl rfl ?_
      refine fs_q 9 [8] [] (subN 3 (dg m i) rfl rfl rfl rfl (by omega) (by omega)) rfl rfl ?_
      refine fs_call false 10 [4, 9] [] gy0 rfl (.cons (.pure pu) (.cons (.pure pu) (.nil))) (rsteps_ok q (3 - dg m i) hq32 (by omega)) pu (.inl rfl) rfl rfl ?_
      refine fs_bs 31 11 [10] gy0 Tryd.underlying26 ti23 rfl rfl rfl (by simp [cellsA, len_iterD, *]) (List.append_nil ((iterD (3 - dg m i) q).map u8)) rfl rfl rfl rfl ?_
      refine fs_app 32 12 [0, 11] [(15, none), (31, some 11)] gy0 Tryd.underlying26 ti23 rfl (.sl rfl (by rw [List.length_map, hDi.len, len_recL])) rfl (SM_full rfl (by rw [List.length_map, len_iterD (by simp [*])])) (by simp [len_iterD, *]) (by simp only [maxLen]; omega) (by omega) rfl rfl rfl rfl ?_
      refine fs_end (by kernel_rfl) ?_
      refine s1 (y_p rfl) rfl <| ?_
      refine at_nil ?_
      refine x_bn ?_
      refine x_tn ?_
      refine at_region ?_
      refine s1 (y_p rfl) rfl <| s1 (addN _ 1 rfl rfl rfl rfl (by omega)) rfl <| s1 (y_p rfl) rfl <| ?_
      refine at_nil ?_
      exact at_end (i + 1) (by omega) (by omega) [(4, some 4), (15, some 32)] hI rfl rfl ⟨⟨_, rfl, .pure pu⟩, ⟨_, rfl, .p rfl⟩, ⟨_, rfl, .pure pu⟩, ⟨_, rfl, .sl rfl (by first | rfl | omega | (simp; done) | (simp [*]; done) | (simp; omega) | (simp [*]; omega) | (simp [D32.len, -List.length_flatten, *]; done) | (simp [D32.len, -List.length_flatten, *]; omega))⟩, ⟨_, rfl, .pure pu⟩, trivial⟩ ⟨.inr ⟨_, _, rfl, rfl, .pure pul⟩, .inr ⟨_, _, rfl, rfl, .of (rec_flat hq2) (.pure pul)⟩, trivial⟩
    · have h17 : i = 19 := by have := of_decide_eq_false hc17; omega
      subst h17
      refine at_exit ?_
      refine x_te ?_
      refine x_te ?_
      refine x_be ?_
      refine x_tn ?_
      refine at_seq ?_
      refine at_region ?_
      refine s1 (y_p rfl) rfl <| ?_
      refine at_op rfl (n_call true rfl (.cons (.sl rfl rfl rfl (view_eq (by rw [List.length_map, hDi.len, (len_recL m S 19)]) rfl) (VwL.pure pul) pul) .nil) (rkey_19 (recL m S 19) hDi (len_recL m S 19)) pu (.inr fu) rfl ?_)
      refine at_op rfl (n_storeA ti23 rfl rfl rfl (by first | rfl | omega | (simp; done) | (simp [*]; done) | (simp; omega) | (simp [*]; omega) | (simp [D32.len, -List.length_flatten, *]; done) | (simp [D32.len, -List.length_flatten, *]; omega)) (by first | rfl | omega | (simp; done) | (simp [*]; done) | (simp; omega) | (simp [*]; omega) | (simp [D32.len, -List.length_flatten, *]; done) | (simp [D32.len, -List.length_flatten, *]; omega)) ?_)
      refine s1 ((y_p rfl).v (v' := .i .i64 0) rfl) rfl <| ?_
      refine at_nil ?_
      refine x_tn ?_
      refine at_ret ?_
      refine at_result (rs := [.cell 4 23, .tmp 5]) rfl (r_cellA ti23 rfl rfl (List.take_of_length_le (by simp)) (by simp) (r_tmp rfl r_nil)) ?_
      rw [(rec_yes h11).1, (rec_yes (m := m) h11).2]
      rfl
end Go.Abs.D2

/-! K6D -/
namespace Go.Abs.D2
open Go Go.Eng Go.Abs Go.Proofs 
set_option linter.unusedSimpArgs false in
set_option linter.unusedVariables false in
set_option maxHeartbeats 1000000 in
set_option maxRecDepth 10000 in
theorem vc1_ok (n : Int) : Con Tryd.prog 44 [.fp [.i .i64 n]] (Ret (.b (decide (sizeK n)))) := by
  refine enter Tryd.func44 rfl Tryd.ntmps44 (by kernel_rfl) (Nat.le_of_ble_eq_true rfl) fun w0 X0 hI => ?_
  refine at_seq ?_
  refine at_region ?_
  refine s1 (y_p rfl) rfl <| ?_
  refine at_nil ?_
  refine x_tn ?_
  refine at_seq ?_
  refine at_region ?_
  refine s1 (y_load ti3 rfl rfl rfl) rfl <| s1 (y_p rfl) rfl <| s1 (y_p rfl) rfl <| ?_
  refine g_and 2 rfl rfl rfl rfl (fun hb4 => .step (y_load ti3 rfl rfl rfl) rfl rfl <| .step (y_p rfl) rfl rfl <| .done) rfl rfl ?_
  refine s1 (y_p rfl) rfl <| ?_
  refine at_nil ?_
  refine x_tn ?_
  refine at_ret ?_
  refine at_result (rs := [.tmp 1]) rfl (r_tmp rfl r_nil) ?_
  exact congrArg A.b (by rw [Bool.eq_iff_iff, decide_eq_true_eq]; simp [sizeK])
set_option linter.unusedSimpArgs false in
set_option linter.unusedVariables false in
set_option maxHeartbeats 1000000 in
set_option maxRecDepth 10000 in
theorem vc2_ok (a n : Int) (S P : List (List UInt8)) : Con Tryd.prog 45 [.fp [.i .i64 a, dgs S, dgs P], .fp [.i .i64 n]] (Ret (.b (decide (atK n a)))) := by
  refine enter Tryd.func45 rfl Tryd.ntmps45 (by kernel_rfl) (Nat.le_of_ble_eq_true rfl) fun w0 X0 hI => ?_
  refine at_seq ?_
  refine at_region ?_
  refine s1 (y_p rfl) rfl <| ?_
  refine at_nil ?_
  refine x_tn ?_
  refine at_seq ?_
  refine at_region ?_
  refine s1 (y_fldf Tryd.underlying28 rfl ti3 (by decide) rfl rfl) rfl <| s1 (y_load ti3 rfl rfl rfl) rfl <| s1 (y_p rfl) rfl <| s1 (y_p rfl) rfl <| ?_
  refine g_and 4 rfl rfl rfl rfl (fun hb6 => .step (y_fldf Tryd.underlying28 rfl ti3 (by decide) rfl rfl) rfl rfl <| .step (y_load ti3 rfl rfl rfl) rfl rfl <| .step (y_load ti3 rfl rfl rfl) rfl rfl <| .step (y_p rfl) rfl rfl <| .done) rfl rfl ?_
  refine s1 (y_p rfl) rfl <| ?_
  refine at_nil ?_
  refine x_tn ?_
  refine at_ret ?_
  refine at_result (rs := [.tmp 2]) rfl (r_tmp rfl r_nil) ?_
  exact congrArg A.b (atK_b n a)
set_option linter.unusedSimpArgs false in
set_option linter.unusedVariables false in
set_option maxHeartbeats 1000000 in
set_option maxRecDepth 10000 in
theorem vc3_ok (m : List UInt8) (a : Int) (S P : List (List UInt8)) (hm : m.length = 32) (hS : D32 S) : ConS Tryd.prog 46 [.fp (m.map u8), .fp [.i .i64 a, dgs S, dgs P], .p 9 0] ⟨[(9, some (zD.map u8))]⟩ (RetS (.b (decide (recE S = 0))) [(9, (recD m S).map u8)]) := by
  refine enterS Tryd.func46 rfl Tryd.ntmps46 (by kernel_rfl) (Nat.le_of_ble_eq_true rfl) fun w0 X0 hI => ?_
  refine at_seq ?_
  refine at_region ?_
  refine s1 (y_p rfl) rfl <| ?_
  refine at_nil ?_
  refine x_tn ?_
  refine at_seq ?_
  refine at_region ?_
  refine s1 (y_loadA ti23 rfl rfl (List.take_of_length_le (by simp [hm])) (by simp [hm])) rfl <| s1 (y_fldf Tryd.underlying28 rfl ti26 (by decide) rfl rfl) rfl <| s1 (y_load ti26 rfl rfl rfl) rfl <| ?_
  refine at_op rfl (n_call false rfl (.cons (.pure pu) (.cons (.pure pu) (.nil))) (recover_ok m S hm hS) pu (.inl rfl) rfl ?_)
  refine s1 (y_p rfl) rfl <| s1 (y_p rfl) rfl <| s1 (y_p rfl) rfl <| ?_
  refine at_op rfl (n_alloc 4 rfl ti23 rfl rfl ?_)
  refine at_op rfl (n_storeA ti23 rfl rfl rfl (by first | rfl | omega | (simp; done) | (simp [*]; done) | (simp; omega) | (simp [*]; omega) | (simp [D32.len, -List.length_flatten, *]; done) | (simp [D32.len, -List.length_flatten, *]; omega)) (by first | rfl | omega | (simp; done) | (simp [*]; done) | (simp; omega) | (simp [*]; omega) | (simp [D32.len, -List.length_flatten, *]; done) | (simp [D32.len, -List.length_flatten, *]; omega)) ?_)
  refine s1 (y_p rfl) rfl <| ?_
  refine at_nil ?_
  refine x_tn ?_
  refine at_seq ?_
  refine at_region ?_
  refine s1 (y_loadA0 ti23 rfl rfl (by first | rfl | omega | (simp; done) | (simp [*]; done) | (simp; omega) | (simp [*]; omega) | (simp [D32.len, -List.length_flatten, *]; done) | (simp [D32.len, -List.length_flatten, *]; omega))) rfl <| ?_
  refine at_op rfl (n_storeA ti23 rfl rfl rfl (by first | rfl | omega | (simp; done) | (simp [*]; done) | (simp; omega) | (simp [*]; omega) | (simp [D32.len, -List.length_flatten, *]; done) | (simp [D32.len, -List.length_flatten, *]; omega)) (by first | rfl | omega | (simp; done) | (simp [*]; done) | (simp; omega) | (simp [*]; omega) | (simp [D32.len, -List.length_flatten, *]; done) | (simp [D32.len, -List.length_flatten, *]; omega)) ?_)
  refine at_nil ?_
  refine x_tn ?_
  refine at_seq ?_
  refine at_region ?_
  refine s1 (y_p rfl) rfl <| s1 ((y_p rfl).v (v' := .b (decide (recE S = 0))) (congrArg A.b (recE_b S))) rfl <| s1 (y_p rfl) rfl <| ?_
  refine at_nil ?_
  refine x_tn ?_
  refine at_ret ?_
  refine at_result (rs := [.tmp 3]) rfl (r_tmp rfl r_nil) (retS_1 rfl)
set_option linter.unusedSimpArgs false in
set_option linter.unusedVariables false in
set_option maxHeartbeats 1000000 in
set_option maxRecDepth 10000 in
theorem vc4_ok (r m : List UInt8) (n a : Int) (S P : List (List UInt8)) (hr : r.length = 32) (hP : D32 P) : ConS Tryd.prog 48 [.p 9 0, .fp [.i .i64 a, dgs S, dgs P], .fp [.i .i64 n], .fp (r.map u8)] ⟨[(9, some ((recD m S).map u8))]⟩ (RetS (.b ((climbE a n P.length == 0) && (climbD (recD m S) a n P == r))) [(9, (recD m S).map u8)]) := by
  refine enterS Tryd.func48 rfl Tryd.ntmps48 (by kernel_rfl) (Nat.le_of_ble_eq_true rfl) fun w0 X0 hI => ?_
  refine at_seq ?_
  refine at_region ?_
  refine s1 (y_p rfl) rfl <| ?_
  refine at_nil ?_
  refine x_tn ?_
  refine at_seq ?_
  refine at_region ?_
  refine s1 (y_loadA0 ti23 rfl rfl (by first | rfl | omega | (simp; done) | (simp [*]; done) | (simp; omega) | (simp [*]; omega) | (simp [D32.len, -List.length_flatten, *]; done) | (simp [D32.len, -List.length_flatten, *]; omega))) rfl <| s1 (y_fldf Tryd.underlying28 rfl ti3 (by decide) rfl rfl) rfl <| s1 (y_load ti3 rfl rfl rfl) rfl <| s1 (y_load ti3 rfl rfl rfl) rfl <| s1 (y_fldf Tryd.underlying28 rfl ti26 (by decide) rfl rfl) rfl <| s1 (y_load ti26 rfl rfl rfl) rfl <| ?_
  refine at_op rfl (n_call false rfl (.cons (.pure pu) (.cons (.pure pu) (.cons (.pure pu) (.cons (.pure pu) (.nil))))) (Con.cast (climbI_ok (recD m S) (by simp) a n P hP) (climbA_eq ..)) pu (.inl rfl) rfl ?_)
  refine s1 (y_p rfl) rfl <| s1 (y_p rfl) rfl <| s1 (y_p rfl) rfl <| ?_
  refine at_op rfl (n_alloc 5 rfl ti23 rfl rfl ?_)
  refine at_op rfl (n_storeA ti23 rfl rfl rfl (by first | rfl | omega | (simp; done) | (simp [*]; done) | (simp; omega) | (simp [*]; omega) | (simp [D32.len, -List.length_flatten, *]; done) | (simp [D32.len, -List.length_flatten, *]; omega)) (by first | rfl | omega | (simp; done) | (simp [*]; done) | (simp; omega) | (simp [*]; omega) | (simp [D32.len, -List.length_flatten, *]; done) | (simp [D32.len, -List.length_flatten, *]; omega)) ?_)
  refine s1 (y_p rfl) rfl <| ?_
  refine at_nil ?_
  refine x_tn ?_
  refine at_seq ?_
  refine at_region ?_
  refine s1 (y_p rfl) rfl <| s1 (y_p rfl) rfl <| s1 (y_p rfl) rfl <| ?_
  refine g_and 3 rfl rfl rfl rfl (fun hb19 => .step (y_loadA0 ti23 rfl rfl (by first | rfl | omega | (simp; done) | (simp [*]; done) | (simp; omega) | (simp [*]; omega) | (simp [D32.len, -List.length_flatten, *]; done) | (simp [D32.len, -List.length_flatten, *]; omega))) rfl rfl <| .step (y_loadA ti23 rfl rfl (List.take_of_length_le (by simp [hr])) (by simp [hr])) rfl rfl <| .step (y_aq Tryd.underlying23 Tryd.underlying5 ti5 (by kernel_rfl) rfl rfl (by first | assumption | (simp; done) | (simp [*]; done)) (by first | assumption | (simp; done) | (simp [*]; done))) rfl rfl <| .done) rfl rfl ?_
  refine s1 (y_p rfl) rfl <| ?_
  refine at_nil ?_
  refine x_tn ?_
  refine at_ret ?_
  refine at_result (rs := [.tmp 4]) rfl (r_tmp rfl r_nil) (retS_1 rfl)
set_option linter.unusedSimpArgs false in
set_option linter.unusedVariables false in
set_option maxHeartbeats 1000000 in
set_option maxRecDepth 10000 in
theorem kver_ok (r m : List UInt8) (n a : Int) (S P : List (List UInt8)) (hr : r.length = 32) (hm : m.length = 32) (hS : D32 S) (hP : D32 P) : Con Tryd.prog 19 [.ag (r.map u8), .i .i64 n, .ag (m.map u8), .ag [.i .i64 a, dgs S, dgs P]] (Ret (.i .i64 (errK (verK r n m a S P)))) := by
  refine enter Tryd.func19 rfl Tryd.ntmps19 (by kernel_rfl) (Nat.le_of_ble_eq_true rfl) fun w0 X0 hI => ?_
  refine at_seq ?_
  refine at_region ?_
  refine at_op rfl (n_boxA 4 rfl rfl rfl ?_)
  refine at_op rfl (n_box1 5 rfl rfl rfl rfl ?_)
  refine at_op rfl (n_boxA 6 rfl rfl rfl ?_)
  refine at_op rfl (n_boxA 7 rfl rfl rfl ?_)
  refine s1 ((y_p rfl).v (v' := .i .i64 0) rfl) rfl <| ?_
  refine at_nil ?_
  refine x_tn ?_
  refine at_seq ?_
  refine at_region ?_
  refine at_op rfl (n_alloc 9 rfl ti23 rfl rfl ?_)
  refine at_nil ?_
  refine x_tn ?_
  refine at_seq ?_
  refine at_frzP 4 rfl rfl pul ?_
  refine at_frzP 5 rfl rfl pul ?_
  refine at_frzP 6 rfl rfl pul ?_
  refine at_frzP 7 rfl rfl pul ?_
  refine at_region ?_
  refine s1 (y_func (us := []) (vs := [.fp [.i .i64 n]]) rfl rfl) rfl <| s1 (y_func (us := []) (vs := [.fp [.i .i64 a, dgs S, dgs P], .fp [.i .i64 n]]) rfl rfl) rfl <| s1 (y_func (us := []) (vs := [.fp (m.map u8), .fp [.i .i64 a, dgs S, dgs P], .p 9 0]) rfl rfl) rfl <| s1 (y_func (us := []) (vs := [.p 9 0, .fp [.i .i64 a, dgs S, dgs P], .fp [.i .i64 n], .fp (r.map u8)]) rfl rfl) rfl <| ?_
  refine at_op rfl (n_bs1 17 rfl Tryd.underlying70 ti24 rfl rfl rfl rfl rfl ?_)
  refine s1 (y_p rfl) rfl <| ?_
  refine at_nil ?_
  refine x_tn ?_
  refine at_seq ?_
  refine at_seq ?_
  refine at_region ?_
  refine s1 (y_p rfl) rfl <| s1 (y_len Tryd.underlying70 rfl rfl rfl) rfl <| s1 ((y_p rfl).v (v' := .i .i64 0) rfl) rfl <| ?_
  refine at_nil ?_
  refine x_tn ?_
  refine at_block ?_
  refine at_loop (ι := Nat) (fun i => [(18, .sl 17 1 0 4), (19, nI 4), (20, nI i)]) (fun i => ⟨[(9, some ((pubK m S i).map u8)), (17, some ([.fn (.func 44) [] [.fp [.i .i64 n]], .fn (.func 45) [] [.fp [.i .i64 a, dgs S, dgs P], .fp [.i .i64 n]], .fn (.func 46) [] [.fp (m.map u8), .fp [.i .i64 a, dgs S, dgs P], .p 9 0], .fn (.func 48) [] [.p 9 0, .fp [.i .i64 a, dgs S, dgs P], .fp [.i .i64 n], .fp (r.map u8)]]))]⟩) (fun i => i ≤ 4 ∧ (0 < i → sizeK n) ∧ (1 < i → atK n a) ∧ (2 < i → recE S = 0) ∧ (3 < i → ((climbE a n P.length == 0) && (climbD (recD m S) a n P == r)) = true)) (fun i => 4 - i) ?_ ?_
  · exact at_ex (0) (⟨by omega, fun h => absurd h (by omega), fun h => absurd h (by omega), fun h => absurd h (by omega), fun h => absurd h (by omega)⟩) [(9, some 9), (17, some 17)] hI rfl rfl ⟨⟨_, rfl, .sl rfl (by first | rfl | omega | (simp; done) | (simp [*]; done) | (simp; omega) | (simp [*]; omega) | (simp [D32.len, -List.length_flatten, *]; done) | (simp [D32.len, -List.length_flatten, *]; omega))⟩, ⟨_, rfl, .pure pu⟩, ⟨_, rfl, .pure pu⟩, trivial⟩ ⟨.inr ⟨_, _, rfl, rfl, .of (by rfl) (.pure pul)⟩, .inr ⟨_, _, rfl, rfl, .cons (.pure pu) (.cons (.pure pu) (.cons (.fn .nil (.cons (.pure pu) (.cons (.pure pu) (.cons (.p rfl) .nil)))) (.cons (.fn .nil (.cons (.p rfl) (.cons (.pure pu) (.cons (.pure pu) (.cons (.pure pu) .nil))))) .nil)))⟩, trivial⟩
  rintro i ⟨hi, p1, p2, p3, p4⟩
  refine at_seq ?_
  refine at_region ?_
  refine s1 (y_p rfl) rfl <| ?_
  refine at_nil ?_
  refine x_tn ?_
  refine at_seq ?_
  refine at_cond rfl (fun hc21 => ?_) (fun hc21 => ?_)
  · have h21 : i < 4 := by have := of_decide_eq_true hc21; omega
    refine at_skip ?_
    refine x_tn ?_
    refine at_seq ?_
    refine at_block ?_
    refine at_seq ?_
    rcases show i = 0 ∨ i = 1 ∨ i = 2 ∨ i = 3 by omega with hcs | hcs | hcs | hcs
    · subst hcs
      refine at_region ?_
      refine s1 (y_ixs 0 Tryd.underlying70 ti24 rfl rfl rfl rfl (by omega) rfl) rfl <| s1 (y_load ti24 rfl rfl rfl) rfl <| s1 (y_p rfl) rfl <| ?_
      refine at_nil ?_
      refine x_tn ?_
      refine at_seq ?_
      refine at_region ?_
      refine s1 (y_p rfl) rfl <| ?_
      refine at_op rfl (n_callv false rfl rfl (.cons (.pure pu) .nil) (vc1_ok n) pu (.inl rfl) rfl ?_)
      refine s1 (y_p rfl) rfl <| ?_
      refine at_nil ?_
      refine x_tn ?_
      refine at_cond rfl (fun hc26 => ?_) (fun hc26 => ?_)
      · skip
        refine at_seq ?_
        refine at_region ?_
        refine s1 ((y_p rfl).v (v' := .i .i64 60) rfl) rfl <| ?_
        refine at_nil ?_
        refine x_tn ?_
        refine at_ret ?_
        refine x_br ?_
        refine x_tr ?_
        refine x_tr ?_
        refine x_br ?_
        refine x_tr ?_
        refine at_result (rs := [.tmp 8]) rfl (r_tmp rfl r_nil) ?_
        exact congrArg (A.i .i64) (by rw [ver_k1 (by simpa using hc26)]; rfl)
      · skip
        refine at_skip ?_
        refine x_bn ?_
        refine x_tn ?_
        refine at_region ?_
        refine s1 (addN _ 1 rfl rfl rfl rfl (by omega)) rfl <| s1 (y_p rfl) rfl <| ?_
        refine at_nil ?_
        exact at_end (0 + 1) (⟨by omega, fun _ => by simpa using hc26, fun h => absurd h (by omega), fun h => absurd h (by omega), fun h => absurd h (by omega)⟩) (by omega) [(9, some 9), (17, some 17)] hI rfl rfl ⟨⟨_, rfl, .sl rfl (by first | rfl | omega | (simp; done) | (simp [*]; done) | (simp; omega) | (simp [*]; omega) | (simp [D32.len, -List.length_flatten, *]; done) | (simp [D32.len, -List.length_flatten, *]; omega))⟩, ⟨_, rfl, .pure pu⟩, ⟨_, rfl, .pure pu⟩, trivial⟩ ⟨.inr ⟨_, _, rfl, rfl, .of (by rfl) (.pure pul)⟩, .inr ⟨_, _, rfl, rfl, .cons (.pure pu) (.cons (.pure pu) (.cons (.fn .nil (.cons (.pure pu) (.cons (.pure pu) (.cons (.p rfl) .nil)))) (.cons (.fn .nil (.cons (.p rfl) (.cons (.pure pu) (.cons (.pure pu) (.cons (.pure pu) .nil))))) .nil)))⟩, trivial⟩
    · subst hcs
      refine at_region ?_
      refine s1 (y_ixs 1 Tryd.underlying70 ti24 rfl rfl rfl rfl (by omega) rfl) rfl <| s1 (y_load ti24 rfl rfl rfl) rfl <| s1 (y_p rfl) rfl <| ?_
      refine at_nil ?_
      refine x_tn ?_
      refine at_seq ?_
      refine at_region ?_
      refine s1 (y_p rfl) rfl <| ?_
      refine at_op rfl (n_callv false rfl rfl (.cons (.pure pu) (.cons (.pure pu) .nil)) (vc2_ok a n S P) pu (.inl rfl) rfl ?_)
      refine s1 (y_p rfl) rfl <| ?_
      refine at_nil ?_
      refine x_tn ?_
      refine at_cond rfl (fun hc26 => ?_) (fun hc26 => ?_)
      · skip
        refine at_seq ?_
        refine at_region ?_
        refine s1 ((y_p rfl).v (v' := .i .i64 60) rfl) rfl <| ?_
        refine at_nil ?_
        refine x_tn ?_
        refine at_ret ?_
        refine x_br ?_
        refine x_tr ?_
        refine x_tr ?_
        refine x_br ?_
        refine x_tr ?_
        refine at_result (rs := [.tmp 8]) rfl (r_tmp rfl r_nil) ?_
        exact congrArg (A.i .i64) (by rw [ver_k2 (by simpa using hc26)]; rfl)
      · skip
        refine at_skip ?_
        refine x_bn ?_
        refine x_tn ?_
        refine at_region ?_
        refine s1 (addN _ 1 rfl rfl rfl rfl (by omega)) rfl <| s1 (y_p rfl) rfl <| ?_
        refine at_nil ?_
        exact at_end (1 + 1) (⟨by omega, fun _ => p1 (by omega), fun _ => by simpa using hc26, fun h => absurd h (by omega), fun h => absurd h (by omega)⟩) (by omega) [(9, some 9), (17, some 17)] hI rfl rfl ⟨⟨_, rfl, .sl rfl (by first | rfl | omega | (simp; done) | (simp [*]; done) | (simp; omega) | (simp [*]; omega) | (simp [D32.len, -List.length_flatten, *]; done) | (simp [D32.len, -List.length_flatten, *]; omega))⟩, ⟨_, rfl, .pure pu⟩, ⟨_, rfl, .pure pu⟩, trivial⟩ ⟨.inr ⟨_, _, rfl, rfl, .of (by rfl) (.pure pul)⟩, .inr ⟨_, _, rfl, rfl, .cons (.pure pu) (.cons (.pure pu) (.cons (.fn .nil (.cons (.pure pu) (.cons (.pure pu) (.cons (.p rfl) .nil)))) (.cons (.fn .nil (.cons (.p rfl) (.cons (.pure pu) (.cons (.pure pu) (.cons (.pure pu) .nil))))) .nil)))⟩, trivial⟩
    · subst hcs
      refine at_region ?_
      refine s1 (y_ixs 2 Tryd.underlying70 ti24 rfl rfl rfl rfl (by omega) rfl) rfl <| s1 (y_load ti24 rfl rfl rfl) rfl <| s1 (y_p rfl) rfl <| ?_
      refine at_nil ?_
      refine x_tn ?_
      refine at_seq ?_
      refine at_region ?_
      refine s1 (y_p rfl) rfl <| ?_
      refine at_op rfl (n_callG ⟨[(9, some (zD.map u8))]⟩ [(9, (recD m S).map u8)] false rfl rfl ⟨⟨rfl, VwL.pure pul⟩, trivial⟩ (.cons (.pure pu) (.cons (.pure pu) (.cons (.kp rfl) .nil))) (vc3_ok m a S P hm hS) trivial (.inl rfl) (upd_1 (c0 := zD.map u8) rfl pul ful) rfl ?_)
      refine s1 (y_p rfl) rfl <| ?_
      refine at_nil ?_
      refine x_tn ?_
      refine at_cond rfl (fun hc26 => ?_) (fun hc26 => ?_)
      · skip
        refine at_seq ?_
        refine at_region ?_
        refine s1 ((y_p rfl).v (v' := .i .i64 60) rfl) rfl <| ?_
        refine at_nil ?_
        refine x_tn ?_
        refine at_ret ?_
        refine x_br ?_
        refine x_tr ?_
        refine x_tr ?_
        refine x_br ?_
        refine x_tr ?_
        refine at_result (rs := [.tmp 8]) rfl (r_tmp rfl r_nil) ?_
        exact congrArg (A.i .i64) (by rw [ver_k3 (by simpa using hc26)]; rfl)
      · skip
        refine at_skip ?_
        refine x_bn ?_
        refine x_tn ?_
        refine at_region ?_
        refine s1 (addN _ 1 rfl rfl rfl rfl (by omega)) rfl <| s1 (y_p rfl) rfl <| ?_
        refine at_nil ?_
        exact at_end (2 + 1) (⟨by omega, fun _ => p1 (by omega), fun _ => p2 (by omega), fun _ => by simpa using hc26, fun h => absurd h (by omega)⟩) (by omega) [(9, some 9), (17, some 17)] hI rfl rfl ⟨⟨_, rfl, .sl rfl (by first | rfl | omega | (simp; done) | (simp [*]; done) | (simp; omega) | (simp [*]; omega) | (simp [D32.len, -List.length_flatten, *]; done) | (simp [D32.len, -List.length_flatten, *]; omega))⟩, ⟨_, rfl, .pure pu⟩, ⟨_, rfl, .pure pu⟩, trivial⟩ ⟨.inr ⟨_, _, rfl, rfl, .of (by rfl) (.pure pul)⟩, .inr ⟨_, _, rfl, rfl, .cons (.pure pu) (.cons (.pure pu) (.cons (.fn .nil (.cons (.pure pu) (.cons (.pure pu) (.cons (.p rfl) .nil)))) (.cons (.fn .nil (.cons (.p rfl) (.cons (.pure pu) (.cons (.pure pu) (.cons (.pure pu) .nil))))) .nil)))⟩, trivial⟩
    · subst hcs
      refine at_region ?_
      refine s1 (y_ixs 3 Tryd.underlying70 ti24 rfl rfl rfl rfl (by omega) rfl) rfl <| s1 (y_load ti24 rfl rfl rfl) rfl <| s1 (y_p rfl) rfl <| ?_
      refine at_nil ?_
      refine x_tn ?_
      refine at_seq ?_
      refine at_region ?_
      refine s1 (y_p rfl) rfl <| ?_
      refine at_op rfl (n_callG ⟨[(9, some ((recD m S).map u8))]⟩ [(9, (recD m S).map u8)] false rfl rfl ⟨⟨rfl, VwL.pure pul⟩, trivial⟩ (.cons (.kp rfl) (.cons (.pure pu) (.cons (.pure pu) (.cons (.pure pu) .nil)))) (vc4_ok r m n a S P hr hP) trivial (.inl rfl) (upd_1 (c0 := (recD m S).map u8) rfl pul ful) rfl ?_)
      refine s1 (y_p rfl) rfl <| ?_
      refine at_nil ?_
      refine x_tn ?_
      refine at_cond rfl (fun hc26 => ?_) (fun hc26 => ?_)
      · skip
        refine at_seq ?_
        refine at_region ?_
        refine s1 ((y_p rfl).v (v' := .i .i64 60) rfl) rfl <| ?_
        refine at_nil ?_
        refine x_tn ?_
        refine at_ret ?_
        refine x_br ?_
        refine x_tr ?_
        refine x_tr ?_
        refine x_br ?_
        refine x_tr ?_
        refine at_result (rs := [.tmp 8]) rfl (r_tmp rfl r_nil) ?_
        exact congrArg (A.i .i64) (by rw [ver_k4 (by rwa [Bool.not_eq_true'] at hc26)]; rfl)
      · skip
        refine at_skip ?_
        refine x_bn ?_
        refine x_tn ?_
        refine at_region ?_
        refine s1 (addN _ 1 rfl rfl rfl rfl (by omega)) rfl <| s1 (y_p rfl) rfl <| ?_
        refine at_nil ?_
        exact at_end (3 + 1) (⟨by omega, fun _ => p1 (by omega), fun _ => p2 (by omega), fun _ => p3 (by omega), fun _ => by simpa using hc26⟩) (by omega) [(9, some 9), (17, some 17)] hI rfl rfl ⟨⟨_, rfl, .sl rfl (by first | rfl | omega | (simp; done) | (simp [*]; done) | (simp; omega) | (simp [*]; omega) | (simp [D32.len, -List.length_flatten, *]; done) | (simp [D32.len, -List.length_flatten, *]; omega))⟩, ⟨_, rfl, .pure pu⟩, ⟨_, rfl, .pure pu⟩, trivial⟩ ⟨.inr ⟨_, _, rfl, rfl, .of (by rfl) (.pure pul)⟩, .inr ⟨_, _, rfl, rfl, .cons (.pure pu) (.cons (.pure pu) (.cons (.fn .nil (.cons (.pure pu) (.cons (.pure pu) (.cons (.p rfl) .nil)))) (.cons (.fn .nil (.cons (.p rfl) (.cons (.pure pu) (.cons (.pure pu) (.cons (.pure pu) .nil))))) .nil)))⟩, trivial⟩
  · have h21 : i = 4 := by have := of_decide_eq_false hc21; omega
    subst h21
    refine at_exit ?_
    refine x_te ?_
    refine x_te ?_
    refine x_be ?_
    refine x_tn ?_
    refine at_seq ?_
    refine at_region ?_
    refine s1 ((y_p rfl).v (v' := .i .i64 0) rfl) rfl <| ?_
    refine at_nil ?_
    refine x_tn ?_
    refine at_ret ?_
    refine at_result (rs := [.tmp 8]) rfl (r_tmp rfl r_nil) ?_
    exact congrArg (A.i .i64) (by rw [ver_kt (p1 (by omega)) (p2 (by omega)) (p3 (by omega)) (p4 (by omega))]; rfl)
set_option linter.unusedSimpArgs false in
set_option linter.unusedVariables false in
set_option maxHeartbeats 1000000 in
set_option maxRecDepth 10000 in
theorem rkver_ok (r m : List UInt8) (n a : Int) (S P : List (List UInt8)) (hr : r.length = 32) (hm : m.length = 32) (hS : D32 S) (hP : D32 P) : Con Tryd.prog 20 [.ag (r.map u8), .i .i64 n, .ag (m.map u8), .ag [.i .i64 a, dgs S, dgs P]] (Ret (.i .i64 (errK (verK r n m a S P)))) := by
  refine enter Tryd.func20 rfl Tryd.ntmps20 (by kernel_rfl) (Nat.le_of_ble_eq_true rfl) fun w0 X0 hI => ?_
  refine at_seq ?_
  refine at_region ?_
  refine at_op rfl (n_boxA 4 rfl rfl rfl ?_)
  refine at_op rfl (n_boxA 6 rfl rfl rfl ?_)
  refine at_op rfl (n_boxA 7 rfl rfl rfl ?_)
  refine s1 ((y_p rfl).v (v' := .i .i64 0) rfl) rfl <| ?_
  refine at_nil ?_
  refine x_tn ?_
  refine at_seq ?_
  refine at_seq ?_
  rcases (Decidable.em (sizeK n)).symm with hcs | hcs
  · skip
    refine at_region ?_
    refine s1 (y_p rfl) rfl <| ?_
    refine at_op rfl (n_call false rfl (.cons (.pure pu) (.nil)) (Con.cast (rsize_ok n) (congrArg A.b (decide_eq_false hcs))) pu (.inl rfl) rfl ?_)
    refine s1 (y_p rfl) rfl <| s1 (y_p rfl) rfl <| g0 rfl rfl rfl rfl <| g0 rfl rfl rfl rfl <| g0 rfl rfl rfl rfl <| s1 (y_p rfl) rfl <| s1 (y_p rfl) rfl <| g0 rfl rfl rfl rfl <| g0 rfl rfl rfl rfl <| g0 rfl rfl rfl rfl <| ?_
    refine g0 rfl rfl rfl rfl <| s1 (y_p rfl) rfl <| ?_
    refine at_nil ?_
    refine x_tn ?_
    refine at_then rfl ?_
    refine at_seq ?_
    refine at_region ?_
    refine s1 ((y_p rfl).v (v' := .i .i64 60) rfl) rfl <| ?_
    refine at_nil ?_
    refine x_tn ?_
    refine at_ret ?_
    refine x_tr ?_
    refine at_result (rs := [.tmp 8]) rfl (r_tmp rfl r_nil) ?_
    exact congrArg (A.i .i64) (by rw [ver_k1 hcs]; rfl)
  · have hsz := hcs
    refine at_region ?_
    refine s1 (y_p rfl) rfl <| ?_
    refine at_op rfl (n_call false rfl (.cons (.pure pu) (.nil)) (Con.cast (rsize_ok _) (congrArg A.b (decide_eq_true hcs))) pu (.inl rfl) rfl ?_)
    refine s1 (y_p rfl) rfl <| s1 (y_p rfl) rfl <| g1 rfl rfl (y_fld Tryd.underlying28 rfl ti3 (by decide) rfl rfl) rfl <| g1 rfl rfl (y_load ti3 rfl rfl rfl) rfl <| g1 rfl rfl (y_p rfl) rfl <| s1 (y_p rfl) rfl <| s1 (y_p rfl) rfl <| ?_
    refine g_or 4 rfl rfl rfl rfl (fun hb21 => .step (y_fld Tryd.underlying28 rfl ti3 (by decide) rfl rfl) rfl rfl <| .step (y_load ti3 rfl rfl rfl) rfl rfl <| .step (y_p rfl) rfl rfl <| .step (y_p rfl) rfl rfl <| .done) rfl rfl ?_
    refine at_nil ?_
    refine x_tn ?_
    refine at_cond rfl (fun hc26 => ?_) (fun hc26 => ?_)
    · have hna : ¬ atK n a := by intro h; unfold atK at h; simp at hc26; omega
      refine at_seq ?_
      refine at_region ?_
      refine s1 ((y_p rfl).v (v' := .i .i64 60) rfl) rfl <| ?_
      refine at_nil ?_
      refine x_tn ?_
      refine at_ret ?_
      refine x_tr ?_
      refine at_result (rs := [.tmp 8]) rfl (r_tmp rfl r_nil) ?_
      exact congrArg (A.i .i64) (by rw [ver_k2 hna]; rfl)
    · have hat : atK n a := by unfold atK; simp at hc26; omega
      refine at_skip ?_
      refine x_tn ?_
      refine at_seq ?_
      refine at_region ?_
      refine s1 (y_loadA0 ti23 rfl rfl (by first | rfl | omega | (simp; done) | (simp [*]; done) | (simp; omega) | (simp [*]; omega) | (simp [D32.len, -List.length_flatten, *]; done) | (simp [D32.len, -List.length_flatten, *]; omega))) rfl <| s1 (y_fld Tryd.underlying28 rfl ti26 (by decide) rfl rfl) rfl <| s1 (y_load ti26 rfl rfl rfl) rfl <| ?_
      refine at_op rfl (n_call false rfl (.cons (.pure pu) (.cons (.pure pu) (.nil))) (rrecover_ok m S hm hS) pu (.inl rfl) rfl ?_)
      refine s1 (y_p rfl) rfl <| s1 (y_p rfl) rfl <| s1 (y_p rfl) rfl <| ?_
      refine at_op rfl (n_alloc 9 rfl ti23 rfl rfl ?_)
      refine at_op rfl (n_storeA ti23 rfl rfl rfl (by first | rfl | omega | (simp; done) | (simp [*]; done) | (simp; omega) | (simp [*]; omega) | (simp [D32.len, -List.length_flatten, *]; done) | (simp [D32.len, -List.length_flatten, *]; omega)) (by first | rfl | omega | (simp; done) | (simp [*]; done) | (simp; omega) | (simp [*]; omega) | (simp [D32.len, -List.length_flatten, *]; done) | (simp [D32.len, -List.length_flatten, *]; omega)) ?_)
      refine s1 (y_p rfl) rfl <| ?_
      refine at_nil ?_
      refine x_tn ?_
      refine at_seq ?_
      refine at_seq ?_
      refine at_region ?_
      refine s1 (y_p rfl) rfl <| s1 (y_p rfl) rfl <| ?_
      refine at_nil ?_
      refine x_tn ?_
      refine at_cond rfl (fun hc35 => ?_) (fun hc35 => ?_)
      · have h3 : ¬ recE S = 0 := by intro h; rw [h] at hc35; simp at hc35
        refine at_seq ?_
        refine at_region ?_
        refine s1 ((y_p rfl).v (v' := .i .i64 60) rfl) rfl <| ?_
        refine at_nil ?_
        refine x_tn ?_
        refine at_ret ?_
        refine x_tr ?_
        refine at_result (rs := [.tmp 8]) rfl (r_tmp rfl r_nil) ?_
        exact congrArg (A.i .i64) (by rw [ver_k3 h3]; rfl)
      · have h3 : recE S = 0 := by simp at hc35; omega
        refine at_skip ?_
        refine x_tn ?_
        refine at_seq ?_
        refine at_region ?_
        refine s1 (y_loadA0 ti23 rfl rfl (by first | rfl | omega | (simp; done) | (simp [*]; done) | (simp; omega) | (simp [*]; omega) | (simp [D32.len, -List.length_flatten, *]; done) | (simp [D32.len, -List.length_flatten, *]; omega))) rfl <| s1 (y_fld Tryd.underlying28 rfl ti3 (by decide) rfl rfl) rfl <| s1 (y_load ti3 rfl rfl rfl) rfl <| s1 (y_p rfl) rfl <| s1 (y_fld Tryd.underlying28 rfl ti26 (by decide) rfl rfl) rfl <| s1 (y_load ti26 rfl rfl rfl) rfl <| ?_
        refine at_op rfl (n_call false rfl (.cons (.pure pu) (.cons (.pure pu) (.cons (.pure pu) (.cons (.pure pu) (.nil))))) (Con.cast (rclimbI_ok (recD m S) (by simp) a n P hP) (climbA_eq ..)) pu (.inl rfl) rfl ?_)
        refine s1 (y_p rfl) rfl <| s1 (y_p rfl) rfl <| s1 (y_p rfl) rfl <| ?_
        refine at_op rfl (n_alloc 11 rfl ti23 rfl rfl ?_)
        refine at_op rfl (n_storeA ti23 rfl rfl rfl (by first | rfl | omega | (simp; done) | (simp [*]; done) | (simp; omega) | (simp [*]; omega) | (simp [D32.len, -List.length_flatten, *]; done) | (simp [D32.len, -List.length_flatten, *]; omega)) (by first | rfl | omega | (simp; done) | (simp [*]; done) | (simp; omega) | (simp [*]; omega) | (simp [D32.len, -List.length_flatten, *]; done) | (simp [D32.len, -List.length_flatten, *]; omega)) ?_)
        refine s1 (y_p rfl) rfl <| ?_
        refine at_nil ?_
        refine x_tn ?_
        refine at_seq ?_
        refine at_seq ?_
        refine at_region ?_
        refine s1 (y_p rfl) rfl <| s1 (y_p rfl) rfl <| s1 (y_p rfl) rfl <| ?_
        refine g_or 3 rfl rfl rfl rfl (fun hb48 => .step (y_loadA0 ti23 rfl rfl (by first | rfl | omega | (simp; done) | (simp [*]; done) | (simp; omega) | (simp [*]; omega) | (simp [D32.len, -List.length_flatten, *]; done) | (simp [D32.len, -List.length_flatten, *]; omega))) rfl rfl <| .step (y_loadA0 ti23 rfl rfl (by simp [hr])) rfl rfl <| .step (y_aqn Tryd.underlying23 Tryd.underlying5 ti5 (by kernel_rfl) rfl rfl (by first | assumption | (simp; done) | (simp [*]; done)) (by first | assumption | (simp; done) | (simp [*]; done))) rfl rfl <| .done) rfl rfl ?_
        refine at_nil ?_
        refine x_tn ?_
        refine at_cond rfl (fun hc52 => ?_) (fun hc52 => ?_)
        · have h4 : ((climbE a n P.length == 0) && (climbD (recD m S) a n P == r)) = false := by revert hc52; simp [bne]; intro h hh; rcases h with h | h <;> simp_all
          refine at_seq ?_
          refine at_region ?_
          refine s1 ((y_p rfl).v (v' := .i .i64 60) rfl) rfl <| ?_
          refine at_nil ?_
          refine x_tn ?_
          refine at_ret ?_
          refine x_tr ?_
          refine at_result (rs := [.tmp 8]) rfl (r_tmp rfl r_nil) ?_
          exact congrArg (A.i .i64) (by rw [ver_k4 h4]; rfl)
        · have h4 : ((climbE a n P.length == 0) && (climbD (recD m S) a n P == r)) = true := by simp [bne] at hc52 ⊢; exact hc52
          refine at_skip ?_
          refine x_tn ?_
          refine at_seq ?_
          refine at_region ?_
          refine s1 ((y_p rfl).v (v' := .i .i64 0) rfl) rfl <| ?_
          refine at_nil ?_
          refine x_tn ?_
          refine at_ret ?_
          refine at_result (rs := [.tmp 8]) rfl (r_tmp rfl r_nil) ?_
          exact congrArg (A.i .i64) (by rw [ver_kt hsz hat h3 h4]; rfl)
end Go.Abs.D2

/-! K6P -/
namespace Go.Abs.D2
open Go Go.Eng Go.Abs
theorem tfK (b : Bool) : b = false ∨ b = true := by cases b <;> simp
/-- What a leaf has signed; zero: nothing. -/
def sgnK (L : List (List UInt8)) (i : Nat) : List UInt8 := L.getD i zD
theorem len_sgnK {L : List (List UInt8)} (h : D32 L) (i : Nat) : (sgnK L i).length = 32 := by
  unfold sgnK
  rw [List.getD]
  cases hq : L[i]? with
  | none => simp
  | some q => exact h q (List.mem_of_getElem? hq)
theorem sgnK_in {L : List (List UInt8)} {i : Nat} {q : List UInt8} (h : L[i]? = some q) : sgnK L i = q := by unfold sgnK; simp [h]
theorem sgnK_out {L : List (List UInt8)} {i : Nat} (h : ¬ i < L.length) : sgnK L i = zD := by unfold sgnK; rw [List.getD, List.getElem?_eq_none (by omega)]; rfl
/-- The digits that are known of a leaf. -/
def knwK (q : List UInt8) : List Nat := if q == zD then List.replicate 19 3 else digits q
def kdg (q : List UInt8) (i : Nat) : Nat := if q == zD then 3 else dg q i
theorem knw_yes {q : List UInt8} (h : (q == zD) = true) : knwK q = List.replicate 19 3 := by unfold knwK; rw [if_pos h]
theorem knw_no {q : List UInt8} (h : (q == zD) = false) : knwK q = digits q := by unfold knwK; rw [if_neg (by rw [h]; decide)]
theorem get_knw (q : List UInt8) (i : Nat) (h : i < 19) : (((knwK q).map nI).drop (i * 1))[0]? = some (nI (kdg q i)) := by
  unfold knwK kdg
  cases hq : q == zD with
  | true =>
    rw [if_pos rfl, if_pos rfl, List.getElem?_drop, show i * 1 + 0 = i by omega, List.getElem?_map, List.getElem?_replicate, if_pos h]; rfl
  | false =>
    rw [if_neg (by decide), if_neg (by decide)]
    exact get_dig3 q i h
theorem kdg_le (q : List UInt8) (i : Nat) : kdg q i ≤ 3 := by
  unfold kdg
  split
  · omega
  · have := dg_lt q i; omega
/-- An element that comes before what is known, and is the leaf's own. -/
def badK (x m q : List UInt8) (S : List (List UInt8)) (i : Nat) : Bool := decide (dg m i < kdg q i) && (S.getD i [] == iterD (dg m i) (firstD x i))
/-- How a signature came about. -/
@[irreducible] def forgK (x : List UInt8) (n : Int) (L : List (List UInt8)) (m : List UInt8) (a : Int) (S P : List (List UInt8)) : Int × Int :=
  let q := sgnK L a.toNat
  if verK (rootD x n) n m a S P then
    if !(q == zD) && q == m then (0, 0)
    else if !(q == zD) && digits m == digits q then (1, 0)
    else match (List.range 19).find? (badK (seedL x a) m q S) with
      | some i => (2, (i : Int))
      | none => (3, 0)
  else (0, 0)
@[irreducible] def forgA (x : List UInt8) (n : Int) (L : List (List UInt8)) (m : List UInt8) (a : Int) (S P : List (List UInt8)) : A := .tu [.i .i64 (forgK x n L m a S P).1, .i .i64 (forgK x n L m a S P).2]
theorem forgA_eq (x : List UInt8) (n : Int) (L : List (List UInt8)) (m : List UInt8) (a : Int) (S P : List (List UInt8)) : forgA x n L m a S P = .tu [.i .i64 (forgK x n L m a S P).1, .i .i64 (forgK x n L m a S P).2] := by unfold forgA; rfl
section
variable {x : List UInt8} {n a : Int} {L : List (List UInt8)} {m : List UInt8} {S P : List (List UInt8)}
theorem forg_no (h : verK (rootD x n) n m a S P = false) : forgK x n L m a S P = (0, 0) := by unfold forgK; simp [h]
theorem forg_own (h : (!(sgnK L a.toNat == zD) && sgnK L a.toNat == m) = true) : forgK x n L m a S P = (0, 0) := by unfold forgK; simp only [h, if_true]; split <;> rfl
theorem forg_same (h : verK (rootD x n) n m a S P = true) (h1 : (!(sgnK L a.toNat == zD) && sgnK L a.toNat == m) = false) (h2 : (!(sgnK L a.toNat == zD) && digits m == digits (sgnK L a.toNat)) = true) : forgK x n L m a S P = (1, 0) := by
  unfold forgK; simp only [h, h1, h2, if_true]; rfl
theorem forg_hit {i : Nat} (h : verK (rootD x n) n m a S P = true) (h1 : (!(sgnK L a.toNat == zD) && sgnK L a.toNat == m) = false) (h2 : (!(sgnK L a.toNat == zD) && digits m == digits (sgnK L a.toNat)) = false) (hi : i < 19) (hb : badK (seedL x a) m (sgnK L a.toNat) S i = true) (hall : ∀ t, t < i → badK (seedL x a) m (sgnK L a.toNat) S t = false) : forgK x n L m a S P = (2, (i : Int)) := by
  have : (List.range 19).find? (badK (seedL x a) m (sgnK L a.toNat) S) = some i := by
    rw [List.find?_eq_some_iff_append]
    refine ⟨hb, List.range i, (List.range 19).drop (i + 1), ?_, fun t ht => by rw [hall t (by simpa using ht)]; rfl⟩
    apply List.ext_getElem?
    intro j
    rw [List.getElem?_append]
    by_cases hj : j < 19
    · rw [List.getElem?_range hj]
      split
      · rename_i hji
        rw [List.getElem?_range (by simpa using hji)]
      · rename_i hji
        rw [List.length_range] at hji ⊢
        rcases Nat.lt_or_ge i j with hlt | hge
        · obtain ⟨k, rfl⟩ : ∃ k, j = i + 1 + k := ⟨j - (i + 1), by omega⟩
          rw [show i + 1 + k - i = k + 1 by omega, List.getElem?_cons_succ, List.getElem?_drop, List.getElem?_range (by omega)]
        · obtain rfl : j = i := by omega
          simp
    · rw [List.getElem?_eq_none (by simp; omega)]
      rw [if_neg (by simp; omega), List.length_range]
      rw [List.getElem?_eq_none (by simp; omega)]
  unfold forgK; simp only [h, h1, h2, if_true, this]; rfl
theorem forg_else (h : verK (rootD x n) n m a S P = true) (h1 : (!(sgnK L a.toNat == zD) && sgnK L a.toNat == m) = false) (h2 : (!(sgnK L a.toNat == zD) && digits m == digits (sgnK L a.toNat)) = false) (hall : ∀ t, t < 19 → badK (seedL x a) m (sgnK L a.toNat) S t = false) : forgK x n L m a S P = (3, 0) := by
  have : (List.range 19).find? (badK (seedL x a) m (sgnK L a.toNat) S) = none := by
    rw [List.find?_eq_none]
    intro t ht
    rw [hall t (by simpa using ht)]; decide
  unfold forgK; simp only [h, h1, h2, if_true, this]; rfl
theorem forg_ret {k c : Int} (h : forgK x n L m a S P = (k, c)) : A.tu [.i .i64 k, .i .i64 c] = forgA x n L m a S P := by rw [forgA_eq, h]
end
theorem bad_no {x m q : List UInt8} {S : List (List UInt8)} {i : Nat} (h : ¬ dg m i < kdg q i) : badK x m q S i = false := by unfold badK; rw [decide_eq_false h]; rfl
theorem bad_is {x m q s : List UInt8} {S : List (List UInt8)} {i : Nat} (h : dg m i < kdg q i) (hs : S[i]? = some s) : badK x m q S i = (s == iterD (dg m i) (firstD x i)) := by unfold badK; rw [decide_eq_true h, List.getD, hs]; rfl
theorem next_all {p : Nat → Bool} {i : Nat} (h : ∀ t, t < i → p t = false) (hp : p i = false) : ∀ t, t < i + 1 → p t = false := fun t ht => (Nat.lt_or_ge t i).elim (h t) fun hg => (Nat.le_antisymm (Nat.le_of_lt_succ ht) hg) ▸ hp
theorem recE_len {S : List (List UInt8)} (h : recE S = 0) : S.length = 19 := by
  unfold recE at h
  split at h
  · assumption
  · cases h
def fewK (n : Int) (s p : Nat) : Bool := (decide (n ≤ 10) || decide (n > 256)) && decide ((s : Int) ≤ 30) && decide ((p : Int) ≤ 12)
def szR (e : Nat) : Nat := min (2 ^ e) 19
theorem szR_next (e : Nat) (h : szR e < 19) : szR e + Nat.min (szR e) (19 - szR e) = szR (e + 1) := by
  unfold szR at *
  rw [Nat.pow_succ]
  show _ + min _ _ = _
  omega
theorem rep_next (e : Nat) (h : szR e < 19) : (List.replicate (szR e) (nI 3) ++ List.replicate (19 - szR e) (nI 0)).take (0 + szR e * 1) ++ (((List.replicate (szR e) (nI 3) ++ List.replicate (19 - szR e) (nI 0)).drop 0).take (szR e * 1)).take (Nat.min (szR e) (19 - szR e)) ++ (List.replicate (szR e) (nI 3) ++ List.replicate (19 - szR e) (nI 0)).drop (0 + szR e * 1 + Nat.min (szR e) (19 - szR e)) = List.replicate (szR (e + 1)) (nI 3) ++ List.replicate (19 - szR (e + 1)) (nI 0) := by
  have hn := szR_next e h
  have hm : Nat.min (szR e) (19 - szR e) ≤ szR e := Nat.min_le_left _ _
  generalize Nat.min (szR e) (19 - szR e) = c at *
  have h1 : szR e + c ≤ 19 := by rw [hn]; unfold szR; omega
  rw [← hn, Nat.mul_one, Nat.zero_add, List.drop_zero, List.take_left' List.length_replicate, List.take_replicate, Nat.min_eq_left hm, List.drop_append, List.drop_replicate, List.drop_replicate, List.length_replicate]
  rw [show szR e - (szR e + c) = 0 by omega, show 19 - szR e - (szR e + c - szR e) = 19 - (szR e + c) by omega, List.replicate_append_replicate, List.replicate_zero, List.nil_append]
theorem szR_le (e : Nat) : szR e ≤ 19 := Nat.min_le_right _ _
theorem rep_pos {e : Nat} (h0 : 0 < szR e) (h : szR e < 19) : 0 < Nat.min (szR e) (19 - szR e) := by
  show 0 < min _ _; omega
theorem rep_fit {e : Nat} (_h : szR e < 19) : 0 + szR e * 1 + Nat.min (szR e) (19 - szR e) ≤ (List.replicate (szR e) (nI 3) ++ List.replicate (19 - szR e) (nI 0)).length := by
  have : Nat.min (szR e) (19 - szR e) ≤ 19 - szR e := Nat.min_le_right _ _
  simp only [List.length_append, List.length_replicate]; omega
theorem rep_pre {e : Nat} (h0 : 0 < szR e) (h : szR e < 19) : 0 < szR (e + 1) ∧ szR (e + 1) ≤ 19 := by
  have := szR_next e h
  exact ⟨by omega, szR_le _⟩
theorem rep_dec {e : Nat} (h0 : 0 < szR e) (h : szR e < 19) : 19 - szR (e + 1) < 19 - szR e := by
  have h1 := szR_next e h
  have h2 := rep_pos h0 h
  omega
theorem all_nextK {p : Nat → Prop} {i : Nat} (h : ∀ t, t < i → p t) (hp : p i) : ∀ t, t < i + 1 → p t := fun t ht => (Nat.lt_or_ge t i).elim (h t) fun hg => (Nat.le_antisymm (Nat.le_of_lt_succ ht) hg) ▸ hp
theorem beq_listsK {α : Type} [BEq α] [LawfulBEq α] {L M : List α} (hl : L.length = M.length) (h : ∀ t, t < L.length → L[t]? = M[t]?) : (L == M) = true := by
  rw [beq_iff_eq]
  apply List.ext_getElem?
  intro t
  by_cases ht : t < L.length
  · exact h t ht
  · rw [List.getElem?_eq_none (by omega), List.getElem?_eq_none (by omega)]
theorem nbeq_listsK {α : Type} [BEq α] [LawfulBEq α] {L M : List α} {t : Nat} (h : L[t]? ≠ M[t]?) : (L == M) = false := by
  rw [beq_eq_false_iff_ne]; rintro rfl; exact h rfl
theorem rep_0 : ((List.replicate 19 (Value.int .i64 0)).map evC).take 0 ++ [nI 3] ++ ((List.replicate 19 (Value.int .i64 0)).map evC).drop (0 + 1) = List.replicate (szR 0) (nI 3) ++ List.replicate (19 - szR 0) (nI 0) := by
  kernel_rfl
end Go.Abs.D2
