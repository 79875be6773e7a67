/-
  Layer 2: walks of the digest functions. Conditions: each theorem says its own.
-/
import Derived.Test.YtpchamaioceahaaDoorD2T
import Derived.Test.YtpchamaioceahaaDoorD2H
import Derived.Test.YtpchamaioceahaaDoorD2G
import Derived.Test.YtpchamaioceahaaDoorD2A
namespace Go.Abs.D2
open Go Go.Eng Go.Abs Go.Proofs 

set_option linter.unusedSimpArgs false in
set_option maxHeartbeats 1000000 in
theorem rnode_ok (htag : ∀ (t b : List UInt8), t.length ≤ 1048576 → b.length ≤ 1048576 → Con Tryd.prog 15 [.s t, .fz b.length (b.map u8)] (Ret (.ag ((tagged t b).map u8)))) (a b : List UInt8) (ha : a.length = 32) (hb : b.length = 32) : Con Tryd.prog 33 [.ag (a.map u8), .ag (b.map u8)] (Ret (.ag ((tagged [110, 111, 100, 101] (a ++ b)).map u8))) := by
  refine enter Tryd.func33 rfl Tryd.ntmps33 (by kernel_rfl) (Nat.le_of_ble_eq_true rfl) fun w0 X0 hI => ?_
  refine at_seq ?_
  refine at_region ?_
  refine at_op rfl (n_boxA 2 rfl rfl rfl ?_)
  refine at_op rfl (n_boxA 3 rfl rfl rfl ?_)
  refine at_op rfl (n_alloc 4 rfl ti26 rfl rfl ?_)
  refine at_nil ?_
  refine x_tn ?_
  refine at_seq ?_
  refine at_fs ⟨_, [], []⟩ 6 4 hmix (le_refl rfl) ?_
  refine fs_bs1 5 0 [] gy0 Tryd.underlying22 ti5 rfl rfl rfl rfl rfl rfl ?_
  refine fs_q 1 [] [(2, none)] (y_cuta0 Tryd.underlying26 ti5 rfl rfl (by first | rfl | omega | (simp; done) | (simp [*]; done) | (simp; omega) | (simp [*]; omega) | (simp [D32.len, -List.length_flatten, *]; done) | (simp [D32.len, -List.length_flatten, *]; omega)) (by simp [maxLen])) rfl rfl ?_
  refine fs_app 7 2 [0, 1] [(2, none), (5, some 0)] gy0 Tryd.underlying22 ti5 rfl (.sl rfl (by first | rfl | omega | (simp; done) | (simp [*]; done) | (simp; omega) | (simp [*]; omega) | (simp [D32.len, -List.length_flatten, *]; done) | (simp [D32.len, -List.length_flatten, *]; omega))) rfl (SM_full rfl (by first | rfl | omega | (simp; done) | (simp [*]; done) | (simp; omega) | (simp [*]; omega) | (simp [D32.len, -List.length_flatten, *]; done) | (simp [D32.len, -List.length_flatten, *]; omega))) (by first | rfl | omega | (simp; done) | (simp [*]; done) | (simp; omega) | (simp [*]; omega) | (simp [D32.len, -List.length_flatten, *]; done) | (simp [D32.len, -List.length_flatten, *]; omega)) (by first | omega | (simp only [maxLen]; omega) | (simp [maxLen]; done) | (simp [maxLen]; omega) | (simp [maxLen, *]; omega)) (by first | omega | (simp only [maxLen]; omega) | (simp [maxLen]; done) | (simp [maxLen]; omega) | (simp [maxLen, *]; omega)) rfl rfl rfl rfl ?_
  refine fs_q 3 [] [(3, none)] (y_cuta0 Tryd.underlying26 ti5 rfl rfl (by first | rfl | omega | (simp; done) | (simp [*]; done) | (simp; omega) | (simp [*]; omega) | (simp [D32.len, -List.length_flatten, *]; done) | (simp [D32.len, -List.length_flatten, *]; omega)) (by simp [maxLen])) rfl rfl ?_
  refine fs_app 9 4 [2, 3] [(3, none), (7, some 2)] gy0 Tryd.underlying22 ti5 rfl (.sl rfl (by first | rfl | omega | (simp; done) | (simp [*]; done) | (simp; omega) | (simp [*]; omega) | (simp [D32.len, -List.length_flatten, *]; done) | (simp [D32.len, -List.length_flatten, *]; omega))) rfl (SM_full rfl (by first | rfl | omega | (simp; done) | (simp [*]; done) | (simp; omega) | (simp [*]; omega) | (simp [D32.len, -List.length_flatten, *]; done) | (simp [D32.len, -List.length_flatten, *]; omega))) (by first | rfl | omega | (simp; done) | (simp [*]; done) | (simp; omega) | (simp [*]; omega) | (simp [D32.len, -List.length_flatten, *]; done) | (simp [D32.len, -List.length_flatten, *]; omega)) (by first | omega | (simp only [maxLen]; omega) | (simp [maxLen]; done) | (simp [maxLen]; omega) | (simp [maxLen, *]; omega)) (by first | omega | (simp only [maxLen]; omega) | (simp [maxLen]; done) | (simp [maxLen]; omega) | (simp [maxLen, *]; omega)) rfl rfl rfl rfl ?_
  refine fs_call true 5 [4] [(9, some 4)] gy0 rfl (.cons (.pure pu) (.cons (.sl rfl rfl (by first | rfl | omega | (simp; done) | (simp [*]; done) | (simp; omega) | (simp [*]; omega) | (simp [D32.len, -List.length_flatten, *]; done) | (simp [D32.len, -List.length_flatten, *]; omega)) (view_eq (by first | rfl | omega | (simp; done) | (simp [*]; done) | (simp; omega) | (simp [*]; omega) | (simp [D32.len, -List.length_flatten, *]; done) | (simp [D32.len, -List.length_flatten, *]; omega)) (by first | rfl | (simp; done) | (simp [*]; done))) (VwL.pure pul) pul) (.nil))) (htag _ (a ++ b) (by simp) (by simp; omega)) pu (.inr fu) rfl rfl ?_
  refine fs_end (by kernel_rfl) ?_
  refine at_op rfl (n_storeA ti26 rfl rfl rfl (by first | rfl | omega | (simp; done) | (simp [*]; done) | (simp; omega) | (simp [*]; omega) | (simp [D32.len, -List.length_flatten, *]; done) | (simp [D32.len, -List.length_flatten, *]; omega)) (by first | rfl | omega | (simp; done) | (simp [*]; done) | (simp; omega) | (simp [*]; omega) | (simp [D32.len, -List.length_flatten, *]; done) | (simp [D32.len, -List.length_flatten, *]; omega)) ?_)
  refine at_nil ?_
  refine x_tn ?_
  refine at_ret ?_
  refine at_result (rs := [.cell 4 26]) rfl (r_cellA ti26 rfl rfl (List.take_of_length_le (by simp)) (by simp) r_nil) rfl

set_option linter.unusedSimpArgs false in
set_option maxHeartbeats 1000000 in
theorem rchain_ok (htag : ∀ (t b : List UInt8), t.length ≤ 1048576 → b.length ≤ 1048576 → Con Tryd.prog 15 [.s t, .fz b.length (b.map u8)] (Ret (.ag ((tagged t b).map u8)))) (a b : List UInt8) (ha : a.length = 32) (hb : b.length = 32) : Con Tryd.prog 26 [.ag (a.map u8), .ag (b.map u8)] (Ret (.ag ((tagged [99, 104, 97, 105, 110] (a ++ b)).map u8))) := by
  refine enter Tryd.func26 rfl Tryd.ntmps26 (by kernel_rfl) (Nat.le_of_ble_eq_true rfl) fun w0 X0 hI => ?_
  refine at_seq ?_
  refine at_region ?_
  refine at_op rfl (n_boxA 2 rfl rfl rfl ?_)
  refine at_op rfl (n_boxA 3 rfl rfl rfl ?_)
  refine at_op rfl (n_alloc 4 rfl ti26 rfl rfl ?_)
  refine at_nil ?_
  refine x_tn ?_
  refine at_seq ?_
  refine at_fs ⟨_, [], []⟩ 6 4 hmix (le_refl rfl) ?_
  refine fs_bs1 5 0 [] gy0 Tryd.underlying22 ti5 rfl rfl rfl rfl rfl rfl ?_
  refine fs_q 1 [] [(2, none)] (y_cuta0 Tryd.underlying26 ti5 rfl rfl (by first | rfl | omega | (simp; done) | (simp [*]; done) | (simp; omega) | (simp [*]; omega) | (simp [D32.len, -List.length_flatten, *]; done) | (simp [D32.len, -List.length_flatten, *]; omega)) (by simp [maxLen])) rfl rfl ?_
  refine fs_app 7 2 [0, 1] [(2, none), (5, some 0)] gy0 Tryd.underlying22 ti5 rfl (.sl rfl (by first | rfl | omega | (simp; done) | (simp [*]; done) | (simp; omega) | (simp [*]; omega) | (simp [D32.len, -List.length_flatten, *]; done) | (simp [D32.len, -List.length_flatten, *]; omega))) rfl (SM_full rfl (by first | rfl | omega | (simp; done) | (simp [*]; done) | (simp; omega) | (simp [*]; omega) | (simp [D32.len, -List.length_flatten, *]; done) | (simp [D32.len, -List.length_flatten, *]; omega))) (by first | rfl | omega | (simp; done) | (simp [*]; done) | (simp; omega) | (simp [*]; omega) | (simp [D32.len, -List.length_flatten, *]; done) | (simp [D32.len, -List.length_flatten, *]; omega)) (by first | omega | (simp only [maxLen]; omega) | (simp [maxLen]; done) | (simp [maxLen]; omega) | (simp [maxLen, *]; omega)) (by first | omega | (simp only [maxLen]; omega) | (simp [maxLen]; done) | (simp [maxLen]; omega) | (simp [maxLen, *]; omega)) rfl rfl rfl rfl ?_
  refine fs_q 3 [] [(3, none)] (y_cuta0 Tryd.underlying26 ti5 rfl rfl (by first | rfl | omega | (simp; done) | (simp [*]; done) | (simp; omega) | (simp [*]; omega) | (simp [D32.len, -List.length_flatten, *]; done) | (simp [D32.len, -List.length_flatten, *]; omega)) (by simp [maxLen])) rfl rfl ?_
  refine fs_app 9 4 [2, 3] [(3, none), (7, some 2)] gy0 Tryd.underlying22 ti5 rfl (.sl rfl (by first | rfl | omega | (simp; done) | (simp [*]; done) | (simp; omega) | (simp [*]; omega) | (simp [D32.len, -List.length_flatten, *]; done) | (simp [D32.len, -List.length_flatten, *]; omega))) rfl (SM_full rfl (by first | rfl | omega | (simp; done) | (simp [*]; done) | (simp; omega) | (simp [*]; omega) | (simp [D32.len, -List.length_flatten, *]; done) | (simp [D32.len, -List.length_flatten, *]; omega))) (by first | rfl | omega | (simp; done) | (simp [*]; done) | (simp; omega) | (simp [*]; omega) | (simp [D32.len, -List.length_flatten, *]; done) | (simp [D32.len, -List.length_flatten, *]; omega)) (by first | omega | (simp only [maxLen]; omega) | (simp [maxLen]; done) | (simp [maxLen]; omega) | (simp [maxLen, *]; omega)) (by first | omega | (simp only [maxLen]; omega) | (simp [maxLen]; done) | (simp [maxLen]; omega) | (simp [maxLen, *]; omega)) rfl rfl rfl rfl ?_
  refine fs_call true 5 [4] [(9, some 4)] gy0 rfl (.cons (.pure pu) (.cons (.sl rfl rfl (by first | rfl | omega | (simp; done) | (simp [*]; done) | (simp; omega) | (simp [*]; omega) | (simp [D32.len, -List.length_flatten, *]; done) | (simp [D32.len, -List.length_flatten, *]; omega)) (view_eq (by first | rfl | omega | (simp; done) | (simp [*]; done) | (simp; omega) | (simp [*]; omega) | (simp [D32.len, -List.length_flatten, *]; done) | (simp [D32.len, -List.length_flatten, *]; omega)) (by first | rfl | (simp; done) | (simp [*]; done))) (VwL.pure pul) pul) (.nil))) (htag _ (a ++ b) (by simp) (by simp; omega)) pu (.inr fu) rfl rfl ?_
  refine fs_end (by kernel_rfl) ?_
  refine at_op rfl (n_storeA ti26 rfl rfl rfl (by first | rfl | omega | (simp; done) | (simp [*]; done) | (simp; omega) | (simp [*]; omega) | (simp [D32.len, -List.length_flatten, *]; done) | (simp [D32.len, -List.length_flatten, *]; omega)) (by first | rfl | omega | (simp; done) | (simp [*]; done) | (simp; omega) | (simp [*]; omega) | (simp [D32.len, -List.length_flatten, *]; done) | (simp [D32.len, -List.length_flatten, *]; omega)) ?_)
  refine at_nil ?_
  refine x_tn ?_
  refine at_ret ?_
  refine at_result (rs := [.cell 4 26]) rfl (r_cellA ti26 rfl rfl (List.take_of_length_le (by simp)) (by simp) r_nil) rfl

set_option linter.unusedSimpArgs false in
set_option maxHeartbeats 1000000 in
theorem rhalf_ok (n : Nat) (h : 2 ≤ n) (hn : n ≤ 1099511627776) : Con Tryd.prog 32 [.i .i64 (n : Nat)] (Ret (.i .i64 (halfN n : Nat))) := by
  refine enter Tryd.func32 rfl Tryd.ntmps32 (by kernel_rfl) (Nat.le_of_ble_eq_true rfl) fun w0 X0 hI => ?_
  refine at_seq ?_
  refine at_region ?_
  refine s1 ((y_p rfl).v (v' := .i .i64 0) rfl) rfl <| ?_
  refine at_nil ?_
  refine x_tn ?_
  refine at_seq ?_
  refine at_region ?_
  refine s1 ((y_p rfl).v (v' := .i .i64 1) rfl) rfl <| ?_
  refine at_nil ?_
  refine x_tn ?_
  refine at_seq ?_
  refine at_block ?_
  refine at_loop (ι := Nat) (fun e => [(0, .i .i64 (n : Nat)), (3, .i .i64 (2 ^ e : Nat))]) (fun e => ⟨[]⟩) (fun e => 2 ^ e < n) (fun e => n - 2 ^ e) ?_ ?_
  · exact at_ex (0) (by omega) [] hI rfl rfl ⟨⟨_, rfl, .pure pu⟩, ⟨_, rfl, .of rfl (.pure pu)⟩, trivial⟩ trivial
  rintro e he
  have hpe := Nat.two_pow_pos e
  refine at_seq ?_
  refine at_seq ?_
  refine at_region ?_
  refine s1 (y_p rfl) rfl <| s1 (mulN 2 (2 ^ e) rfl rfl rfl rfl (by omega)) rfl <| s1 (y_p rfl) rfl <| s1 (y_p rfl) rfl <| ?_
  refine at_nil ?_
  refine x_tn ?_
  refine at_cond rfl (fun hc7 => ?_) (fun hc7 => ?_)
  · have h7 : 2 * 2 ^ e < n := by have := of_decide_eq_true hc7; omega
    refine at_skip ?_
    refine x_tn ?_
    refine at_block ?_
    refine at_region ?_
    refine s1 (y_p rfl) rfl <| s1 (mulN 2 (2 ^ e) rfl rfl rfl rfl (by omega)) rfl <| s1 (y_p rfl) rfl <| ?_
    refine at_nil ?_
    refine x_bn ?_
    exact at_end (e + 1) (by rw [Nat.pow_succ]; omega) (by rw [Nat.pow_succ]; omega) [] hI rfl rfl ⟨⟨_, rfl, .pure pu⟩, ⟨_, rfl, .of (congrArg (fun k : Nat => A.i .i64 (k : Int)) (by rw [Nat.pow_succ, Nat.mul_comm])) (.pure pu)⟩, trivial⟩ trivial
  · have h7 : ¬ 2 * 2 ^ e < n := by have := of_decide_eq_false hc7; omega
    refine at_exit ?_
    refine x_te ?_
    refine x_te ?_
    refine x_be ?_
    refine x_tn ?_
    refine at_seq ?_
    refine at_region ?_
    refine s1 (y_p rfl) rfl <| s1 (y_p rfl) rfl <| ?_
    refine at_nil ?_
    refine x_tn ?_
    refine at_ret ?_
    refine at_result (rs := [.tmp 2]) rfl (r_tmp rfl r_nil) ?_
    exact congrArg (fun k : Nat => A.i .i64 (k : Int)) (halfN_of e rfl he (by omega))

set_option linter.unusedSimpArgs false in
set_option maxHeartbeats 1000000 in
theorem tree_step (L : List (List UInt8)) (hD : D32 L) (hl : L.length ≤ 1048576) (ih : ∀ M : List (List UInt8), M.length < L.length → D32 M → Con Tryd.prog 17 [dgs M] (Ret (.ag ((tree M).map u8)))) : Con Tryd.prog 17 [dgs L] (Ret (.ag ((tree L).map u8))) := by
  refine enter Tryd.func17 rfl Tryd.ntmps17 (by kernel_rfl) (Nat.le_of_ble_eq_true rfl) fun w0 X0 hI => ?_
  refine at_seq ?_
  refine at_region ?_
  refine at_op rfl (n_alloc 2 rfl ti26 rfl rfl ?_)
  refine at_nil ?_
  refine x_tn ?_
  refine at_seq ?_
  refine at_seq ?_
  refine at_region ?_
  refine s1 (y_p rfl) rfl <| s1 (y_len Tryd.underlying30 rfl rfl rfl) rfl <| ?_
  refine at_nil ?_
  refine x_tn ?_
  refine at_block ?_
  refine at_seq ?_
  refine at_region ?_
  refine s1 (y_p rfl) rfl <| s1 (y_p rfl) rfl <| ?_
  refine at_nil ?_
  refine x_tn ?_
  refine at_cond rfl (fun hc6 => ?_) (fun hc6 => ?_)
  · have h6 : L.length = 0 := by have := of_decide_eq_true hc6; omega
    obtain rfl := List.eq_nil_of_length_eq_zero h6
    refine at_seq ?_
    refine at_region ?_
    refine at_op rfl (n_call false rfl (.cons (.pure pu) (.cons .nl (.nil))) (tagged_ok _ [] (by simp) (by simp)) pu (.inl rfl) rfl ?_)
    refine at_op rfl (n_storeA ti26 rfl rfl rfl (by first | rfl | omega | (simp; done) | (simp [*]; done) | (simp; omega) | (simp [*]; omega) | (simp [D32.len, -List.length_flatten, *]; done) | (simp [D32.len, -List.length_flatten, *]; omega)) (by first | rfl | omega | (simp; done) | (simp [*]; done) | (simp; omega) | (simp [*]; omega) | (simp [D32.len, -List.length_flatten, *]; done) | (simp [D32.len, -List.length_flatten, *]; omega)) ?_)
    refine at_nil ?_
    refine x_tn ?_
    refine at_ret ?_
    refine x_br ?_
    refine x_tr ?_
    refine at_result (rs := [.cell 2 26]) rfl (r_cellA ti26 rfl rfl (List.take_of_length_le (by simp [len_tree])) (by simp [len_tree]) r_nil) ?_
    rw [tree_nil]
    rfl
  · have h6 : ¬ L.length = 0 := by have := of_decide_eq_false hc6; omega
    refine at_seq ?_
    refine at_region ?_
    refine s1 (y_p rfl) rfl <| s1 (y_p rfl) rfl <| ?_
    refine at_nil ?_
    refine x_tn ?_
    refine at_cond rfl (fun hc9 => ?_) (fun hc9 => ?_)
    · have h9 : L.length = 1 := by have := of_decide_eq_true hc9; omega
      obtain ⟨x, rfl⟩ := List.length_eq_one_iff.1 h9
      have hx := hD x (.head _)
      refine at_seq ?_
      refine at_region ?_
      refine s1 (y_p rfl) rfl <| s1 (y_ixf 0 Tryd.underlying30 ti26 rfl rfl rfl (by simp) rfl) rfl <| s1 ((y_cutfa 32 Tryd.underlying26 ti5 rfl (by simp [maxLen]) bn bn (Nat.zero_le _) (Nat.le_refl _) (by simp) rfl rfl).v (cut_one hx)) rfl <| ?_
      refine at_op rfl (n_call false rfl (.cons (.pure pu) (.cons (.pure pu) (.nil))) (tagged_ok _ x (by omega) (by simp)) pu (.inl rfl) rfl ?_)
      refine at_op rfl (n_storeA ti26 rfl rfl rfl (by first | rfl | omega | (simp; done) | (simp [*]; done) | (simp; omega) | (simp [*]; omega) | (simp [D32.len, -List.length_flatten, *]; done) | (simp [D32.len, -List.length_flatten, *]; omega)) (by first | rfl | omega | (simp; done) | (simp [*]; done) | (simp; omega) | (simp [*]; omega) | (simp [D32.len, -List.length_flatten, *]; done) | (simp [D32.len, -List.length_flatten, *]; omega)) ?_)
      refine at_nil ?_
      refine x_tn ?_
      refine at_ret ?_
      refine x_br ?_
      refine x_tr ?_
      refine at_result (rs := [.cell 2 26]) rfl (r_cellA ti26 rfl rfl (List.take_of_length_le (by simp [len_tree])) (by simp [len_tree]) r_nil) ?_
      rw [tree_one]
      rfl
    · have h9 : ¬ L.length = 1 := by have := of_decide_eq_false hc9; omega
      refine at_skip ?_
      refine x_bn ?_
      refine x_tn ?_
      refine at_seq ?_
      refine at_region ?_
      refine s1 (y_p rfl) rfl <| s1 (y_len Tryd.underlying30 rfl rfl rfl) rfl <| ?_
      refine at_op rfl (n_call false rfl (.cons (.pure pu) (.nil)) (half_ok L.length (by omega) (by omega)) pu (.inl rfl) rfl ?_)
      refine s1 (y_p rfl) rfl <| ?_
      refine at_nil ?_
      refine x_tn ?_
      refine at_seq ?_
      refine at_fs ⟨_, [], []⟩ 9 4 hmix (le_refl rfl) ?_
      have hh := halfN_lt (n := L.length) (by omega)
      refine fs_q 0 [] [] (y_p rfl) rfl rfl ?_
      refine fs_q 1 [] [] (y_p rfl) rfl rfl ?_
      refine fs_q 2 [0, 1] [] ((y_cutf (halfN L.length) Tryd.underlying30 ti26 rfl (by rw [List.length_map, hD.len]) bn (bs rfl rfl) (by omega) (by omega) rfl rfl).v (v' := dgs (L.take (halfN L.length))) (cut_take hD (by omega))) rfl rfl ?_
      refine fs_call false 3 [2] [] gy0 rfl (.cons (.pure pu) (.nil)) (ih (L.take (halfN L.length)) (by rw [List.length_take]; omega) (hD.take _)) pu (.inl rfl) rfl rfl ?_
      refine fs_q 4 [] [] (y_p rfl) rfl rfl ?_
      refine fs_q 5 [] [] (y_p rfl) rfl rfl ?_
      refine fs_q 6 [4, 5] [] ((y_cutf (L.length - halfN L.length) Tryd.underlying30 ti26 rfl (by rw [List.length_map, hD.len]) (bs rfl rfl) bn (by omega) (by omega) rfl rfl).v (v' := dgs (L.drop (halfN L.length))) (cut_drop hD rfl)) rfl rfl ?_
      refine fs_call false 7 [6] [] gy0 rfl (.cons (.pure pu) (.nil)) (ih (L.drop (halfN L.length)) (by rw [List.length_drop]; omega) (hD.drop _)) pu (.inl rfl) rfl rfl ?_
      refine fs_call false 8 [3, 7] [] gy0 rfl (.cons (.pure pu) (.cons (.pure pu) (.nil))) (node_ok (fun t b h1 h2 => tagged_ok t b (by omega) (by omega)) _ _ (len_tree _) (len_tree _)) pu (.inl rfl) rfl rfl ?_
      refine fs_end (by kernel_rfl) ?_
      refine at_op rfl (n_storeA ti26 rfl rfl rfl (by first | rfl | omega | (simp; done) | (simp [*]; done) | (simp; omega) | (simp [*]; omega) | (simp [D32.len, -List.length_flatten, *]; done) | (simp [D32.len, -List.length_flatten, *]; omega)) (by first | rfl | omega | (simp; done) | (simp [*]; done) | (simp; omega) | (simp [*]; omega) | (simp [D32.len, -List.length_flatten, *]; done) | (simp [D32.len, -List.length_flatten, *]; omega)) ?_)
      refine at_nil ?_
      refine x_tn ?_
      refine at_ret ?_
      refine at_result (rs := [.cell 2 26]) rfl (r_cellA ti26 rfl rfl (List.take_of_length_le (by simp [len_tree])) (by simp [len_tree]) r_nil) ?_
      rw [tree_two (L := L) (by omega)]
      rfl

theorem tree_ok : ∀ (n : Nat) (L : List (List UInt8)), L.length ≤ n → D32 L → L.length ≤ 1048576 → Con Tryd.prog 17 [dgs L] (Ret (.ag ((tree L).map u8)))
  | 0, L, h, hD, hl => tree_step L hD hl (fun M hM => absurd hM (by omega))
  | n + 1, L, h, hD, hl => tree_step L hD hl (fun M hM hM2 => tree_ok n M (by omega) hM2 (by omega))

set_option linter.unusedSimpArgs false in
set_option maxHeartbeats 1000000 in
theorem rtree_step (L : List (List UInt8)) (hD : D32 L) (hl : L.length ≤ 1048576) (ih : ∀ M : List (List UInt8), M.length < L.length → D32 M → Con Tryd.prog 18 [dgs M] (Ret (.ag ((tree M).map u8)))) : Con Tryd.prog 18 [dgs L] (Ret (.ag ((tree L).map u8))) := by
  refine enter Tryd.func18 rfl Tryd.ntmps18 (by kernel_rfl) (Nat.le_of_ble_eq_true rfl) fun w0 X0 hI => ?_
  refine at_seq ?_
  refine at_region ?_
  refine at_op rfl (n_alloc 2 rfl ti26 rfl rfl ?_)
  refine at_nil ?_
  refine x_tn ?_
  refine at_seq ?_
  refine at_seq ?_
  refine at_region ?_
  refine s1 (y_p rfl) rfl <| s1 (y_len Tryd.underlying30 rfl rfl rfl) rfl <| s1 (y_p rfl) rfl <| ?_
  refine at_nil ?_
  refine x_tn ?_
  refine at_cond rfl (fun hc6 => ?_) (fun hc6 => ?_)
  · have h6 : L.length = 0 := by have := of_decide_eq_true hc6; omega
    obtain rfl := List.eq_nil_of_length_eq_zero h6
    refine at_seq ?_
    refine at_region ?_
    refine at_op rfl (n_call false rfl (.cons (.pure pu) (.cons .nl (.nil))) (rtagged_ok _ [] (by simp) (by simp)) pu (.inl rfl) rfl ?_)
    refine at_op rfl (n_storeA ti26 rfl rfl rfl (by first | rfl | omega | (simp; done) | (simp [*]; done) | (simp; omega) | (simp [*]; omega) | (simp [D32.len, -List.length_flatten, *]; done) | (simp [D32.len, -List.length_flatten, *]; omega)) (by first | rfl | omega | (simp; done) | (simp [*]; done) | (simp; omega) | (simp [*]; omega) | (simp [D32.len, -List.length_flatten, *]; done) | (simp [D32.len, -List.length_flatten, *]; omega)) ?_)
    refine at_nil ?_
    refine x_tn ?_
    refine at_ret ?_
    refine x_tr ?_
    refine at_result (rs := [.cell 2 26]) rfl (r_cellA ti26 rfl rfl (List.take_of_length_le (by simp [len_tree])) (by simp [len_tree]) r_nil) ?_
    rw [tree_nil]
    rfl
  · have h6 : ¬ L.length = 0 := by have := of_decide_eq_false hc6; omega
    refine at_skip ?_
    refine x_tn ?_
    refine at_seq ?_
    refine at_seq ?_
    refine at_region ?_
    refine s1 (y_p rfl) rfl <| s1 (y_len Tryd.underlying30 rfl rfl rfl) rfl <| s1 (y_p rfl) rfl <| ?_
    refine at_nil ?_
    refine x_tn ?_
    refine at_cond rfl (fun hc10 => ?_) (fun hc10 => ?_)
    · have h9 : L.length = 1 := by have := of_decide_eq_true hc10; omega
      obtain ⟨x, rfl⟩ := List.length_eq_one_iff.1 h9
      have hx := hD x (.head _)
      refine at_seq ?_
      refine at_region ?_
      refine s1 (y_p rfl) rfl <| s1 (y_ixf 0 Tryd.underlying30 ti26 rfl rfl rfl (by simp) rfl) rfl <| s1 ((y_cutfa 32 Tryd.underlying26 ti5 rfl (by simp [maxLen]) bn bn (Nat.zero_le _) (Nat.le_refl _) (by simp) rfl rfl).v (cut_one hx)) rfl <| ?_
      refine at_op rfl (n_call false rfl (.cons (.pure pu) (.cons (.pure pu) (.nil))) (rtagged_ok _ x (by omega) (by simp)) pu (.inl rfl) rfl ?_)
      refine at_op rfl (n_storeA ti26 rfl rfl rfl (by first | rfl | omega | (simp; done) | (simp [*]; done) | (simp; omega) | (simp [*]; omega) | (simp [D32.len, -List.length_flatten, *]; done) | (simp [D32.len, -List.length_flatten, *]; omega)) (by first | rfl | omega | (simp; done) | (simp [*]; done) | (simp; omega) | (simp [*]; omega) | (simp [D32.len, -List.length_flatten, *]; done) | (simp [D32.len, -List.length_flatten, *]; omega)) ?_)
      refine at_nil ?_
      refine x_tn ?_
      refine at_ret ?_
      refine x_tr ?_
      refine at_result (rs := [.cell 2 26]) rfl (r_cellA ti26 rfl rfl (List.take_of_length_le (by simp [len_tree])) (by simp [len_tree]) r_nil) ?_
      rw [tree_one]
      rfl
    · have h9 : ¬ L.length = 1 := by have := of_decide_eq_false hc10; omega
      refine at_skip ?_
      refine x_tn ?_
      refine at_seq ?_
      refine at_region ?_
      refine s1 (y_p rfl) rfl <| s1 (y_len Tryd.underlying30 rfl rfl rfl) rfl <| ?_
      refine at_op rfl (n_call false rfl (.cons (.pure pu) (.nil)) (rhalf_ok L.length (by omega) (by omega)) pu (.inl rfl) rfl ?_)
      refine s1 (y_p rfl) rfl <| ?_
      refine at_nil ?_
      refine x_tn ?_
      refine at_seq ?_
      refine at_fs ⟨_, [], []⟩ 9 4 hmix (le_refl rfl) ?_
      have hh := halfN_lt (n := L.length) (by omega)
      refine fs_q 0 [] [] (y_p rfl) rfl rfl ?_
      refine fs_q 1 [] [] (y_p rfl) rfl rfl ?_
      refine fs_q 2 [0, 1] [] ((y_cutf (halfN L.length) Tryd.underlying30 ti26 rfl (by rw [List.length_map, hD.len]) bn (bs rfl rfl) (by omega) (by omega) rfl rfl).v (v' := dgs (L.take (halfN L.length))) (cut_take hD (by omega))) rfl rfl ?_
      refine fs_call false 3 [2] [] gy0 rfl (.cons (.pure pu) (.nil)) (ih (L.take (halfN L.length)) (by rw [List.length_take]; omega) (hD.take _)) pu (.inl rfl) rfl rfl ?_
      refine fs_q 4 [] [] (y_p rfl) rfl rfl ?_
      refine fs_q 5 [] [] (y_p rfl) rfl rfl ?_
      refine fs_q 6 [4, 5] [] ((y_cutf (L.length - halfN L.length) Tryd.underlying30 ti26 rfl (by rw [List.length_map, hD.len]) (bs rfl rfl) bn (by omega) (by omega) rfl rfl).v (v' := dgs (L.drop (halfN L.length))) (cut_drop hD rfl)) rfl rfl ?_
      refine fs_call false 7 [6] [] gy0 rfl (.cons (.pure pu) (.nil)) (ih (L.drop (halfN L.length)) (by rw [List.length_drop]; omega) (hD.drop _)) pu (.inl rfl) rfl rfl ?_
      refine fs_call false 8 [3, 7] [] gy0 rfl (.cons (.pure pu) (.cons (.pure pu) (.nil))) (rnode_ok (fun t b h1 h2 => rtagged_ok t b (by omega) (by omega)) _ _ (len_tree _) (len_tree _)) pu (.inl rfl) rfl rfl ?_
      refine fs_end (by kernel_rfl) ?_
      refine at_op rfl (n_storeA ti26 rfl rfl rfl (by first | rfl | omega | (simp; done) | (simp [*]; done) | (simp; omega) | (simp [*]; omega) | (simp [D32.len, -List.length_flatten, *]; done) | (simp [D32.len, -List.length_flatten, *]; omega)) (by first | rfl | omega | (simp; done) | (simp [*]; done) | (simp; omega) | (simp [*]; omega) | (simp [D32.len, -List.length_flatten, *]; done) | (simp [D32.len, -List.length_flatten, *]; omega)) ?_)
      refine at_nil ?_
      refine x_tn ?_
      refine at_ret ?_
      refine at_result (rs := [.cell 2 26]) rfl (r_cellA ti26 rfl rfl (List.take_of_length_le (by simp [len_tree])) (by simp [len_tree]) r_nil) ?_
      rw [tree_two (L := L) (by omega)]
      rfl

theorem rtree_ok : ∀ (n : Nat) (L : List (List UInt8)), L.length ≤ n → D32 L → L.length ≤ 1048576 → Con Tryd.prog 18 [dgs L] (Ret (.ag ((tree L).map u8)))
  | 0, L, h, hD, hl => rtree_step L hD hl (fun M hM => absurd hM (by omega))
  | n + 1, L, h, hD, hl => rtree_step L hD hl (fun M hM hM2 => rtree_ok n M (by omega) hM2 (by omega))

end Go.Abs.D2
