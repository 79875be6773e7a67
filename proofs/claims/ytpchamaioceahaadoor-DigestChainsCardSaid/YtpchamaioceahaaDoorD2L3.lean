/-
  Layer 2: walks of the digest functions. Conditions: each theorem says its own.
-/
import Derived.Test.YtpchamaioceahaaDoorD2L2
namespace Go.Abs.D2
open Go Go.Eng Go.Abs Go.Proofs 

set_option linter.unusedSimpArgs false in
set_option maxHeartbeats 1000000 in
theorem law_halves (s : List UInt8) : Con Tryd.prog 7 [.fz s.length (s.map u8)] (Ret (.b true)) := by
  refine enter Tryd.func7 rfl Tryd.ntmps7 (by kernel_rfl) (Nat.le_of_ble_eq_true rfl) fun w0 X0 hI => ?_
  refine at_seq ?_
  refine at_region ?_
  refine s1 (y_p rfl) rfl <| ?_
  refine at_nil ?_
  refine x_tn ?_
  refine at_seq ?_
  refine at_seq ?_
  refine at_region ?_
  refine at_op rfl (n_call false rfl (.nil) (sane_ok) pu (.inl rfl) rfl ?_)
  refine s1 (y_p rfl) rfl <| ?_
  refine at_nil ?_
  refine x_tn ?_
  refine at_else rfl ?_
  refine at_skip ?_
  refine x_tn ?_
  refine at_seq ?_
  refine at_region ?_
  refine s1 (y_p rfl) rfl <| ?_
  refine at_op rfl (n_call false rfl (.cons (.pure pu) (.nil)) (digsOf_ok s) pu (.inl rfl) rfl ?_)
  refine s1 (y_p rfl) rfl <| ?_
  refine at_nil ?_
  refine x_tn ?_
  refine at_seq ?_
  refine at_seq ?_
  refine at_region ?_
  refine s1 (y_p rfl) rfl <| s1 (y_len Tryd.underlying30 rfl rfl rfl) rfl <| ?_
  refine at_nil ?_
  refine x_tn ?_
  refine at_block ?_
  refine at_seq ?_
  refine at_region ?_
  refine s1 (y_p rfl) rfl <| s1 (y_p rfl) rfl <| ?_
  refine at_nil ?_
  refine x_tn ?_
  refine at_cond rfl (fun hc13 => ?_) (fun hc13 => ?_)
  · have h13 : (digs s).length = 0 := by simpa using hc13
    have hL : (digs s) = [] := List.eq_nil_of_length_eq_zero h13
    refine at_seq ?_
    refine at_region ?_
    refine s1 (y_p rfl) rfl <| ?_
    refine at_op rfl (n_call false rfl (.cons (.pure pu) (.nil)) (tree_ok _ (digs s) (Nat.le_refl _) (D32_digs s) (by have := len_digs s; omega)) pu (.inl rfl) rfl ?_)
    refine at_op rfl (n_call false rfl (.cons (.pure pu) (.cons .nl (.nil))) (tagged_ok [101, 109, 112, 116, 121] [] (by simp) (by simp)) pu (.inl rfl) rfl ?_)
    refine s1 ((y_aq Tryd.underlying26 Tryd.underlying5 ti5 (by kernel_rfl) rfl rfl (by first | assumption | (simp; done) | (simp [*]; done)) (by first | assumption | (simp; done) | (simp [*]; done))).v (v' := .b true) (congrArg A.b (by rw [hL, tree_nil]; simp))) rfl <| s1 (y_p rfl) rfl <| ?_
    refine at_nil ?_
    refine x_tn ?_
    refine at_ret ?_
    refine x_br ?_
    refine x_tr ?_
    refine at_result (rs := [.tmp 2]) rfl (r_tmp rfl r_nil) rfl
  · have h13 : (digs s).length ≠ 0 := by simpa using hc13
    refine at_seq ?_
    refine at_region ?_
    refine s1 (y_p rfl) rfl <| s1 (y_p rfl) rfl <| ?_
    refine at_nil ?_
    refine x_tn ?_
    refine at_cond rfl (fun hc19 => ?_) (fun hc19 => ?_)
    · have h19 : (digs s).length = 1 := by have := eq_of_beq hc19; omega
      obtain ⟨x, hx⟩ := List.length_eq_one_iff.1 h19
      have hx32 : x.length = 32 := D32_digs s x (by simp [hx])
      refine at_seq ?_
      refine at_fs ⟨_, [], []⟩ 7 4 hmix (le_refl rfl) ?_
      refine fs_q 0 [] [] (y_p rfl) rfl rfl ?_
      refine fs_call false 1 [0] [] gy0 rfl (.cons (.pure pu) (.nil)) (tree_ok _ (digs s) (Nat.le_refl _) (D32_digs s) (by have := len_digs s; omega)) pu (.inl rfl) rfl rfl ?_
      refine fs_q 2 [] [] (y_p rfl) rfl rfl ?_
      refine fs_q 3 [2] [] (y_ixf 0 Tryd.underlying30 ti26 rfl rfl rfl (by omega) rfl) rfl rfl ?_
      refine fs_q 4 [3] [] ((y_cutfa 32 Tryd.underlying26 ti5 rfl (by simp [maxLen]) bn bn (Nat.zero_le _) (Nat.le_refl _) (by simp) rfl rfl).v (v' := slA x) (by rw [hx]; exact cut_one hx32)) rfl rfl ?_
      refine fs_call false 5 [4] [] gy0 rfl (.cons (.pure pu) (.cons (.pure pu) (.nil))) (tagged_ok [108, 101, 97, 102] x (by omega) (by simp)) pu (.inl rfl) rfl rfl ?_
      refine fs_q 6 [1, 5] [] ((y_aq Tryd.underlying26 Tryd.underlying5 ti5 (by kernel_rfl) rfl rfl (by first | assumption | (simp; done) | (simp [*]; done)) (by first | assumption | (simp; done) | (simp [*]; done))).v (v' := .b true) (congrArg A.b (by rw [hx, tree_one]; simp))) rfl rfl ?_
      refine fs_end (by kernel_rfl) ?_
      refine s1 (y_p rfl) rfl <| ?_
      refine at_nil ?_
      refine x_tn ?_
      refine at_ret ?_
      refine x_br ?_
      refine x_tr ?_
      refine at_result (rs := [.tmp 2]) rfl (r_tmp rfl r_nil) rfl
    · have h19a : ¬ (digs s).length = 1 := fun e => by rw [e] at hc19; exact absurd hc19 (by decide)
      have h19 : 2 ≤ (digs s).length := by omega
      have h24 := len_digs s
      have hh := halfN_lt h19
      refine at_skip ?_
      refine x_bn ?_
      refine x_tn ?_
      refine at_seq ?_
      refine at_region ?_
      refine s1 ((y_p rfl).v (v' := .i .i64 1) rfl) rfl <| ?_
      refine at_nil ?_
      refine x_tn ?_
      refine at_seq ?_
      refine at_block ?_
      refine at_loop (ι := Nat) (fun e => [(3, dgs (digs s)), (4, .i .i64 (2 ^ e : Nat))]) (fun e => ⟨[]⟩) (fun e => 2 ^ e < (digs s).length) (fun e => (digs s).length - 2 ^ e) ?_ ?_
      · exact at_ex (0) (by omega) [] hI rfl rfl ⟨⟨_, rfl, .pure pu⟩, ⟨_, rfl, .of rfl (.pure pu)⟩, trivial⟩ trivial
      rintro e he
      have hpe := Nat.two_pow_pos e
      refine at_seq ?_
      refine at_seq ?_
      refine at_region ?_
      refine s1 (y_p rfl) rfl <| s1 (mulN 2 (2 ^ e) rfl rfl rfl rfl (by omega)) rfl <| s1 (y_p rfl) rfl <| s1 (y_len Tryd.underlying30 rfl rfl rfl) rfl <| s1 (y_p rfl) rfl <| ?_
      refine at_nil ?_
      refine x_tn ?_
      refine at_cond rfl (fun hc32 => ?_) (fun hc32 => ?_)
      · have h32 : 2 * 2 ^ e < (digs s).length := by have := of_decide_eq_true hc32; omega
        refine at_skip ?_
        refine x_tn ?_
        refine at_block ?_
        refine at_region ?_
        refine s1 (y_p rfl) rfl <| s1 (mulN (2 ^ e) 2 rfl rfl rfl rfl (by omega)) rfl <| s1 (y_p rfl) rfl <| ?_
        refine at_nil ?_
        refine x_bn ?_
        exact at_end (e + 1) (by rw [Nat.pow_succ]; omega) (by rw [Nat.pow_succ]; omega) [] hI rfl rfl ⟨⟨_, rfl, .pure pu⟩, ⟨_, rfl, .of (congrArg (fun k : Nat => A.i .i64 (k : Int)) (by rw [Nat.pow_succ])) (.pure pu)⟩, trivial⟩ trivial
      · have h32 : ¬ 2 * 2 ^ e < (digs s).length := by have := of_decide_eq_false hc32; omega
        refine at_say 4 rfl (v' := .i .i64 ((halfN (digs s).length) : Nat)) (congrArg (fun k : Nat => A.i .i64 (k : Int)) (halfN_of e rfl he (by omega))) ?_
        refine at_exit ?_
        refine x_te ?_
        refine x_te ?_
        refine x_be ?_
        refine x_tn ?_
        refine at_seq ?_
        refine at_fs ⟨_, [], []⟩ 10 4 hmix (le_refl rfl) ?_
        refine fs_q 0 [] [] (y_p rfl) rfl rfl ?_
        refine fs_q 1 [] [] (y_p rfl) rfl rfl ?_
        refine fs_q 2 [0, 1] [] ((y_cutf (halfN (digs s).length) Tryd.underlying30 ti26 rfl (by rw [List.length_map, (D32_digs s).len]) bn (bs rfl rfl) (by omega) (by omega) rfl rfl).v (v' := dgs ((digs s).take (halfN (digs s).length))) (cut_take (D32_digs s) (by omega))) rfl rfl ?_
        refine fs_call false 3 [2] [] gy0 rfl (.cons (.pure pu) (.nil)) (tree_ok _ ((digs s).take (halfN (digs s).length)) (Nat.le_refl _) ((D32_digs s).take _) (by have := len_digs s; rw [List.length_take]; omega)) pu (.inl rfl) rfl rfl ?_
        refine fs_q 4 [] [] (y_p rfl) rfl rfl ?_
        refine fs_q 5 [] [] (y_p rfl) rfl rfl ?_
        refine fs_q 6 [4, 5] [] ((y_cutf ((digs s).length - (halfN (digs s).length)) Tryd.underlying30 ti26 rfl (by rw [List.length_map, (D32_digs s).len]) (bs rfl rfl) bn (by omega) (by omega) rfl rfl).v (v' := dgs ((digs s).drop (halfN (digs s).length))) (cut_drop (D32_digs s) rfl)) rfl rfl ?_
        refine fs_call false 7 [6] [] gy0 rfl (.cons (.pure pu) (.nil)) (tree_ok _ ((digs s).drop (halfN (digs s).length)) (Nat.le_refl _) ((D32_digs s).drop _) (by have := len_digs s; rw [List.length_drop]; omega)) pu (.inl rfl) rfl rfl ?_
        refine fs_alloc 5 8 [] gy0 ti26 rfl rfl rfl ?_
        refine fs_alloc 6 9 [] gy0 ti26 rfl rfl rfl ?_
        refine fs_end (by kernel_rfl) ?_
        refine at_op rfl (n_storeA ti26 rfl rfl rfl (by first | rfl | omega | (simp; done) | (simp [*]; done) | (simp; omega) | (simp [*]; omega) | (simp [D32.len, -List.length_flatten, *]; done) | (simp [D32.len, -List.length_flatten, *]; omega)) (by first | rfl | omega | (simp; done) | (simp [*]; done) | (simp; omega) | (simp [*]; omega) | (simp [D32.len, -List.length_flatten, *]; done) | (simp [D32.len, -List.length_flatten, *]; omega)) ?_)
        refine at_op rfl (n_storeA ti26 rfl rfl rfl (by first | rfl | omega | (simp; done) | (simp [*]; done) | (simp; omega) | (simp [*]; omega) | (simp [D32.len, -List.length_flatten, *]; done) | (simp [D32.len, -List.length_flatten, *]; omega)) (by first | rfl | omega | (simp; done) | (simp [*]; done) | (simp; omega) | (simp [*]; omega) | (simp [D32.len, -List.length_flatten, *]; done) | (simp [D32.len, -List.length_flatten, *]; omega)) ?_)
        refine at_nil ?_
        refine x_tn ?_
        refine at_seq ?_
        refine at_fs ⟨_, [], []⟩ 9 4 hmix (le_refl rfl) ?_
        refine fs_q 0 [] [] (y_p rfl) rfl rfl ?_
        refine fs_call false 1 [0] [] gy0 rfl (.cons (.pure pu) (.nil)) (tree_ok _ (digs s) (Nat.le_refl _) (D32_digs s) (by have := len_digs s; omega)) pu (.inl rfl) rfl rfl ?_
        refine fs_bs1 45 2 [] gy0 Tryd.underlying22 ti5 rfl rfl rfl rfl rfl rfl ?_
        refine fs_q 3 [] [(5, none)] (y_cuta0 Tryd.underlying26 ti5 rfl rfl (by first | rfl | omega | (simp; done) | (simp [*]; done) | (simp; omega) | (simp [*]; omega) | (simp [D32.len, -List.length_flatten, *]; done) | (simp [D32.len, -List.length_flatten, *]; omega)) (by simp [maxLen])) rfl rfl ?_
        refine fs_app 47 4 [2, 3] [(5, none), (45, some 2)] gy0 Tryd.underlying22 ti5 rfl (.sl rfl (by first | rfl | omega | (simp; done) | (simp [*]; done) | (simp; omega) | (simp [*]; omega) | (simp [D32.len, -List.length_flatten, *]; done) | (simp [D32.len, -List.length_flatten, *]; omega))) rfl (SM_full rfl (by first | rfl | omega | (simp; done) | (simp [*]; done) | (simp; omega) | (simp [*]; omega) | (simp [D32.len, -List.length_flatten, *]; done) | (simp [D32.len, -List.length_flatten, *]; omega))) (by first | rfl | omega | (simp; done) | (simp [*]; done) | (simp; omega) | (simp [*]; omega) | (simp [D32.len, -List.length_flatten, *]; done) | (simp [D32.len, -List.length_flatten, *]; omega)) (by first | omega | (simp only [maxLen]; omega) | (simp [maxLen]; done) | (simp [maxLen]; omega) | (simp [maxLen, *]; omega)) (by first | omega | (simp only [maxLen]; omega) | (simp [maxLen]; done) | (simp [maxLen]; omega) | (simp [maxLen, *]; omega)) rfl rfl rfl rfl ?_
        refine fs_q 5 [] [(6, none)] (y_cuta0 Tryd.underlying26 ti5 rfl rfl (by first | rfl | omega | (simp; done) | (simp [*]; done) | (simp; omega) | (simp [*]; omega) | (simp [D32.len, -List.length_flatten, *]; done) | (simp [D32.len, -List.length_flatten, *]; omega)) (by simp [maxLen])) rfl rfl ?_
        refine fs_app 49 6 [4, 5] [(6, none), (47, some 4)] gy0 Tryd.underlying22 ti5 rfl (.sl rfl (by first | rfl | omega | (simp; done) | (simp [*]; done) | (simp; omega) | (simp [*]; omega) | (simp [D32.len, -List.length_flatten, *]; done) | (simp [D32.len, -List.length_flatten, *]; omega))) rfl (SM_full rfl (by first | rfl | omega | (simp; done) | (simp [*]; done) | (simp; omega) | (simp [*]; omega) | (simp [D32.len, -List.length_flatten, *]; done) | (simp [D32.len, -List.length_flatten, *]; omega))) (by first | rfl | omega | (simp; done) | (simp [*]; done) | (simp; omega) | (simp [*]; omega) | (simp [D32.len, -List.length_flatten, *]; done) | (simp [D32.len, -List.length_flatten, *]; omega)) (by first | omega | (simp only [maxLen]; omega) | (simp [maxLen]; done) | (simp [maxLen]; omega) | (simp [maxLen, *]; omega)) (by first | omega | (simp only [maxLen]; omega) | (simp [maxLen]; done) | (simp [maxLen]; omega) | (simp [maxLen, *]; omega)) rfl rfl rfl rfl ?_
        refine fs_call true 7 [6] [(49, some 6)] gy0 rfl (.cons (.pure pu) (.cons (.sl rfl rfl (by first | rfl | omega | (simp; done) | (simp [*]; done) | (simp; omega) | (simp [*]; omega) | (simp [D32.len, -List.length_flatten, *]; done) | (simp [D32.len, -List.length_flatten, *]; omega)) (view_eq (by first | rfl | omega | (simp; done) | (simp [*]; done) | (simp; omega) | (simp [*]; omega) | (simp [D32.len, -List.length_flatten, *]; done) | (simp [D32.len, -List.length_flatten, *]; omega)) (by first | rfl | (simp; done) | (simp [*]; done))) (VwL.pure pul) pul) (.nil))) (tagged_ok [110, 111, 100, 101] (tree ((digs s).take (halfN (digs s).length)) ++ tree ((digs s).drop (halfN (digs s).length))) (by simp) (by simp)) pu (.inr fu) rfl rfl ?_
        refine fs_q 8 [1, 7] [] ((y_aq Tryd.underlying26 Tryd.underlying5 ti5 (by kernel_rfl) rfl rfl (by first | assumption | (simp; done) | (simp [*]; done)) (by first | assumption | (simp; done) | (simp [*]; done))).v (v' := .b true) (congrArg A.b (by rw [tree_two (L := (digs s)) h19]; simp [nodeD]))) rfl rfl ?_
        refine fs_end (by kernel_rfl) ?_
        refine s1 (y_p rfl) rfl <| ?_
        refine at_nil ?_
        refine x_tn ?_
        refine at_ret ?_
        refine at_result (rs := [.tmp 2]) rfl (r_tmp rfl r_nil) rfl

set_option linter.unusedSimpArgs false in
set_option maxHeartbeats 1000000 in
theorem law_next (s d : List UInt8) (hd : d.length = 32) : Con Tryd.prog 8 [.fz s.length (s.map u8), .ag (d.map u8)] (Ret (.b true)) := by
  refine enter Tryd.func8 rfl Tryd.ntmps8 (by kernel_rfl) (Nat.le_of_ble_eq_true rfl) fun w0 X0 hI => ?_
  refine at_seq ?_
  refine at_region ?_
  refine at_op rfl (n_boxA 3 rfl rfl rfl ?_)
  refine s1 (y_p rfl) rfl <| ?_
  refine at_nil ?_
  refine x_tn ?_
  refine at_seq ?_
  refine at_seq ?_
  refine at_region ?_
  refine at_op rfl (n_call false rfl (.nil) (sane_ok) pu (.inl rfl) rfl ?_)
  refine s1 (y_p rfl) rfl <| ?_
  refine at_nil ?_
  refine x_tn ?_
  refine at_else rfl ?_
  refine at_skip ?_
  refine x_tn ?_
  refine at_seq ?_
  refine at_region ?_
  refine s1 (y_p rfl) rfl <| ?_
  refine at_op rfl (n_call false rfl (.cons (.pure pu) (.nil)) (digsOf_ok s) pu (.inl rfl) rfl ?_)
  refine s1 (y_p rfl) rfl <| ?_
  refine at_nil ?_
  refine x_tn ?_
  refine at_seq ?_
  refine at_seq ?_
  refine at_region ?_
  refine s1 ((y_p rfl).v (v' := .i .i64 1) rfl) rfl <| ?_
  refine at_nil ?_
  refine x_tn ?_
  refine at_block ?_
  refine at_loop (ι := Nat) (fun e => [(3, .p 3 0), (5, dgs (digs s)), (6, .i .i64 (2 ^ e : Nat))]) (fun e => ⟨[(3, some (d.map u8))]⟩) (fun e => True) (fun e => (digs s).length + 1 - 2 ^ e) ?_ ?_
  · exact at_ex (0) (trivial) [(3, some 3)] hI rfl rfl ⟨⟨_, rfl, .p rfl⟩, ⟨_, rfl, .pure pu⟩, ⟨_, rfl, .of rfl (.pure pu)⟩, trivial⟩ ⟨.inr ⟨_, _, rfl, rfl, .pure pul⟩, trivial⟩
  rintro e -
  have hpe := Nat.two_pow_pos e
  have h24 := len_digs s
  refine at_seq ?_
  refine at_seq ?_
  refine at_region ?_
  refine s1 (y_p rfl) rfl <| s1 (y_p rfl) rfl <| s1 (y_len Tryd.underlying30 rfl rfl rfl) rfl <| s1 (y_p rfl) rfl <| ?_
  refine at_nil ?_
  refine x_tn ?_
  refine at_cond rfl (fun hc19 => ?_) (fun hc19 => ?_)
  · have h19 : 2 ^ e ≤ (digs s).length := by have := of_decide_eq_true hc19; omega
    have hTl : ((digs s).take (2 ^ e)).length = 2 ^ e := by rw [List.length_take, Nat.min_eq_left h19]
    have hnx := tree_next (d := d) h19
    have hLl : (((digs s).take (2 ^ e)) ++ [d]).length = 2 ^ e + 1 := by rw [List.length_append, hTl]; rfl
    have hDG : D32 (((digs s).take (2 ^ e)) ++ [d]) := (((D32_digs s).take _).app (.one hd))
    refine at_skip ?_
    refine x_tn ?_
    refine at_seq ?_
    refine at_block ?_
    refine at_seq ?_
    refine at_fs ⟨_, [], []⟩ 9 4 hmix (le_refl rfl) ?_
    refine fs_q 0 [] [] (y_p rfl) rfl rfl ?_
    refine fs_q 1 [] [] (y_p rfl) rfl rfl ?_
    refine fs_q 2 [0, 1] [] ((y_cutf (2 ^ e) Tryd.underlying30 ti26 rfl (by rw [List.length_map, (D32_digs s).len]) bn (bs rfl rfl) (by omega) (by omega) rfl rfl).v (v' := dgs ((digs s).take (2 ^ e))) (cut_take (D32_digs s) (by omega))) rfl rfl ?_
    refine fs_call false 3 [2] [] gy0 rfl (.cons (.pure pu) (.nil)) (tree_ok _ ((digs s).take (2 ^ e)) (Nat.le_refl _) ((D32_digs s).take _) (by have := len_digs s; rw [List.length_take]; omega)) pu (.inl rfl) rfl rfl ?_
    refine fs_q 4 [] [(3, none)] (y_loadA0 ti26 rfl rfl (by simp [hd])) rfl rfl ?_
    refine fs_bs 27 5 [4] gy0 Tryd.underlying30 ti26 rfl rfl rfl (by first | (simp [cellsA]; done) | (simp [cellsA, *]; done)) (List.append_nil (d.map u8)) rfl rfl rfl rfl ?_
    refine fs_call true 6 [5] [(27, some 5)] gy0 rfl (.cons (.sl rfl rfl (by first | rfl | omega | (simp; done) | (simp [*]; done) | (simp; omega) | (simp [*]; omega) | (simp [D32.len, -List.length_flatten, *]; done) | (simp [D32.len, -List.length_flatten, *]; omega)) (view_eq (by first | rfl | omega | (simp; done) | (simp [*]; done) | (simp; omega) | (simp [*]; omega) | (simp [D32.len, -List.length_flatten, *]; done) | (simp [D32.len, -List.length_flatten, *]; omega)) (by first | rfl | (simp; done) | (simp [*]; done))) (VwL.pure pul) pul) (.nil)) (tree_ok 1 [d] (by simp) (.one hd) (by simp)) pu (.inr fu) rfl rfl ?_
    refine fs_alloc 7 7 [] gy0 ti26 rfl rfl rfl ?_
    refine fs_alloc 8 8 [] gy0 ti26 rfl rfl rfl ?_
    refine fs_end (by kernel_rfl) ?_
    refine at_op rfl (n_storeA ti26 rfl rfl rfl (by first | rfl | omega | (simp; done) | (simp [*]; done) | (simp; omega) | (simp [*]; omega) | (simp [D32.len, -List.length_flatten, *]; done) | (simp [D32.len, -List.length_flatten, *]; omega)) (by first | rfl | omega | (simp; done) | (simp [*]; done) | (simp; omega) | (simp [*]; omega) | (simp [D32.len, -List.length_flatten, *]; done) | (simp [D32.len, -List.length_flatten, *]; omega)) ?_)
    refine at_op rfl (n_storeA ti26 rfl rfl rfl (by first | rfl | omega | (simp; done) | (simp [*]; done) | (simp; omega) | (simp [*]; omega) | (simp [D32.len, -List.length_flatten, *]; done) | (simp [D32.len, -List.length_flatten, *]; omega)) (by first | rfl | omega | (simp; done) | (simp [*]; done) | (simp; omega) | (simp [*]; omega) | (simp [D32.len, -List.length_flatten, *]; done) | (simp [D32.len, -List.length_flatten, *]; omega)) ?_)
    refine at_nil ?_
    refine x_tn ?_
    refine at_seq ?_
    refine at_fs ⟨_, [], []⟩ 8 4 hmix (le_refl rfl) ?_
    refine fs_bs 29 0 [] gy0 Tryd.underlying30 ti26 rfl rfl rfl (by first | (simp [cellsA]; done) | (simp [cellsA, *]; done)) rfl rfl rfl rfl rfl ?_
    refine fs_q 1 [] [] (y_p rfl) rfl rfl ?_
    refine fs_q 2 [] [] (y_p rfl) rfl rfl ?_
    refine fs_q 3 [1, 2] [] ((y_cutf (2 ^ e) Tryd.underlying30 ti26 rfl (by rw [List.length_map, (D32_digs s).len]) bn (bs rfl rfl) (by omega) (by omega) rfl rfl).v (v' := dgs ((digs s).take (2 ^ e))) (cut_take (D32_digs s) (by omega))) rfl rfl ?_
    refine fs_app 33 4 [0, 3] [(29, some 0)] gy0 Tryd.underlying30 ti26 rfl (.sl rfl (by first | rfl | omega | (simp; done) | (simp [*]; done) | (simp; omega) | (simp [*]; omega) | (simp [D32.len, -List.length_flatten, *]; done) | (simp [D32.len, -List.length_flatten, *]; omega))) rfl rfl (by rw [List.length_map, ((D32_digs s).take _).len]) (by rw [hTl]; simp only [maxLen]; omega) (by rw [hTl]; omega) rfl rfl rfl rfl ?_
    refine fs_q 5 [] [(3, none)] (y_loadA0 ti26 rfl rfl (by simp [hd])) rfl rfl ?_
    refine fs_bs 35 6 [5] gy0 Tryd.underlying30 ti26 rfl rfl rfl (by first | (simp [cellsA]; done) | (simp [cellsA, *]; done)) (List.append_nil (d.map u8)) rfl rfl rfl rfl ?_
    refine fs_app 36 7 [4, 6] [(33, some 4), (35, some 6)] gy0 Tryd.underlying30 ti26 rfl (.sl rfl (by rw [List.length_append, List.length_map, ((D32_digs s).take _).len]; simp [flatA])) rfl (SM_full rfl (by first | rfl | omega | (simp; done) | (simp [*]; done) | (simp; omega) | (simp [*]; omega) | (simp [D32.len, -List.length_flatten, *]; done) | (simp [D32.len, -List.length_flatten, *]; omega))) (by simp [hd]) (by rw [hTl]; simp only [maxLen]; omega) (by rw [hTl]; omega) rfl (show (flatA [] ++ ((digs s).take (2 ^ e)).flatten.map u8) ++ d.map u8 = (((digs s).take (2 ^ e)) ++ [d]).flatten.map u8 by simp [flatA]) rfl rfl ?_
    refine fs_end (by kernel_rfl) ?_
    refine s1 (y_p rfl) rfl <| ?_
    refine at_nil ?_
    refine x_tn ?_
    refine at_seq ?_
    refine at_frz 9 rfl rfl pul (view_eq (by rw [List.length_map, hDG.len, hLl, hTl]; omega) rfl) ?_
    refine at_say 9 rfl (v' := dgs (((digs s).take (2 ^ e)) ++ [d])) (by rw [dgs, hLl, hTl, Nat.zero_add]) ?_
    refine at_region ?_
    refine s1 (y_p rfl) rfl <| s1 (y_p rfl) rfl <| ?_
    refine at_op rfl (n_call false rfl (.cons (.pure pu) (.cons (.pure pu) (.nil))) (Con.cast (pathN_ok (((digs s).take (2 ^ e)) ++ [d]) ((2 ^ e : Nat) : Int) hDG (by omega)) (by rw [(path_next h19).1, (path_next h19).2])) pu (.inl rfl) rfl ?_)
    refine s1 (y_p rfl) rfl <| s1 (y_p rfl) rfl <| s1 (y_p rfl) rfl <| s1 (y_p rfl) rfl <| s1 (y_p rfl) rfl <| ?_
    refine at_nil ?_
    refine x_tn ?_
    refine at_seq ?_
    refine at_fs ⟨_, [], []⟩ 24 4 hmix (le_refl rfl) ?_
    refine fs_q 0 [] [] (y_p rfl) rfl rfl ?_
    refine fs_call false 1 [0] [] gy0 rfl (.cons (.pure pu) (.nil)) (tree_ok _ (((digs s).take (2 ^ e)) ++ [d]) (Nat.le_refl _) hDG (by omega)) pu (.inl rfl) rfl rfl ?_
    refine fs_bs1 45 2 [] gy0 Tryd.underlying22 ti5 rfl rfl rfl rfl rfl rfl ?_
    refine fs_q 3 [] [(7, none)] (y_cuta0 Tryd.underlying26 ti5 rfl rfl (by first | rfl | omega | (simp; done) | (simp [*]; done) | (simp; omega) | (simp [*]; omega) | (simp [D32.len, -List.length_flatten, *]; done) | (simp [D32.len, -List.length_flatten, *]; omega)) (by simp [maxLen])) rfl rfl ?_
    refine fs_app 47 4 [2, 3] [(7, none), (45, some 2)] gy0 Tryd.underlying22 ti5 rfl (.sl rfl (by first | rfl | omega | (simp; done) | (simp [*]; done) | (simp; omega) | (simp [*]; omega) | (simp [D32.len, -List.length_flatten, *]; done) | (simp [D32.len, -List.length_flatten, *]; omega))) rfl (SM_full rfl (by first | rfl | omega | (simp; done) | (simp [*]; done) | (simp; omega) | (simp [*]; omega) | (simp [D32.len, -List.length_flatten, *]; done) | (simp [D32.len, -List.length_flatten, *]; omega))) (by first | rfl | omega | (simp; done) | (simp [*]; done) | (simp; omega) | (simp [*]; omega) | (simp [D32.len, -List.length_flatten, *]; done) | (simp [D32.len, -List.length_flatten, *]; omega)) (by first | omega | (simp only [maxLen]; omega) | (simp [maxLen]; done) | (simp [maxLen]; omega) | (simp [maxLen, *]; omega)) (by first | omega | (simp only [maxLen]; omega) | (simp [maxLen]; done) | (simp [maxLen]; omega) | (simp [maxLen, *]; omega)) rfl rfl rfl rfl ?_
    refine fs_q 5 [] [(8, none)] (y_cuta0 Tryd.underlying26 ti5 rfl rfl (by first | rfl | omega | (simp; done) | (simp [*]; done) | (simp; omega) | (simp [*]; omega) | (simp [D32.len, -List.length_flatten, *]; done) | (simp [D32.len, -List.length_flatten, *]; omega)) (by simp [maxLen])) rfl rfl ?_
    refine fs_app 49 6 [4, 5] [(8, none), (47, some 4)] gy0 Tryd.underlying22 ti5 rfl (.sl rfl (by first | rfl | omega | (simp; done) | (simp [*]; done) | (simp; omega) | (simp [*]; omega) | (simp [D32.len, -List.length_flatten, *]; done) | (simp [D32.len, -List.length_flatten, *]; omega))) rfl (SM_full rfl (by first | rfl | omega | (simp; done) | (simp [*]; done) | (simp; omega) | (simp [*]; omega) | (simp [D32.len, -List.length_flatten, *]; done) | (simp [D32.len, -List.length_flatten, *]; omega))) (by first | rfl | omega | (simp; done) | (simp [*]; done) | (simp; omega) | (simp [*]; omega) | (simp [D32.len, -List.length_flatten, *]; done) | (simp [D32.len, -List.length_flatten, *]; omega)) (by first | omega | (simp only [maxLen]; omega) | (simp [maxLen]; done) | (simp [maxLen]; omega) | (simp [maxLen, *]; omega)) (by first | omega | (simp only [maxLen]; omega) | (simp [maxLen]; done) | (simp [maxLen]; omega) | (simp [maxLen, *]; omega)) rfl rfl rfl rfl ?_
    refine fs_call true 7 [6] [(49, some 6)] gy0 rfl (.cons (.pure pu) (.cons (.sl rfl rfl (by first | rfl | omega | (simp; done) | (simp [*]; done) | (simp; omega) | (simp [*]; omega) | (simp [D32.len, -List.length_flatten, *]; done) | (simp [D32.len, -List.length_flatten, *]; omega)) (view_eq (by first | rfl | omega | (simp; done) | (simp [*]; done) | (simp; omega) | (simp [*]; omega) | (simp [D32.len, -List.length_flatten, *]; done) | (simp [D32.len, -List.length_flatten, *]; omega)) (by first | rfl | (simp; done) | (simp [*]; done))) (VwL.pure pul) pul) (.nil))) (tagged_ok [110, 111, 100, 101] (tree ((digs s).take (2 ^ e)) ++ tree [d]) (by simp) (by simp)) pu (.inr fu) rfl rfl ?_
    refine fs_q 8 [1, 7] [] ((y_aqn Tryd.underlying26 Tryd.underlying5 ti5 (by kernel_rfl) rfl rfl (by first | assumption | (simp; done) | (simp [*]; done)) (by first | assumption | (simp; done) | (simp [*]; done))).v (v' := .b false) (congrArg A.b (by rw [hnx.1]; simp [nodeD]))) rfl rfl ?_
    refine fs_q 9 [8] [] (y_p rfl) rfl rfl ?_
    refine fs_qg 10 [9] [] rfl rfl (y_p rfl) rfl rfl ?_
    refine fs_qg 11 [9, 10] [] rfl rfl ((y_p rfl).v (v' := .b false) (rfl)) rfl rfl ?_
    refine fs_q 12 [9, 11] [] (y_p rfl) rfl rfl ?_
    refine fs_q 13 [12] [] (y_p rfl) rfl rfl ?_
    refine fs_qg 14 [13] [] rfl rfl (y_p rfl) rfl rfl ?_
    refine fs_qg 15 [13, 14] [] rfl rfl (y_len Tryd.underlying30 rfl rfl rfl) rfl rfl ?_
    refine fs_qg 16 [13, 15] [] rfl rfl ((y_p rfl).v (v' := .b false) (rfl)) rfl rfl ?_
    refine fs_q 17 [13, 16] [] (y_p rfl) rfl rfl ?_
    refine fs_q 18 [17] [] (y_p rfl) rfl rfl ?_
    refine fs_qg 19 [18] [] rfl rfl (y_p rfl) rfl rfl ?_
    refine fs_qg 20 [18, 19] [] rfl rfl (y_ixf 0 Tryd.underlying30 ti26 rfl rfl rfl (by simp) rfl) rfl rfl ?_
    refine fs_qg 21 [18, 20] [] rfl rfl (y_loadA ti26 rfl rfl (get_d (.one (len_tree ((digs s).take (2 ^ e)))) (q := tree ((digs s).take (2 ^ e))) rfl) (by simp)) rfl rfl ?_
    refine fs_qg 22 [18] [(7, none)] rfl rfl (y_loadA0 ti26 rfl rfl (by first | rfl | omega | (simp; done) | (simp [*]; done) | (simp; omega) | (simp [*]; omega) | (simp [D32.len, -List.length_flatten, *]; done) | (simp [D32.len, -List.length_flatten, *]; omega))) rfl rfl ?_
    refine fs_qg 23 [18, 21, 22] [] rfl rfl ((y_aqn Tryd.underlying26 Tryd.underlying5 ti5 (by kernel_rfl) rfl rfl (by first | assumption | (simp; done) | (simp [*]; done)) (by first | assumption | (simp; done) | (simp [*]; done))).v (v' := .b false) (congrArg A.b (by simp))) rfl rfl ?_
    refine fs_end (by kernel_rfl) ?_
    refine s1 (y_p rfl) rfl <| ?_
    refine at_nil ?_
    refine x_tn ?_
    refine at_else rfl ?_
    refine at_skip ?_
    refine x_bn ?_
    refine x_tn ?_
    refine at_region ?_
    refine s1 (y_p rfl) rfl <| s1 (mulN _ 2 rfl rfl rfl rfl (by omega)) rfl <| s1 (y_p rfl) rfl <| ?_
    refine at_nil ?_
    exact at_end (e + 1) (trivial) (by rw [Nat.pow_succ]; omega) [(3, some 3)] hI rfl rfl ⟨⟨_, rfl, .p rfl⟩, ⟨_, rfl, .pure pu⟩, ⟨_, rfl, .of (congrArg (fun k : Nat => A.i .i64 (k : Int)) (by rw [Nat.pow_succ])) (.pure pu)⟩, trivial⟩ ⟨.inr ⟨_, _, rfl, rfl, .pure pul⟩, trivial⟩
  · skip
    refine at_exit ?_
    refine x_te ?_
    refine x_te ?_
    refine x_be ?_
    refine x_tn ?_
    refine at_seq ?_
    refine at_region ?_
    refine s1 (y_p rfl) rfl <| ?_
    refine at_nil ?_
    refine x_tn ?_
    refine at_ret ?_
    refine at_result (rs := [.tmp 4]) rfl (r_tmp rfl r_nil) rfl

set_option linter.unusedSimpArgs false in
set_option maxHeartbeats 1000000 in
theorem law_chains (f s : List UInt8) (hf : f.length = 32) : Con Tryd.prog 10 [.ag (f.map u8), .fz s.length (s.map u8)] (Ret (.b true)) := by
  refine enter Tryd.func10 rfl Tryd.ntmps10 (by kernel_rfl) (Nat.le_of_ble_eq_true rfl) fun w0 X0 hI => ?_
  refine at_seq ?_
  refine at_region ?_
  refine at_op rfl (n_boxA 2 rfl rfl rfl ?_)
  refine s1 (y_p rfl) rfl <| ?_
  refine at_nil ?_
  refine x_tn ?_
  refine at_seq ?_
  refine at_seq ?_
  refine at_region ?_
  refine at_op rfl (n_call false rfl (.nil) (sane_ok) pu (.inl rfl) rfl ?_)
  refine s1 (y_p rfl) rfl <| ?_
  refine at_nil ?_
  refine x_tn ?_
  refine at_else rfl ?_
  refine at_skip ?_
  refine x_tn ?_
  refine at_seq ?_
  refine at_fs ⟨_, [], []⟩ 5 4 hmix (le_refl rfl) ?_
  refine fs_q 0 [] [(2, none)] (y_loadA0 ti26 rfl rfl (by simp [hf])) rfl rfl ?_
  refine fs_q 1 [] [(2, none)] (y_loadA0 ti26 rfl rfl (by simp [hf])) rfl rfl ?_
  refine fs_alloc 5 2 [] gy0 ti26 rfl rfl rfl ?_
  refine fs_alloc 6 3 [] gy0 ti26 rfl rfl rfl ?_
  refine fs_stoA 0 4 [0, 2] [(5, some 2)] rfl gy0 ti26 rfl rfl rfl (by first | rfl | omega | (simp; done) | (simp [*]; done) | (simp; omega) | (simp [*]; omega) | (simp [D32.len, -List.length_flatten, *]; done) | (simp [D32.len, -List.length_flatten, *]; omega)) (by first | rfl | omega | (simp; done) | (simp [*]; done) | (simp; omega) | (simp [*]; omega) | (simp [D32.len, -List.length_flatten, *]; done) | (simp [D32.len, -List.length_flatten, *]; omega)) rfl ?_
  refine fs_end (by kernel_rfl) ?_
  refine at_op rfl (n_storeA ti26 rfl rfl rfl (by first | rfl | omega | (simp; done) | (simp [*]; done) | (simp; omega) | (simp [*]; omega) | (simp [D32.len, -List.length_flatten, *]; done) | (simp [D32.len, -List.length_flatten, *]; omega)) (by first | rfl | omega | (simp; done) | (simp [*]; done) | (simp; omega) | (simp [*]; omega) | (simp [D32.len, -List.length_flatten, *]; done) | (simp [D32.len, -List.length_flatten, *]; omega)) ?_)
  refine at_nil ?_
  refine x_tn ?_
  refine at_seq ?_
  refine at_seq ?_
  refine at_region ?_
  refine s1 (y_p rfl) rfl <| ?_
  refine at_op rfl (n_call false rfl (.cons (.pure pu) (.nil)) (digsOf_ok s) pu (.inl rfl) rfl ?_)
  refine s1 (y_len Tryd.underlying30 rfl rfl rfl) rfl <| s1 ((y_p rfl).v (v' := .i .i64 0) rfl) rfl <| ?_
  refine at_nil ?_
  refine x_tn ?_
  refine at_block ?_
  refine at_loop (ι := Nat) (fun j => [(5, .p 5 0), (6, .p 6 0), (15, dgs (digs s)), (16, .i .i64 ((digs s).length : Nat)), (17, .i .i64 (j : Nat))]) (fun j => ⟨[(5, some ((chainL f ((digs s).take j)).map u8)), (6, some ((chainL f ((digs s).take j)).map u8))]⟩) (fun j => j ≤ (digs s).length) (fun j => (digs s).length - j) ?_ ?_
  · exact at_ex (0) (Nat.zero_le _) [(5, some 5), (6, some 6)] hI rfl rfl ⟨⟨_, rfl, .p rfl⟩, ⟨_, rfl, .p rfl⟩, ⟨_, rfl, .pure pu⟩, ⟨_, rfl, .pure pu⟩, ⟨_, rfl, .pure pu⟩, trivial⟩ ⟨.inr ⟨_, _, rfl, rfl, .of (by rfl) (.pure pul)⟩, .inr ⟨_, _, rfl, rfl, .of (by rfl) (.pure pul)⟩, trivial⟩
  rintro j hj
  have hcl := len_chainL f hf ((digs s).take j)
  have h24 := len_digs s
  refine at_seq ?_
  refine at_region ?_
  refine s1 (y_p rfl) rfl <| ?_
  refine at_nil ?_
  refine x_tn ?_
  refine at_seq ?_
  refine at_cond rfl (fun hc18 => ?_) (fun hc18 => ?_)
  · have hj2 : j < (digs s).length := by have := of_decide_eq_true hc18; omega
    obtain ⟨q, hq⟩ : ∃ q, (digs s)[j]? = some q := ⟨_, List.getElem?_eq_getElem hj2⟩
    have hq32 := D32_digs s q (List.mem_of_getElem? hq)
    refine at_skip ?_
    refine x_tn ?_
    refine at_seq ?_
    refine at_block ?_
    refine at_seq ?_
    refine at_region ?_
    refine s1 (y_ixf _ Tryd.underlying30 ti26 rfl rfl rfl (by omega) rfl) rfl <| s1 (y_loadA ti26 rfl rfl (get_d (D32_digs s) hq) (by simp [hq32])) rfl <| ?_
    refine at_op rfl (n_alloc 8 rfl ti26 rfl rfl ?_)
    refine at_op rfl (n_storeA ti26 rfl rfl rfl (by first | rfl | omega | (simp; done) | (simp [*]; done) | (simp; omega) | (simp [*]; omega) | (simp [D32.len, -List.length_flatten, *]; done) | (simp [D32.len, -List.length_flatten, *]; omega)) (by first | rfl | omega | (simp; done) | (simp [*]; done) | (simp; omega) | (simp [*]; omega) | (simp [D32.len, -List.length_flatten, *]; done) | (simp [D32.len, -List.length_flatten, *]; omega)) ?_)
    refine at_nil ?_
    refine x_tn ?_
    refine at_seq ?_
    refine at_region ?_
    refine s1 (y_loadA0 ti26 rfl rfl (by first | rfl | omega | (simp; done) | (simp [*]; done) | (simp; omega) | (simp [*]; omega) | (simp [D32.len, -List.length_flatten, *]; done) | (simp [D32.len, -List.length_flatten, *]; omega))) rfl <| ?_
    refine at_op rfl (n_alloc 9 rfl ti26 rfl rfl ?_)
    refine at_op rfl (n_storeA ti26 rfl rfl rfl (by first | rfl | omega | (simp; done) | (simp [*]; done) | (simp; omega) | (simp [*]; omega) | (simp [D32.len, -List.length_flatten, *]; done) | (simp [D32.len, -List.length_flatten, *]; omega)) (by first | rfl | omega | (simp; done) | (simp [*]; done) | (simp; omega) | (simp [*]; omega) | (simp [D32.len, -List.length_flatten, *]; done) | (simp [D32.len, -List.length_flatten, *]; omega)) ?_)
    refine at_nil ?_
    refine x_tn ?_
    refine at_seq ?_
    refine at_fs ⟨_, [], []⟩ 6 4 hmix (le_refl rfl) ?_
    refine fs_q 0 [] [(5, none)] (y_loadA0 ti26 rfl rfl (by first | rfl | omega | (simp; done) | (simp [*]; done) | (simp; omega) | (simp [*]; omega) | (simp [D32.len, -List.length_flatten, *]; done) | (simp [D32.len, -List.length_flatten, *]; omega))) rfl rfl ?_
    refine fs_q 1 [] [(8, none)] (y_loadA0 ti26 rfl rfl (by first | rfl | omega | (simp; done) | (simp [*]; done) | (simp; omega) | (simp [*]; omega) | (simp [D32.len, -List.length_flatten, *]; done) | (simp [D32.len, -List.length_flatten, *]; omega))) rfl rfl ?_
    refine fs_call false 2 [0, 1] [] gy0 rfl (.cons (.pure pu) (.cons (.pure pu) (.nil))) (chain_ok (fun t b h1 h2 => tagged_ok t b (by omega) (by omega)) (chainL f ((digs s).take j)) q hcl hq32) pu (.inl rfl) rfl rfl ?_
    refine fs_q 3 [] [(6, none)] (y_loadA0 ti26 rfl rfl (by first | rfl | omega | (simp; done) | (simp [*]; done) | (simp; omega) | (simp [*]; omega) | (simp [D32.len, -List.length_flatten, *]; done) | (simp [D32.len, -List.length_flatten, *]; omega))) rfl rfl ?_
    refine fs_q 4 [] [(8, none)] (y_loadA0 ti26 rfl rfl (by first | rfl | omega | (simp; done) | (simp [*]; done) | (simp; omega) | (simp [*]; omega) | (simp [D32.len, -List.length_flatten, *]; done) | (simp [D32.len, -List.length_flatten, *]; omega))) rfl rfl ?_
    refine fs_call false 5 [3, 4] [] gy0 rfl (.cons (.pure pu) (.cons (.pure pu) (.nil))) (rchain_ok (fun t b h1 h2 => rtagged_ok t b (by omega) (by omega)) (chainL f ((digs s).take j)) q hcl hq32) pu (.inl rfl) rfl rfl ?_
    refine fs_end (by kernel_rfl) ?_
    refine at_op rfl (n_storeA ti26 rfl rfl rfl (by first | rfl | omega | (simp; done) | (simp [*]; done) | (simp; omega) | (simp [*]; omega) | (simp [D32.len, -List.length_flatten, *]; done) | (simp [D32.len, -List.length_flatten, *]; omega)) (by first | rfl | omega | (simp; done) | (simp [*]; done) | (simp; omega) | (simp [*]; omega) | (simp [D32.len, -List.length_flatten, *]; done) | (simp [D32.len, -List.length_flatten, *]; omega)) ?_)
    refine at_op rfl (n_storeA ti26 rfl rfl rfl (by first | rfl | omega | (simp; done) | (simp [*]; done) | (simp; omega) | (simp [*]; omega) | (simp [D32.len, -List.length_flatten, *]; done) | (simp [D32.len, -List.length_flatten, *]; omega)) (by first | rfl | omega | (simp; done) | (simp [*]; done) | (simp; omega) | (simp [*]; omega) | (simp [D32.len, -List.length_flatten, *]; done) | (simp [D32.len, -List.length_flatten, *]; omega)) ?_)
    refine at_nil ?_
    refine x_tn ?_
    refine at_seq ?_
    refine at_fs ⟨_, [], []⟩ 12 4 hmix (le_refl rfl) ?_
    refine fs_q 0 [] [(5, none)] (y_loadA0 ti26 rfl rfl (by first | rfl | omega | (simp; done) | (simp [*]; done) | (simp; omega) | (simp [*]; omega) | (simp [D32.len, -List.length_flatten, *]; done) | (simp [D32.len, -List.length_flatten, *]; omega))) rfl rfl ?_
    refine fs_q 1 [] [(6, none)] (y_loadA0 ti26 rfl rfl (by first | rfl | omega | (simp; done) | (simp [*]; done) | (simp; omega) | (simp [*]; omega) | (simp [D32.len, -List.length_flatten, *]; done) | (simp [D32.len, -List.length_flatten, *]; omega))) rfl rfl ?_
    refine fs_q 2 [0, 1] [] ((y_aqn Tryd.underlying26 Tryd.underlying5 ti5 (by kernel_rfl) rfl rfl (by first | assumption | (simp; done) | (simp [*]; done)) (by first | assumption | (simp; done) | (simp [*]; done))).v (v' := .b false) (congrArg A.b (by simp))) rfl rfl ?_
    refine fs_q 3 [2] [] (y_p rfl) rfl rfl ?_
    refine fs_qg 4 [3] [(5, none)] rfl rfl (y_loadA0 ti26 rfl rfl (by first | rfl | omega | (simp; done) | (simp [*]; done) | (simp; omega) | (simp [*]; omega) | (simp [D32.len, -List.length_flatten, *]; done) | (simp [D32.len, -List.length_flatten, *]; omega))) rfl rfl ?_
    refine fs_bs1 33 5 [3] (gy1 rfl rfl) Tryd.underlying22 ti5 rfl rfl rfl rfl rfl rfl ?_
    refine fs_qg 6 [3] [(9, none)] rfl rfl (y_cuta0 Tryd.underlying26 ti5 rfl rfl (by first | rfl | omega | (simp; done) | (simp [*]; done) | (simp; omega) | (simp [*]; omega) | (simp [D32.len, -List.length_flatten, *]; done) | (simp [D32.len, -List.length_flatten, *]; omega)) (by simp [maxLen])) rfl rfl ?_
    refine fs_app 35 7 [3, 5, 6] [(9, none), (33, some 5)] (gy1 rfl rfl) Tryd.underlying22 ti5 rfl (.sl rfl (by first | rfl | omega | (simp; done) | (simp [*]; done) | (simp; omega) | (simp [*]; omega) | (simp [D32.len, -List.length_flatten, *]; done) | (simp [D32.len, -List.length_flatten, *]; omega))) rfl (SM_full rfl (by first | rfl | omega | (simp; done) | (simp [*]; done) | (simp; omega) | (simp [*]; omega) | (simp [D32.len, -List.length_flatten, *]; done) | (simp [D32.len, -List.length_flatten, *]; omega))) (by first | rfl | omega | (simp; done) | (simp [*]; done) | (simp; omega) | (simp [*]; omega) | (simp [D32.len, -List.length_flatten, *]; done) | (simp [D32.len, -List.length_flatten, *]; omega)) (by first | omega | (simp only [maxLen]; omega) | (simp [maxLen]; done) | (simp [maxLen]; omega) | (simp [maxLen, *]; omega)) (by first | omega | (simp only [maxLen]; omega) | (simp [maxLen]; done) | (simp [maxLen]; omega) | (simp [maxLen, *]; omega)) rfl rfl rfl rfl ?_
    refine fs_qg 8 [3] [(8, none)] rfl rfl (y_cuta0 Tryd.underlying26 ti5 rfl rfl (by first | rfl | omega | (simp; done) | (simp [*]; done) | (simp; omega) | (simp [*]; omega) | (simp [D32.len, -List.length_flatten, *]; done) | (simp [D32.len, -List.length_flatten, *]; omega)) (by simp [maxLen])) rfl rfl ?_
    refine fs_app 37 9 [3, 7, 8] [(8, none), (35, some 7)] (gy1 rfl rfl) Tryd.underlying22 ti5 rfl (.sl rfl (by first | rfl | omega | (simp; done) | (simp [*]; done) | (simp; omega) | (simp [*]; omega) | (simp [D32.len, -List.length_flatten, *]; done) | (simp [D32.len, -List.length_flatten, *]; omega))) rfl (SM_full rfl (by first | rfl | omega | (simp; done) | (simp [*]; done) | (simp; omega) | (simp [*]; omega) | (simp [D32.len, -List.length_flatten, *]; done) | (simp [D32.len, -List.length_flatten, *]; omega))) (by first | rfl | omega | (simp; done) | (simp [*]; done) | (simp; omega) | (simp [*]; omega) | (simp [D32.len, -List.length_flatten, *]; done) | (simp [D32.len, -List.length_flatten, *]; omega)) (by first | omega | (simp only [maxLen]; omega) | (simp [maxLen]; done) | (simp [maxLen]; omega) | (simp [maxLen, *]; omega)) (by first | omega | (simp only [maxLen]; omega) | (simp [maxLen]; done) | (simp [maxLen]; omega) | (simp [maxLen, *]; omega)) rfl rfl rfl rfl ?_
    refine fs_call true 10 [3, 9] [(37, some 9)] (gy1 rfl rfl) rfl (.cons (.pure pu) (.cons (.sl rfl rfl (by first | rfl | omega | (simp; done) | (simp [*]; done) | (simp; omega) | (simp [*]; omega) | (simp [D32.len, -List.length_flatten, *]; done) | (simp [D32.len, -List.length_flatten, *]; omega)) (view_eq (by first | rfl | omega | (simp; done) | (simp [*]; done) | (simp; omega) | (simp [*]; omega) | (simp [D32.len, -List.length_flatten, *]; done) | (simp [D32.len, -List.length_flatten, *]; omega)) (by first | rfl | (simp; done) | (simp [*]; done))) (VwL.pure pul) pul) (.nil))) (tagged_ok [99, 104, 97, 105, 110] ((chainL f ((digs s).take j)) ++ q) (by simp; omega) (by simp)) pu (.inr fu) rfl rfl ?_
    refine fs_qg 11 [3, 4, 10] [] rfl rfl ((y_aqn Tryd.underlying26 Tryd.underlying5 ti5 (by kernel_rfl) rfl rfl (by first | assumption | (simp; done) | (simp [*]; done)) (by first | assumption | (simp; done) | (simp [*]; done))).v (v' := .b false) (congrArg A.b (by simp))) rfl rfl ?_
    refine fs_end (by kernel_rfl) ?_
    refine s1 (y_p rfl) rfl <| ?_
    refine at_nil ?_
    refine x_tn ?_
    refine at_else rfl ?_
    refine at_skip ?_
    refine x_bn ?_
    refine x_tn ?_
    refine at_region ?_
    refine s1 (addN _ 1 rfl rfl rfl rfl (by omega)) rfl <| s1 (y_p rfl) rfl <| ?_
    refine at_nil ?_
    exact at_end (j + 1) (by omega) (by omega) [(5, some 5), (6, some 6)] hI rfl rfl ⟨⟨_, rfl, .p rfl⟩, ⟨_, rfl, .p rfl⟩, ⟨_, rfl, .pure pu⟩, ⟨_, rfl, .pure pu⟩, ⟨_, rfl, .pure pu⟩, trivial⟩ ⟨.inr ⟨_, _, rfl, rfl, .of (by rw [chainL_succ hq]) (.pure pul)⟩, .inr ⟨_, _, rfl, rfl, .of (by rw [chainL_succ hq]) (.pure pul)⟩, trivial⟩
  · skip
    refine at_exit ?_
    refine x_te ?_
    refine x_te ?_
    refine x_be ?_
    refine x_tn ?_
    refine at_seq ?_
    refine at_region ?_
    refine s1 (y_p rfl) rfl <| ?_
    refine at_nil ?_
    refine x_tn ?_
    refine at_ret ?_
    refine at_result (rs := [.tmp 4]) rfl (r_tmp rfl r_nil) rfl

end Go.Abs.D2
