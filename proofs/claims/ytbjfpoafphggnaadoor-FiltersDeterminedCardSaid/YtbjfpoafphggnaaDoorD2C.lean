/-
  Layer 2: walks of the digest functions. Conditions: each theorem says its own.
-/
import Derived.Test.YtbjfpoafphggnaaDoorD2B
namespace Go.Abs.D2
open Go Go.Eng Go.Abs Go.Proofs 

set_option linter.unusedSimpArgs false in
set_option linter.unusedVariables false in
set_option maxHeartbeats 1000000 in
theorem numbers_ok : Con Tryd.prog 45 [] (Ret (.ag (kTab.map w32))) := by
  refine enter Tryd.func45 rfl Tryd.ntmps45 (by kernel_rfl) (Nat.le_of_ble_eq_true rfl) fun w0 X0 hI => ?_
  refine at_seq ?_
  refine at_region ?_
  refine at_op rfl (n_alloc 0 rfl ti77 rfl rfl ?_)
  refine at_nil ?_
  refine x_tn ?_
  refine at_seq ?_
  refine at_region ?_
  refine s1 ((y_bldA (vs := [_, _, _, _, _, _, _, _, _, _, _, _, _, _, _, _, _, _, _, _, _, _, _, _, _, _, _, _, _, _, _, _, _, _, _, _, _, _, _, _, _, _, _, _, _, _, _, _, _, _, _, _, _, _, _, _, _, _, _, _, _, _, _, _]) ti77 rfl Tryd.underlying77 ti65 rfl rfl rfl rfl).v (v' := .ag (kTab.map w32)) (by kernel_rfl)) rfl <| ?_
  refine at_op rfl (n_storeA ti77 rfl rfl rfl (by first | rfl | omega | (simp; done) | (simp [*]; done) | (simp; omega) | (simp [*]; omega) | (simp [D32.len, -List.length_flatten, *]; done) | (simp [D32.len, -List.length_flatten, *]; omega)) (by first | rfl | omega | (simp; done) | (simp [*]; done) | (simp; omega) | (simp [*]; omega) | (simp [D32.len, -List.length_flatten, *]; done) | (simp [D32.len, -List.length_flatten, *]; omega)) ?_)
  refine at_nil ?_
  refine x_tn ?_
  refine at_ret ?_
  refine at_result (rs := [.cell 0 77]) rfl (r_cellA ti77 rfl rfl (List.take_of_length_le (by simp [len_kTab])) (by simp [len_kTab]) r_nil) rfl

set_option linter.unusedSimpArgs false in
set_option linter.unusedVariables false in
set_option maxHeartbeats 1000000 in
theorem block_ok (s : S8) (b : List UInt8) (hb : b.length = 64) : Con Tryd.prog 41 [.ag (s.l.map w32), .fz 64 (b.map u8)] (Ret (.ag ((comp s b).l.map w32))) := by
  refine enter Tryd.func41 rfl Tryd.ntmps41 (by kernel_rfl) (Nat.le_of_ble_eq_true rfl) fun w0 X0 hI => ?_
  refine at_seq ?_
  refine at_region ?_
  refine at_op rfl (n_boxA 2 rfl rfl rfl ?_)
  refine at_op rfl (n_alloc 4 rfl ti68 rfl rfl ?_)
  refine at_nil ?_
  refine x_tn ?_
  refine at_seq ?_
  refine at_region ?_
  refine s1 ((y_bld0 ti77 rfl Tryd.underlying77 ti65 rfl).v (v' := .ag ((words b 0).map w32 ++ List.replicate (64 - 0) (w32 0))) (by kernel_rfl)) rfl <| ?_
  refine at_op rfl (n_alloc 5 rfl ti77 rfl rfl ?_)
  refine at_op rfl (n_storeA ti77 rfl rfl rfl (by simp) (by simp) ?_)
  refine at_nil ?_
  refine x_tn ?_
  refine at_seq ?_
  refine at_seq ?_
  refine at_region ?_
  refine s1 ((y_p rfl).v (v' := .i .i64 0) rfl) rfl <| ?_
  refine at_nil ?_
  refine x_tn ?_
  refine at_block ?_
  refine at_loop (ι := Nat) (fun i => [(1, .fz 64 (b.map u8)), (2, .p 2 0), (4, .p 4 0), (5, .p 5 0), (6, .i .i64 (i : Nat))]) (fun i => ⟨[(2, some (s.l.map w32)), (4, some (List.replicate 8 (w32 0))), (5, some ((words b i).map w32 ++ List.replicate (64 - i) (w32 0)))]⟩) (fun i => i ≤ 16) (fun i => 16 - i) ?_ ?_
  · exact at_ex (0) (Nat.zero_le _) [(2, some 2), (4, some 4), (5, some 5)] hI rfl rfl ⟨⟨_, rfl, .pure pu⟩, ⟨_, rfl, .p rfl⟩, ⟨_, rfl, .p rfl⟩, ⟨_, rfl, .p rfl⟩, ⟨_, rfl, .pure pu⟩, trivial⟩ ⟨.inr ⟨_, _, rfl, rfl, .pure pul⟩, .inr ⟨_, _, rfl, rfl, .pure pul⟩, .inr ⟨_, _, rfl, rfl, .pure pul⟩, trivial⟩
  rintro i hi
  refine at_seq ?_
  refine at_seq ?_
  refine at_region ?_
  refine s1 (y_p rfl) rfl <| s1 (y_p rfl) rfl <| ?_
  refine at_nil ?_
  refine x_tn ?_
  refine at_cond rfl (fun hc24 => ?_) (fun hc24 => ?_)
  · have hi16 : i < 16 := by have := of_decide_eq_true hc24; omega
    refine at_skip ?_
    refine x_tn ?_
    refine at_seq ?_
    refine at_block ?_
    refine at_region ?_
    refine s1 (y_p rfl) rfl <| s1 (y_p rfl) rfl <| s1 (y_p rfl) rfl <| s1 (mulN 4 _ rfl rfl rfl rfl (by omega)) rfl <| s1 (y_p rfl) rfl <| s1 (mulN 4 _ rfl rfl rfl rfl (by omega)) rfl <| s1 (addN _ 4 rfl rfl rfl rfl (by omega)) rfl <| s1 (y_cutf 4 Tryd.underlying24 ti5 rfl (by simp [hb]) (bs rfl rfl) (bs rfl rfl) (by omega) (by omega) (by omega) rfl) rfl <| ?_
    refine at_op rfl (n_call false rfl (.cons (.pure pu) (.nil)) (word_ok b (4 * i) (by omega)) pu (.inl rfl) rfl ?_)
    refine s1 (y_ixa i Tryd.underlying77 ti65 rfl rfl rfl (by omega) rfl) rfl <| ?_
    refine at_op rfl (n_store1 ti65 rfl rfl rfl rfl (by first | rfl | omega | (simp; done) | (simp [*]; done) | (simp; omega) | (simp [*]; omega) | (simp [D32.len, -List.length_flatten, *]; done) | (simp [D32.len, -List.length_flatten, *]; omega)) (set_words b i (by omega)) ?_)
    refine at_nil ?_
    refine x_bn ?_
    refine x_tn ?_
    refine at_region ?_
    refine s1 (y_p rfl) rfl <| s1 (addN _ 1 rfl rfl rfl rfl (by omega)) rfl <| s1 (y_p rfl) rfl <| ?_
    refine at_nil ?_
    exact at_end (i + 1) (by omega) (by omega) [(2, some 2), (4, some 4), (5, some 5)] hI rfl rfl ⟨⟨_, rfl, .pure pu⟩, ⟨_, rfl, .p rfl⟩, ⟨_, rfl, .p rfl⟩, ⟨_, rfl, .p rfl⟩, ⟨_, rfl, .pure pu⟩, trivial⟩ ⟨.inr ⟨_, _, rfl, rfl, .pure pul⟩, .inr ⟨_, _, rfl, rfl, .pure pul⟩, .inr ⟨_, _, rfl, rfl, .pure pul⟩, trivial⟩
  · have hi16 : i = 16 := by have := of_decide_eq_false hc24; omega
    subst hi16
    refine at_exit ?_
    refine x_te ?_
    refine x_te ?_
    refine x_be ?_
    refine x_tn ?_
    refine at_seq ?_
    refine at_seq ?_
    refine at_region ?_
    refine s1 ((y_p rfl).v (v' := .i .i64 16) rfl) rfl <| ?_
    refine at_nil ?_
    refine x_tn ?_
    refine at_block ?_
    refine at_loop (ι := Nat) (fun k => [(2, .p 2 0), (4, .p 4 0), (5, .p 5 0), (7, .i .i64 ((16 + k : Nat) : Int))]) (fun k => ⟨[(2, some (s.l.map w32)), (4, some (List.replicate 8 (w32 0))), (5, some ((sched b k).map w32 ++ List.replicate (48 - k) (w32 0)))]⟩) (fun k => k ≤ 48) (fun k => 48 - k) ?_ ?_
    · skip
      refine at_sayO 5 rfl (cs' := (sched b 0).map w32 ++ List.replicate (48 - 0) (w32 0)) (by rw [sched_0]) ?_
      exact at_ex (0) (Nat.zero_le _) [(2, some 2), (4, some 4), (5, some 5)] hI rfl rfl ⟨⟨_, rfl, .p rfl⟩, ⟨_, rfl, .p rfl⟩, ⟨_, rfl, .p rfl⟩, ⟨_, rfl, .pure pu⟩, trivial⟩ ⟨.inr ⟨_, _, rfl, rfl, .pure pul⟩, .inr ⟨_, _, rfl, rfl, .pure pul⟩, .inr ⟨_, _, rfl, rfl, .pure pul⟩, trivial⟩
    rintro k hk
    refine at_seq ?_
    refine at_seq ?_
    refine at_region ?_
    refine s1 (y_p rfl) rfl <| s1 (y_p rfl) rfl <| ?_
    refine at_nil ?_
    refine x_tn ?_
    refine at_cond rfl (fun hc38 => ?_) (fun hc38 => ?_)
    · have hk48 : k < 48 := by have := of_decide_eq_true hc38; omega
      refine at_skip ?_
      refine x_tn ?_
      refine at_seq ?_
      refine at_block ?_
      refine at_seq ?_
      refine at_region ?_
      refine s1 (y_p rfl) rfl <| s1 (subN (16 + k) 15 rfl rfl rfl rfl (by omega) (by omega)) rfl <| s1 (y_ixa (16 + k - 15) Tryd.underlying77 ti65 rfl rfl rfl (by omega) rfl) rfl <| s1 (y_load ti65 rfl rfl (getW (16 + k - 15) (by first | rfl | omega | (simp; done) | (simp [*]; done) | (simp; omega) | (simp [*]; omega) | (simp [D32.len, -List.length_flatten, *]; done) | (simp [D32.len, -List.length_flatten, *]; omega)) rfl)) rfl <| s1 (y_p rfl) rfl <| ?_
      refine at_nil ?_
      refine x_tn ?_
      refine at_seq ?_
      refine at_region ?_
      refine s1 (y_p rfl) rfl <| s1 (subN (16 + k) 2 rfl rfl rfl rfl (by omega) (by omega)) rfl <| s1 (y_ixa (16 + k - 2) Tryd.underlying77 ti65 rfl rfl rfl (by omega) rfl) rfl <| s1 (y_load ti65 rfl rfl (getW (16 + k - 2) (by first | rfl | omega | (simp; done) | (simp [*]; done) | (simp; omega) | (simp [*]; omega) | (simp [D32.len, -List.length_flatten, *]; done) | (simp [D32.len, -List.length_flatten, *]; omega)) rfl)) rfl <| s1 (y_p rfl) rfl <| ?_
      refine at_nil ?_
      refine x_tn ?_
      refine at_fs ⟨_, [], []⟩ 29 4 hmix (le_refl rfl) ?_
      refine fs_q 0 [] [] (y_p rfl) rfl rfl ?_
      refine fs_q 1 [] [] (y_p rfl) rfl rfl ?_
      refine fs_q 2 [1] [] (subN (16 + k) 16 rfl rfl rfl rfl (by omega) (by omega)) rfl rfl ?_
      refine fs_q 3 [2] [(5, none)] (y_ixa (16 + k - 16) Tryd.underlying77 ti65 rfl rfl rfl (by omega) rfl) rfl rfl ?_
      refine fs_q 4 [3] [(5, none)] (y_load ti65 rfl rfl (getW (16 + k - 16) (by first | rfl | omega | (simp; done) | (simp [*]; done) | (simp; omega) | (simp [*]; omega) | (simp [D32.len, -List.length_flatten, *]; done) | (simp [D32.len, -List.length_flatten, *]; omega)) rfl)) rfl rfl ?_
      refine fs_q 5 [] [] (y_p rfl) rfl rfl ?_
      refine fs_call false 6 [5] [] gy0 rfl (.cons (.pure pu) (.cons (.pure pu) (.nil))) (ror_ok _ 7 (by decide)) pu (.inl rfl) rfl rfl ?_
      refine fs_q 7 [] [] (y_p rfl) rfl rfl ?_
      refine fs_call false 8 [7] [] gy0 rfl (.cons (.pure pu) (.cons (.pure pu) (.nil))) (ror_ok _ 18 (by decide)) pu (.inl rfl) rfl rfl ?_
      refine fs_q 9 [6, 8] [] (xor32 _ _ rfl rfl) rfl rfl ?_
      refine fs_q 10 [] [] (y_p rfl) rfl rfl ?_
      refine fs_q 11 [10] [] (shr32 _ 3 rfl rfl rfl (by decide)) rfl rfl ?_
      refine fs_q 12 [9, 11] [] (xor32 _ _ rfl rfl) rfl rfl ?_
      refine fs_q 13 [4, 12] [] (add32 _ _ rfl rfl) rfl rfl ?_
      refine fs_q 14 [] [] (y_p rfl) rfl rfl ?_
      refine fs_q 15 [14] [] (subN (16 + k) 7 rfl rfl rfl rfl (by omega) (by omega)) rfl rfl ?_
      refine fs_q 16 [15] [(5, none)] (y_ixa (16 + k - 7) Tryd.underlying77 ti65 rfl rfl rfl (by omega) rfl) rfl rfl ?_
      refine fs_q 17 [16] [(5, none)] (y_load ti65 rfl rfl (getW (16 + k - 7) (by first | rfl | omega | (simp; done) | (simp [*]; done) | (simp; omega) | (simp [*]; omega) | (simp [D32.len, -List.length_flatten, *]; done) | (simp [D32.len, -List.length_flatten, *]; omega)) rfl)) rfl rfl ?_
      refine fs_q 18 [13, 17] [] (add32 _ _ rfl rfl) rfl rfl ?_
      refine fs_q 19 [] [] (y_p rfl) rfl rfl ?_
      refine fs_call false 20 [19] [] gy0 rfl (.cons (.pure pu) (.cons (.pure pu) (.nil))) (ror_ok _ 17 (by decide)) pu (.inl rfl) rfl rfl ?_
      refine fs_q 21 [] [] (y_p rfl) rfl rfl ?_
      refine fs_call false 22 [21] [] gy0 rfl (.cons (.pure pu) (.cons (.pure pu) (.nil))) (ror_ok _ 19 (by decide)) pu (.inl rfl) rfl rfl ?_
      refine fs_q 23 [20, 22] [] (xor32 _ _ rfl rfl) rfl rfl ?_
      refine fs_q 24 [] [] (y_p rfl) rfl rfl ?_
      refine fs_q 25 [24] [] (shr32 _ 10 rfl rfl rfl (by decide)) rfl rfl ?_
      refine fs_q 26 [23, 25] [] (xor32 _ _ rfl rfl) rfl rfl ?_
      refine fs_q 27 [18, 26] [] (add32 _ _ rfl rfl) rfl rfl ?_
      refine fs_q 28 [0] [(5, none)] (y_ixa (16 + k) Tryd.underlying77 ti65 rfl rfl rfl (by omega) rfl) rfl rfl ?_
      refine fs_end (by kernel_rfl) ?_
      refine at_op rfl (n_store1 ti65 rfl rfl rfl rfl (by first | rfl | omega | (simp; done) | (simp [*]; done) | (simp; omega) | (simp [*]; omega) | (simp [D32.len, -List.length_flatten, *]; done) | (simp [D32.len, -List.length_flatten, *]; omega)) (set_sched b k _ (by omega) rfl) ?_)
      refine at_nil ?_
      refine x_bn ?_
      refine x_tn ?_
      refine at_region ?_
      refine s1 (y_p rfl) rfl <| s1 (addN _ 1 rfl rfl rfl rfl (by omega)) rfl <| s1 (y_p rfl) rfl <| ?_
      refine at_nil ?_
      exact at_end (k + 1) (by omega) (by omega) [(2, some 2), (4, some 4), (5, some 5)] hI rfl rfl ⟨⟨_, rfl, .p rfl⟩, ⟨_, rfl, .p rfl⟩, ⟨_, rfl, .p rfl⟩, ⟨_, rfl, .pure pu⟩, trivial⟩ ⟨.inr ⟨_, _, rfl, rfl, .pure pul⟩, .inr ⟨_, _, rfl, rfl, .pure pul⟩, .inr ⟨_, _, rfl, rfl, .pure pul⟩, trivial⟩
    · have hk48 : k = 48 := by have := of_decide_eq_false hc38; omega
      subst hk48
      refine at_exit ?_
      refine x_te ?_
      refine x_te ?_
      refine x_be ?_
      refine x_tn ?_
      refine at_seq ?_
      refine at_region ?_
      refine at_op rfl (n_call false rfl (.nil) (numbers_ok) pu (.inl rfl) rfl ?_)
      refine at_op rfl (n_alloc 10 rfl ti77 rfl rfl ?_)
      refine at_op rfl (n_storeA ti77 rfl rfl rfl (by simp [len_kTab]) (by simp) ?_)
      refine at_nil ?_
      refine x_tn ?_
      refine at_seq ?_
      refine at_draw_tail 23 hmix (by kernel_rfl) ?_
      refine t1 (y_ixa 0 Tryd.underlying68 ti65 rfl rfl rfl (by omega) rfl) rfl <| t1 (y_load ti65 rfl rfl rfl) rfl <| t1 (y_ixa 1 Tryd.underlying68 ti65 rfl rfl rfl (by omega) rfl) rfl <| t1 (y_load ti65 rfl rfl rfl) rfl <| t1 (y_ixa 2 Tryd.underlying68 ti65 rfl rfl rfl (by omega) rfl) rfl <| t1 (y_load ti65 rfl rfl rfl) rfl <| t1 (y_ixa 3 Tryd.underlying68 ti65 rfl rfl rfl (by omega) rfl) rfl <| t1 (y_load ti65 rfl rfl rfl) rfl <| t1 (y_ixa 4 Tryd.underlying68 ti65 rfl rfl rfl (by omega) rfl) rfl <| t1 (y_load ti65 rfl rfl rfl) rfl <| ?_
      refine t1 (y_ixa 5 Tryd.underlying68 ti65 rfl rfl rfl (by omega) rfl) rfl <| t1 (y_load ti65 rfl rfl rfl) rfl <| t1 (y_ixa 6 Tryd.underlying68 ti65 rfl rfl rfl (by omega) rfl) rfl <| t1 (y_load ti65 rfl rfl rfl) rfl <| t1 (y_ixa 7 Tryd.underlying68 ti65 rfl rfl rfl (by omega) rfl) rfl <| t1 (y_load ti65 rfl rfl rfl) rfl <| t1 (y_p rfl) rfl <| t1 (y_p rfl) rfl <| t1 (y_p rfl) rfl <| t1 (y_p rfl) rfl <| ?_
      refine t1 (y_p rfl) rfl <| t1 (y_p rfl) rfl <| t1 (y_p rfl) rfl <| ?_
      refine at_snil ?_
      refine s1 (y_p rfl) rfl <| ?_
      refine at_nil ?_
      refine x_tn ?_
      refine at_seq ?_
      refine at_seq ?_
      refine at_region ?_
      refine s1 ((y_p rfl).v (v' := .i .i64 0) rfl) rfl <| ?_
      refine at_nil ?_
      refine x_tn ?_
      refine at_block ?_
      refine at_loop (ι := Nat) (fun t => [(2, .p 2 0), (4, .p 4 0), (5, .p 5 0), (10, .p 10 0), (19, .i .i64 (t : Nat)), (11, w32 (rounds (sched b 48) s t).a), (12, w32 (rounds (sched b 48) s t).b), (13, w32 (rounds (sched b 48) s t).c), (14, w32 (rounds (sched b 48) s t).d), (15, w32 (rounds (sched b 48) s t).e), (16, w32 (rounds (sched b 48) s t).f), (17, w32 (rounds (sched b 48) s t).g), (18, w32 (rounds (sched b 48) s t).h)]) (fun t => ⟨[(2, some (s.l.map w32)), (4, some (List.replicate 8 (w32 0))), (5, some ((sched b 48).map w32 ++ List.replicate (48 - 48) (w32 0))), (10, some (kTab.map w32))]⟩) (fun t => t ≤ 64) (fun t => 64 - t) ?_ ?_
      · exact at_ex (0) (Nat.zero_le _) [(2, some 2), (4, some 4), (5, some 5), (10, some 10)] hI rfl rfl ⟨⟨_, rfl, .p rfl⟩, ⟨_, rfl, .p rfl⟩, ⟨_, rfl, .p rfl⟩, ⟨_, rfl, .p rfl⟩, ⟨_, rfl, .pure pu⟩, ⟨_, rfl, .pure pu⟩, ⟨_, rfl, .pure pu⟩, ⟨_, rfl, .pure pu⟩, ⟨_, rfl, .pure pu⟩, ⟨_, rfl, .pure pu⟩, ⟨_, rfl, .pure pu⟩, ⟨_, rfl, .pure pu⟩, ⟨_, rfl, .pure pu⟩, trivial⟩ ⟨.inr ⟨_, _, rfl, rfl, .pure pul⟩, .inr ⟨_, _, rfl, rfl, .pure pul⟩, .inr ⟨_, _, rfl, rfl, .pure pul⟩, .inr ⟨_, _, rfl, rfl, .pure pul⟩, trivial⟩
      rintro t ht
      refine at_seq ?_
      refine at_seq ?_
      refine at_region ?_
      refine s1 (y_p rfl) rfl <| s1 (y_p rfl) rfl <| ?_
      refine at_nil ?_
      refine x_tn ?_
      refine at_cond rfl (fun hc96 => ?_) (fun hc96 => ?_)
      · have ht64 : t < 64 := by have := of_decide_eq_true hc96; omega
        refine at_skip ?_
        refine x_tn ?_
        refine at_seq ?_
        refine at_block ?_
        refine at_seq ?_
        refine at_fs ⟨_, [], []⟩ 27 4 hmix (le_refl rfl) ?_
        refine fs_q 0 [] [] (y_p rfl) rfl rfl ?_
        refine fs_q 1 [] [] (y_p rfl) rfl rfl ?_
        refine fs_call false 2 [1] [] gy0 rfl (.cons (.pure pu) (.cons (.pure pu) (.nil))) (ror_ok _ 6 (by decide)) pu (.inl rfl) rfl rfl ?_
        refine fs_q 3 [] [] (y_p rfl) rfl rfl ?_
        refine fs_call false 4 [3] [] gy0 rfl (.cons (.pure pu) (.cons (.pure pu) (.nil))) (ror_ok _ 11 (by decide)) pu (.inl rfl) rfl rfl ?_
        refine fs_q 5 [2, 4] [] (xor32 _ _ rfl rfl) rfl rfl ?_
        refine fs_q 6 [] [] (y_p rfl) rfl rfl ?_
        refine fs_call false 7 [6] [] gy0 rfl (.cons (.pure pu) (.cons (.pure pu) (.nil))) (ror_ok _ 25 (by decide)) pu (.inl rfl) rfl rfl ?_
        refine fs_q 8 [5, 7] [] (xor32 _ _ rfl rfl) rfl rfl ?_
        refine fs_q 9 [0, 8] [] (add32 _ _ rfl rfl) rfl rfl ?_
        refine fs_q 10 [] [] (y_p rfl) rfl rfl ?_
        refine fs_q 11 [] [] (y_p rfl) rfl rfl ?_
        refine fs_q 12 [10, 11] [] (and32 _ _ rfl rfl) rfl rfl ?_
        refine fs_q 13 [] [] (y_p rfl) rfl rfl ?_
        refine fs_q 14 [13] [] (not32 _ rfl) rfl rfl ?_
        refine fs_q 15 [] [] (y_p rfl) rfl rfl ?_
        refine fs_q 16 [14, 15] [] (and32 _ _ rfl rfl) rfl rfl ?_
        refine fs_q 17 [12, 16] [] (xor32 _ _ rfl rfl) rfl rfl ?_
        refine fs_q 18 [9, 17] [] (add32 _ _ rfl rfl) rfl rfl ?_
        refine fs_q 19 [] [] (y_p rfl) rfl rfl ?_
        refine fs_q 20 [19] [(10, none)] (y_ixa t Tryd.underlying77 ti65 rfl rfl rfl (by omega) rfl) rfl rfl ?_
        refine fs_q 21 [20] [(10, none)] (y_load ti65 rfl rfl (getW2 t (by first | (simp [len_kTab]; done) | (simp [len_kTab]; omega)) rfl)) rfl rfl ?_
        refine fs_q 22 [18, 21] [] (add32 _ _ rfl rfl) rfl rfl ?_
        refine fs_q 23 [] [] (y_p rfl) rfl rfl ?_
        refine fs_q 24 [23] [(5, none)] (y_ixa t Tryd.underlying77 ti65 rfl rfl rfl (by omega) rfl) rfl rfl ?_
        refine fs_q 25 [24] [(5, none)] (y_load ti65 rfl rfl (getW t (by first | rfl | omega | (simp; done) | (simp [*]; done) | (simp; omega) | (simp [*]; omega) | (simp [D32.len, -List.length_flatten, *]; done) | (simp [D32.len, -List.length_flatten, *]; omega)) rfl)) rfl rfl ?_
        refine fs_q 26 [22, 25] [] (add32 _ _ rfl rfl) rfl rfl ?_
        refine fs_end (by kernel_rfl) ?_
        refine s1 (y_p rfl) rfl <| ?_
        refine at_nil ?_
        refine x_tn ?_
        refine at_seq ?_
        refine at_region ?_
        refine s1 (y_p rfl) rfl <| ?_
        refine at_op rfl (n_call false rfl (.cons (.pure pu) (.cons (.pure pu) (.nil))) (ror_ok _ 2 (by decide)) pu (.inl rfl) rfl ?_)
        refine s1 (y_p rfl) rfl <| ?_
        refine at_op rfl (n_call false rfl (.cons (.pure pu) (.cons (.pure pu) (.nil))) (ror_ok _ 13 (by decide)) pu (.inl rfl) rfl ?_)
        refine s1 (xor32 _ _ rfl rfl) rfl <| s1 (y_p rfl) rfl <| ?_
        refine at_op rfl (n_call false rfl (.cons (.pure pu) (.cons (.pure pu) (.nil))) (ror_ok _ 22 (by decide)) pu (.inl rfl) rfl ?_)
        refine s1 (xor32 _ _ rfl rfl) rfl <| s1 (y_p rfl) rfl <| s1 (y_p rfl) rfl <| s1 (and32 _ _ rfl rfl) rfl <| s1 (y_p rfl) rfl <| s1 (y_p rfl) rfl <| s1 (and32 _ _ rfl rfl) rfl <| s1 (xor32 _ _ rfl rfl) rfl <| s1 (y_p rfl) rfl <| s1 (y_p rfl) rfl <| ?_
        refine s1 (and32 _ _ rfl rfl) rfl <| s1 (xor32 _ _ rfl rfl) rfl <| s1 (add32 _ _ rfl rfl) rfl <| s1 (y_p rfl) rfl <| ?_
        refine at_nil ?_
        refine x_tn ?_
        refine at_region ?_
        refine s1 (y_p rfl) rfl <| s1 (y_p rfl) rfl <| s1 (y_p rfl) rfl <| s1 (y_p rfl) rfl <| s1 (y_p rfl) rfl <| s1 (add32 _ _ rfl rfl) rfl <| s1 (y_p rfl) rfl <| s1 (y_p rfl) rfl <| s1 (y_p rfl) rfl <| s1 (y_p rfl) rfl <| ?_
        refine s1 (y_p rfl) rfl <| s1 (add32 _ _ rfl rfl) rfl <| s1 (y_p rfl) rfl <| s1 (y_p rfl) rfl <| s1 (y_p rfl) rfl <| s1 (y_p rfl) rfl <| s1 (y_p rfl) rfl <| s1 (y_p rfl) rfl <| s1 (y_p rfl) rfl <| s1 (y_p rfl) rfl <| ?_
        refine at_nil ?_
        refine x_bn ?_
        refine x_tn ?_
        refine at_region ?_
        refine s1 (y_p rfl) rfl <| s1 (addN _ 1 rfl rfl rfl rfl (by omega)) rfl <| s1 (y_p rfl) rfl <| ?_
        refine at_nil ?_
        exact at_end (t + 1) (by omega) (by omega) [(2, some 2), (4, some 4), (5, some 5), (10, some 10)] hI rfl rfl ⟨⟨_, rfl, .p rfl⟩, ⟨_, rfl, .p rfl⟩, ⟨_, rfl, .p rfl⟩, ⟨_, rfl, .p rfl⟩, ⟨_, rfl, .pure pu⟩, ⟨_, rfl, .pure pu⟩, ⟨_, rfl, .pure pu⟩, ⟨_, rfl, .pure pu⟩, ⟨_, rfl, .pure pu⟩, ⟨_, rfl, .pure pu⟩, ⟨_, rfl, .pure pu⟩, ⟨_, rfl, .pure pu⟩, ⟨_, rfl, .pure pu⟩, trivial⟩ ⟨.inr ⟨_, _, rfl, rfl, .pure pul⟩, .inr ⟨_, _, rfl, rfl, .pure pul⟩, .inr ⟨_, _, rfl, rfl, .pure pul⟩, .inr ⟨_, _, rfl, rfl, .pure pul⟩, trivial⟩
      · have ht64 : t = 64 := by have := of_decide_eq_false hc96; omega
        subst ht64
        refine at_exit ?_
        refine x_te ?_
        refine x_te ?_
        refine x_be ?_
        refine x_tn ?_
        refine at_seq ?_
        refine at_region ?_
        refine s1 (y_ixa 0 Tryd.underlying68 ti65 rfl rfl rfl (by omega) rfl) rfl <| s1 (y_load ti65 rfl rfl rfl) rfl <| s1 (y_p rfl) rfl <| s1 (add32 _ _ rfl rfl) rfl <| s1 (y_ixa 1 Tryd.underlying68 ti65 rfl rfl rfl (by omega) rfl) rfl <| s1 (y_load ti65 rfl rfl rfl) rfl <| s1 (y_p rfl) rfl <| s1 (add32 _ _ rfl rfl) rfl <| s1 (y_ixa 2 Tryd.underlying68 ti65 rfl rfl rfl (by omega) rfl) rfl <| s1 (y_load ti65 rfl rfl rfl) rfl <| ?_
        refine s1 (y_p rfl) rfl <| s1 (add32 _ _ rfl rfl) rfl <| s1 (y_ixa 3 Tryd.underlying68 ti65 rfl rfl rfl (by omega) rfl) rfl <| s1 (y_load ti65 rfl rfl rfl) rfl <| s1 (y_p rfl) rfl <| s1 (add32 _ _ rfl rfl) rfl <| s1 (y_ixa 4 Tryd.underlying68 ti65 rfl rfl rfl (by omega) rfl) rfl <| s1 (y_load ti65 rfl rfl rfl) rfl <| s1 (y_p rfl) rfl <| s1 (add32 _ _ rfl rfl) rfl <| ?_
        refine s1 (y_ixa 5 Tryd.underlying68 ti65 rfl rfl rfl (by omega) rfl) rfl <| s1 (y_load ti65 rfl rfl rfl) rfl <| s1 (y_p rfl) rfl <| s1 (add32 _ _ rfl rfl) rfl <| s1 (y_ixa 6 Tryd.underlying68 ti65 rfl rfl rfl (by omega) rfl) rfl <| s1 (y_load ti65 rfl rfl rfl) rfl <| s1 (y_p rfl) rfl <| s1 (add32 _ _ rfl rfl) rfl <| s1 (y_ixa 7 Tryd.underlying68 ti65 rfl rfl rfl (by omega) rfl) rfl <| s1 (y_load ti65 rfl rfl rfl) rfl <| ?_
        refine s1 (y_p rfl) rfl <| s1 (add32 _ _ rfl rfl) rfl <| s1 (y_bldA (vs := [_, _, _, _, _, _, _, _]) ti68 rfl Tryd.underlying68 ti65 rfl rfl rfl rfl) rfl <| ?_
        refine at_op rfl (n_storeA ti68 rfl rfl rfl (by simp) (by simp) ?_)
        refine at_nil ?_
        refine x_tn ?_
        refine at_ret ?_
        refine at_result (rs := [.cell 4 68]) rfl (r_cellA ti68 rfl rfl rfl (by simp) r_nil) rfl

end Go.Abs.D2
