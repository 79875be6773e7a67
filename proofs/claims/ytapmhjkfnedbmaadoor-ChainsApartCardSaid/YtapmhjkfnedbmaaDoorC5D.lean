/-
  Layer 2: walks of the digest functions. Conditions: each theorem says its own.
-/
import Derived.Test.YtapmhjkfnedbmaaDoorC5C
namespace Go.Abs.D2
open Go Go.Eng Go.Abs Go.Proofs 

theorem tag_key (L : List (List UInt8)) (hD : D32 L) (hl : L.length = 19) : Con Tryd.prog 27 [.s [112, 117, 98, 108, 105, 99], .fz L.flatten.length (L.flatten.map u8)] (Ret (.ag ((keyD L).map u8))) := by
  rw [keyD_eq]; exact tagged_ok [112, 117, 98, 108, 105, 99] L.flatten (by rw [hD.len, hl]; omega) (by simp)

theorem join_key (L : List (List UInt8)) (hD : D32 L) (hl : L.length = 19) : Con Tryd.prog 39 [.fz 19 (L.map slA)] (RetO 1 L.flatten.length (L.flatten.map u8)) := by
  have := join_ok L (by omega) (by rw [hD.len, hl]; omega)
  rwa [hl] at this

set_option linter.unusedSimpArgs false in
set_option linter.unusedVariables false in
set_option maxHeartbeats 1000000 in
theorem publicOf_ok (L : List (List UInt8)) (hD : D32 L) (hl : L.length = 19) : Con Tryd.prog 32 [.ag (L.flatten.map u8)] (Ret (.ag ((keyD L).map u8))) := by
  refine enter Tryd.func32 rfl Tryd.ntmps32 (by kernel_rfl) (Nat.le_of_ble_eq_true rfl) fun w0 X0 hI => ?_
  refine at_seq ?_
  refine at_region ?_
  refine at_op rfl (n_boxA 1 rfl rfl rfl ?_)
  refine at_op rfl (n_alloc 2 rfl ti23 rfl rfl ?_)
  refine at_nil ?_
  refine x_tn ?_
  refine at_seq ?_
  refine at_region ?_
  refine at_op rfl (n_make 5 rfl 19 19 Tryd.underlying57 ti41 rfl rfl rfl rfl rfl (by first | omega | (simp only [maxLen]; omega) | (simp [maxLen]; done) | (simp [maxLen]; omega) | (simp [maxLen, *]; omega)) (by first | omega | (simp only [maxLen]; omega) | (simp [maxLen]; done) | (simp [maxLen]; omega) | (simp [maxLen, *]; omega)) (by first | omega | (simp only [maxLen]; omega) | (simp [maxLen]; done) | (simp [maxLen]; omega) | (simp [maxLen, *]; omega)) rfl ?_)
  refine s1 (y_p rfl) rfl <| ?_
  refine at_nil ?_
  refine x_tn ?_
  refine at_seq ?_
  refine at_seq ?_
  have hfl : (L.flatten.map u8).length = 608 := by rw [List.length_map, hD.len, hl]
  refine at_region ?_
  refine s1 ((y_p rfl).v (v' := .i .i64 0) rfl) rfl <| ?_
  refine at_nil ?_
  refine x_tn ?_
  refine at_block ?_
  refine at_loop (ι := Nat) (fun i => [(1, .p 1 0), (2, .p 2 0), (3, .sl 5 1 0 19), (6, nI i)]) (fun i => ⟨[(1, some (L.flatten.map u8)), (2, some (List.replicate 32 (u8 0))), (5, some (slotsC i))]⟩) (fun i => i ≤ 19) (fun i => 19 - i) ?_ ?_
  · exact at_ex (0) (Nat.zero_le _) [(1, some 1), (2, some 2), (5, some 5)] hI rfl rfl ⟨⟨_, rfl, .p rfl⟩, ⟨_, rfl, .p rfl⟩, ⟨_, rfl, .sl rfl (by first | rfl | omega | (simp; done) | (simp [*]; done) | (simp; omega) | (simp [*]; omega) | (simp [D32.len, -List.length_flatten, *]; done) | (simp [D32.len, -List.length_flatten, *]; omega))⟩, ⟨_, rfl, .pure pu⟩, trivial⟩ ⟨.inr ⟨_, _, rfl, rfl, .pure pul⟩, .inr ⟨_, _, rfl, rfl, .pure pul⟩, .inr ⟨_, _, rfl, rfl, .of (by rfl) (.pure (by simp [slotsC]; exact pul))⟩, trivial⟩
  rintro i hi
  refine at_seq ?_
  refine at_region ?_
  refine s1 (y_p rfl) rfl <| ?_
  refine at_nil ?_
  refine x_tn ?_
  refine at_seq ?_
  refine at_cond rfl (fun hc7 => ?_) (fun hc7 => ?_)
  · have h7 : i < 19 := by have := of_decide_eq_true hc7; omega
    refine at_skip ?_
    refine x_tn ?_
    refine at_seq ?_
    refine at_block ?_
    refine at_seq ?_
    refine at_region ?_
    refine s1 (y_p rfl) rfl <| s1 (y_p rfl) rfl <| ?_
    refine at_nil ?_
    refine x_tn ?_
    refine at_region ?_
    refine s1 (y_p rfl) rfl <| s1 (y_p rfl) rfl <| s1 (y_p rfl) rfl <| s1 (y_ixa i Tryd.underlying49 ti23 rfl rfl rfl (by omega) rfl) rfl <| s1 (y_cuta 32 Tryd.underlying23 ti5 rfl rfl (by omega) (by simp [maxLen]) bn bn (by omega) (by omega) rfl rfl) rfl <| s1 (y_ixs i Tryd.underlying57 ti41 rfl rfl rfl rfl (by omega) rfl) rfl <| ?_
    refine at_op rfl (n_store1 ti41 rfl rfl rfl rfl (by simp; omega) rfl ?_)
    refine at_nil ?_
    refine x_bn ?_
    refine x_tn ?_
    refine at_region ?_
    refine s1 (addN _ 1 rfl rfl rfl rfl (by omega)) rfl <| s1 (y_p rfl) rfl <| ?_
    refine at_nil ?_
    exact at_end (i + 1) (by omega) (by omega) [(1, some 1), (2, some 2), (5, some 5)] hI rfl rfl ⟨⟨_, rfl, .p rfl⟩, ⟨_, rfl, .p rfl⟩, ⟨_, rfl, .sl rfl (by first | rfl | omega | (simp; done) | (simp [*]; done) | (simp; omega) | (simp [*]; omega) | (simp [D32.len, -List.length_flatten, *]; done) | (simp [D32.len, -List.length_flatten, *]; omega))⟩, ⟨_, rfl, .pure pu⟩, trivial⟩ ⟨.inr ⟨_, _, rfl, rfl, .pure pul⟩, .inr ⟨_, _, rfl, rfl, .pure pul⟩, .inr ⟨_, _, rfl, rfl, .of (set_slots i h7) (ren_slots rfl _)⟩, trivial⟩
  · have h7 : i = 19 := by have := of_decide_eq_false hc7; omega
    subst h7
    refine at_exit ?_
    refine x_te ?_
    refine x_te ?_
    refine x_be ?_
    refine x_tn ?_
    refine at_seq ?_
    refine at_region ?_
    refine s1 (y_p rfl) rfl <| ?_
    refine at_op rfl (n_callO 17 rfl true rfl (.cons (.sl rfl rfl rfl (view_all (by simp)) (vw_slots hD hl rfl) pul) .nil) (join_key L hD hl) pul (.inr ful) rfl ?_)
    refine at_op rfl (n_call true rfl (.cons (.pure pu) (.cons (.sl rfl rfl rfl (view_eq (by rw [List.length_map, Nat.mul_one]) rfl) (VwL.pure pul) pul) .nil)) (tag_key L hD hl) pu (.inr fu) rfl ?_)
    refine at_op rfl (n_storeA ti23 rfl rfl rfl (by first | rfl | omega | (simp; done) | (simp [*]; done) | (simp; omega) | (simp [*]; omega) | (simp [D32.len, -List.length_flatten, *]; done) | (simp [D32.len, -List.length_flatten, *]; omega)) (by first | rfl | omega | (simp; done) | (simp [*]; done) | (simp; omega) | (simp [*]; omega) | (simp [D32.len, -List.length_flatten, *]; done) | (simp [D32.len, -List.length_flatten, *]; omega)) ?_)
    refine at_nil ?_
    refine x_tn ?_
    refine at_ret ?_
    refine at_result (rs := [.cell 2 23]) rfl (r_cellA ti23 rfl rfl (List.take_of_length_le (by simp)) (by simp) r_nil) rfl

set_option linter.unusedSimpArgs false in
set_option linter.unusedVariables false in
set_option maxHeartbeats 1000000 in
theorem public_ok (x : List UInt8) (hx : x.length = 32) : Con Tryd.prog 18 [.ag (x.map u8)] (Ret (.ag ((pubD x).map u8))) := by
  refine enter Tryd.func18 rfl Tryd.ntmps18 (by kernel_rfl) (Nat.le_of_ble_eq_true rfl) fun w0 X0 hI => ?_
  refine at_seq ?_
  refine at_region ?_
  refine at_op rfl (n_boxA 1 rfl rfl rfl ?_)
  refine at_op rfl (n_alloc 2 rfl ti23 rfl rfl ?_)
  refine at_nil ?_
  refine x_tn ?_
  refine at_seq ?_
  refine at_region ?_
  refine at_op rfl (n_alloc 3 rfl ti49 (by kernel_rfl) rfl ?_)
  refine at_nil ?_
  refine x_tn ?_
  refine at_seq ?_
  refine at_seq ?_
  refine at_region ?_
  refine s1 ((y_p rfl).v (v' := .i .i64 0) rfl) rfl <| ?_
  refine at_nil ?_
  refine x_tn ?_
  refine at_block ?_
  refine at_loop (ι := Nat) (fun i => [(1, .p 1 0), (2, .p 2 0), (3, .p 3 0), (5, nI i)]) (fun i => ⟨[(1, some (x.map u8)), (2, some (List.replicate 32 (u8 0))), (3, some (arrC 19 (pubL x i)))]⟩) (fun i => i ≤ 19) (fun i => 19 - i) ?_ ?_
  · exact at_ex (0) (Nat.zero_le _) [(1, some 1), (2, some 2), (3, some 3)] hI rfl rfl ⟨⟨_, rfl, .p rfl⟩, ⟨_, rfl, .p rfl⟩, ⟨_, rfl, .p rfl⟩, ⟨_, rfl, .pure pu⟩, trivial⟩ ⟨.inr ⟨_, _, rfl, rfl, .pure pul⟩, .inr ⟨_, _, rfl, rfl, .pure pul⟩, .inr ⟨_, _, rfl, rfl, .of (by rw [pubL_0, List.map_replicate]; exact arr_0 19) (.pure pul)⟩, trivial⟩
  rintro i hi
  have hDi := D32_pubL x i
  refine at_seq ?_
  refine at_region ?_
  refine s1 (y_p rfl) rfl <| ?_
  refine at_nil ?_
  refine x_tn ?_
  refine at_seq ?_
  refine at_cond rfl (fun hc6 => ?_) (fun hc6 => ?_)
  · have h6 : i < 19 := by have := of_decide_eq_true hc6; omega
    refine at_skip ?_
    refine x_tn ?_
    refine at_seq ?_
    refine at_block ?_
    refine at_seq ?_
    refine at_region ?_
    refine s1 (y_p rfl) rfl <| s1 (y_p rfl) rfl <| ?_
    refine at_nil ?_
    refine x_tn ?_
    refine at_region ?_
    refine s1 (y_p rfl) rfl <| s1 (y_loadA0 ti23 rfl rfl (by first | rfl | omega | (simp; done) | (simp [*]; done) | (simp; omega) | (simp [*]; omega) | (simp [D32.len, -List.length_flatten, *]; done) | (simp [D32.len, -List.length_flatten, *]; omega))) rfl <| s1 (y_p rfl) rfl <| ?_
    refine at_op rfl (n_call false rfl (.cons (.pure pu) (.cons (.pure pu) (.nil))) (begin_ok x i hx) pu (.inl rfl) rfl ?_)
    refine at_op rfl (n_call false rfl (.cons (.pure pu) (.cons (.pure pu) (.nil))) (after_ok (firstD x i) 3 (by simp) (by omega)) pu (.inl rfl) rfl ?_)
    refine s1 (y_ixa i Tryd.underlying49 ti23 rfl rfl rfl (by omega) rfl) rfl <| ?_
    refine at_op rfl (n_store ti23 rfl rfl rfl rfl rfl (len_it (by simp)) (by rw [len_arr hDi (by rw [len_pubL]; omega)]; omega) (put_arr hDi (by rw [len_pubL]; omega) (by rw [len_pubL])) ?_)
    refine at_nil ?_
    refine x_bn ?_
    refine x_tn ?_
    refine at_region ?_
    refine s1 (addN _ 1 rfl rfl rfl rfl (by omega)) rfl <| s1 (y_p rfl) rfl <| ?_
    refine at_nil ?_
    exact at_end (i + 1) (by omega) (by omega) [(1, some 1), (2, some 2), (3, some 3)] hI rfl rfl ⟨⟨_, rfl, .p rfl⟩, ⟨_, rfl, .p rfl⟩, ⟨_, rfl, .p rfl⟩, ⟨_, rfl, .pure pu⟩, trivial⟩ ⟨.inr ⟨_, _, rfl, rfl, .pure pul⟩, .inr ⟨_, _, rfl, rfl, .pure pul⟩, .inr ⟨_, _, rfl, rfl, .of (by rw [pubL_succ]) (.pure pul)⟩, trivial⟩
  · have h6 : i = 19 := by have := of_decide_eq_false hc6; omega
    subst h6
    refine at_sayO 3 rfl (arr_full (len_pubL x 19)) ?_
    refine at_exit ?_
    refine x_te ?_
    refine x_te ?_
    refine x_be ?_
    refine x_tn ?_
    refine at_seq ?_
    refine at_region ?_
    refine s1 (y_loadA0 ti49 rfl rfl (by rw [List.length_map, (D32_pubL x 19).len, len_pubL])) rfl <| ?_
    refine at_op rfl (n_call false rfl (.cons (.pure pu) (.nil)) (publicOf_ok (pubL x 19) (D32_pubL x 19) (len_pubL x 19)) pu (.inl rfl) rfl ?_)
    refine at_op rfl (n_storeA ti23 rfl rfl rfl (by first | rfl | omega | (simp; done) | (simp [*]; done) | (simp; omega) | (simp [*]; omega) | (simp [D32.len, -List.length_flatten, *]; done) | (simp [D32.len, -List.length_flatten, *]; omega)) (by first | rfl | omega | (simp; done) | (simp [*]; done) | (simp; omega) | (simp [*]; omega) | (simp [D32.len, -List.length_flatten, *]; done) | (simp [D32.len, -List.length_flatten, *]; omega)) ?_)
    refine at_nil ?_
    refine x_tn ?_
    refine at_ret ?_
    refine at_result (rs := [.cell 2 23]) rfl (r_cellA ti23 rfl rfl (List.take_of_length_le (by simp)) (by simp) r_nil) rfl

set_option linter.unusedSimpArgs false in
set_option linter.unusedVariables false in
set_option maxHeartbeats 1000000 in
theorem sign_ok (x m : List UInt8) (hx : x.length = 32) (hm : m.length = 32) : Con Tryd.prog 21 [.ag (x.map u8), .ag (m.map u8)] (Ret (dgs (signD x m))) := by
  refine enter Tryd.func21 rfl Tryd.ntmps21 (by kernel_rfl) (Nat.le_of_ble_eq_true rfl) fun w0 X0 hI => ?_
  refine at_seq ?_
  refine at_region ?_
  refine at_op rfl (n_boxA 2 rfl rfl rfl ?_)
  refine at_op rfl (n_boxA 3 rfl rfl rfl ?_)
  refine s1 (y_p rfl) rfl <| ?_
  refine at_nil ?_
  refine x_tn ?_
  refine at_seq ?_
  refine at_seq ?_
  refine at_region ?_
  refine s1 (y_loadA0 ti23 rfl rfl (by first | rfl | omega | (simp; done) | (simp [*]; done) | (simp; omega) | (simp [*]; omega) | (simp [D32.len, -List.length_flatten, *]; done) | (simp [D32.len, -List.length_flatten, *]; omega))) rfl <| ?_
  refine at_op rfl (n_call false rfl (.cons (.pure pu) (.nil)) (split_ok m hm) pu (.inl rfl) rfl ?_)
  refine s1 ((y_p rfl).v (v' := .i .i64 0) rfl) rfl <| ?_
  refine at_nil ?_
  refine x_tn ?_
  refine at_block ?_
  refine at_loop (ι := Nat) (fun i => [(2, .p 2 0), (4, .sl 4 32 0 i), (8, .ag ((digits m).map nI)), (9, nI i)]) (fun i => ⟨[(2, some (x.map u8)), (4, some ((signL x m i).flatten.map u8))]⟩) (fun i => i ≤ 19) (fun i => 19 - i) ?_ ?_
  · exact at_ex (0) (Nat.zero_le _) [(2, some 2), (4, none)] hI rfl rfl ⟨⟨_, rfl, .p rfl⟩, ⟨_, rfl, .nl rfl⟩, ⟨_, rfl, .pure pu⟩, ⟨_, rfl, .pure pu⟩, trivial⟩ ⟨.inr ⟨_, _, rfl, rfl, .pure pul⟩, .inl ⟨rfl, rfl⟩, trivial⟩
  rintro i hi
  have hDi := D32_signL x m i
  have hdi := dg_lt m i
  refine at_seq ?_
  refine at_region ?_
  refine s1 (y_p rfl) rfl <| ?_
  refine at_nil ?_
  refine x_tn ?_
  refine at_seq ?_
  refine at_cond rfl (fun hc10 => ?_) (fun hc10 => ?_)
  · have h10 : i < 19 := by have := of_decide_eq_true hc10; omega
    refine at_skip ?_
    refine x_tn ?_
    refine at_seq ?_
    refine at_block ?_
    refine at_seq ?_
    refine at_region ?_
    refine s1 (y_p rfl) rfl <| s1 (y_ixv i Tryd.underlying46 ti3 rfl rfl rfl h10 (get_dig m i h10)) rfl <| s1 (y_p rfl) rfl <| s1 (y_p rfl) rfl <| ?_
    refine at_nil ?_
    refine x_tn ?_
    refine at_region ?_
    refine s1 (y_p rfl) rfl <| s1 (y_loadA0 ti23 rfl rfl (by first | rfl | omega | (simp; done) | (simp [*]; done) | (simp; omega) | (simp [*]; omega) | (simp [D32.len, -List.length_flatten, *]; done) | (simp [D32.len, -List.length_flatten, *]; omega))) rfl <| s1 (y_p rfl) rfl <| ?_
    refine at_op rfl (n_call false rfl (.cons (.pure pu) (.cons (.pure pu) (.nil))) (begin_ok x i hx) pu (.inl rfl) rfl ?_)
    refine s1 (y_p rfl) rfl <| ?_
    refine at_op rfl (n_call false rfl (.cons (.pure pu) (.cons (.pure pu) (.nil))) (after_ok (firstD x i) (dg m i) (by simp) (by omega)) pu (.inl rfl) rfl ?_)
    refine at_op rfl (n_bs 19 rfl Tryd.underlying24 ti23 rfl rfl rfl (by simp [cellsA, len_iterD]) (List.append_nil ((iterD (dg m i) (firstD x i)).map u8)) rfl rfl rfl ?_)
    refine at_op rfl (n_app 20 rfl Tryd.underlying24 ti23 rfl (.sl rfl (by rw [List.length_map, hDi.len, len_signL])) rfl (SM_full rfl (by rw [List.length_map, len_iterD (by simp)])) (by simp [len_iterD]) (by simp only [maxLen]; omega) (by omega) rfl rfl rfl ?_)
    refine s1 (y_p rfl) rfl <| ?_
    refine at_nil ?_
    refine x_bn ?_
    refine x_tn ?_
    refine at_region ?_
    refine s1 (addN _ 1 rfl rfl rfl rfl (by omega)) rfl <| s1 (y_p rfl) rfl <| ?_
    refine at_nil ?_
    exact at_end (i + 1) (by omega) (by omega) [(2, some 2), (4, some 20)] hI rfl rfl ⟨⟨_, rfl, .p rfl⟩, ⟨_, rfl, .sl rfl (by first | rfl | omega | (simp; done) | (simp [*]; done) | (simp; omega) | (simp [*]; omega) | (simp [D32.len, -List.length_flatten, *]; done) | (simp [D32.len, -List.length_flatten, *]; omega))⟩, ⟨_, rfl, .pure pu⟩, ⟨_, rfl, .pure pu⟩, trivial⟩ ⟨.inr ⟨_, _, rfl, rfl, .pure pul⟩, .inr ⟨_, _, rfl, rfl, .of (sign_flat x m i) (.pure pul)⟩, trivial⟩
  · have h10 : i = 19 := by have := of_decide_eq_false hc10; omega
    subst h10
    refine at_exit ?_
    refine x_te ?_
    refine x_te ?_
    refine x_be ?_
    refine x_tn ?_
    refine at_seq ?_
    refine at_region ?_
    refine s1 (y_p rfl) rfl <| s1 (y_p rfl) rfl <| ?_
    refine at_nil ?_
    refine x_tn ?_
    refine at_ret ?_
    refine at_frz 4 rfl rfl pul (view_eq (by rw [List.length_map, (D32_signL x m _).len, len_signL]) rfl) ?_
    refine at_result (rs := [.tmp 4]) rfl (r_tmp rfl r_nil) ?_
    show A.fz _ _ = dgs (signL x m 19)
    rw [dgs, len_signL]

set_option linter.unusedSimpArgs false in
set_option linter.unusedVariables false in
set_option maxHeartbeats 1000000 in
theorem recover_ok (m : List UInt8) (S : List (List UInt8)) (hm : m.length = 32) (hS : D32 S) : Con Tryd.prog 16 [.ag (m.map u8), dgs S] (Ret (.tu [.ag ((recD m S).map u8), nI (recE S)])) := by
  refine enter Tryd.func16 rfl Tryd.ntmps16 (by kernel_rfl) (Nat.le_of_ble_eq_true rfl) fun w0 X0 hI => ?_
  refine at_seq ?_
  refine at_region ?_
  refine at_op rfl (n_boxA 2 rfl rfl rfl ?_)
  refine at_op rfl (n_alloc 4 rfl ti23 rfl rfl ?_)
  refine s1 ((y_p rfl).v (v' := .i .i64 0) rfl) rfl <| ?_
  refine at_nil ?_
  refine x_tn ?_
  refine at_seq ?_
  refine at_seq ?_
  refine at_region ?_
  refine s1 (y_p rfl) rfl <| s1 (y_len Tryd.underlying24 rfl rfl rfl) rfl <| s1 (y_p rfl) rfl <| ?_
  refine at_nil ?_
  refine x_tn ?_
  refine at_cond rfl (fun hc11 => ?_) (fun hc11 => ?_)
  · have h11 : S.length ≠ 19 := by have := bne_iff_ne.1 hc11; omega
    refine at_seq ?_
    refine at_region ?_
    refine s1 (y_loadA0 ti23 rfl rfl (by first | rfl | omega | (simp; done) | (simp [*]; done) | (simp; omega) | (simp [*]; omega) | (simp [D32.len, -List.length_flatten, *]; done) | (simp [D32.len, -List.length_flatten, *]; omega))) rfl <| ?_
    refine at_op rfl (n_storeA ti23 rfl rfl rfl (by first | rfl | omega | (simp; done) | (simp [*]; done) | (simp; omega) | (simp [*]; omega) | (simp [D32.len, -List.length_flatten, *]; done) | (simp [D32.len, -List.length_flatten, *]; omega)) (by first | rfl | omega | (simp; done) | (simp [*]; done) | (simp; omega) | (simp [*]; omega) | (simp [D32.len, -List.length_flatten, *]; done) | (simp [D32.len, -List.length_flatten, *]; omega)) ?_)
    refine s1 ((y_p rfl).v (v' := .i .i64 50) rfl) rfl <| ?_
    refine at_nil ?_
    refine x_tn ?_
    refine at_ret ?_
    refine x_tr ?_
    refine at_result (rs := [.cell 4 23, .tmp 5]) rfl (r_cellA ti23 rfl rfl (List.take_of_length_le (by simp)) (by simp) (r_tmp rfl r_nil)) ?_
    rw [(rec_no h11).1, (rec_no (m := m) h11).2]
    rfl
  · have h11 : S.length = 19 := by have := bne_eq_false_iff_eq.1 hc11; omega
    refine at_skip ?_
    refine x_tn ?_
    refine at_seq ?_
    refine at_region ?_
    refine at_op rfl (n_alloc 6 rfl ti49 (by kernel_rfl) rfl ?_)
    refine at_nil ?_
    refine x_tn ?_
    refine at_seq ?_
    refine at_seq ?_
    refine at_region ?_
    refine s1 (y_loadA0 ti23 rfl rfl (by first | rfl | omega | (simp; done) | (simp [*]; done) | (simp; omega) | (simp [*]; omega) | (simp [D32.len, -List.length_flatten, *]; done) | (simp [D32.len, -List.length_flatten, *]; omega))) rfl <| ?_
    refine at_op rfl (n_call false rfl (.cons (.pure pu) (.nil)) (split_ok m hm) pu (.inl rfl) rfl ?_)
    refine s1 ((y_p rfl).v (v' := .i .i64 0) rfl) rfl <| ?_
    refine at_nil ?_
    refine x_tn ?_
    refine at_block ?_
    refine at_loop (ι := Nat) (fun i => [(1, dgs S), (4, .p 4 0), (6, .p 6 0), (14, .ag ((digits m).map nI)), (15, nI i)]) (fun i => ⟨[(4, some (List.replicate 32 (u8 0))), (6, some (arrC 19 (recL m S i)))]⟩) (fun i => i ≤ 19) (fun i => 19 - i) ?_ ?_
    · exact at_ex (0) (Nat.zero_le _) [(4, some 4), (6, some 6)] hI rfl rfl ⟨⟨_, rfl, .pure pu⟩, ⟨_, rfl, .p rfl⟩, ⟨_, rfl, .p rfl⟩, ⟨_, rfl, .pure pu⟩, ⟨_, rfl, .pure pu⟩, trivial⟩ ⟨.inr ⟨_, _, rfl, rfl, .pure pul⟩, .inr ⟨_, _, rfl, rfl, .of (by rw [recL_0, List.map_replicate]; exact arr_0 19) (.pure pul)⟩, trivial⟩
    rintro i hi
    have hDi := D32_recL (m := m) hS i (by omega)
    have hdi := dg_lt m i
    refine at_seq ?_
    refine at_region ?_
    refine s1 (y_p rfl) rfl <| ?_
    refine at_nil ?_
    refine x_tn ?_
    refine at_seq ?_
    refine at_cond rfl (fun hc16 => ?_) (fun hc16 => ?_)
    · have h16 : i < 19 := by have := of_decide_eq_true hc16; omega
      obtain ⟨q, hq⟩ : ∃ q, S[i]? = some q := ⟨_, List.getElem?_eq_getElem (by omega)⟩
      have hq32 := hS q (List.mem_of_getElem? hq)
      have hq2 : S.getD i [] = q := by simp [hq]
      refine at_skip ?_
      refine x_tn ?_
      refine at_seq ?_
      refine at_block ?_
      refine at_seq ?_
      refine at_region ?_
      refine s1 (y_p rfl) rfl <| s1 (y_ixv i Tryd.underlying46 ti3 rfl rfl rfl h16 (get_dig m i h16)) rfl <| s1 (y_p rfl) rfl <| s1 (y_p rfl) rfl <| ?_
      refine at_nil ?_
      refine x_tn ?_
      refine at_region ?_
      refine s1 (y_p rfl) rfl <| s1 (y_p rfl) rfl <| s1 (y_p rfl) rfl <| s1 (y_ixf i Tryd.underlying24 ti23 rfl rfl rfl (by omega) rfl) rfl <| s1 (y_loadA ti23 rfl rfl (get_d5 hS hq) (by simp [hq32])) rfl <| s1 (y_p rfl) rfl <| s1 (subN 3 (dg m i) rfl rfl rfl rfl (by omega) (by omega)) rfl <| ?_
      refine at_op rfl (n_call false rfl (.cons (.pure pu) (.cons (.pure pu) (.nil))) (after_ok q (3 - dg m i) hq32 (by omega)) pu (.inl rfl) rfl ?_)
      refine s1 (y_ixa i Tryd.underlying49 ti23 rfl rfl rfl (by omega) rfl) rfl <| ?_
      refine at_op rfl (n_store ti23 rfl rfl rfl rfl rfl (len_it hq32) (by rw [len_arr hDi (by rw [len_recL]; omega)]; omega) (put_arr hDi (by rw [len_recL]; omega) (by rw [len_recL])) ?_)
      refine at_nil ?_
      refine x_bn ?_
      refine x_tn ?_
      refine at_region ?_
      refine s1 (addN _ 1 rfl rfl rfl rfl (by omega)) rfl <| s1 (y_p rfl) rfl <| ?_
      refine at_nil ?_
      exact at_end (i + 1) (by omega) (by omega) [(4, some 4), (6, some 6)] hI rfl rfl ⟨⟨_, rfl, .pure pu⟩, ⟨_, rfl, .p rfl⟩, ⟨_, rfl, .p rfl⟩, ⟨_, rfl, .pure pu⟩, ⟨_, rfl, .pure pu⟩, trivial⟩ ⟨.inr ⟨_, _, rfl, rfl, .pure pul⟩, .inr ⟨_, _, rfl, rfl, .of (by rw [recL_succ, hq2]) (.pure pul)⟩, trivial⟩
    · have h16 : i = 19 := by have := of_decide_eq_false hc16; omega
      subst h16
      refine at_sayO 6 rfl (arr_full (len_recL m S 19)) ?_
      refine at_exit ?_
      refine x_te ?_
      refine x_te ?_
      refine x_be ?_
      refine x_tn ?_
      refine at_seq ?_
      refine at_region ?_
      refine s1 (y_loadA0 ti49 rfl rfl (by rw [List.length_map, hDi.len, len_recL])) rfl <| ?_
      refine at_op rfl (n_call false rfl (.cons (.pure pu) (.nil)) (publicOf_ok (recL m S 19) hDi (len_recL m S 19)) pu (.inl rfl) rfl ?_)
      refine at_op rfl (n_storeA ti23 rfl rfl rfl (by first | rfl | omega | (simp; done) | (simp [*]; done) | (simp; omega) | (simp [*]; omega) | (simp [D32.len, -List.length_flatten, *]; done) | (simp [D32.len, -List.length_flatten, *]; omega)) (by first | rfl | omega | (simp; done) | (simp [*]; done) | (simp; omega) | (simp [*]; omega) | (simp [D32.len, -List.length_flatten, *]; done) | (simp [D32.len, -List.length_flatten, *]; omega)) ?_)
      refine s1 ((y_p rfl).v (v' := .i .i64 0) rfl) rfl <| ?_
      refine at_nil ?_
      refine x_tn ?_
      refine at_ret ?_
      refine at_result (rs := [.cell 4 23, .tmp 5]) rfl (r_cellA ti23 rfl rfl (List.take_of_length_le (by simp)) (by simp) (r_tmp rfl r_nil)) ?_
      rw [(rec_yes h11).1, (rec_yes (m := m) h11).2]
      rfl

set_option linter.unusedSimpArgs false in
set_option linter.unusedVariables false in
set_option maxHeartbeats 1000000 in
theorem verify_ok (p m : List UInt8) (S : List (List UInt8)) (hp : p.length = 32) (hm : m.length = 32) (hS : D32 S) : Con Tryd.prog 23 [.ag (p.map u8), .ag (m.map u8), dgs S] (Ret (.b (verD p m S))) := by
  refine enter Tryd.func23 rfl Tryd.ntmps23 (by kernel_rfl) (Nat.le_of_ble_eq_true rfl) fun w0 X0 hI => ?_
  refine at_seq ?_
  refine at_region ?_
  refine at_op rfl (n_boxA 3 rfl rfl rfl ?_)
  refine at_op rfl (n_boxA 4 rfl rfl rfl ?_)
  refine s1 (y_p rfl) rfl <| ?_
  refine at_nil ?_
  refine x_tn ?_
  refine at_seq ?_
  refine at_region ?_
  refine s1 (y_loadA0 ti23 rfl rfl (by first | rfl | omega | (simp; done) | (simp [*]; done) | (simp; omega) | (simp [*]; omega) | (simp [D32.len, -List.length_flatten, *]; done) | (simp [D32.len, -List.length_flatten, *]; omega))) rfl <| s1 (y_p rfl) rfl <| ?_
  refine at_op rfl (n_call false rfl (.cons (.pure pu) (.cons (.pure pu) (.nil))) (recover_ok m S hm hS) pu (.inl rfl) rfl ?_)
  refine s1 (y_p rfl) rfl <| s1 (y_p rfl) rfl <| s1 (y_p rfl) rfl <| ?_
  refine at_op rfl (n_alloc 7 rfl ti23 rfl rfl ?_)
  refine at_op rfl (n_storeA ti23 rfl rfl rfl (by first | rfl | omega | (simp; done) | (simp [*]; done) | (simp; omega) | (simp [*]; omega) | (simp [D32.len, -List.length_flatten, *]; done) | (simp [D32.len, -List.length_flatten, *]; omega)) (by first | rfl | omega | (simp; done) | (simp [*]; done) | (simp; omega) | (simp [*]; omega) | (simp [D32.len, -List.length_flatten, *]; done) | (simp [D32.len, -List.length_flatten, *]; omega)) ?_)
  refine s1 (y_p rfl) rfl <| ?_
  refine at_nil ?_
  refine x_tn ?_
  refine at_seq ?_
  refine at_region ?_
  refine s1 (y_p rfl) rfl <| s1 (y_p rfl) rfl <| s1 (y_p rfl) rfl <| ?_
  refine g_and 3 rfl rfl rfl rfl (fun hb17 => .step (y_loadA0 ti23 rfl rfl (by first | rfl | omega | (simp; done) | (simp [*]; done) | (simp; omega) | (simp [*]; omega) | (simp [D32.len, -List.length_flatten, *]; done) | (simp [D32.len, -List.length_flatten, *]; omega))) rfl rfl <| .step (y_loadA0 ti23 rfl rfl (by first | rfl | omega | (simp; done) | (simp [*]; done) | (simp; omega) | (simp [*]; omega) | (simp [D32.len, -List.length_flatten, *]; done) | (simp [D32.len, -List.length_flatten, *]; omega))) rfl rfl <| .step (y_aq Tryd.underlying23 Tryd.underlying5 ti5 (by kernel_rfl) rfl rfl (by first | assumption | (simp; done) | (simp [*]; done)) (by first | assumption | (simp; done) | (simp [*]; done))) rfl rfl <| .done) rfl rfl ?_
  refine s1 (y_p rfl) rfl <| ?_
  refine at_nil ?_
  refine x_tn ?_
  refine at_ret ?_
  refine at_result (rs := [.tmp 6]) rfl (r_tmp rfl r_nil) ?_
  exact congrArg A.b (by unfold verD; congr 1; by_cases h : recE S = 0 <;> simp [h])

set_option linter.unusedSimpArgs false in
set_option linter.unusedVariables false in
set_option maxHeartbeats 1000000 in
theorem earlier_ok (a b : List UInt8) (S : List (List UInt8)) (ha : a.length = 32) (hb : b.length = 32) : Con Tryd.prog 11 [.ag (a.map u8), dgs S, .ag (b.map u8)] (Ret (earV (earA a b S))) := by
  refine enter Tryd.func11 rfl Tryd.ntmps11 (by kernel_rfl) (Nat.le_of_ble_eq_true rfl) fun w0 X0 hI => ?_
  refine at_seq ?_
  refine at_region ?_
  refine at_op rfl (n_boxA 3 rfl rfl rfl ?_)
  refine at_op rfl (n_boxA 5 rfl rfl rfl ?_)
  refine s1 ((y_p rfl).v (v' := .i .i64 0) rfl) rfl <| s1 (y_p rfl) rfl <| ?_
  refine at_nil ?_
  refine x_tn ?_
  refine at_seq ?_
  refine at_seq ?_
  refine at_region ?_
  refine s1 (y_p rfl) rfl <| s1 (y_len Tryd.underlying24 rfl rfl rfl) rfl <| s1 (y_p rfl) rfl <| ?_
  refine at_nil ?_
  refine x_tn ?_
  refine at_cond rfl (fun hc13 => ?_) (fun hc13 => ?_)
  · have h13 : S.length ≠ 19 := by have := bne_iff_ne.1 hc13; omega
    refine at_seq ?_
    refine at_region ?_
    refine s1 ((y_p rfl).v (v' := .i .i64 0) rfl) rfl <| s1 (y_p rfl) rfl <| ?_
    refine at_nil ?_
    refine x_tn ?_
    refine at_ret ?_
    refine x_tr ?_
    refine at_result (rs := [.tmp 6, .tmp 7]) rfl (r_tmp rfl (r_tmp rfl r_nil)) ?_
    rw [earA, if_neg h13]; rfl
  · have h13 : S.length = 19 := by have := bne_eq_false_iff_eq.1 hc13; omega
    refine at_skip ?_
    refine x_tn ?_
    refine at_seq ?_
    refine at_fs ⟨_, [], []⟩ 6 4 hmix (le_refl rfl) ?_
    refine fs_q 0 [] [(3, none)] (y_loadA0 ti23 rfl rfl (by first | rfl | omega | (simp; done) | (simp [*]; done) | (simp; omega) | (simp [*]; omega) | (simp [D32.len, -List.length_flatten, *]; done) | (simp [D32.len, -List.length_flatten, *]; omega))) rfl rfl ?_
    refine fs_call false 1 [0] [] gy0 rfl (.cons (.pure pu) (.nil)) (split_ok a ha) pu (.inl rfl) rfl rfl ?_
    refine fs_q 2 [] [(5, none)] (y_loadA0 ti23 rfl rfl (by first | rfl | omega | (simp; done) | (simp [*]; done) | (simp; omega) | (simp [*]; omega) | (simp [D32.len, -List.length_flatten, *]; done) | (simp [D32.len, -List.length_flatten, *]; omega))) rfl rfl ?_
    refine fs_call false 3 [2] [] gy0 rfl (.cons (.pure pu) (.nil)) (split_ok b hb) pu (.inl rfl) rfl rfl ?_
    refine fs_alloc 8 4 [] gy0 ti46 rfl rfl rfl ?_
    refine fs_alloc 9 5 [] gy0 ti46 rfl rfl rfl ?_
    refine fs_end (by kernel_rfl) ?_
    refine at_op rfl (n_storeA ti46 rfl rfl rfl (by first | rfl | omega | (simp; done) | (simp [*]; done) | (simp; omega) | (simp [*]; omega) | (simp [D32.len, -List.length_flatten, *]; done) | (simp [D32.len, -List.length_flatten, *]; omega)) (by first | rfl | omega | (simp; done) | (simp [*]; done) | (simp; omega) | (simp [*]; omega) | (simp [D32.len, -List.length_flatten, *]; done) | (simp [D32.len, -List.length_flatten, *]; omega)) ?_)
    refine at_op rfl (n_storeA ti46 rfl rfl rfl (by first | rfl | omega | (simp; done) | (simp [*]; done) | (simp; omega) | (simp [*]; omega) | (simp [D32.len, -List.length_flatten, *]; done) | (simp [D32.len, -List.length_flatten, *]; omega)) (by first | rfl | omega | (simp; done) | (simp [*]; done) | (simp; omega) | (simp [*]; omega) | (simp [D32.len, -List.length_flatten, *]; done) | (simp [D32.len, -List.length_flatten, *]; omega)) ?_)
    refine at_nil ?_
    refine x_tn ?_
    refine at_seq ?_
    refine at_seq ?_
    refine at_region ?_
    refine s1 ((y_p rfl).v (v' := .i .i64 0) rfl) rfl <| ?_
    refine at_nil ?_
    refine x_tn ?_
    refine at_block ?_
    refine at_loop (ι := Nat) (fun i => [(6, nI 0), (7, .b false), (8, .p 8 0), (9, .p 9 0), (18, nI i)]) (fun i => ⟨[(8, some ((digits a).map nI)), (9, some ((digits b).map nI))]⟩) (fun i => i ≤ 19 ∧ ∀ k, k < i → ¬ dg b k < dg a k) (fun i => 19 - i) ?_ ?_
    · exact at_ex (0) (⟨Nat.zero_le _, fun k h => absurd h (by omega)⟩) [(8, some 8), (9, some 9)] hI rfl rfl ⟨⟨_, rfl, .pure pu⟩, ⟨_, rfl, .pure pu⟩, ⟨_, rfl, .p rfl⟩, ⟨_, rfl, .p rfl⟩, ⟨_, rfl, .pure pu⟩, trivial⟩ ⟨.inr ⟨_, _, rfl, rfl, .pure pul⟩, .inr ⟨_, _, rfl, rfl, .pure pul⟩, trivial⟩
    rintro i ⟨hi, hbef⟩
    refine at_seq ?_
    refine at_region ?_
    refine s1 (y_p rfl) rfl <| ?_
    refine at_nil ?_
    refine x_tn ?_
    refine at_seq ?_
    refine at_cond rfl (fun hc19 => ?_) (fun hc19 => ?_)
    · have h19 : i < 19 := by have := of_decide_eq_true hc19; omega
      refine at_skip ?_
      refine x_tn ?_
      refine at_seq ?_
      refine at_block ?_
      refine at_seq ?_
      refine at_region ?_
      refine s1 (y_p rfl) rfl <| s1 (y_p rfl) rfl <| ?_
      refine at_nil ?_
      refine x_tn ?_
      refine at_seq ?_
      refine at_draw_tail 6 hmix (by kernel_rfl) ?_
      refine t1 (y_p rfl) rfl <| t1 (y_ixa i Tryd.underlying46 ti3 rfl rfl rfl (by omega) rfl) rfl <| t1 (y_load ti3 rfl rfl (get_dig2 b i h19)) rfl <| t1 (y_p rfl) rfl <| t1 (y_ixa i Tryd.underlying46 ti3 rfl rfl rfl (by omega) rfl) rfl <| t1 (y_load ti3 rfl rfl (get_dig2 a i h19)) rfl <| ?_
      refine at_snil ?_
      refine s1 (y_p rfl) rfl <| ?_
      refine at_nil ?_
      refine x_tn ?_
      refine at_cond rfl (fun hc27 => ?_) (fun hc27 => ?_)
      · have h27 : dg b i < dg a i := by have := of_decide_eq_true hc27; omega
        refine at_seq ?_
        refine at_region ?_
        refine s1 (y_p rfl) rfl <| s1 (y_p rfl) rfl <| s1 (y_p rfl) rfl <| ?_
        refine at_nil ?_
        refine x_tn ?_
        refine at_ret ?_
        refine x_br ?_
        refine x_tr ?_
        refine x_tr ?_
        refine x_br ?_
        refine x_tr ?_
        refine at_result (rs := [.tmp 6, .tmp 7]) rfl (r_tmp rfl (r_tmp rfl r_nil)) ?_
        rw [earA, if_pos h13, ear_some h19 h27 hbef]; rfl
      · have h27 : ¬ dg b i < dg a i := by have := of_decide_eq_false hc27; omega
        refine at_skip ?_
        refine x_bn ?_
        refine x_tn ?_
        refine at_region ?_
        refine s1 (addN _ 1 rfl rfl rfl rfl (by omega)) rfl <| s1 (y_p rfl) rfl <| ?_
        refine at_nil ?_
        exact at_end (i + 1) (⟨by omega, fun k hk => by rcases Nat.lt_succ_iff_lt_or_eq.1 hk with h | h; exact hbef k h; subst h; omega⟩) (by omega) [(8, some 8), (9, some 9)] hI rfl rfl ⟨⟨_, rfl, .pure pu⟩, ⟨_, rfl, .pure pu⟩, ⟨_, rfl, .p rfl⟩, ⟨_, rfl, .p rfl⟩, ⟨_, rfl, .pure pu⟩, trivial⟩ ⟨.inr ⟨_, _, rfl, rfl, .pure pul⟩, .inr ⟨_, _, rfl, rfl, .pure pul⟩, trivial⟩
    · have h19 : i = 19 := by have := of_decide_eq_false hc19; omega
      subst h19
      refine at_exit ?_
      refine x_te ?_
      refine x_te ?_
      refine x_be ?_
      refine x_tn ?_
      refine at_seq ?_
      refine at_region ?_
      refine s1 ((y_p rfl).v (v' := .i .i64 0) rfl) rfl <| s1 (y_p rfl) rfl <| ?_
      refine at_nil ?_
      refine x_tn ?_
      refine at_ret ?_
      refine at_result (rs := [.tmp 6, .tmp 7]) rfl (r_tmp rfl (r_tmp rfl r_nil)) ?_
      rw [earA, if_pos h13, ear_none hbef]; rfl

end Go.Abs.D2
