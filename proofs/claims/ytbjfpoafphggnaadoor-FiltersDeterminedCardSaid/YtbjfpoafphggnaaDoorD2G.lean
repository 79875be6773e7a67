/-
  Layer 2: walks of the digest functions. Conditions: each theorem says its own.
-/
import Derived.Test.YtbjfpoafphggnaaDoorD2F
namespace Go.Abs.D2
open Go Go.Eng Go.Abs Go.Proofs 

set_option linter.unusedSimpArgs false in
set_option linter.unusedVariables false in
set_option maxHeartbeats 1000000 in
theorem hash_ok (parts : List (List UInt8)) (hk : parts.length ≤ 1048576) (ht : parts.flatten.length ≤ 140737488300000) : Con Tryd.prog 33 [.fz parts.length (parts.map slA)] (Ret (.ag ((sha parts.flatten).map u8))) := by
  refine enter Tryd.func33 rfl Tryd.ntmps33 (by kernel_rfl) (Nat.le_of_ble_eq_true rfl) fun w0 X0 hI => ?_
  refine at_seq ?_
  refine at_region ?_
  refine at_op rfl (n_alloc 2 rfl ti23 rfl rfl ?_)
  refine at_nil ?_
  refine x_tn ?_
  refine at_seq ?_
  refine at_region ?_
  refine s1 ((y_bldA (vs := [_, _, _, _, _, _, _, _]) ti69 rfl Tryd.underlying69 ti65 rfl rfl rfl rfl).v (v' := .ag (h0.l.map w32)) (by kernel_rfl)) rfl <| ?_
  refine at_op rfl (n_alloc 3 rfl ti69 rfl rfl ?_)
  refine at_op rfl (n_storeA ti69 rfl rfl rfl (by first | rfl | omega | (simp; done) | (simp [*]; done) | (simp; omega) | (simp [*]; omega) | (simp [D32.len, -List.length_flatten, *]; done) | (simp [D32.len, -List.length_flatten, *]; omega)) (by first | rfl | omega | (simp; done) | (simp [*]; done) | (simp; omega) | (simp [*]; omega) | (simp [D32.len, -List.length_flatten, *]; done) | (simp [D32.len, -List.length_flatten, *]; omega)) ?_)
  refine at_nil ?_
  refine x_tn ?_
  refine at_seq ?_
  refine at_region ?_
  refine s1 (y_func (us := [.p 3 0]) (vs := []) rfl rfl) rfl <| s1 (y_p rfl) rfl <| ?_
  refine at_op rfl (n_callGd ⟨[(3, some (h0.l.map w32))]⟩ [(3, (fin parts.flatten).l.map w32)] false rfl ⟨⟨rfl, VwL.pure pul⟩, trivial⟩ (.cons (.fn (.cons (.kp rfl) .nil) .nil) (.cons (.pure pu) .nil)) (blocks_ok parts hk ht) trivial (.inl rfl) (upd_1 (c0 := h0.l.map w32) rfl pul ful) rfl ?_)
  refine at_nil ?_
  refine x_tn ?_
  refine at_seq ?_
  refine at_seq ?_
  refine at_region ?_
  refine s1 ((y_p rfl).v (v' := .i .i64 0) rfl) rfl <| ?_
  refine at_nil ?_
  refine x_tn ?_
  refine at_block ?_
  refine at_loop (ι := Nat) (fun i => [(2, .p 2 0), (3, .p 3 0), (9, .i .i64 (i : Nat))]) (fun i => ⟨[(2, some ((outS (fin parts.flatten) i).map u8 ++ List.replicate (32 - i) (u8 0))), (3, some ((fin parts.flatten).l.map w32))]⟩) (fun i => i ≤ 32) (fun i => 32 - i) ?_ ?_
  · exact at_ex (0) (Nat.zero_le _) [(2, some 2), (3, some 3)] hI rfl rfl ⟨⟨_, rfl, .p rfl⟩, ⟨_, rfl, .p rfl⟩, ⟨_, rfl, .pure pu⟩, trivial⟩ ⟨.inr ⟨_, _, rfl, rfl, .pure pul⟩, .inr ⟨_, _, rfl, rfl, .pure pul⟩, trivial⟩
  rintro i hi
  refine at_seq ?_
  refine at_region ?_
  refine s1 (y_p rfl) rfl <| ?_
  refine at_nil ?_
  refine x_tn ?_
  refine at_seq ?_
  refine at_cond rfl (fun hc10 => ?_) (fun hc10 => ?_)
  · have hi2 : i < 32 := by have := of_decide_eq_true hc10; omega
    refine at_skip ?_
    refine x_tn ?_
    refine at_seq ?_
    refine at_block ?_
    refine at_seq ?_
    refine at_region ?_
    refine s1 (y_p rfl) rfl <| s1 (y_p rfl) rfl <| ?_
    refine at_nil ?_
    refine x_tn ?_
    refine at_region ?_
    refine s1 (y_p rfl) rfl <| s1 (y_p rfl) rfl <| s1 (quoN i 4 rfl rfl rfl rfl (by decide) (by omega)) rfl <| s1 (y_ixa (i / 4) Tryd.underlying69 ti65 rfl rfl rfl (by omega) rfl) rfl <| s1 (y_load ti65 rfl rfl (getW2 (i / 4) (by simp; omega) rfl)) rfl <| s1 (y_p rfl) rfl <| s1 (remN i 4 rfl rfl rfl rfl (by decide)) rfl <| s1 (mulN 8 (i % 4) rfl rfl rfl rfl (by omega)) rfl <| s1 (subN 24 (8 * (i % 4)) rfl rfl rfl rfl (by omega) (by omega)) rfl <| s1 (shr32 _ (24 - 8 * (i % 4)) rfl rfl rfl (by omega)) rfl <| ?_
    refine s1 (to8_32 _ Tryd.underlying65 Tryd.underlying5 rfl) rfl <| s1 (y_ixa i Tryd.underlying23 ti5 rfl rfl rfl (by omega) rfl) rfl <| ?_
    refine at_op rfl (n_store1 ti5 rfl rfl rfl rfl (by simp only [List.length_append, List.length_map, List.length_replicate, len_outS]; omega) (set_out _ i _ (by omega) rfl) ?_)
    refine at_nil ?_
    refine x_bn ?_
    refine x_tn ?_
    refine at_region ?_
    refine s1 (addN _ 1 rfl rfl rfl rfl (by omega)) rfl <| s1 (y_p rfl) rfl <| ?_
    refine at_nil ?_
    exact at_end (i + 1) (by omega) (by omega) [(2, some 2), (3, some 3)] hI rfl rfl ⟨⟨_, rfl, .p rfl⟩, ⟨_, rfl, .p rfl⟩, ⟨_, rfl, .pure pu⟩, trivial⟩ ⟨.inr ⟨_, _, rfl, rfl, .pure pul⟩, .inr ⟨_, _, rfl, rfl, .pure pul⟩, trivial⟩
  · have hi2 : i = 32 := by have := of_decide_eq_false hc10; omega
    subst hi2
    refine at_exit ?_
    refine x_te ?_
    refine x_te ?_
    refine x_be ?_
    refine x_tn ?_
    refine at_seq ?_
    refine at_sayO 2 rfl (cs' := (sha parts.flatten).map u8) (by simp [sha, fin]) ?_
    refine at_region ?_
    refine s1 (y_loadA0 ti23 rfl rfl (by first | rfl | omega | (simp; done) | (simp [*]; done) | (simp; omega) | (simp [*]; omega) | (simp [D32.len, -List.length_flatten, *]; done) | (simp [D32.len, -List.length_flatten, *]; omega))) rfl <| ?_
    refine at_op rfl (n_storeA ti23 rfl rfl rfl (by first | rfl | omega | (simp; done) | (simp [*]; done) | (simp; omega) | (simp [*]; omega) | (simp [D32.len, -List.length_flatten, *]; done) | (simp [D32.len, -List.length_flatten, *]; omega)) (by first | rfl | omega | (simp; done) | (simp [*]; done) | (simp; omega) | (simp [*]; omega) | (simp [D32.len, -List.length_flatten, *]; done) | (simp [D32.len, -List.length_flatten, *]; omega)) ?_)
    refine at_nil ?_
    refine x_tn ?_
    refine at_ret ?_
    refine at_result (rs := [.cell 2 23]) rfl (r_cellA ti23 rfl rfl (List.take_of_length_le (by simp)) (by simp) r_nil) rfl

set_option linter.unusedSimpArgs false in
set_option linter.unusedVariables false in
set_option maxHeartbeats 1000000 in
theorem tagged_ok (t b : List UInt8) (hb : b.length ≤ 140737488000000) (hl : t.length ≤ 140737488000000) : Con Tryd.prog 24 [.s t, .fz b.length (b.map u8)] (Ret (.ag ((tagged t b).map u8))) := by
  refine enter Tryd.func24 rfl Tryd.ntmps24 (by kernel_rfl) (Nat.le_of_ble_eq_true rfl) fun w0 X0 hI => ?_
  refine at_seq ?_
  refine at_region ?_
  refine at_op rfl (n_alloc 4 rfl ti23 rfl rfl ?_)
  refine at_nil ?_
  refine x_tn ?_
  refine at_seq ?_
  refine at_region ?_
  refine s1 (y_p rfl) rfl <| ?_
  refine at_op rfl (n_s2b Tryd.underlying9 Tryd.underlying24 Tryd.underlying5 rfl (by first | omega | (simp only [maxLen]; omega) | (simp [maxLen]; done) | (simp [maxLen]; omega) | (simp [maxLen, *]; omega)) rfl ?_)
  refine at_op rfl (n_bs1 8 rfl Tryd.underlying67 ti24 rfl rfl rfl rfl rfl ?_)
  refine at_op rfl (n_call true rfl (.cons (.sl rfl rfl (by first | rfl | omega | (simp; done) | (simp [*]; done) | (simp; omega) | (simp [*]; omega) | (simp [D32.len, -List.length_flatten, *]; done) | (simp [D32.len, -List.length_flatten, *]; omega)) (view_eq (by first | rfl | omega | (simp; done) | (simp [*]; done) | (simp; omega) | (simp [*]; omega) | (simp [D32.len, -List.length_flatten, *]; done) | (simp [D32.len, -List.length_flatten, *]; omega)) (by first | rfl | (simp; done) | (simp [*]; done))) (VwL.pure pul) pul) (.nil)) (by simpa using hash_ok [t] (by simp) (by simp; omega)) pu (.inr fu) rfl ?_)
  refine at_op rfl (n_alloc 5 rfl ti23 rfl rfl ?_)
  refine at_op rfl (n_storeA ti23 rfl rfl rfl (by first | rfl | omega | (simp; done) | (simp [*]; done) | (simp; omega) | (simp [*]; omega) | (simp [D32.len, -List.length_flatten, *]; done) | (simp [D32.len, -List.length_flatten, *]; omega)) (by first | rfl | omega | (simp; done) | (simp [*]; done) | (simp; omega) | (simp [*]; omega) | (simp [D32.len, -List.length_flatten, *]; done) | (simp [D32.len, -List.length_flatten, *]; omega)) ?_)
  refine at_nil ?_
  refine x_tn ?_
  refine at_seq ?_
  refine at_region ?_
  refine s1 (y_cuta0 Tryd.underlying23 ti5 rfl rfl (by first | rfl | omega | (simp; done) | (simp [*]; done) | (simp; omega) | (simp [*]; omega) | (simp [D32.len, -List.length_flatten, *]; done) | (simp [D32.len, -List.length_flatten, *]; omega)) (by simp [maxLen])) rfl <| s1 (y_p rfl) rfl <| ?_
  refine at_op rfl (n_bs1 12 rfl Tryd.underlying67 ti24 rfl rfl rfl rfl rfl ?_)
  refine at_op rfl (n_call true rfl (.cons (.sl rfl rfl rfl rfl (.cons (.sl rfl rfl rfl (view_eq (by simp) rfl) (VwL.pure pul) pul) (.cons (.pure pu) .nil)) pul) .nil) (by simpa [slA] using hash_ok [sha t, b] (by simp) (by simp; omega)) pu (.inr fu) rfl ?_)
  refine at_op rfl (n_storeA ti23 rfl rfl rfl (by first | rfl | omega | (simp; done) | (simp [*]; done) | (simp; omega) | (simp [*]; omega) | (simp [D32.len, -List.length_flatten, *]; done) | (simp [D32.len, -List.length_flatten, *]; omega)) (by first | rfl | omega | (simp; done) | (simp [*]; done) | (simp; omega) | (simp [*]; omega) | (simp [D32.len, -List.length_flatten, *]; done) | (simp [D32.len, -List.length_flatten, *]; omega)) ?_)
  refine at_nil ?_
  refine x_tn ?_
  refine at_ret ?_
  refine at_result (rs := [.cell 4 23]) rfl (r_cellA ti23 rfl rfl (List.take_of_length_le (by simp)) (by simp) r_nil) rfl

set_option linter.unusedSimpArgs false in
set_option linter.unusedVariables false in
set_option maxHeartbeats 1000000 in
theorem rtagged_ok (t b : List UInt8) (hb : b.length ≤ 140737488000000) (hl : t.length ≤ 140737488000000) : Con Tryd.prog 28 [.s t, .fz b.length (b.map u8)] (Ret (.ag ((tagged t b).map u8))) := by
  refine enter Tryd.func28 rfl Tryd.ntmps28 (by kernel_rfl) (Nat.le_of_ble_eq_true rfl) fun w0 X0 hI => ?_
  refine at_seq ?_
  refine at_region ?_
  refine at_op rfl (n_alloc 4 rfl ti23 rfl rfl ?_)
  refine at_nil ?_
  refine x_tn ?_
  refine at_seq ?_
  refine at_region ?_
  refine s1 (y_p rfl) rfl <| ?_
  refine at_op rfl (n_s2b Tryd.underlying9 Tryd.underlying24 Tryd.underlying5 rfl (by first | omega | (simp only [maxLen]; omega) | (simp [maxLen]; done) | (simp [maxLen]; omega) | (simp [maxLen, *]; omega)) rfl ?_)
  refine at_op rfl (n_call false rfl (.cons (.pure pu) (.nil)) (rsum_ok t (by omega)) pu (.inl rfl) rfl ?_)
  refine at_op rfl (n_alloc 5 rfl ti23 rfl rfl ?_)
  refine at_op rfl (n_storeA ti23 rfl rfl rfl (by first | rfl | omega | (simp; done) | (simp [*]; done) | (simp; omega) | (simp [*]; omega) | (simp [D32.len, -List.length_flatten, *]; done) | (simp [D32.len, -List.length_flatten, *]; omega)) (by first | rfl | omega | (simp; done) | (simp [*]; done) | (simp; omega) | (simp [*]; omega) | (simp [D32.len, -List.length_flatten, *]; done) | (simp [D32.len, -List.length_flatten, *]; omega)) ?_)
  refine at_nil ?_
  refine x_tn ?_
  refine at_seq ?_
  refine at_region ?_
  refine at_op rfl (n_bs1 9 rfl Tryd.underlying24 ti5 rfl rfl rfl rfl rfl ?_)
  refine s1 (y_cuta0 Tryd.underlying23 ti5 rfl rfl (by first | rfl | omega | (simp; done) | (simp [*]; done) | (simp; omega) | (simp [*]; omega) | (simp [D32.len, -List.length_flatten, *]; done) | (simp [D32.len, -List.length_flatten, *]; omega)) (by simp [maxLen])) rfl <| ?_
  refine at_op rfl (n_app 11 rfl Tryd.underlying24 ti5 rfl (.sl rfl (by first | rfl | omega | (simp; done) | (simp [*]; done) | (simp; omega) | (simp [*]; omega) | (simp [D32.len, -List.length_flatten, *]; done) | (simp [D32.len, -List.length_flatten, *]; omega))) rfl (SM_full rfl (by first | rfl | omega | (simp; done) | (simp [*]; done) | (simp; omega) | (simp [*]; omega) | (simp [D32.len, -List.length_flatten, *]; done) | (simp [D32.len, -List.length_flatten, *]; omega))) (by first | rfl | omega | (simp; done) | (simp [*]; done) | (simp; omega) | (simp [*]; omega) | (simp [D32.len, -List.length_flatten, *]; done) | (simp [D32.len, -List.length_flatten, *]; omega)) (by first | omega | (simp only [maxLen]; omega) | (simp [maxLen]; done) | (simp [maxLen]; omega) | (simp [maxLen, *]; omega)) (by first | omega | (simp only [maxLen]; omega) | (simp [maxLen]; done) | (simp [maxLen]; omega) | (simp [maxLen, *]; omega)) rfl rfl rfl ?_)
  refine s1 (y_p rfl) rfl <| ?_
  refine at_op rfl (n_app 13 rfl Tryd.underlying24 ti5 rfl (.sl rfl (by first | rfl | omega | (simp; done) | (simp [*]; done) | (simp; omega) | (simp [*]; omega) | (simp [D32.len, -List.length_flatten, *]; done) | (simp [D32.len, -List.length_flatten, *]; omega))) rfl rfl (by first | rfl | omega | (simp; done) | (simp [*]; done) | (simp; omega) | (simp [*]; omega) | (simp [D32.len, -List.length_flatten, *]; done) | (simp [D32.len, -List.length_flatten, *]; omega)) (by first | omega | (simp only [maxLen]; omega) | (simp [maxLen]; done) | (simp [maxLen]; omega) | (simp [maxLen, *]; omega)) (by first | omega | (simp only [maxLen]; omega) | (simp [maxLen]; done) | (simp [maxLen]; omega) | (simp [maxLen, *]; omega)) rfl rfl rfl ?_)
  refine at_op rfl (n_call true rfl (.cons (.sl rfl rfl (by first | rfl | omega | (simp; done) | (simp [*]; done) | (simp; omega) | (simp [*]; omega) | (simp [D32.len, -List.length_flatten, *]; done) | (simp [D32.len, -List.length_flatten, *]; omega)) (view_eq (by first | rfl | omega | (simp; done) | (simp [*]; done) | (simp; omega) | (simp [*]; omega) | (simp [D32.len, -List.length_flatten, *]; done) | (simp [D32.len, -List.length_flatten, *]; omega)) (by first | rfl | (simp; done) | (simp [*]; done))) (VwL.pure pul) pul) (.nil)) (by simpa [tagged] using rsum_ok (sha t ++ b) (by simp; omega)) pu (.inr fu) rfl ?_)
  refine at_op rfl (n_storeA ti23 rfl rfl rfl (by first | rfl | omega | (simp; done) | (simp [*]; done) | (simp; omega) | (simp [*]; omega) | (simp [D32.len, -List.length_flatten, *]; done) | (simp [D32.len, -List.length_flatten, *]; omega)) (by first | rfl | omega | (simp; done) | (simp [*]; done) | (simp; omega) | (simp [*]; omega) | (simp [D32.len, -List.length_flatten, *]; done) | (simp [D32.len, -List.length_flatten, *]; omega)) ?_)
  refine at_nil ?_
  refine x_tn ?_
  refine at_ret ?_
  refine at_result (rs := [.cell 4 23]) rfl (r_cellA ti23 rfl rfl (List.take_of_length_le (by simp)) (by simp) r_nil) rfl

end Go.Abs.D2
