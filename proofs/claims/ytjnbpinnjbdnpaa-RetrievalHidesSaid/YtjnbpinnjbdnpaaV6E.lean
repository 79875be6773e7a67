/-
  Layer 2: walks of the digest functions. Conditions: each theorem says its own.
-/
import Derived.Test.YtjnbpinnjbdnpaaV6D
import Derived.Test.YtjnbpinnjbdnpaaV6R
namespace Go.Abs.D2
open Go Go.Eng Go.Abs Go.Proofs 

set_option linter.unusedSimpArgs false in
set_option linter.unusedVariables false in
set_option maxHeartbeats 1000000 in
set_option maxRecDepth 10000 in
theorem few_ok (l : List (List UInt8)) (most : Int) (hn : l.length ≤ maxLen) : Con Try.prog 14 [.fz l.length (l.map V6.slV), .i .i64 most] (Ret (.b (V6.few l most))) := by
  refine enter Try.func14 rfl Try.ntmps14 (by kernel_rfl) (Nat.le_of_ble_eq_true rfl) fun w0 X0 hI => ?_
  refine at_seq ?_
  refine at_region ?_
  refine s1 (y_p rfl) rfl <| ?_
  refine at_nil ?_
  refine x_tn ?_
  refine at_seq ?_
  refine at_seq ?_
  simp only [maxLen] at hn
  refine at_region ?_
  refine s1 ((y_p rfl).v (v' := .i .i64 0) rfl) rfl <| ?_
  refine at_nil ?_
  refine x_tn ?_
  refine at_block ?_
  refine at_loop (ι := Nat) (fun i => [(0, .fz l.length (l.map V6.slV)), (1, .i .i64 most), (5, nV i)]) (fun i => ⟨[]⟩) (fun i => i ≤ l.length ∧ ∀ k, k < i → (l.getD k []).length ≤ 130) (fun i => l.length - i) ?_ ?_
  · exact at_ex (0) (⟨Nat.zero_le _, fun k h => absurd h (by omega)⟩) [] hI rfl rfl ⟨⟨_, rfl, .pure pu⟩, ⟨_, rfl, .pure pu⟩, ⟨_, rfl, .pure pu⟩, trivial⟩ trivial
  rintro i ⟨hi, hi2⟩
  refine at_seq ?_
  refine at_seq ?_
  refine at_region ?_
  refine s1 (y_p rfl) rfl <| s1 (y_p rfl) rfl <| s1 (y_len Try.underlying30 rfl rfl rfl) rfl <| s1 (y_p rfl) rfl <| ?_
  refine at_nil ?_
  refine x_tn ?_
  refine at_cond rfl (fun hc9 => ?_) (fun hc9 => ?_)
  · have h9 : i < l.length := by have := of_decide_eq_true hc9; omega
    obtain ⟨q, hq⟩ : ∃ q, l[i]? = some q := ⟨_, List.getElem?_eq_getElem h9⟩
    refine at_skip ?_
    refine x_tn ?_
    refine at_seq ?_
    refine at_block ?_
    refine at_seq ?_
    refine at_region ?_
    refine s1 (y_p rfl) rfl <| s1 (y_p rfl) rfl <| s1 (y_ixf i Try.underlying30 ti22 rfl rfl rfl (by omega) rfl) rfl <| s1 (y_load ti22 rfl rfl (V6.getR hq)) rfl <| s1 (y_len Try.underlying22 rfl rfl rfl) rfl <| s1 (y_p rfl) rfl <| ?_
    refine at_nil ?_
    refine x_tn ?_
    refine at_cond rfl (fun hc17 => ?_) (fun hc17 => ?_)
    · have h17 : ¬ q.length ≤ 130 := by have := of_decide_eq_true hc17; omega
      refine at_seq ?_
      refine at_region ?_
      refine s1 (y_p rfl) rfl <| ?_
      refine at_nil ?_
      refine x_tn ?_
      refine at_ret ?_
      refine x_br ?_
      refine x_tr ?_
      refine x_tr ?_
      refine x_br ?_
      refine x_tr ?_
      refine at_result (rs := [.tmp 4]) rfl (r_tmp rfl r_nil) ?_
      exact congrArg A.b (few_out hq h17).symm
    · have h17 : q.length ≤ 130 := by have := of_decide_eq_false hc17; omega
      refine at_skip ?_
      refine x_bn ?_
      refine x_tn ?_
      refine at_region ?_
      refine s1 (y_p rfl) rfl <| s1 (addN _ 1 rfl rfl rfl rfl (by omega)) rfl <| s1 (y_p rfl) rfl <| ?_
      refine at_nil ?_
      exact at_end (i + 1) (⟨by omega, few_next hq h17 hi2⟩) (by omega) [] hI rfl rfl ⟨⟨_, rfl, .pure pu⟩, ⟨_, rfl, .pure pu⟩, ⟨_, rfl, .pure pu⟩, trivial⟩ trivial
  · have h9 : i = l.length := by have := of_decide_eq_false hc9; omega
    subst h9
    refine at_exit ?_
    refine x_te ?_
    refine x_te ?_
    refine x_be ?_
    refine x_tn ?_
    refine at_seq ?_
    refine at_region ?_
    refine s1 (y_p rfl) rfl <| s1 (y_len Try.underlying30 rfl rfl rfl) rfl <| s1 (y_p rfl) rfl <| s1 (y_p rfl) rfl <| s1 (y_p rfl) rfl <| ?_
    refine at_nil ?_
    refine x_tn ?_
    refine at_ret ?_
    refine at_result (rs := [.tmp 4]) rfl (r_tmp rfl r_nil) ?_
    exact congrArg A.b (V6.few_yes hi2).symm

set_option linter.unusedSimpArgs false in
set_option linter.unusedVariables false in
set_option maxHeartbeats 1000000 in
set_option maxRecDepth 10000 in
theorem same_ok (a b : List (List UInt8)) (hn : a.length ≤ maxLen) : Con Try.prog 19 [.fz a.length (a.map V6.slV), .fz b.length (b.map V6.slV)] (Ret (.b (a == b))) := by
  refine enter Try.func19 rfl Try.ntmps19 (by kernel_rfl) (Nat.le_of_ble_eq_true rfl) fun w0 X0 hI => ?_
  refine at_seq ?_
  refine at_region ?_
  refine s1 (y_p rfl) rfl <| ?_
  refine at_nil ?_
  refine x_tn ?_
  refine at_seq ?_
  refine at_seq ?_
  simp only [maxLen] at hn
  refine at_region ?_
  refine s1 (y_p rfl) rfl <| s1 (y_len Try.underlying30 rfl rfl rfl) rfl <| s1 (y_p rfl) rfl <| s1 (y_len Try.underlying30 rfl rfl rfl) rfl <| s1 (y_p rfl) rfl <| ?_
  refine at_nil ?_
  refine x_tn ?_
  refine at_cond rfl (fun hc10 => ?_) (fun hc10 => ?_)
  · have hl : a.length ≠ b.length := by intro h; simp [h] at hc10
    refine at_seq ?_
    refine at_region ?_
    refine s1 (y_p rfl) rfl <| ?_
    refine at_nil ?_
    refine x_tn ?_
    refine at_ret ?_
    refine x_tr ?_
    refine at_result (rs := [.tmp 4]) rfl (r_tmp rfl r_nil) ?_
    exact congrArg A.b (same_len hl).symm
  · have hl : a.length = b.length := by simp at hc10; omega
    refine at_skip ?_
    refine x_tn ?_
    refine at_seq ?_
    refine at_seq ?_
    refine at_region ?_
    refine s1 ((y_p rfl).v (v' := .i .i64 0) rfl) rfl <| ?_
    refine at_nil ?_
    refine x_tn ?_
    refine at_block ?_
    refine at_loop (ι := Nat) (fun i => [(0, .fz a.length (a.map V6.slV)), (1, .fz b.length (b.map V6.slV)), (5, nV i)]) (fun i => ⟨[]⟩) (fun i => i ≤ a.length ∧ a.take i = b.take i) (fun i => a.length - i) ?_ ?_
    · exact at_ex (0) (⟨Nat.zero_le _, rfl⟩) [] hI rfl rfl ⟨⟨_, rfl, .pure pu⟩, ⟨_, rfl, .pure pu⟩, ⟨_, rfl, .pure pu⟩, trivial⟩ trivial
    rintro i ⟨hi, hi2⟩
    refine at_seq ?_
    refine at_seq ?_
    refine at_region ?_
    refine s1 (y_p rfl) rfl <| s1 (y_p rfl) rfl <| s1 (y_len Try.underlying30 rfl rfl rfl) rfl <| s1 (y_p rfl) rfl <| ?_
    refine at_nil ?_
    refine x_tn ?_
    refine at_cond rfl (fun hc14 => ?_) (fun hc14 => ?_)
    · have h14 : i < a.length := by have := of_decide_eq_true hc14; omega
      obtain ⟨p, hp⟩ : ∃ p, a[i]? = some p := ⟨_, List.getElem?_eq_getElem h14⟩
      obtain ⟨q, hq⟩ : ∃ q, b[i]? = some q := ⟨_, List.getElem?_eq_getElem (by omega)⟩
      refine at_skip ?_
      refine x_tn ?_
      refine at_seq ?_
      refine at_block ?_
      refine at_seq ?_
      refine at_draw_tail 10 hmix (by kernel_rfl) ?_
      refine t1 (y_p rfl) rfl <| t1 (y_p rfl) rfl <| t1 (y_ixf i Try.underlying30 ti22 rfl rfl rfl (by omega) rfl) rfl <| t1 (y_load ti22 rfl rfl (V6.getR hp)) rfl <| t1 (y_str Try.underlying22 Try.underlying5 Try.underlying9 rfl rfl (by simp)) rfl <| t1 (y_p rfl) rfl <| t1 (y_p rfl) rfl <| t1 (y_ixf i Try.underlying30 ti22 rfl rfl rfl (by omega) rfl) rfl <| t1 (y_load ti22 rfl rfl (V6.getR hq)) rfl <| t1 (y_str Try.underlying22 Try.underlying5 Try.underlying9 rfl rfl (by simp)) rfl <| ?_
      refine at_snil ?_
      refine s1 (y_p rfl) rfl <| ?_
      refine at_nil ?_
      refine x_tn ?_
      refine at_cond rfl (fun hc27 => ?_) (fun hc27 => ?_)
      · skip
        refine at_seq ?_
        refine at_region ?_
        refine s1 (y_p rfl) rfl <| ?_
        refine at_nil ?_
        refine x_tn ?_
        refine at_ret ?_
        refine x_br ?_
        refine x_tr ?_
        refine x_tr ?_
        refine x_br ?_
        refine x_tr ?_
        refine at_result (rs := [.tmp 4]) rfl (r_tmp rfl r_nil) ?_
        exact congrArg A.b (same_at hp hq (by simpa using hc27)).symm
      · skip
        refine at_skip ?_
        refine x_bn ?_
        refine x_tn ?_
        refine at_region ?_
        refine s1 (y_p rfl) rfl <| s1 (addN _ 1 rfl rfl rfl rfl (by omega)) rfl <| s1 (y_p rfl) rfl <| ?_
        refine at_nil ?_
        exact at_end (i + 1) (⟨by omega, same_next hi2 hp hq (by simpa using hc27)⟩) (by omega) [] hI rfl rfl ⟨⟨_, rfl, .pure pu⟩, ⟨_, rfl, .pure pu⟩, ⟨_, rfl, .pure pu⟩, trivial⟩ trivial
    · have h14 : i = a.length := by have := of_decide_eq_false hc14; omega
      subst h14
      refine at_exit ?_
      refine x_te ?_
      refine x_te ?_
      refine x_be ?_
      refine x_tn ?_
      refine at_seq ?_
      refine at_region ?_
      refine s1 (y_p rfl) rfl <| ?_
      refine at_nil ?_
      refine x_tn ?_
      refine at_ret ?_
      refine at_result (rs := [.tmp 4]) rfl (r_tmp rfl r_nil) ?_
      exact congrArg A.b (same_all hl hi2).symm

set_option linter.unusedSimpArgs false in
set_option linter.unusedVariables false in
set_option maxHeartbeats 1000000 in
set_option maxRecDepth 10000 in
theorem block_ok (b : UInt8) : Con Try.prog 23 [u8 b] (RetO 1 16 ((V6.blk b).map u8)) := by
  refine enter Try.func23 rfl Try.ntmps23 (by kernel_rfl) (Nat.le_of_ble_eq_true rfl) fun w0 X0 hI => ?_
  refine at_seq ?_
  refine at_region ?_
  refine s1 (y_p rfl) rfl <| ?_
  refine at_nil ?_
  refine x_tn ?_
  refine at_seq ?_
  refine at_region ?_
  refine s1 (y_p rfl) rfl <| ?_
  refine at_op rfl (n_bs1 4 rfl Try.underlying22 ti5 rfl rfl rfl rfl rfl ?_)
  refine at_op rfl (n_appz 5 rfl Try.underlying22 Try.underlying3 ti5 rfl rfl rfl (by first | rfl | omega | (simp; done) | (simp [*]; done) | (simp; omega) | (simp [*]; omega) | (simp [D32.len, -List.length_flatten, *]; done) | (simp [D32.len, -List.length_flatten, *]; omega)) (by decide) rfl rfl (by decide) (by first | omega | (simp only [maxLen]; omega) | (simp [maxLen]; done) | (simp [maxLen]; omega) | (simp [maxLen, *]; omega)) (by first | omega | (simp only [maxLen]; omega) | (simp [maxLen]; done) | (simp [maxLen]; omega) | (simp [maxLen, *]; omega)) (blkC b) rfl ?_)
  refine s1 (y_p rfl) rfl <| ?_
  refine at_nil ?_
  refine x_tn ?_
  refine at_ret ?_
  refine at_result (rs := [.tmp 2]) rfl (r_tmp rfl r_nil) ⟨5, rfl, rfl⟩

set_option linter.unusedSimpArgs false in
set_option linter.unusedVariables false in
set_option maxHeartbeats 1000000 in
set_option maxRecDepth 10000 in
theorem sane_ok : Con Try.prog 9 [] (Ret (.b true)) := by
  refine enter Try.func9 rfl Try.ntmps9 (by kernel_rfl) (Nat.le_of_ble_eq_true rfl) fun w0 X0 hI => ?_
  refine at_seq ?_
  refine at_region ?_
  refine s1 (y_p rfl) rfl <| ?_
  refine at_nil ?_
  refine x_tn ?_
  refine at_seq ?_
  refine at_region ?_
  refine at_op rfl (n_call false rfl (.cons (.pure pu) (.cons (.pure pu) (.cons .nl .nil))) (Con.cast (vmasks_ok 0 0 []) saneA1) pu (.inl rfl) rfl ?_)
  refine s1 (y_p rfl) rfl <| s1 (y_p rfl) rfl <| s1 (y_p rfl) rfl <| s1 (y_p rfl) rfl <| s1 (y_p rfl) rfl <| s1 (y_p rfl) rfl <| s1 (y_p rfl) rfl <| ?_
  refine at_nil ?_
  refine x_tn ?_
  refine at_seq ?_
  refine at_region ?_
  refine at_op rfl (n_bs1 35 rfl Try.underlying22 ti5 rfl rfl rfl rfl rfl ?_)
  refine at_op rfl (n_call true rfl (.cons (.pure pu) (.cons (.pure pu) (.cons (.sl rfl rfl rfl rfl (VwL.pure pul) pul) .nil))) (Con.cast (vmasks_ok 9 0 [1]) saneA2) pu (.inr fu) rfl ?_)
  refine s1 (y_p rfl) rfl <| s1 (y_p rfl) rfl <| s1 (y_p rfl) rfl <| s1 (y_p rfl) rfl <| s1 (y_p rfl) rfl <| s1 (y_p rfl) rfl <| s1 (y_p rfl) rfl <| ?_
  refine at_nil ?_
  refine x_tn ?_
  refine at_seq ?_
  refine at_region ?_
  refine at_op rfl (n_bs1 41 rfl Try.underlying22 ti5 rfl rfl rfl rfl rfl ?_)
  refine at_frz 41 rfl rfl pul rfl ?_
  refine at_op rfl (n_call false rfl (.cons (.pure pu) (.cons (.pure pu) (.cons (.pure pu) .nil))) (Con.cast (vmasks_ok 1 0 [255]) saneA3) pu (.inl rfl) rfl ?_)
  refine s1 (y_p rfl) rfl <| s1 (y_p rfl) rfl <| s1 (y_p rfl) rfl <| s1 (y_p rfl) rfl <| s1 (y_p rfl) rfl <| s1 (y_p rfl) rfl <| s1 (y_p rfl) rfl <| ?_
  refine at_nil ?_
  refine x_tn ?_
  refine at_seq ?_
  refine at_region ?_
  refine at_op rfl (n_bs1 47 rfl Try.underlying22 ti5 rfl rfl rfl rfl rfl ?_)
  refine at_op rfl (n_call true rfl (.cons (.pure pu) (.cons (.pure pu) (.cons (.sl rfl rfl rfl rfl (VwL.pure pul) pul) .nil))) (Con.cast (vmasks_ok 8 8 [1]) saneA4) pu (.inr fu) rfl ?_)
  refine s1 (y_p rfl) rfl <| s1 (y_p rfl) rfl <| s1 (y_p rfl) rfl <| s1 (y_p rfl) rfl <| s1 (y_p rfl) rfl <| s1 (y_p rfl) rfl <| s1 (y_p rfl) rfl <| ?_
  refine at_nil ?_
  refine x_tn ?_
  refine at_seq ?_
  refine at_region ?_
  refine s1 (y_bld (out := [_]) [[evC (.slice none 0 0)]] ti32 rfl Try.underlying32 (by kernel_rfl) rfl rfl trivial rfl) rfl <| ?_
  refine at_wk 53 rfl (.ag (.cons .nl .nil)) ?_
  refine at_op rfl (n_call false rfl (.cons .nl (.cons (.pure pu) .nil)) (Con.cast (vanswer_ok [] []) saneA5) pu (.inl rfl) rfl ?_)
  refine s1 (y_p rfl) rfl <| s1 (y_p rfl) rfl <| s1 (y_p rfl) rfl <| ?_
  refine at_op rfl (n_alloc 13 rfl ti35 rfl rfl ?_)
  refine at_op rfl (n_storeA ti35 rfl rfl rfl (by first | rfl | omega | (simp; done) | (simp [*]; done) | (simp; omega) | (simp [*]; omega) | (simp [D32.len, -List.length_flatten, *]; done) | (simp [D32.len, -List.length_flatten, *]; omega)) (by first | rfl | omega | (simp; done) | (simp [*]; done) | (simp; omega) | (simp [*]; omega) | (simp [D32.len, -List.length_flatten, *]; done) | (simp [D32.len, -List.length_flatten, *]; omega)) ?_)
  refine s1 (y_p rfl) rfl <| ?_
  refine at_nil ?_
  refine x_tn ?_
  refine at_seq ?_
  refine at_region ?_
  refine at_op rfl (n_callO 57 rfl false rfl (.cons (.pure pu) (.nil)) (block_ok 3) pul (.inl rfl) rfl ?_)
  refine at_op rfl (n_callO 58 rfl false rfl (.cons (.pure pu) (.nil)) (block_ok 5) pul (.inl rfl) rfl ?_)
  refine at_op rfl (n_callO 59 rfl false rfl (.cons (.pure pu) (.nil)) (block_ok 16) pul (.inl rfl) rfl ?_)
  refine at_frz 57 rfl rfl pul rfl ?_
  refine at_frz 58 rfl rfl pul rfl ?_
  refine at_frz 59 rfl rfl pul rfl ?_
  refine at_op rfl (n_bs1 60 rfl Try.underlying30 ti22 rfl rfl rfl rfl rfl ?_)
  refine s1 (y_p rfl) rfl <| ?_
  refine at_nil ?_
  refine x_tn ?_
  refine at_seq ?_
  refine at_frz 15 rfl rfl pul rfl ?_
  refine at_region ?_
  refine at_op rfl (n_bs1 62 rfl Try.underlying41 ti3 rfl rfl rfl rfl rfl ?_)
  refine at_op rfl (n_bs1 63 rfl Try.underlying22 ti5 rfl rfl rfl rfl rfl ?_)
  refine at_op rfl (n_bs1 64 rfl Try.underlying22 ti5 rfl rfl rfl rfl rfl ?_)
  refine at_frz 63 rfl rfl pul rfl ?_
  refine at_frz 64 rfl rfl pul rfl ?_
  refine at_op rfl (n_bs1 65 rfl Try.underlying30 ti22 rfl rfl rfl rfl rfl ?_)
  refine at_frz 62 rfl rfl pul rfl ?_
  refine at_frz 65 rfl rfl pul rfl ?_
  refine at_op rfl (n_call false rfl (.cons (.pure pu) (.cons (.pure pu) (.cons (.pure pu) (.cons (.pure pu) (.nil))))) (Con.cast (vask_ok 3 [1] 2 [[5], [250]]) saneA6) pu (.inl rfl) rfl ?_)
  refine s1 (y_p rfl) rfl <| s1 (y_p rfl) rfl <| s1 (y_p rfl) rfl <| s1 (y_p rfl) rfl <| ?_
  refine at_op rfl (n_alloc 16 rfl ti32 rfl rfl ?_)
  refine at_op rfl (n_alloc 17 rfl ti32 rfl rfl ?_)
  refine at_op rfl (n_storeA ti32 rfl rfl rfl (by first | rfl | omega | (simp; done) | (simp [*]; done) | (simp; omega) | (simp [*]; omega) | (simp [D32.len, -List.length_flatten, *]; done) | (simp [D32.len, -List.length_flatten, *]; omega)) (by first | rfl | omega | (simp; done) | (simp [*]; done) | (simp; omega) | (simp [*]; omega) | (simp [D32.len, -List.length_flatten, *]; done) | (simp [D32.len, -List.length_flatten, *]; omega)) ?_)
  refine at_op rfl (n_storeA ti32 rfl rfl rfl (by first | rfl | omega | (simp; done) | (simp [*]; done) | (simp; omega) | (simp [*]; omega) | (simp [D32.len, -List.length_flatten, *]; done) | (simp [D32.len, -List.length_flatten, *]; omega)) (by first | rfl | omega | (simp; done) | (simp [*]; done) | (simp; omega) | (simp [*]; omega) | (simp [D32.len, -List.length_flatten, *]; done) | (simp [D32.len, -List.length_flatten, *]; omega)) ?_)
  refine s1 (y_p rfl) rfl <| ?_
  refine at_nil ?_
  refine x_tn ?_
  refine at_seq ?_
  refine at_region ?_
  refine s1 (y_p rfl) rfl <| s1 (y_loadA0 ti32 rfl rfl rfl) rfl <| ?_
  refine at_op rfl (n_call false rfl (.cons (.pure pu) (.cons (.pure pu) (.nil))) (Con.cast (vanswer_ok [V6.blk 3, V6.blk 5, V6.blk 16] [[5], [2]]) saneA7) pu (.inl rfl) rfl ?_)
  refine s1 (y_p rfl) rfl <| s1 (y_p rfl) rfl <| s1 (y_p rfl) rfl <| ?_
  refine at_op rfl (n_alloc 19 rfl ti35 rfl rfl ?_)
  refine at_op rfl (n_storeA ti35 rfl rfl rfl (by first | rfl | omega | (simp; done) | (simp [*]; done) | (simp; omega) | (simp [*]; omega) | (simp [D32.len, -List.length_flatten, *]; done) | (simp [D32.len, -List.length_flatten, *]; omega)) (by first | rfl | omega | (simp; done) | (simp [*]; done) | (simp; omega) | (simp [*]; omega) | (simp [D32.len, -List.length_flatten, *]; done) | (simp [D32.len, -List.length_flatten, *]; omega)) ?_)
  refine s1 (y_p rfl) rfl <| ?_
  refine at_nil ?_
  refine x_tn ?_
  refine at_seq ?_
  refine at_region ?_
  refine s1 (y_p rfl) rfl <| s1 (y_loadA0 ti32 rfl rfl rfl) rfl <| ?_
  refine at_op rfl (n_call false rfl (.cons (.pure pu) (.cons (.pure pu) (.nil))) (Con.cast (vanswer_ok [V6.blk 3, V6.blk 5, V6.blk 16] [[7], [3]]) saneA8) pu (.inl rfl) rfl ?_)
  refine s1 (y_p rfl) rfl <| s1 (y_p rfl) rfl <| s1 (y_p rfl) rfl <| ?_
  refine at_op rfl (n_alloc 21 rfl ti35 rfl rfl ?_)
  refine at_op rfl (n_storeA ti35 rfl rfl rfl (by first | rfl | omega | (simp; done) | (simp [*]; done) | (simp; omega) | (simp [*]; omega) | (simp [D32.len, -List.length_flatten, *]; done) | (simp [D32.len, -List.length_flatten, *]; omega)) (by first | rfl | omega | (simp; done) | (simp [*]; done) | (simp; omega) | (simp [*]; omega) | (simp [D32.len, -List.length_flatten, *]; done) | (simp [D32.len, -List.length_flatten, *]; omega)) ?_)
  refine s1 (y_p rfl) rfl <| ?_
  refine at_nil ?_
  refine x_tn ?_
  refine at_seq ?_
  refine at_region ?_
  refine at_op rfl (n_bs1 83 rfl Try.underlying22 ti5 rfl rfl rfl rfl rfl ?_)
  refine at_frz 83 rfl rfl pul rfl ?_
  refine at_op rfl (n_call false rfl (.cons (.pure pu) (.cons (.pure pu) (.cons (.pure pu) (.cons (.pure pu) (.nil))))) (Con.cast (vtwin_ok 3 0 2 [6]) saneA9) pu (.inl rfl) rfl ?_)
  refine s1 (y_p rfl) rfl <| s1 (y_p rfl) rfl <| s1 (y_p rfl) rfl <| s1 (y_p rfl) rfl <| s1 (y_p rfl) rfl <| ?_
  refine at_nil ?_
  refine x_tn ?_
  refine at_seq ?_
  refine at_region ?_
  refine s1 (y_p rfl) rfl <| ?_
  refine at_op rfl (n_bs1 89 rfl Try.underlying22 ti5 rfl rfl rfl rfl rfl ?_)
  refine at_frz 89 rfl rfl pul rfl ?_
  refine at_op rfl (n_bs1 90 rfl Try.underlying30 ti22 rfl rfl rfl rfl rfl ?_)
  refine at_frz 90 rfl rfl pul rfl ?_
  refine s1 (y_bld (out := [_]) [[evC (.slice none 0 0)]] ti32 rfl Try.underlying32 (by kernel_rfl) rfl rfl ⟨⟨by (first | rfl | omega | (simp; done) | (simp [*]; done) | (simp; omega) | (simp [*]; omega) | (simp [D32.len, -List.length_flatten, *]; done) | (simp [D32.len, -List.length_flatten, *]; omega)), rfl⟩, trivial⟩ rfl) rfl <| ?_
  refine at_op rfl (n_call false rfl (.cons (.pure pu) (.cons (.pure pu) (.nil))) (Con.cast (vanswer_ok [V6.blk 3, V6.blk 5, V6.blk 16] [[8]]) saneA10) pu (.inl rfl) rfl ?_)
  refine s1 (y_p rfl) rfl <| s1 (y_p rfl) rfl <| s1 (y_p rfl) rfl <| ?_
  refine at_op rfl (n_alloc 25 rfl ti35 rfl rfl ?_)
  refine at_op rfl (n_storeA ti35 rfl rfl rfl (by first | rfl | omega | (simp; done) | (simp [*]; done) | (simp; omega) | (simp [*]; omega) | (simp [D32.len, -List.length_flatten, *]; done) | (simp [D32.len, -List.length_flatten, *]; omega)) (by first | rfl | omega | (simp; done) | (simp [*]; done) | (simp; omega) | (simp [*]; omega) | (simp [D32.len, -List.length_flatten, *]; done) | (simp [D32.len, -List.length_flatten, *]; omega)) ?_)
  refine s1 (y_p rfl) rfl <| ?_
  refine at_nil ?_
  refine x_tn ?_
  refine at_seq ?_
  refine at_seq ?_
  refine at_region ?_
  refine s1 (y_p rfl) rfl <| s1 ((y_p rfl).v (v' := .b false) (rfl)) rfl <| s1 (y_p rfl) rfl <| g1 rfl rfl (y_p rfl) rfl <| g1 rfl rfl ((y_p rfl).v (v' := .b false) (rfl)) rfl <| s1 (y_p rfl) rfl <| s1 (y_p rfl) rfl <| g1 rfl rfl (y_p rfl) rfl <| g1 rfl rfl ((y_p rfl).v (v' := .b false) (rfl)) rfl <| s1 (y_p rfl) rfl <| ?_
  refine s1 (y_p rfl) rfl <| g1 rfl rfl (y_p rfl) rfl <| g1 rfl rfl ((y_p rfl).v (v' := .b false) (rfl)) rfl <| s1 (y_p rfl) rfl <| s1 (y_p rfl) rfl <| g1 rfl rfl (y_p rfl) rfl <| g1 rfl rfl ((y_p rfl).v (v' := .b false) (rfl)) rfl <| s1 (y_p rfl) rfl <| s1 (y_p rfl) rfl <| g1 rfl rfl (y_p rfl) rfl <| ?_
  refine g1 rfl rfl ((y_p rfl).v (v' := .b false) (rfl)) rfl <| s1 (y_p rfl) rfl <| s1 (y_p rfl) rfl <| g1 rfl rfl (y_p rfl) rfl <| g1 rfl rfl ((y_p rfl).v (v' := .b false) (rfl)) rfl <| s1 (y_p rfl) rfl <| s1 (y_p rfl) rfl <| g1 rfl rfl (y_p rfl) rfl <| g1 rfl rfl ((y_p rfl).v (v' := .b false) (rfl)) rfl <| s1 (y_p rfl) rfl <| ?_
  refine s1 (y_p rfl) rfl <| g1 rfl rfl (y_p rfl) rfl <| g1 rfl rfl ((y_p rfl).v (v' := .b false) (rfl)) rfl <| s1 (y_p rfl) rfl <| s1 (y_p rfl) rfl <| g1 rfl rfl (y_p rfl) rfl <| g1 rfl rfl ((y_p rfl).v (v' := .b false) (rfl)) rfl <| s1 (y_p rfl) rfl <| s1 (y_p rfl) rfl <| g1 rfl rfl (y_fld Try.underlying35 rfl ti30 (by decide) rfl rfl) rfl <| ?_
  refine g1 rfl rfl (y_load ti30 rfl rfl rfl) rfl <| g1 rfl rfl (y_len Try.underlying30 rfl rfl rfl) rfl <| g1 rfl rfl ((y_p rfl).v (v' := .b false) (rfl)) rfl <| s1 (y_p rfl) rfl <| s1 (y_p rfl) rfl <| g1 rfl rfl (y_fld Try.underlying35 rfl ti30 (by decide) rfl rfl) rfl <| g1 rfl rfl (y_load ti30 rfl rfl rfl) rfl <| g1 rfl rfl (y_len Try.underlying30 rfl rfl rfl) rfl <| g1 rfl rfl ((y_p rfl).v (v' := .b false) (rfl)) rfl <| s1 (y_p rfl) rfl <| ?_
  refine at_nil ?_
  refine x_tn ?_
  refine at_else rfl ?_
  refine at_skip ?_
  refine x_tn ?_
  refine at_seq ?_
  refine at_fs ⟨_, [], []⟩ 13 4 hmix (le_refl rfl) ?_
  refine fs_q 0 [] [(19, none)] (y_fld Try.underlying35 rfl ti30 (by decide) rfl rfl) rfl rfl ?_
  refine fs_q 1 [0] [(19, none)] (y_load ti30 rfl rfl rfl) rfl rfl ?_
  refine fs_q 2 [1] [] (y_ixf 0 Try.underlying30 ti22 rfl rfl rfl (by decide) rfl) rfl rfl ?_
  refine fs_q 3 [2] [] (y_load ti22 rfl rfl rfl) rfl rfl ?_
  refine fs_q 4 [] [(21, none)] (y_fld Try.underlying35 rfl ti30 (by decide) rfl rfl) rfl rfl ?_
  refine fs_q 5 [4] [(21, none)] (y_load ti30 rfl rfl rfl) rfl rfl ?_
  refine fs_q 6 [5] [] (y_ixf 0 Try.underlying30 ti22 rfl rfl rfl (by decide) rfl) rfl rfl ?_
  refine fs_q 7 [6] [] (y_load ti22 rfl rfl rfl) rfl rfl ?_
  refine fs_call false 8 [3, 7] [] gy0 rfl (.cons (.pure pu) (.cons (.pure pu) (.nil))) (Con.cast (vjoin_ok (V6.blk 19) (V6.blk 22)) saneA11) pu (.inl rfl) rfl rfl ?_
  refine fs_q 9 [8] [] (y_p rfl) rfl rfl ?_
  refine fs_q 10 [9] [] (y_p rfl) rfl rfl ?_
  refine fs_q 11 [9] [] (y_p rfl) rfl rfl ?_
  refine fs_q 12 [10] [] (y_p rfl) rfl rfl ?_
  refine fs_end (by kernel_rfl) ?_
  refine s1 (y_p rfl) rfl <| ?_
  refine at_nil ?_
  refine x_tn ?_
  refine at_seq ?_
  refine at_fs ⟨_, [], []⟩ 60 4 hmix (le_refl rfl) ?_
  refine fs_q 0 [] [] (y_p rfl) rfl rfl ?_
  refine fs_q 1 [0] [] (y_str (l := [1]) Try.underlying22 Try.underlying5 Try.underlying9 rfl rfl rfl) rfl rfl ?_
  refine fs_q 2 [1] [] ((y_p rfl).v (v' := .b true) (rfl)) rfl rfl ?_
  refine fs_q 3 [2] [] (y_p rfl) rfl rfl ?_
  refine fs_qg 4 [3] [] rfl rfl (y_p rfl) rfl rfl ?_
  refine fs_qg 5 [3, 4] [] rfl rfl (y_str (l := [0]) Try.underlying22 Try.underlying5 Try.underlying9 rfl rfl rfl) rfl rfl ?_
  refine fs_qg 6 [3, 5] [] rfl rfl ((y_p rfl).v (v' := .b true) (rfl)) rfl rfl ?_
  refine fs_q 7 [3, 6] [] (y_p rfl) rfl rfl ?_
  refine fs_q 8 [7] [] (y_p rfl) rfl rfl ?_
  refine fs_qg 9 [8] [(16, none)] rfl rfl (y_fld Try.underlying32 rfl ti30 (by decide) rfl rfl) rfl rfl ?_
  refine fs_qg 10 [8, 9] [(16, none)] rfl rfl (y_load ti30 rfl rfl rfl) rfl rfl ?_
  refine fs_bs1 168 11 [8] (gy1 rfl rfl) Try.underlying22 ti5 rfl rfl rfl rfl rfl rfl ?_
  refine fs_bs1 169 12 [8] (gy1 rfl rfl) Try.underlying22 ti5 rfl rfl rfl rfl rfl rfl ?_
  refine fs_bs1 170 13 [8, 11, 12] (gy1 rfl rfl) Try.underlying30 ti22 rfl rfl rfl rfl rfl rfl ?_
  refine fs_call true 14 [8, 10, 13] [(168, some 11), (169, some 12), (170, some 13)] (gy1 rfl rfl) rfl (.cons (.pure pu) (.cons (.sl rfl rfl rfl rfl (.cons (.sl rfl rfl rfl rfl (VwL.pure pul) pul) (.cons (.sl rfl rfl rfl rfl (VwL.pure pul) pul) .nil)) pul) .nil)) (Con.cast (same_ok [[5], [2]] [[5], [2]] (by decide)) (congrArg A.b (beq_self_eq_true _))) pu (.inr fu) rfl rfl ?_
  refine fs_q 15 [8, 14] [] (y_p rfl) rfl rfl ?_
  refine fs_q 16 [15] [] (y_p rfl) rfl rfl ?_
  refine fs_qg 17 [16] [(17, none)] rfl rfl (y_fld Try.underlying32 rfl ti30 (by decide) rfl rfl) rfl rfl ?_
  refine fs_qg 18 [16, 17] [(17, none)] rfl rfl (y_load ti30 rfl rfl rfl) rfl rfl ?_
  refine fs_bs1 176 19 [16] (gy1 rfl rfl) Try.underlying22 ti5 rfl rfl rfl rfl rfl rfl ?_
  refine fs_bs1 177 20 [16] (gy1 rfl rfl) Try.underlying22 ti5 rfl rfl rfl rfl rfl rfl ?_
  refine fs_bs1 178 21 [16, 19, 20] (gy1 rfl rfl) Try.underlying30 ti22 rfl rfl rfl rfl rfl rfl ?_
  refine fs_call true 22 [16, 18, 21] [(176, some 19), (177, some 20), (178, some 21)] (gy1 rfl rfl) rfl (.cons (.pure pu) (.cons (.sl rfl rfl rfl rfl (.cons (.sl rfl rfl rfl rfl (VwL.pure pul) pul) (.cons (.sl rfl rfl rfl rfl (VwL.pure pul) pul) .nil)) pul) .nil)) (Con.cast (same_ok [[7], [3]] [[7], [3]] (by decide)) (congrArg A.b (beq_self_eq_true _))) pu (.inr fu) rfl rfl ?_
  refine fs_q 23 [16, 22] [] (y_p rfl) rfl rfl ?_
  refine fs_q 24 [23] [] (y_p rfl) rfl rfl ?_
  refine fs_qg 25 [24] [(19, none)] rfl rfl (y_fld Try.underlying35 rfl ti30 (by decide) rfl rfl) rfl rfl ?_
  refine fs_qg 26 [24, 25] [(19, none)] rfl rfl (y_load ti30 rfl rfl rfl) rfl rfl ?_
  refine fs_qg 27 [24, 26] [] rfl rfl (y_ixf 0 Try.underlying30 ti22 rfl rfl rfl (by decide) rfl) rfl rfl ?_
  refine fs_qg 28 [24, 27] [] rfl rfl (y_load ti22 rfl rfl rfl) rfl rfl ?_
  refine fs_qg 29 [24, 28] [] rfl rfl (y_str (l := V6.blk 19) Try.underlying22 Try.underlying5 Try.underlying9 rfl rfl rfl) rfl rfl ?_
  refine fs_callO 187 false 30 [24] [] (gy1 rfl rfl) rfl (.cons (.pure pu) (.nil)) (block_ok 19) pul (.inl rfl) rfl rfl ?_
  refine fs_qg 31 [24, 30] [(187, some 30)] rfl rfl (y_str (l := V6.blk 19) Try.underlying22 Try.underlying5 Try.underlying9 rfl rfl rfl) rfl rfl ?_
  refine fs_qg 32 [24, 29, 31] [] rfl rfl ((y_p rfl).v (v' := .b true) (rfl)) rfl rfl ?_
  refine fs_q 33 [24, 32] [] (y_p rfl) rfl rfl ?_
  refine fs_q 34 [33] [] (y_p rfl) rfl rfl ?_
  refine fs_qg 35 [34] [(21, none)] rfl rfl (y_fld Try.underlying35 rfl ti30 (by decide) rfl rfl) rfl rfl ?_
  refine fs_qg 36 [34, 35] [(21, none)] rfl rfl (y_load ti30 rfl rfl rfl) rfl rfl ?_
  refine fs_qg 37 [34, 36] [] rfl rfl (y_ixf 0 Try.underlying30 ti22 rfl rfl rfl (by decide) rfl) rfl rfl ?_
  refine fs_qg 38 [34, 37] [] rfl rfl (y_load ti22 rfl rfl rfl) rfl rfl ?_
  refine fs_qg 39 [34, 38] [] rfl rfl (y_str (l := V6.blk 22) Try.underlying22 Try.underlying5 Try.underlying9 rfl rfl rfl) rfl rfl ?_
  refine fs_callO 197 false 40 [34] [] (gy1 rfl rfl) rfl (.cons (.pure pu) (.nil)) (block_ok 22) pul (.inl rfl) rfl rfl ?_
  refine fs_qg 41 [34, 40] [(197, some 40)] rfl rfl (y_str (l := V6.blk 22) Try.underlying22 Try.underlying5 Try.underlying9 rfl rfl rfl) rfl rfl ?_
  refine fs_qg 42 [34, 39, 41] [] rfl rfl ((y_p rfl).v (v' := .b true) (rfl)) rfl rfl ?_
  refine fs_q 43 [34, 42] [] (y_p rfl) rfl rfl ?_
  refine fs_q 44 [43] [] (y_p rfl) rfl rfl ?_
  refine fs_qg 45 [44] [] rfl rfl (y_p rfl) rfl rfl ?_
  refine fs_qg 46 [44, 45] [] rfl rfl ((y_p rfl).v (v' := .b true) (rfl)) rfl rfl ?_
  refine fs_q 47 [44, 46] [] (y_p rfl) rfl rfl ?_
  refine fs_q 48 [47] [] (y_p rfl) rfl rfl ?_
  refine fs_qg 49 [48] [] rfl rfl (y_p rfl) rfl rfl ?_
  refine fs_qg 50 [48, 49] [] rfl rfl (y_str (l := V6.blk 5) Try.underlying22 Try.underlying5 Try.underlying9 rfl rfl rfl) rfl rfl ?_
  refine fs_callO 208 false 51 [48] [] (gy1 rfl rfl) rfl (.cons (.pure pu) (.nil)) (block_ok 5) pul (.inl rfl) rfl rfl ?_
  refine fs_qg 52 [48, 51] [(208, some 51)] rfl rfl (y_str (l := V6.blk 5) Try.underlying22 Try.underlying5 Try.underlying9 rfl rfl rfl) rfl rfl ?_
  refine fs_qg 53 [48, 50, 52] [] rfl rfl ((y_p rfl).v (v' := .b true) (rfl)) rfl rfl ?_
  refine fs_q 54 [48, 53] [] (y_p rfl) rfl rfl ?_
  refine fs_q 55 [54] [] (y_p rfl) rfl rfl ?_
  refine fs_qg 56 [55] [] rfl rfl (y_p rfl) rfl rfl ?_
  refine fs_qg 57 [55, 56] [] rfl rfl (y_str (l := [3]) Try.underlying22 Try.underlying5 Try.underlying9 rfl rfl rfl) rfl rfl ?_
  refine fs_qg 58 [55, 57] [] rfl rfl ((y_p rfl).v (v' := .b true) (rfl)) rfl rfl ?_
  refine fs_q 59 [55, 58] [] (y_p rfl) rfl rfl ?_
  refine fs_end (by kernel_rfl) ?_
  refine s1 (y_p rfl) rfl <| ?_
  refine at_nil ?_
  refine x_tn ?_
  refine at_ret ?_
  refine at_result (rs := [.tmp 0]) rfl (r_tmp rfl r_nil) ?_
  rfl

end Go.Abs.D2
