/-
  The engine, the plain laws and the walks that the rows need, part 10. Conditions: none.
-/
import Derived.Test.YtbcbmadmbbimlaaDoorM9

/-! S7C -/
namespace Go.Abs.D2
open Go Go.Eng Go.Abs Go.Proofs 
set_option linter.unusedSimpArgs false in
set_option linter.unusedVariables false in
set_option maxHeartbeats 1000000 in
set_option maxRecDepth 10000 in
theorem shas_ok (q : List UInt8) (hq : q.length = 16) (b : Nat) : Con Tryd.prog 50 [.fp (q.map u8), nJ b] (Ret (.b (bitA q (b % 128)))) := by
  refine enter Tryd.func50 rfl Tryd.ntmps50 (by kernel_rfl) (Nat.le_of_ble_eq_true rfl) fun w0 X0 hI => ?_
  refine at_seq ?_
  refine at_region ?_
  refine s1 (y_p rfl) rfl <| ?_
  refine at_nil ?_
  refine x_tn ?_
  refine at_seq ?_
  refine at_region ?_
  refine s1 (y_p rfl) rfl <| s1 (y_p rfl) rfl <| s1 (remN _ 128 rfl rfl rfl rfl (by omega)) rfl <| s1 (quoN _ 8 rfl rfl rfl rfl (by omega) (by omega)) rfl <| s1 (y_nilc rfl rfl) rfl <| s1 (y_ixfa (b % 128 / 8) Tryd.underlying79 ti5 rfl rfl rfl (by omega) rfl) rfl <| s1 (y_load ti5 rfl rfl (getD8 (by omega))) rfl <| s1 (y_p rfl) rfl <| s1 (remN _ 8 rfl rfl rfl rfl (by omega)) rfl <| s1 (shrB (q.getD (b % 128 / 8) 0) (b % 8) rfl rfl rfl (by omega)) rfl <| ?_
  refine s1 (andB _ _ rfl rfl) rfl <| s1 ((y_p rfl).v (v' := .b (bitA q (b % 128))) (congrArg A.b (has_bit _ _))) rfl <| s1 (y_p rfl) rfl <| ?_
  refine at_nil ?_
  refine x_tn ?_
  refine at_ret ?_
  refine at_result (rs := [.tmp 4]) rfl (r_tmp rfl r_nil) ?_
  rfl
set_option linter.unusedSimpArgs false in
set_option linter.unusedVariables false in
set_option maxHeartbeats 1000000 in
set_option maxRecDepth 10000 in
theorem sread1_ok (bl : List (List UInt8)) (i b : Nat) (hs : sizB bl 33 = true) (hi : i < 33) : Con Tryd.prog 51 [nJ i, nJ b, .fp [rowsV bl], .fp [.fn (.func 50) [] []]] (Ret (.b (blkB bl i b))) := by
  refine enter Tryd.func51 rfl Tryd.ntmps51 (by kernel_rfl) (Nat.le_of_ble_eq_true rfl) fun w0 X0 hI => ?_
  refine at_seq ?_
  obtain ⟨q, hq, hqd, hq16⟩ := siz_get hs hi
  have hl := siz_len hs
  refine at_region ?_
  refine s1 (y_p rfl) rfl <| ?_
  refine at_nil ?_
  refine x_tn ?_
  refine at_seq ?_
  refine at_region ?_
  refine s1 (y_load ti28 rfl rfl rfl) rfl <| s1 (y_p rfl) rfl <| s1 (y_ixf i Tryd.underlying28 ti66 rfl rfl rfl (by omega) rfl) rfl <| s1 (y_load ti66 rfl rfl (V6.getR hq)) rfl <| s1 (y_s2ap Tryd.underlying79 rfl (by omega) (by omega)) rfl <| s1 (y_loadA ti79 rfl rfl (List.take_of_length_le (by simp [hq16])) (by simp [hq16])) rfl <| ?_
  refine at_op rfl (n_alloc 7 rfl ti79 rfl rfl ?_)
  refine at_op rfl (n_storeA ti79 rfl rfl rfl (by first | rfl | omega | (simp; done) | (simp [*]; done) | (simp; omega) | (simp [*]; omega) | (simp [D32.len, -List.length_flatten, *]; done) | (simp [D32.len, -List.length_flatten, *]; omega)) (by first | rfl | omega | (simp; done) | (simp [*]; done) | (simp; omega) | (simp [*]; omega) | (simp [D32.len, -List.length_flatten, *]; done) | (simp [D32.len, -List.length_flatten, *]; omega)) ?_)
  refine at_nil ?_
  refine x_tn ?_
  refine at_seq ?_
  refine at_frzP 7 rfl rfl pul ?_
  refine at_region ?_
  refine s1 (y_load ti91 rfl rfl rfl) rfl <| s1 (y_p rfl) rfl <| ?_
  refine at_op rfl (n_callv false rfl rfl (.cons (.pure pu) (.cons (.pure pu) .nil)) (shas_ok q hq16 b) pu (.inl rfl) rfl ?_)
  refine s1 (y_p rfl) rfl <| ?_
  refine at_nil ?_
  refine x_tn ?_
  refine at_ret ?_
  refine at_result (rs := [.tmp 6]) rfl (r_tmp rfl r_nil) ?_
  exact congrArg A.b (blkB_at hqd)
set_option linter.unusedSimpArgs false in
set_option linter.unusedVariables false in
set_option maxHeartbeats 1000000 in
set_option maxRecDepth 10000 in
theorem ssz1_ok (q : List UInt8) : Con Tryd.prog 81 [.fz q.length (q.map u8)] (Ret (.b (no16 q))) := by
  refine enter Tryd.func81 rfl Tryd.ntmps81 (by kernel_rfl) (Nat.le_of_ble_eq_true rfl) fun w0 X0 hI => ?_
  refine at_seq ?_
  refine at_region ?_
  refine s1 (y_p rfl) rfl <| ?_
  refine at_nil ?_
  refine x_tn ?_
  refine at_seq ?_
  refine at_region ?_
  refine s1 (y_p rfl) rfl <| s1 (y_len Tryd.underlying66 rfl rfl rfl) rfl <| s1 (y_p rfl) rfl <| s1 (y_p rfl) rfl <| ?_
  refine at_nil ?_
  refine x_tn ?_
  refine at_ret ?_
  refine at_result (rs := [.tmp 2]) rfl (r_tmp rfl r_nil) ?_
  exact congrArg A.b (V6.no16_b q)
set_option linter.unusedSimpArgs false in
set_option linter.unusedVariables false in
set_option maxHeartbeats 1000000 in
set_option maxRecDepth 10000 in
theorem sindexS_ok (l : List (List UInt8)) (hn : l.length ≤ maxLen) : Con Tryd.prog 98 [.fz l.length (l.map V6.slV), .fn (.func 81) [] []] (Ret (.i .i64 (idxE no16 l))) := by
  refine enter Tryd.func98 rfl Tryd.ntmps98 (by kernel_rfl) (Nat.le_of_ble_eq_true rfl) fun w0 X0 hI => ?_
  refine at_seq ?_
  simp only [maxLen] at hn
  refine at_region ?_
  refine s1 ((y_p rfl).v (v' := .i .i64 0) rfl) rfl <| ?_
  refine at_nil ?_
  refine x_tn ?_
  refine at_seq ?_
  refine at_seq ?_
  refine at_region ?_
  refine s1 (y_p rfl) rfl <| s1 (y_len Tryd.underlying28 rfl rfl rfl) rfl <| s1 ((y_p rfl).v (v' := .i .i64 0) rfl) rfl <| ?_
  refine at_nil ?_
  refine x_tn ?_
  refine at_block ?_
  refine at_loop (ι := Nat) (fun i => [(0, .fz l.length (l.map V6.slV)), (1, .fn (.func 81) [] []), (7, nJ l.length), (8, nJ i)]) (fun i => ⟨[]⟩) (fun i => i ≤ l.length ∧ (l.take i).any no16 = false) (fun i => l.length - i) ?_ ?_
  · exact at_ex (0) (⟨Nat.zero_le _, rfl⟩) [] hI rfl rfl ⟨⟨_, rfl, .pure pu⟩, ⟨_, rfl, .pure pu⟩, ⟨_, rfl, .pure pu⟩, ⟨_, rfl, .pure pu⟩, trivial⟩ trivial
  rintro i ⟨hi, hi2⟩
  refine at_seq ?_
  refine at_region ?_
  refine s1 (y_p rfl) rfl <| ?_
  refine at_nil ?_
  refine x_tn ?_
  refine at_seq ?_
  refine at_cond rfl (fun hc9 => ?_) (fun hc9 => ?_)
  · have h9 : i < l.length := by have := of_decide_eq_true hc9; omega
    obtain ⟨q, hq⟩ : ∃ q, l[i]? = some q := ⟨_, List.getElem?_eq_getElem h9⟩
    refine at_skip ?_
    refine x_tn ?_
    refine at_seq ?_
    refine at_block ?_
    refine at_seq ?_
    refine at_region ?_
    refine s1 (y_p rfl) rfl <| s1 (y_p rfl) rfl <| ?_
    refine at_nil ?_
    refine x_tn ?_
    refine at_seq ?_
    refine at_region ?_
    refine s1 (y_p rfl) rfl <| s1 (y_p rfl) rfl <| s1 (y_p rfl) rfl <| s1 (y_ixf i Tryd.underlying28 ti66 rfl rfl rfl (by omega) rfl) rfl <| s1 (y_load ti66 rfl rfl (V6.getR hq)) rfl <| ?_
    refine at_op rfl (n_callv false rfl rfl (.cons (.pure pu) .nil) (ssz1_ok q) pu (.inl rfl) rfl ?_)
    refine at_nil ?_
    refine x_tn ?_
    refine at_cond rfl (fun hc16 => ?_) (fun hc16 => ?_)
    · skip
      refine at_seq ?_
      refine at_region ?_
      refine s1 (y_p rfl) rfl <| s1 (y_p rfl) rfl <| ?_
      refine at_nil ?_
      refine x_tn ?_
      refine at_ret ?_
      refine x_br ?_
      refine x_tr ?_
      refine x_tr ?_
      refine x_br ?_
      refine x_tr ?_
      refine at_result (rs := [.tmp 4]) rfl (r_tmp rfl r_nil) ?_
      exact congrArg (A.i .i64) (idxE_at hq hi2 hc16).symm
    · skip
      refine at_skip ?_
      refine x_bn ?_
      refine x_tn ?_
      refine at_region ?_
      refine s1 (addN _ 1 rfl rfl rfl rfl (by omega)) rfl <| s1 (y_p rfl) rfl <| ?_
      refine at_nil ?_
      exact at_end (i + 1) (⟨by omega, take_any hq hi2 hc16⟩) (by omega) [] hI rfl rfl ⟨⟨_, rfl, .pure pu⟩, ⟨_, rfl, .pure pu⟩, ⟨_, rfl, .pure pu⟩, ⟨_, rfl, .pure pu⟩, trivial⟩ trivial
  · have h9 : i = l.length := by have := of_decide_eq_false hc9; omega
    subst h9
    refine at_exit ?_
    refine x_te ?_
    refine x_te ?_
    refine x_be ?_
    refine x_tn ?_
    refine at_seq ?_
    refine at_region ?_
    refine s1 ((y_p rfl).v (v' := .i .i64 (-1)) rfl) rfl <| ?_
    refine at_nil ?_
    refine x_tn ?_
    refine at_ret ?_
    refine at_result (rs := [.tmp 4]) rfl (r_tmp rfl r_nil) ?_
    exact congrArg (A.i .i64) (idxE_none hi2).symm
set_option linter.unusedSimpArgs false in
set_option linter.unusedVariables false in
set_option maxHeartbeats 1000000 in
set_option maxRecDepth 10000 in
theorem scontainsS_ok (l : List (List UInt8)) (hn : l.length ≤ maxLen) : Con Tryd.prog 80 [.fz l.length (l.map V6.slV), .fn (.func 81) [] []] (Ret (.b (l.any no16))) := by
  refine enter Tryd.func80 rfl Tryd.ntmps80 (by kernel_rfl) (Nat.le_of_ble_eq_true rfl) fun w0 X0 hI => ?_
  refine at_seq ?_
  refine at_region ?_
  refine s1 (y_p rfl) rfl <| ?_
  refine at_nil ?_
  refine x_tn ?_
  refine at_seq ?_
  refine at_region ?_
  refine s1 (y_p rfl) rfl <| s1 (y_p rfl) rfl <| ?_
  refine at_op rfl (n_call false rfl (.cons (.pure pu) (.cons (.pure pu) .nil)) (sindexS_ok l hn) pu (.inl rfl) rfl ?_)
  refine s1 (y_p rfl) rfl <| s1 (y_p rfl) rfl <| ?_
  refine at_nil ?_
  refine x_tn ?_
  refine at_ret ?_
  refine at_result (rs := [.tmp 4]) rfl (r_tmp rfl r_nil) ?_
  exact congrArg A.b (idxE_ge ..)
set_option linter.unusedSimpArgs false in
set_option linter.unusedVariables false in
set_option maxHeartbeats 1000000 in
set_option maxRecDepth 10000 in
theorem sak1_ok (q : Int) : Con Tryd.prog 84 [.i .i64 q] (Ret (.b (notN q))) := by
  refine enter Tryd.func84 rfl Tryd.ntmps84 (by kernel_rfl) (Nat.le_of_ble_eq_true rfl) fun w0 X0 hI => ?_
  refine at_seq ?_
  refine at_region ?_
  refine s1 (y_p rfl) rfl <| ?_
  refine at_nil ?_
  refine x_tn ?_
  refine at_seq ?_
  refine at_region ?_
  refine s1 (y_p rfl) rfl <| ?_
  refine at_op rfl (n_call false rfl (.cons (.pure pu) (.nil)) (snum_ok q) pu (.inl rfl) rfl ?_)
  refine s1 (y_p rfl) rfl <| s1 (y_p rfl) rfl <| ?_
  refine at_nil ?_
  refine x_tn ?_
  refine at_ret ?_
  refine at_result (rs := [.tmp 2]) rfl (r_tmp rfl r_nil) ?_
  rfl
set_option linter.unusedSimpArgs false in
set_option linter.unusedVariables false in
set_option maxHeartbeats 1000000 in
set_option maxRecDepth 10000 in
theorem sindexI_ok (l : List Int) (hn : l.length ≤ maxLen) : Con Tryd.prog 100 [.fz l.length (l.map (A.i .i64)), .fn (.func 84) [] []] (Ret (.i .i64 (idxI notN l))) := by
  refine enter Tryd.func100 rfl Tryd.ntmps100 (by kernel_rfl) (Nat.le_of_ble_eq_true rfl) fun w0 X0 hI => ?_
  refine at_seq ?_
  simp only [maxLen] at hn
  refine at_region ?_
  refine s1 ((y_p rfl).v (v' := .i .i64 0) rfl) rfl <| ?_
  refine at_nil ?_
  refine x_tn ?_
  refine at_seq ?_
  refine at_seq ?_
  refine at_region ?_
  refine s1 (y_p rfl) rfl <| s1 (y_len Tryd.underlying25 rfl rfl rfl) rfl <| s1 ((y_p rfl).v (v' := .i .i64 0) rfl) rfl <| ?_
  refine at_nil ?_
  refine x_tn ?_
  refine at_block ?_
  refine at_loop (ι := Nat) (fun i => [(0, .fz l.length (l.map (A.i .i64))), (1, .fn (.func 84) [] []), (7, nJ l.length), (8, nJ i)]) (fun i => ⟨[]⟩) (fun i => i ≤ l.length ∧ (l.take i).any notN = false) (fun i => l.length - i) ?_ ?_
  · exact at_ex (0) (⟨Nat.zero_le _, rfl⟩) [] hI rfl rfl ⟨⟨_, rfl, .pure pu⟩, ⟨_, rfl, .pure pu⟩, ⟨_, rfl, .pure pu⟩, ⟨_, rfl, .pure pu⟩, trivial⟩ trivial
  rintro i ⟨hi, hi2⟩
  refine at_seq ?_
  refine at_region ?_
  refine s1 (y_p rfl) rfl <| ?_
  refine at_nil ?_
  refine x_tn ?_
  refine at_seq ?_
  refine at_cond rfl (fun hc9 => ?_) (fun hc9 => ?_)
  · have h9 : i < l.length := by have := of_decide_eq_true hc9; omega
    obtain ⟨q, hq⟩ : ∃ q, l[i]? = some q := ⟨_, List.getElem?_eq_getElem h9⟩
    refine at_skip ?_
    refine x_tn ?_
    refine at_seq ?_
    refine at_block ?_
    refine at_seq ?_
    refine at_region ?_
    refine s1 (y_p rfl) rfl <| s1 (y_p rfl) rfl <| ?_
    refine at_nil ?_
    refine x_tn ?_
    refine at_seq ?_
    refine at_region ?_
    refine s1 (y_p rfl) rfl <| s1 (y_p rfl) rfl <| s1 (y_p rfl) rfl <| s1 (y_ixf i Tryd.underlying25 ti3 rfl rfl rfl (by omega) rfl) rfl <| s1 (y_load ti3 rfl rfl (getI4 hq)) rfl <| ?_
    refine at_op rfl (n_callv false rfl rfl (.cons (.pure pu) .nil) (sak1_ok q) pu (.inl rfl) rfl ?_)
    refine at_nil ?_
    refine x_tn ?_
    refine at_cond rfl (fun hc16 => ?_) (fun hc16 => ?_)
    · skip
      refine at_seq ?_
      refine at_region ?_
      refine s1 (y_p rfl) rfl <| s1 (y_p rfl) rfl <| ?_
      refine at_nil ?_
      refine x_tn ?_
      refine at_ret ?_
      refine x_br ?_
      refine x_tr ?_
      refine x_tr ?_
      refine x_br ?_
      refine x_tr ?_
      refine at_result (rs := [.tmp 4]) rfl (r_tmp rfl r_nil) ?_
      exact congrArg (A.i .i64) (idxI_at hq hi2 hc16).symm
    · skip
      refine at_skip ?_
      refine x_bn ?_
      refine x_tn ?_
      refine at_region ?_
      refine s1 (addN _ 1 rfl rfl rfl rfl (by omega)) rfl <| s1 (y_p rfl) rfl <| ?_
      refine at_nil ?_
      exact at_end (i + 1) (⟨by omega, take_anyI hq hi2 hc16⟩) (by omega) [] hI rfl rfl ⟨⟨_, rfl, .pure pu⟩, ⟨_, rfl, .pure pu⟩, ⟨_, rfl, .pure pu⟩, ⟨_, rfl, .pure pu⟩, trivial⟩ trivial
  · have h9 : i = l.length := by have := of_decide_eq_false hc9; omega
    subst h9
    refine at_exit ?_
    refine x_te ?_
    refine x_te ?_
    refine x_be ?_
    refine x_tn ?_
    refine at_seq ?_
    refine at_region ?_
    refine s1 ((y_p rfl).v (v' := .i .i64 (-1)) rfl) rfl <| ?_
    refine at_nil ?_
    refine x_tn ?_
    refine at_ret ?_
    refine at_result (rs := [.tmp 4]) rfl (r_tmp rfl r_nil) ?_
    exact congrArg (A.i .i64) (idxI_none hi2).symm
set_option linter.unusedSimpArgs false in
set_option linter.unusedVariables false in
set_option maxHeartbeats 1000000 in
set_option maxRecDepth 10000 in
theorem scontainsI_ok (l : List Int) (hn : l.length ≤ maxLen) : Con Tryd.prog 83 [.fz l.length (l.map (A.i .i64)), .fn (.func 84) [] []] (Ret (.b (l.any notN))) := by
  refine enter Tryd.func83 rfl Tryd.ntmps83 (by kernel_rfl) (Nat.le_of_ble_eq_true rfl) fun w0 X0 hI => ?_
  refine at_seq ?_
  refine at_region ?_
  refine s1 (y_p rfl) rfl <| ?_
  refine at_nil ?_
  refine x_tn ?_
  refine at_seq ?_
  refine at_region ?_
  refine s1 (y_p rfl) rfl <| s1 (y_p rfl) rfl <| ?_
  refine at_op rfl (n_call false rfl (.cons (.pure pu) (.cons (.pure pu) .nil)) (sindexI_ok l hn) pu (.inl rfl) rfl ?_)
  refine s1 (y_p rfl) rfl <| s1 (y_p rfl) rfl <| ?_
  refine at_nil ?_
  refine x_tn ?_
  refine at_ret ?_
  refine at_result (rs := [.tmp 4]) rfl (r_tmp rfl r_nil) ?_
  exact congrArg A.b (idxI_ge ..)
set_option linter.unusedSimpArgs false in
set_option linter.unusedVariables false in
set_option maxHeartbeats 1000000 in
set_option maxRecDepth 10000 in
theorem ssized_ok (bl : List (List UInt8)) (m : Nat) (hm : m ≤ 1000) : Con Tryd.prog 49 [.fz bl.length (bl.map V6.slV), nJ m] (Ret (.b (sizB bl m))) := by
  refine enter Tryd.func49 rfl Tryd.ntmps49 (by kernel_rfl) (Nat.le_of_ble_eq_true rfl) fun w0 X0 hI => ?_
  refine at_seq ?_
  refine at_region ?_
  refine s1 (y_p rfl) rfl <| ?_
  refine at_nil ?_
  refine x_tn ?_
  refine at_seq ?_
  refine at_region ?_
  refine s1 (y_p rfl) rfl <| s1 (y_len Tryd.underlying28 rfl rfl rfl) rfl <| s1 (y_p rfl) rfl <| s1 (y_p rfl) rfl <| s1 (y_p rfl) rfl <| ?_
  refine at_bc 9 rfl (fun hc9 => ?_) (fun hc9 => ?_)
  · have h9 : bl.length = m := by have := of_decide_eq_true hc9; omega
    refine g1 rfl rfl (y_p rfl) rfl <| ?_
    refine at_opg rfl rfl rfl (n_call false rfl (.cons (.pure pu) (.cons (.pure pu) .nil)) (scontainsS_ok bl (by simp only [maxLen]; omega)) pu (.inl rfl) rfl ?_)
    refine g1 rfl rfl (y_p rfl) rfl <| s1 (y_p rfl) rfl <| s1 (y_p rfl) rfl <| ?_
    refine at_nil ?_
    refine x_tn ?_
    refine at_ret ?_
    refine at_result (rs := [.tmp 4]) rfl (r_tmp rfl r_nil) ?_
    exact congrArg A.b (by unfold sizB; simp [h9])
  · have h9 : ¬ bl.length = m := by have := of_decide_eq_false hc9; omega
    refine g0 rfl rfl rfl rfl <| g0 rfl rfl rfl rfl <| g0 rfl rfl rfl rfl <| s1 (y_p rfl) rfl <| s1 (y_p rfl) rfl <| ?_
    refine at_nil ?_
    refine x_tn ?_
    refine at_ret ?_
    refine at_result (rs := [.tmp 4]) rfl (r_tmp rfl r_nil) ?_
    exact congrArg A.b (by unfold sizB; simp [h9])
set_option linter.unusedSimpArgs false in
set_option linter.unusedVariables false in
set_option maxHeartbeats 1000000 in
set_option maxRecDepth 10000 in
theorem sread_ok (c : Cas) (hx : c.x.length = 32) (id : Int) (bl : List (List UInt8)) : Con Tryd.prog 17 [.ag (casL c), .i .i64 id, .fz bl.length (bl.map V6.slV)] (Ret (readA c id bl)) := by
  refine enter Tryd.func17 rfl Tryd.ntmps17 (by kernel_rfl) (Nat.le_of_ble_eq_true rfl) fun w0 X0 hI => ?_
  refine at_seq ?_
  refine at_region ?_
  refine at_op rfl (n_boxA 3 rfl rfl rfl ?_)
  refine at_op rfl (n_box1 5 rfl rfl rfl rfl ?_)
  refine s1 (y_p rfl) rfl <| s1 ((y_p rfl).v (v' := .i .i64 0) rfl) rfl <| ?_
  refine at_nil ?_
  refine x_tn ?_
  refine at_seq ?_
  refine at_seq ?_
  rcases rd_cases c id bl with hcs | hcs | hcs | hcs
  · skip
    refine at_region ?_
    refine s1 (y_loadA0 ti27 rfl rfl (cas_len hx)) rfl <| ?_
    refine at_op rfl (n_call false rfl (.cons (.pure pu) (.nil)) (Con.cast (shead_ok c hx) (congrArg A.b hcs)) pu (.inl rfl) rfl ?_)
    refine s1 ((y_p rfl).v (v' := .b true) (rfl)) rfl <| s1 (y_p rfl) rfl <| g0 rfl rfl rfl rfl <| g0 rfl rfl rfl rfl <| g0 rfl rfl rfl rfl <| s1 (y_p rfl) rfl <| s1 (y_p rfl) rfl <| g0 rfl rfl rfl rfl <| g0 rfl rfl rfl rfl <| g0 rfl rfl rfl rfl <| ?_
    refine s1 (y_p rfl) rfl <| ?_
    refine at_nil ?_
    refine x_tn ?_
    refine at_then rfl ?_
    refine at_seq ?_
    refine at_region ?_
    refine s1 (y_p rfl) rfl <| s1 ((y_p rfl).v (v' := .i .i64 370) rfl) rfl <| ?_
    refine at_nil ?_
    refine x_tn ?_
    refine at_ret ?_
    refine x_tr ?_
    refine at_result (rs := [.tmp 6, .tmp 7]) rfl (r_tmp rfl (r_tmp rfl r_nil)) ?_
    rw [read_no (by rw [hcs]; rfl)]; rfl
  · skip
    refine at_region ?_
    refine s1 (y_loadA0 ti27 rfl rfl (cas_len hx)) rfl <| ?_
    refine at_op rfl (n_call false rfl (.cons (.pure pu) (.nil)) (Con.cast (shead_ok c hx) (congrArg A.b hcs.1)) pu (.inl rfl) rfl ?_)
    refine s1 ((y_p rfl).v (v' := .b false) (rfl)) rfl <| s1 (y_p rfl) rfl <| g1 rfl rfl (y_p rfl) rfl <| ?_
    refine at_opg rfl rfl rfl (n_call false rfl (.cons (.pure pu) (.nil)) (Con.cast (snum_ok id) (congrArg A.b hcs.2)) pu (.inl rfl) rfl ?_)
    refine g1 rfl rfl ((y_p rfl).v (v' := .b true) (rfl)) rfl <| s1 (y_p rfl) rfl <| s1 (y_p rfl) rfl <| g0 rfl rfl rfl rfl <| g0 rfl rfl rfl rfl <| g0 rfl rfl rfl rfl <| s1 (y_p rfl) rfl <| ?_
    refine at_nil ?_
    refine x_tn ?_
    refine at_then rfl ?_
    refine at_seq ?_
    refine at_region ?_
    refine s1 (y_p rfl) rfl <| s1 ((y_p rfl).v (v' := .i .i64 370) rfl) rfl <| ?_
    refine at_nil ?_
    refine x_tn ?_
    refine at_ret ?_
    refine x_tr ?_
    refine at_result (rs := [.tmp 6, .tmp 7]) rfl (r_tmp rfl (r_tmp rfl r_nil)) ?_
    rw [read_no (by rw [hcs.1, hcs.2]; rfl)]; rfl
  · obtain ⟨hh, j, rfl, hid, hnb, hz⟩ := hcs
    refine at_region ?_
    refine s1 (y_loadA0 ti27 rfl rfl (cas_len hx)) rfl <| ?_
    refine at_op rfl (n_call false rfl (.cons (.pure pu) (.nil)) (Con.cast (shead_ok c hx) (congrArg A.b hh)) pu (.inl rfl) rfl ?_)
    refine s1 ((y_p rfl).v (v' := .b false) (rfl)) rfl <| s1 (y_p rfl) rfl <| g1 rfl rfl (y_p rfl) rfl <| ?_
    refine at_opg rfl rfl rfl (n_call false rfl (.cons (.pure pu) (.nil)) (Con.cast (snum_ok j) (congrArg A.b hnb)) pu (.inl rfl) rfl ?_)
    refine g1 rfl rfl ((y_p rfl).v (v' := .b false) (rfl)) rfl <| s1 (y_p rfl) rfl <| s1 (y_p rfl) rfl <| g1 rfl rfl (y_load ti28 rfl rfl rfl) rfl <| ?_
    refine at_opg rfl rfl rfl (n_call false rfl (.cons (.pure pu) (.cons (.pure pu) (.nil))) (Con.cast (ssized_ok bl 33 (by omega)) (congrArg A.b hz)) pu (.inl rfl) rfl ?_)
    refine g1 rfl rfl ((y_p rfl).v (v' := .b true) (rfl)) rfl <| s1 (y_p rfl) rfl <| ?_
    refine at_nil ?_
    refine x_tn ?_
    refine at_then rfl ?_
    refine at_seq ?_
    refine at_region ?_
    refine s1 (y_p rfl) rfl <| s1 ((y_p rfl).v (v' := .i .i64 370) rfl) rfl <| ?_
    refine at_nil ?_
    refine x_tn ?_
    refine at_ret ?_
    refine x_tr ?_
    refine at_result (rs := [.tmp 6, .tmp 7]) rfl (r_tmp rfl (r_tmp rfl r_nil)) ?_
    rw [read_no (by rw [hh, hnb, hz]; rfl)]; rfl
  · obtain ⟨hh, j, rfl, hid, hnb, hs⟩ := hcs
    have hle := head_len hh
    refine at_region ?_
    refine s1 (y_loadA0 ti27 rfl rfl (cas_len hx)) rfl <| ?_
    refine at_op rfl (n_call false rfl (.cons (.pure pu) (.nil)) (Con.cast (shead_ok c hx) (congrArg A.b hh)) pu (.inl rfl) rfl ?_)
    refine s1 ((y_p rfl).v (v' := .b false) (rfl)) rfl <| s1 (y_p rfl) rfl <| g1 rfl rfl (y_p rfl) rfl <| ?_
    refine at_opg rfl rfl rfl (n_call false rfl (.cons (.pure pu) (.nil)) (Con.cast (snum_ok j) (congrArg A.b hnb)) pu (.inl rfl) rfl ?_)
    refine g1 rfl rfl ((y_p rfl).v (v' := .b false) (rfl)) rfl <| s1 (y_p rfl) rfl <| s1 (y_p rfl) rfl <| g1 rfl rfl (y_load ti28 rfl rfl rfl) rfl <| ?_
    refine at_opg rfl rfl rfl (n_call false rfl (.cons (.pure pu) (.cons (.pure pu) (.nil))) (Con.cast (ssized_ok bl 33 (by omega)) (congrArg A.b hs)) pu (.inl rfl) rfl ?_)
    refine g1 rfl rfl ((y_p rfl).v (v' := .b false) (rfl)) rfl <| s1 (y_p rfl) rfl <| ?_
    refine at_nil ?_
    refine x_tn ?_
    refine at_else rfl ?_
    refine at_skip ?_
    refine x_tn ?_
    refine at_seq ?_
    refine at_region ?_
    refine at_op rfl (n_alloc 8 rfl ti91 rfl rfl ?_)
    refine at_op rfl (n_store1 ti91 rfl rfl rfl rfl (by first | rfl | omega | (simp; done) | (simp [*]; done) | (simp; omega) | (simp [*]; omega) | (simp [D32.len, -List.length_flatten, *]; done) | (simp [D32.len, -List.length_flatten, *]; omega)) rfl ?_)
    refine at_nil ?_
    refine x_tn ?_
    refine at_seq ?_
    refine at_frzP 5 rfl rfl pul ?_
    refine at_sayO 8 rfl (cs' := [.fn (.func 50) [] []]) rfl ?_
    refine at_frzP 8 rfl rfl pul ?_
    refine at_region ?_
    refine s1 (y_func (us := []) (vs := [.fp [rowsV bl], .fp [.fn (.func 50) [] []]]) rfl rfl) rfl <| s1 (y_p rfl) rfl <| ?_
    refine at_nil ?_
    refine x_tn ?_
    refine at_seq ?_
    refine at_seq ?_
    refine at_region ?_
    refine s1 (y_fld Tryd.underlying27 rfl ti24 (by decide) rfl rfl) rfl <| s1 (y_load ti24 rfl rfl (cas_F hx)) rfl <| s1 (y_len Tryd.underlying24 rfl rfl rfl) rfl <| s1 ((y_p rfl).v (v' := .i .i64 0) rfl) rfl <| ?_
    refine at_nil ?_
    refine x_tn ?_
    refine at_block ?_
    refine at_loop (ι := Nat) (fun i => [(1, nJ j), (3, .p 3 0), (6, .b (i % 2 == 1)), (9, .fn (.func 51) [] [.fp [rowsV bl], .fp [.fn (.func 50) [] []]]), (28, nJ c.F.length), (29, nJ i)]) (fun i => ⟨[(3, some (casL c))]⟩) (fun i => i ≤ c.F.length ∧ ∀ t, t < i → metB c j bl t = true) (fun i => c.F.length - i) ?_ ?_
    · exact at_ex (0) (⟨Nat.zero_le _, fun t ht => absurd ht (by omega)⟩) [(3, some 3)] hI rfl rfl ⟨⟨_, rfl, .pure pu⟩, ⟨_, rfl, .p rfl⟩, ⟨_, rfl, .pure pu⟩, ⟨_, rfl, .pure pu⟩, ⟨_, rfl, .pure pu⟩, ⟨_, rfl, .pure pu⟩, trivial⟩ ⟨.inr ⟨_, _, rfl, rfl, .pure pul⟩, trivial⟩
    rintro i ⟨hi, hp⟩
    refine at_seq ?_
    refine at_region ?_
    refine s1 (y_p rfl) rfl <| ?_
    refine at_nil ?_
    refine x_tn ?_
    refine at_seq ?_
    refine at_cond rfl (fun hc30 => ?_) (fun hc30 => ?_)
    · have h30 : i < c.F.length := by have := of_decide_eq_true hc30; omega
      obtain ⟨f, hf⟩ : ∃ f, c.F[i]? = some f := ⟨_, List.getElem?_eq_getElem h30⟩
      obtain ⟨_, n, hn, hn1, hn2⟩ := head_get hh hf
      refine at_skip ?_
      refine x_tn ?_
      refine at_seq ?_
      refine at_block ?_
      refine at_seq ?_
      refine at_region ?_
      refine s1 (y_p rfl) rfl <| s1 (y_p rfl) rfl <| ?_
      refine at_nil ?_
      refine x_tn ?_
      refine at_seq ?_
      refine at_region ?_
      refine s1 (y_loadA0 ti27 rfl rfl (cas_len hx)) rfl <| s1 (y_p rfl) rfl <| s1 (y_p rfl) rfl <| ?_
      refine at_op rfl (n_call false rfl (.cons (.pure pu) (.cons (.pure pu) (.cons (.pure pu) (.nil)))) (sbits_ok c hx i j n f hf hn (by omega) hn1 hn2 hid) pu (.inl rfl) rfl ?_)
      refine s1 (y_p rfl) rfl <| ?_
      refine at_nil ?_
      refine x_tn ?_
      refine at_seq ?_
      refine at_seq ?_
      rcases met_cases c j bl i with hcs | hcs | hcs
      · skip
        refine at_region ?_
        refine s1 (y_p rfl) rfl <| s1 (y_p rfl) rfl <| s1 (mulN 2 _ rfl rfl rfl rfl (by omega)) rfl <| s1 (y_p rfl) rfl <| s1 (y_ixf 0 Tryd.underlying25 ti3 rfl rfl rfl (by decide) rfl) rfl <| s1 (y_load ti3 rfl rfl (bits2_get c j i (by omega : 0 < 2))) rfl <| ?_
        refine at_op rfl (n_callv false rfl rfl (.cons (.pure pu) (.cons (.pure pu) (.cons (.pure pu) (.cons (.pure pu) .nil)))) (Con.cast (sread1_ok bl (2 * i) (bitsAt c j i 0) hs (by omega)) (congrArg A.b hcs)) pu (.inl rfl) rfl ?_)
        refine s1 ((y_p rfl).v (v' := .b true) (rfl)) rfl <| s1 (y_p rfl) rfl <| g0 rfl rfl rfl rfl <| g0 rfl rfl rfl rfl <| g0 rfl rfl rfl rfl <| g0 rfl rfl rfl rfl <| g0 rfl rfl rfl rfl <| g0 rfl rfl rfl rfl <| g0 rfl rfl rfl rfl <| g0 rfl rfl rfl rfl <| ?_
        refine g0 rfl rfl rfl rfl <| s1 (y_p rfl) rfl <| ?_
        refine at_nil ?_
        refine x_tn ?_
        refine at_then rfl ?_
        refine at_exit ?_
        refine x_te ?_
        refine x_bo rfl ?_
        refine x_te ?_
        refine x_te ?_
        refine x_be ?_
        refine x_tn ?_
        refine at_seq ?_
        refine at_seq ?_
        refine at_region ?_
        refine s1 (y_p rfl) rfl <| s1 (y_p rfl) rfl <| ?_
        refine at_op rfl (n_callv false rfl rfl (.cons (.pure pu) (.cons (.pure pu) (.cons (.pure pu) (.cons (.pure pu) .nil)))) (Con.cast (sread1_ok bl (32) (j) hs (by omega)) (congrArg A.b rfl)) pu (.inl rfl) rfl ?_)
        refine at_nil ?_
        refine x_tn ?_
        refine at_cond rfl (fun hc60 => ?_) (fun hc60 => ?_)
        · skip
          refine at_region ?_
          refine s1 (y_p rfl) rfl <| s1 (y_p rfl) rfl <| s1 (y_p rfl) rfl <| ?_
          refine at_nil ?_
          refine x_tn ?_
          refine at_seq ?_
          refine at_region ?_
          refine s1 (y_p rfl) rfl <| s1 (y_p rfl) rfl <| s1 ((y_p rfl).v (v' := .i .i64 0) rfl) rfl <| ?_
          refine at_nil ?_
          refine x_tn ?_
          refine at_ret ?_
          refine at_result (rs := [.tmp 6, .tmp 7]) rfl (r_tmp rfl (r_tmp rfl r_nil)) ?_
          rw [read_yes hh hnb hs]; exact congrArg (fun b => A.tu [.b b, .i .i64 0]) (rd_t (passT_no h30 hp (met_no0 hcs)) hc60)
        · skip
          refine at_skip ?_
          refine x_tn ?_
          refine at_seq ?_
          refine at_region ?_
          refine s1 (y_p rfl) rfl <| s1 (y_p rfl) rfl <| s1 ((y_p rfl).v (v' := .i .i64 0) rfl) rfl <| ?_
          refine at_nil ?_
          refine x_tn ?_
          refine at_ret ?_
          refine at_result (rs := [.tmp 6, .tmp 7]) rfl (r_tmp rfl (r_tmp rfl r_nil)) ?_
          rw [read_yes hh hnb hs]; exact congrArg (fun b => A.tu [.b b, .i .i64 0]) (rd_f (passT_no h30 hp (met_no0 hcs)) hc60)
      · skip
        refine at_region ?_
        refine s1 (y_p rfl) rfl <| s1 (y_p rfl) rfl <| s1 (mulN 2 _ rfl rfl rfl rfl (by omega)) rfl <| s1 (y_p rfl) rfl <| s1 (y_ixf 0 Tryd.underlying25 ti3 rfl rfl rfl (by decide) rfl) rfl <| s1 (y_load ti3 rfl rfl (bits2_get c j i (by omega : 0 < 2))) rfl <| ?_
        refine at_op rfl (n_callv false rfl rfl (.cons (.pure pu) (.cons (.pure pu) (.cons (.pure pu) (.cons (.pure pu) .nil)))) (Con.cast (sread1_ok bl (2 * i) (bitsAt c j i 0) hs (by omega)) (congrArg A.b hcs.1)) pu (.inl rfl) rfl ?_)
        refine s1 ((y_p rfl).v (v' := .b false) (rfl)) rfl <| s1 (y_p rfl) rfl <| g1 rfl rfl (y_p rfl) rfl <| g1 rfl rfl (y_p rfl) rfl <| g1 rfl rfl (mulN 2 _ rfl rfl rfl rfl (by omega)) rfl <| g1 rfl rfl (addN _ 1 rfl rfl rfl rfl (by omega)) rfl <| g1 rfl rfl (y_p rfl) rfl <| g1 rfl rfl (y_ixf 1 Tryd.underlying25 ti3 rfl rfl rfl (by decide) rfl) rfl <| g1 rfl rfl (y_load ti3 rfl rfl (bits2_get c j i (by omega : 1 < 2))) rfl <| ?_
        refine at_opg rfl rfl rfl (n_callv false rfl rfl (.cons (.pure pu) (.cons (.pure pu) (.cons (.pure pu) (.cons (.pure pu) .nil)))) (Con.cast (sread1_ok bl (2 * i + 1) (bitsAt c j i 1) hs (by omega)) (congrArg A.b hcs.2)) pu (.inl rfl) rfl ?_)
        refine g1 rfl rfl ((y_p rfl).v (v' := .b true) (rfl)) rfl <| s1 (y_p rfl) rfl <| ?_
        refine at_nil ?_
        refine x_tn ?_
        refine at_then rfl ?_
        refine at_exit ?_
        refine x_te ?_
        refine x_bo rfl ?_
        refine x_te ?_
        refine x_te ?_
        refine x_be ?_
        refine x_tn ?_
        refine at_seq ?_
        refine at_seq ?_
        refine at_region ?_
        refine s1 (y_p rfl) rfl <| s1 (y_p rfl) rfl <| ?_
        refine at_op rfl (n_callv false rfl rfl (.cons (.pure pu) (.cons (.pure pu) (.cons (.pure pu) (.cons (.pure pu) .nil)))) (Con.cast (sread1_ok bl (32) (j) hs (by omega)) (congrArg A.b rfl)) pu (.inl rfl) rfl ?_)
        refine at_nil ?_
        refine x_tn ?_
        refine at_cond rfl (fun hc60 => ?_) (fun hc60 => ?_)
        · skip
          refine at_region ?_
          refine s1 (y_p rfl) rfl <| s1 (y_p rfl) rfl <| s1 (y_p rfl) rfl <| ?_
          refine at_nil ?_
          refine x_tn ?_
          refine at_seq ?_
          refine at_region ?_
          refine s1 (y_p rfl) rfl <| s1 (y_p rfl) rfl <| s1 ((y_p rfl).v (v' := .i .i64 0) rfl) rfl <| ?_
          refine at_nil ?_
          refine x_tn ?_
          refine at_ret ?_
          refine at_result (rs := [.tmp 6, .tmp 7]) rfl (r_tmp rfl (r_tmp rfl r_nil)) ?_
          rw [read_yes hh hnb hs]; exact congrArg (fun b => A.tu [.b b, .i .i64 0]) (rd_t (passT_no h30 hp (met_no1 hcs.2)) hc60)
        · skip
          refine at_skip ?_
          refine x_tn ?_
          refine at_seq ?_
          refine at_region ?_
          refine s1 (y_p rfl) rfl <| s1 (y_p rfl) rfl <| s1 ((y_p rfl).v (v' := .i .i64 0) rfl) rfl <| ?_
          refine at_nil ?_
          refine x_tn ?_
          refine at_ret ?_
          refine at_result (rs := [.tmp 6, .tmp 7]) rfl (r_tmp rfl (r_tmp rfl r_nil)) ?_
          rw [read_yes hh hnb hs]; exact congrArg (fun b => A.tu [.b b, .i .i64 0]) (rd_f (passT_no h30 hp (met_no1 hcs.2)) hc60)
      · obtain ⟨hm0, hm1, hm⟩ := hcs
        refine at_region ?_
        refine s1 (y_p rfl) rfl <| s1 (y_p rfl) rfl <| s1 (mulN 2 _ rfl rfl rfl rfl (by omega)) rfl <| s1 (y_p rfl) rfl <| s1 (y_ixf 0 Tryd.underlying25 ti3 rfl rfl rfl (by decide) rfl) rfl <| s1 (y_load ti3 rfl rfl (bits2_get c j i (by omega : 0 < 2))) rfl <| ?_
        refine at_op rfl (n_callv false rfl rfl (.cons (.pure pu) (.cons (.pure pu) (.cons (.pure pu) (.cons (.pure pu) .nil)))) (Con.cast (sread1_ok bl (2 * i) (bitsAt c j i 0) hs (by omega)) (congrArg A.b hm0)) pu (.inl rfl) rfl ?_)
        refine s1 ((y_p rfl).v (v' := .b false) (rfl)) rfl <| s1 (y_p rfl) rfl <| g1 rfl rfl (y_p rfl) rfl <| g1 rfl rfl (y_p rfl) rfl <| g1 rfl rfl (mulN 2 _ rfl rfl rfl rfl (by omega)) rfl <| g1 rfl rfl (addN _ 1 rfl rfl rfl rfl (by omega)) rfl <| g1 rfl rfl (y_p rfl) rfl <| g1 rfl rfl (y_ixf 1 Tryd.underlying25 ti3 rfl rfl rfl (by decide) rfl) rfl <| g1 rfl rfl (y_load ti3 rfl rfl (bits2_get c j i (by omega : 1 < 2))) rfl <| ?_
        refine at_opg rfl rfl rfl (n_callv false rfl rfl (.cons (.pure pu) (.cons (.pure pu) (.cons (.pure pu) (.cons (.pure pu) .nil)))) (Con.cast (sread1_ok bl (2 * i + 1) (bitsAt c j i 1) hs (by omega)) (congrArg A.b hm1)) pu (.inl rfl) rfl ?_)
        refine g1 rfl rfl ((y_p rfl).v (v' := .b false) (rfl)) rfl <| s1 (y_p rfl) rfl <| ?_
        refine at_nil ?_
        refine x_tn ?_
        refine at_else rfl ?_
        refine at_skip ?_
        refine x_tn ?_
        refine at_region ?_
        refine s1 (y_p rfl) rfl <| s1 ((y_p rfl).v (v' := .b ((i + 1) % 2 == 1)) (congrArg A.b (odd_next i))) rfl <| s1 (y_p rfl) rfl <| ?_
        refine at_nil ?_
        refine x_bn ?_
        refine x_tn ?_
        refine at_region ?_
        refine s1 (addN _ 1 rfl rfl rfl rfl (by omega)) rfl <| s1 (y_p rfl) rfl <| ?_
        refine at_nil ?_
        exact at_end (i + 1) (⟨by omega, all_next hp hm⟩) (by omega) [(3, some 3)] hI rfl rfl ⟨⟨_, rfl, .pure pu⟩, ⟨_, rfl, .p rfl⟩, ⟨_, rfl, .pure pu⟩, ⟨_, rfl, .pure pu⟩, ⟨_, rfl, .pure pu⟩, ⟨_, rfl, .pure pu⟩, trivial⟩ ⟨.inr ⟨_, _, rfl, rfl, .pure pul⟩, trivial⟩
    · have h30 : i = c.F.length := by have := of_decide_eq_false hc30; omega
      subst h30
      have hps : passT (metB c j bl) c.F.length = c.F.length := passT_all hp
      refine at_exit ?_
      refine x_te ?_
      refine x_te ?_
      refine x_be ?_
      refine x_tn ?_
      refine at_seq ?_
      refine at_seq ?_
      refine at_region ?_
      refine s1 (y_p rfl) rfl <| s1 (y_p rfl) rfl <| ?_
      refine at_op rfl (n_callv false rfl rfl (.cons (.pure pu) (.cons (.pure pu) (.cons (.pure pu) (.cons (.pure pu) .nil)))) (Con.cast (sread1_ok bl (32) (j) hs (by omega)) (congrArg A.b rfl)) pu (.inl rfl) rfl ?_)
      refine at_nil ?_
      refine x_tn ?_
      refine at_cond rfl (fun hc60 => ?_) (fun hc60 => ?_)
      · skip
        refine at_region ?_
        refine s1 (y_p rfl) rfl <| s1 (y_p rfl) rfl <| s1 (y_p rfl) rfl <| ?_
        refine at_nil ?_
        refine x_tn ?_
        refine at_seq ?_
        refine at_region ?_
        refine s1 (y_p rfl) rfl <| s1 (y_p rfl) rfl <| s1 ((y_p rfl).v (v' := .i .i64 0) rfl) rfl <| ?_
        refine at_nil ?_
        refine x_tn ?_
        refine at_ret ?_
        refine at_result (rs := [.tmp 6, .tmp 7]) rfl (r_tmp rfl (r_tmp rfl r_nil)) ?_
        rw [read_yes hh hnb hs]; exact congrArg (fun b => A.tu [.b b, .i .i64 0]) (rd_t hps hc60)
      · skip
        refine at_skip ?_
        refine x_tn ?_
        refine at_seq ?_
        refine at_region ?_
        refine s1 (y_p rfl) rfl <| s1 (y_p rfl) rfl <| s1 ((y_p rfl).v (v' := .i .i64 0) rfl) rfl <| ?_
        refine at_nil ?_
        refine x_tn ?_
        refine at_ret ?_
        refine at_result (rs := [.tmp 6, .tmp 7]) rfl (r_tmp rfl (r_tmp rfl r_nil)) ?_
        rw [read_yes hh hnb hs]; exact congrArg (fun b => A.tu [.b b, .i .i64 0]) (rd_f hps hc60)
set_option linter.unusedSimpArgs false in
set_option linter.unusedVariables false in
set_option maxHeartbeats 1000000 in
set_option maxRecDepth 10000 in
theorem sasked_ok (c : Cas) (hx : c.x.length = 32) (ids : List Int) : Con Tryd.prog 55 [.ag (casL c), .fz ids.length (ids.map (A.i .i64))] (Ret (.b (askB c ids))) := by
  refine enter Tryd.func55 rfl Tryd.ntmps55 (by kernel_rfl) (Nat.le_of_ble_eq_true rfl) fun w0 X0 hI => ?_
  refine at_seq ?_
  refine at_region ?_
  refine at_op rfl (n_boxA 2 rfl rfl rfl ?_)
  refine s1 (y_p rfl) rfl <| ?_
  refine at_nil ?_
  refine x_tn ?_
  refine at_seq ?_
  rcases ak_cases c ids with hcs | hcs | hcs
  · skip
    refine at_region ?_
    refine s1 (y_loadA0 ti27 rfl rfl (cas_len hx)) rfl <| ?_
    refine at_op rfl (n_call false rfl (.cons (.pure pu) (.nil)) (Con.cast (shead_ok c hx) (congrArg A.b hcs)) pu (.inl rfl) rfl ?_)
    refine s1 (y_p rfl) rfl <| g0 rfl rfl rfl rfl <| g0 rfl rfl rfl rfl <| g0 rfl rfl rfl rfl <| s1 (y_p rfl) rfl <| s1 (y_p rfl) rfl <| g0 rfl rfl rfl rfl <| g0 rfl rfl rfl rfl <| g0 rfl rfl rfl rfl <| s1 (y_p rfl) rfl <| ?_
    refine s1 (y_p rfl) rfl <| ?_
    refine at_nil ?_
    refine x_tn ?_
    refine at_ret ?_
    refine at_result (rs := [.tmp 4]) rfl (r_tmp rfl r_nil) ?_
    exact congrArg A.b (askB_no1 hcs).symm
  · obtain ⟨hh, hi⟩ := hcs
    refine at_region ?_
    refine s1 (y_loadA0 ti27 rfl rfl (cas_len hx)) rfl <| ?_
    refine at_op rfl (n_call false rfl (.cons (.pure pu) (.nil)) (Con.cast (shead_ok c hx) (congrArg A.b hh)) pu (.inl rfl) rfl ?_)
    refine s1 (y_p rfl) rfl <| g1 rfl rfl (y_p rfl) rfl <| g1 rfl rfl (y_len Tryd.underlying25 rfl rfl rfl) rfl <| g1 rfl rfl ((y_p rfl).v (v' := .b false) (congrArg A.b (decide_eq_false (by omega)))) rfl <| s1 (y_p rfl) rfl <| s1 (y_p rfl) rfl <| g0 rfl rfl rfl rfl <| g0 rfl rfl rfl rfl <| g0 rfl rfl rfl rfl <| s1 (y_p rfl) rfl <| ?_
    refine s1 (y_p rfl) rfl <| ?_
    refine at_nil ?_
    refine x_tn ?_
    refine at_ret ?_
    refine at_result (rs := [.tmp 4]) rfl (r_tmp rfl r_nil) ?_
    exact congrArg A.b (askB_no2 hi).symm
  · obtain ⟨hh, hi⟩ := hcs
    refine at_region ?_
    refine s1 (y_loadA0 ti27 rfl rfl (cas_len hx)) rfl <| ?_
    refine at_op rfl (n_call false rfl (.cons (.pure pu) (.nil)) (Con.cast (shead_ok c hx) (congrArg A.b hh)) pu (.inl rfl) rfl ?_)
    refine s1 (y_p rfl) rfl <| g1 rfl rfl (y_p rfl) rfl <| g1 rfl rfl (y_len Tryd.underlying25 rfl rfl rfl) rfl <| g1 rfl rfl ((y_p rfl).v (v' := .b true) (congrArg A.b (decide_eq_true (by omega)))) rfl <| s1 (y_p rfl) rfl <| s1 (y_p rfl) rfl <| g1 rfl rfl (y_p rfl) rfl <| ?_
    refine at_opg rfl rfl rfl (n_call false rfl (.cons (.pure pu) (.cons (.pure pu) .nil)) (scontainsI_ok ids (by simp only [maxLen]; omega)) pu (.inl rfl) rfl ?_)
    refine g1 rfl rfl (y_p rfl) rfl <| s1 (y_p rfl) rfl <| s1 (y_p rfl) rfl <| ?_
    refine at_nil ?_
    refine x_tn ?_
    refine at_ret ?_
    refine at_result (rs := [.tmp 4]) rfl (r_tmp rfl r_nil) ?_
    exact congrArg A.b (askB_3 hh hi)
set_option linter.unusedSimpArgs false in
set_option linter.unusedVariables false in
set_option maxHeartbeats 1000000 in
set_option maxRecDepth 10000 in
theorem sask_ok (c : Cas) (hx : c.x.length = 32) (ids : List Int) (coins : List (List UInt8)) : Con Tryd.prog 22 [.ag (casL c), .fz ids.length (ids.map (A.i .i64)), .fz coins.length (coins.map V6.slV)] (Ret (sAskA c ids coins)) := by
  refine enter Tryd.func22 rfl Tryd.ntmps22 (by kernel_rfl) (Nat.le_of_ble_eq_true rfl) fun w0 X0 hI => ?_
  refine at_seq ?_
  refine at_region ?_
  refine at_op rfl (n_boxA 3 rfl rfl rfl ?_)
  refine at_op rfl (n_alloc 6 rfl ti46 rfl rfl ?_)
  refine at_op rfl (n_alloc 7 rfl ti46 rfl rfl ?_)
  refine s1 ((y_p rfl).v (v' := .i .i64 0) rfl) rfl <| ?_
  refine at_nil ?_
  refine x_tn ?_
  refine at_seq ?_
  refine at_seq ?_
  rcases tfC (askB c ids) with hcs | hcs
  · skip
    refine at_region ?_
    refine s1 (y_loadA0 ti27 rfl rfl (cas_len hx)) rfl <| s1 (y_p rfl) rfl <| ?_
    refine at_op rfl (n_call false rfl (.cons (.pure pu) (.cons (.pure pu) (.nil))) (Con.cast (sasked_ok c hx ids) (congrArg A.b hcs)) pu (.inl rfl) rfl ?_)
    refine s1 ((y_p rfl).v (v' := .b true) (rfl)) rfl <| ?_
    refine at_nil ?_
    refine x_tn ?_
    refine at_then rfl ?_
    refine at_seq ?_
    refine at_fs ⟨_, [], []⟩ 3 4 hmix (le_refl rfl) ?_
    refine fs_q 0 [] [(6, none)] (y_loadA0 ti46 rfl rfl rfl) rfl rfl ?_
    refine fs_q 1 [] [(7, none)] (y_loadA0 ti46 rfl rfl rfl) rfl rfl ?_
    refine fs_stoA 0 2 [0] [(6, none)] rfl gy0 ti46 rfl rfl rfl (by first | rfl | omega | (simp; done) | (simp [*]; done) | (simp; omega) | (simp [*]; omega) | (simp [D32.len, -List.length_flatten, *]; done) | (simp [D32.len, -List.length_flatten, *]; omega)) (by first | rfl | omega | (simp; done) | (simp [*]; done) | (simp; omega) | (simp [*]; omega) | (simp [D32.len, -List.length_flatten, *]; done) | (simp [D32.len, -List.length_flatten, *]; omega)) rfl ?_
    refine fs_end (by kernel_rfl) ?_
    refine at_op rfl (n_storeA ti46 rfl rfl rfl (by first | rfl | omega | (simp; done) | (simp [*]; done) | (simp; omega) | (simp [*]; omega) | (simp [D32.len, -List.length_flatten, *]; done) | (simp [D32.len, -List.length_flatten, *]; omega)) (by first | rfl | omega | (simp; done) | (simp [*]; done) | (simp; omega) | (simp [*]; omega) | (simp [D32.len, -List.length_flatten, *]; done) | (simp [D32.len, -List.length_flatten, *]; omega)) ?_)
    refine s1 ((y_p rfl).v (v' := .i .i64 370) rfl) rfl <| ?_
    refine at_nil ?_
    refine x_tn ?_
    refine at_ret ?_
    refine x_tr ?_
    refine at_result (rs := [.cell 6 46, .cell 7 46, .tmp 8]) rfl (r_cellA ti46 rfl rfl rfl rfl (r_cellA ti46 rfl rfl rfl rfl (r_tmp rfl r_nil))) ?_
    show A.tu _ = _; rw [sask_no hcs]; rfl
  · obtain ⟨hh, hi4, hall⟩ := ask_all hcs
    refine at_region ?_
    refine s1 (y_loadA0 ti27 rfl rfl (cas_len hx)) rfl <| s1 (y_p rfl) rfl <| ?_
    refine at_op rfl (n_call false rfl (.cons (.pure pu) (.cons (.pure pu) (.nil))) (Con.cast (sasked_ok c hx ids) (congrArg A.b hcs)) pu (.inl rfl) rfl ?_)
    refine s1 ((y_p rfl).v (v' := .b false) (rfl)) rfl <| ?_
    refine at_nil ?_
    refine x_tn ?_
    refine at_else rfl ?_
    refine at_skip ?_
    refine x_tn ?_
    refine at_seq ?_
    refine at_region ?_
    refine s1 (y_p rfl) rfl <| ?_
    refine at_nil ?_
    refine x_tn ?_
    refine at_seq ?_
    refine at_seq ?_
    refine at_region ?_
    refine s1 (y_p rfl) rfl <| s1 (y_len Tryd.underlying25 rfl rfl rfl) rfl <| s1 ((y_p rfl).v (v' := .i .i64 0) rfl) rfl <| ?_
    refine at_nil ?_
    refine x_tn ?_
    refine at_block ?_
    refine at_loop (ι := Nat) (fun k => [(2, .fz coins.length (coins.map V6.slV)), (3, .p 3 0), (6, .p 6 0), (7, .p 7 0), (9, .sl 128 1 0 (atL c (ids.take k)).length), (18, .fz ids.length (ids.map (A.i .i64))), (19, nJ ids.length), (20, nJ k)]) (fun k => ⟨[(3, some (casL c)), (6, some ([.nl])), (7, some ([.nl])), (128, some ((atL c (ids.take k)).map iA))]⟩) (fun k => k ≤ ids.length) (fun k => ids.length - k) ?_ ?_
    · exact at_ex (0) (Nat.zero_le _) [(3, some 3), (6, some 6), (7, some 7), (128, none)] hI rfl rfl ⟨⟨_, rfl, .pure pu⟩, ⟨_, rfl, .p rfl⟩, ⟨_, rfl, .p rfl⟩, ⟨_, rfl, .p rfl⟩, ⟨_, rfl, .nl rfl⟩, ⟨_, rfl, .pure pu⟩, ⟨_, rfl, .pure pu⟩, ⟨_, rfl, .pure pu⟩, trivial⟩ ⟨.inr ⟨_, _, rfl, rfl, .pure pul⟩, .inr ⟨_, _, rfl, rfl, .pure pul⟩, .inr ⟨_, _, rfl, rfl, .pure pul⟩, .inl ⟨rfl, rfl⟩, trivial⟩
    rintro k hk
    have hla := len_atL c (ids.take k)
    rw [List.length_take] at hla
    refine at_seq ?_
    refine at_region ?_
    refine s1 (y_p rfl) rfl <| ?_
    refine at_nil ?_
    refine x_tn ?_
    refine at_seq ?_
    refine at_cond rfl (fun hc21 => ?_) (fun hc21 => ?_)
    · have h21 : k < ids.length := by have := of_decide_eq_true hc21; omega
      obtain ⟨q, hq⟩ : ∃ q, ids[k]? = some q := ⟨_, List.getElem?_eq_getElem h21⟩
      refine at_skip ?_
      refine x_tn ?_
      refine at_seq ?_
      refine at_block ?_
      refine at_seq ?_
      refine at_region ?_
      refine s1 (y_ixf k Tryd.underlying25 ti3 rfl rfl rfl (by omega) rfl) rfl <| s1 (y_load ti3 rfl rfl (getI4 hq)) rfl <| s1 (y_p rfl) rfl <| ?_
      refine at_nil ?_
      refine x_tn ?_
      obtain ⟨j, rfl, hj⟩ := num_nat (hall q (List.mem_of_getElem? hq))
      refine at_region ?_
      refine s1 (y_p rfl) rfl <| s1 (y_loadA0 ti27 rfl rfl (cas_len hx)) rfl <| s1 (y_p rfl) rfl <| ?_
      refine at_op rfl (n_call false rfl (.cons (.pure pu) (.cons (.pure pu) (.nil))) (splaces_ok c j) pu (.inl rfl) rfl ?_)
      refine at_op rfl (n_callHO 28 rfl ⟨[(128, some ((atL c (ids.take k)).map iA))]⟩ true rfl ⟨⟨rfl, VwL.pure pul⟩, trivial⟩ (.cons (.ksl rfl) (.cons (.pure pu) .nil)) (Con.atL_cast (sappend1_ok c hx j hj hh (atL c (ids.take k)) (by omega)) hq) pul (.inr ful) rfl ?_)
      refine s1 (y_p rfl) rfl <| ?_
      refine at_nil ?_
      refine x_bn ?_
      refine x_tn ?_
      refine at_region ?_
      refine s1 (addN _ 1 rfl rfl rfl rfl (by omega)) rfl <| s1 (y_p rfl) rfl <| ?_
      refine at_nil ?_
      exact at_end (k + 1) (by omega) (by omega) [(3, some 3), (6, some 6), (7, some 7), (128, some 28)] hI rfl rfl ⟨⟨_, rfl, .pure pu⟩, ⟨_, rfl, .p rfl⟩, ⟨_, rfl, .p rfl⟩, ⟨_, rfl, .p rfl⟩, ⟨_, rfl, .sl rfl (by first | rfl | omega | (simp; done) | (simp [*]; done) | (simp; omega) | (simp [*]; omega) | (simp [D32.len, -List.length_flatten, *]; done) | (simp [D32.len, -List.length_flatten, *]; omega))⟩, ⟨_, rfl, .pure pu⟩, ⟨_, rfl, .pure pu⟩, ⟨_, rfl, .pure pu⟩, trivial⟩ ⟨.inr ⟨_, _, rfl, rfl, .pure pul⟩, .inr ⟨_, _, rfl, rfl, .pure pul⟩, .inr ⟨_, _, rfl, rfl, .pure pul⟩, .inr ⟨_, _, rfl, rfl, .pure pul⟩, trivial⟩
    · have h21 : k = ids.length := by have := of_decide_eq_false hc21; omega
      subst h21
      refine at_exit ?_
      refine x_te ?_
      refine x_te ?_
      refine x_be ?_
      refine x_tn ?_
      refine at_seq ?_
      rcases ask_split 520 (atL c ids) 132 coins with hcs | hcs
      · have hok := ‹askB c ids = true›
        obtain ⟨e, he, hA⟩ := hcs
        refine at_frz 9 rfl rfl pul (view_eq (by simp) rfl) ?_
        refine at_say 9 rfl (v' := .fz (atL c ids).length ((atL c ids).map (A.i .i64))) (by rw [List.take_length]) ?_
        refine at_region ?_
        refine s1 (y_p rfl) rfl <| s1 (y_p rfl) rfl <| ?_
        refine at_op rfl (n_call false rfl (.cons (.pure pu) (.cons (.pure pu) (.cons (.pure pu) (.cons (.pure pu) (.nil))))) (Con.cast (vask_ok 520 (atL c ids) 132 coins) hA) pu (.inl rfl) rfl ?_)
        refine s1 (y_p rfl) rfl <| s1 (y_p rfl) rfl <| s1 (y_p rfl) rfl <| ?_
        refine at_op rfl (n_storeA ti46 rfl rfl rfl (by first | rfl | omega | (simp; done) | (simp [*]; done) | (simp; omega) | (simp [*]; omega) | (simp [D32.len, -List.length_flatten, *]; done) | (simp [D32.len, -List.length_flatten, *]; omega)) (by first | rfl | omega | (simp; done) | (simp [*]; done) | (simp; omega) | (simp [*]; omega) | (simp [D32.len, -List.length_flatten, *]; done) | (simp [D32.len, -List.length_flatten, *]; omega)) ?_)
        refine at_op rfl (n_storeA ti46 rfl rfl rfl (by first | rfl | omega | (simp; done) | (simp [*]; done) | (simp; omega) | (simp [*]; omega) | (simp [D32.len, -List.length_flatten, *]; done) | (simp [D32.len, -List.length_flatten, *]; omega)) (by first | rfl | omega | (simp; done) | (simp [*]; done) | (simp; omega) | (simp [*]; omega) | (simp [D32.len, -List.length_flatten, *]; done) | (simp [D32.len, -List.length_flatten, *]; omega)) ?_)
        refine s1 (y_p rfl) rfl <| ?_
        refine at_nil ?_
        refine x_tn ?_
        refine at_ret ?_
        refine at_result (rs := [.cell 6 46, .cell 7 46, .tmp 8]) rfl (r_cellA ti46 rfl rfl rfl rfl (r_cellA ti46 rfl rfl rfl rfl (r_tmp rfl r_nil))) ?_
        show A.tu _ = _; rw [sask_yes hok, hA]; rfl
      · have hok := ‹askB c ids = true›
        obtain ⟨a, b, hA, _⟩ := hcs
        refine at_frz 9 rfl rfl pul (view_eq (by simp) rfl) ?_
        refine at_say 9 rfl (v' := .fz (atL c ids).length ((atL c ids).map (A.i .i64))) (by rw [List.take_length]) ?_
        refine at_region ?_
        refine s1 (y_p rfl) rfl <| s1 (y_p rfl) rfl <| ?_
        refine at_op rfl (n_call false rfl (.cons (.pure pu) (.cons (.pure pu) (.cons (.pure pu) (.cons (.pure pu) (.nil))))) (Con.cast (vask_ok 520 (atL c ids) 132 coins) hA) pu (.inl rfl) rfl ?_)
        refine s1 (y_p rfl) rfl <| s1 (y_p rfl) rfl <| s1 (y_p rfl) rfl <| ?_
        refine at_op rfl (n_storeA ti46 rfl rfl rfl (by first | rfl | omega | (simp; done) | (simp [*]; done) | (simp; omega) | (simp [*]; omega) | (simp [D32.len, -List.length_flatten, *]; done) | (simp [D32.len, -List.length_flatten, *]; omega)) (by first | rfl | omega | (simp; done) | (simp [*]; done) | (simp; omega) | (simp [*]; omega) | (simp [D32.len, -List.length_flatten, *]; done) | (simp [D32.len, -List.length_flatten, *]; omega)) ?_)
        refine at_op rfl (n_storeA ti46 rfl rfl rfl (by first | rfl | omega | (simp; done) | (simp [*]; done) | (simp; omega) | (simp [*]; omega) | (simp [D32.len, -List.length_flatten, *]; done) | (simp [D32.len, -List.length_flatten, *]; omega)) (by first | rfl | omega | (simp; done) | (simp [*]; done) | (simp; omega) | (simp [*]; omega) | (simp [D32.len, -List.length_flatten, *]; done) | (simp [D32.len, -List.length_flatten, *]; omega)) ?_)
        refine s1 (y_p rfl) rfl <| ?_
        refine at_nil ?_
        refine x_tn ?_
        refine at_ret ?_
        refine at_result (rs := [.cell 6 46, .cell 7 46, .tmp 8]) rfl (r_cellA ti46 rfl rfl rfl rfl (r_cellA ti46 rfl rfl rfl rfl (r_tmp rfl r_nil))) ?_
        show A.tu _ = _; rw [sask_yes hok, hA]; rfl
end Go.Abs.D2

/-! S7Q -/
namespace Go.Abs.D2
open Go Go.Eng Go.Abs
theorem join_16 {p q : List UInt8} (hp : p.length = 16) (hq : q.length = 16) : joinA p q = .tu [V6.slV (V6.xorL p q), .i .i64 0] := joinA_val (by unfold V6.join; rw [if_pos ⟨hp, hq⟩])
def rowsJ (a b : List (List UInt8)) (n m : Nat) : List (List UInt8) := (List.range m).map fun k => V6.xorL (a.getD (33 * n + k) []) (b.getD (33 * n + k) [])
@[simp] theorem len_rowsJ (a b : List (List UInt8)) (n m : Nat) : (rowsJ a b n m).length = m := by simp [rowsJ]
theorem rowsJ_s {a b : List (List UInt8)} {n k : Nat} {p q : List UInt8} (hp : a.getD (33 * n + k) [] = p) (hq : b.getD (33 * n + k) [] = q) : (rowsJ a b n k).map V6.slV ++ [V6.slV (V6.xorL p q)] = (rowsJ a b n (k + 1)).map V6.slV := by
  subst hp; subst hq
  simp [rowsJ, List.range_succ]
theorem siz_rowsJ {a b : List (List UInt8)} {n : Nat} (ha : sizB a 132 = true) (hb : sizB b 132 = true) (hn : n < 4) : sizB (rowsJ a b n 33) 33 = true := by
  unfold sizB
  rw [len_rowsJ, Bool.and_eq_true]
  refine ⟨beq_self_eq_true _, ?_⟩
  rw [Bool.not_eq_true', List.any_eq_false]
  intro x hx
  unfold rowsJ at hx
  obtain ⟨k, hk, rfl⟩ := List.mem_map.1 hx
  have hk := List.mem_range.1 hk
  obtain ⟨p, _, hp, hp16⟩ := siz_get ha (i := 33 * n + k) (by omega)
  obtain ⟨q, _, hq, hq16⟩ := siz_get hb (i := 33 * n + k) (by omega)
  rw [hp, hq]
  simp [no16, V6.len_xorL (by omega : p.length ≤ q.length), hp16]
def resN (c : Cas) (ids : List Int) (a b : List (List UInt8)) (k : Nat) : List Bool := (List.range k).map fun n => readV c (ids.getD n 0).toNat (rowsJ a b n 33)
@[simp] theorem len_resN (c : Cas) (ids : List Int) (a b : List (List UInt8)) (k : Nat) : (resN c ids a b k).length = k := by simp [resN]
theorem resN_s {c : Cas} {ids : List Int} {a b : List (List UInt8)} {k j : Nat} (h : ids[k]? = some (j : Int)) : (resN c ids a b k).map A.b ++ [.b (readV c j (rowsJ a b k 33))] = (resN c ids a b (k + 1)).map A.b := by
  have : (ids.getD k 0).toNat = j := by rw [List.getD, h]; rfl
  simp [resN, List.range_succ, ← this]
abbrev boolsA (l : List Bool) : A := .fz l.length (l.map .b)
def rsB (c : Cas) (ids : List Int) (a b : List (List UInt8)) : Bool := askB c ids && sizB a 132 && sizB b 132
@[irreducible] def resA (c : Cas) (ids : List Int) (a b : List (List UInt8)) : A := if rsB c ids a b then .tu [boolsA (resN c ids a b ids.length), .i .i64 0] else .tu [.nl, .i .i64 370]
theorem res_no {c : Cas} {ids : List Int} {a b : List (List UInt8)} (h : rsB c ids a b = false) : resA c ids a b = .tu [.nl, .i .i64 370] := by unfold resA; rw [h]; rfl
theorem res_yes {c : Cas} {ids : List Int} {a b : List (List UInt8)} (h : rsB c ids a b = true) : resA c ids a b = .tu [boolsA (resN c ids a b ids.length), .i .i64 0] := by unfold resA; rw [h]; rfl
theorem rs_cases (c : Cas) (ids : List Int) (a b : List (List UInt8)) : (askB c ids = false ∧ rsB c ids a b = false) ∨ (askB c ids = true ∧ sizB a 132 = false ∧ rsB c ids a b = false) ∨ (askB c ids = true ∧ sizB a 132 = true ∧ sizB b 132 = false ∧ rsB c ids a b = false) ∨ (askB c ids = true ∧ sizB a 132 = true ∧ sizB b 132 = true ∧ rsB c ids a b = true) := by
  unfold rsB
  cases askB c ids <;> cases sizB a 132 <;> cases sizB b 132 <;> simp
structure Epo where
  a : Int
  b : Int
  d : Int
  r : List A
abbrev epC (e : Epo) : List A := .i .i64 e.a :: .i .i64 e.b :: .i .i64 e.d :: e.r
abbrev eposA (l : List Epo) : A := .fz l.length (l.flatMap epC)
def daysE (l : List Epo) : List Int := l.map Epo.d
@[simp] theorem len_daysE (l : List Epo) : (daysE l).length = l.length := by simp [daysE]
def okE (l : List Epo) : Prop := ∀ e ∈ l, e.r.length = 68
theorem epo_get : ∀ {l : List Epo} {i : Nat} {e : Epo}, okE l → l[i]? = some e → ((l.flatMap epC).drop (i * 71)).take 71 = epC e
  | [], _, _, _, h => by simp at h
  | g :: l, i, e, ho, h => by
    have hg : (epC g).length = 71 := by simp [ho g (.head _)]
    cases i with
    | zero =>
      simp at h; subst h
      rw [Nat.zero_mul, List.drop_zero, List.flatMap_cons, List.take_left' hg]
    | succ i =>
      have e1 : (i + 1) * 71 = 71 + i * 71 := by omega
      rw [e1, List.flatMap_cons, ← List.drop_drop, List.drop_left' hg]
      exact epo_get (fun q hq => ho q (.tail _ hq)) (by simpa using h)
theorem epo_len {l : List Epo} {i : Nat} {e : Epo} (ho : okE l) (h : l[i]? = some e) : (epC e).length = 71 := by simp [ho e (List.mem_of_getElem? h)]
theorem days_get {l : List Epo} {i : Nat} {e : Epo} (h : l[i]? = some e) : (daysE l)[i]? = some e.d := by unfold daysE; rw [List.getElem?_map, h]; rfl
theorem epo_day {l : List Epo} {i : Nat} {e : Epo} (ho : okE l) (h : l[i]? = some e) : (((l.flatMap epC).drop (i * 71)).drop 2)[0]? = some (A.i .i64 e.d) := by
  have := epo_get ho h
  have e1 : (((l.flatMap epC).drop (i * 71)).take 71)[2]? = some (A.i .i64 e.d) := by rw [this]; rfl
  rw [List.getElem?_drop]
  rwa [List.getElem?_take, if_pos (by omega)] at e1
def argB (ds : List Int) (no day bound : Int) : Bool := decide (0 ≤ no ∧ no < ds.length ∧ 0 ≤ day ∧ day < 1024 ∧ 0 ≤ bound)
def frsV (ds : List Int) (n : Nat) (day bound : Int) : Bool := decide (n + 1 = ds.length) || decide (day - ds.getD (n + 1) 0 ≤ bound)
def frsP (ds : List Int) (no day bound : Int) : Bool × Int :=
  if listedB ds then (if argB ds no day bound then (if day < ds.getD no.toNat 0 then (false, 0) else (frsV ds no.toNat day bound, 0)) else (false, 1)) else (false, 370)
@[irreducible] def frsA (ds : List Int) (no day bound : Int) : A := .tu [.b (frsP ds no day bound).1, .i .i64 (frsP ds no day bound).2]
theorem frs_no {ds : List Int} {no day bound : Int} (h : listedB ds = false) : frsA ds no day bound = .tu [.b false, .i .i64 370] := by unfold frsA frsP; rw [h]; rfl
theorem frs_arg {ds : List Int} {no day bound : Int} (h : listedB ds = true) (h2 : argB ds no day bound = false) : frsA ds no day bound = .tu [.b false, .i .i64 1] := by unfold frsA frsP; rw [h, h2]; rfl
theorem frs_late {ds : List Int} {n : Nat} {day bound : Int} (h : listedB ds = true) (h2 : argB ds n day bound = true) (h3 : day < ds.getD n 0) : frsA ds n day bound = .tu [.b false, .i .i64 0] := by
  unfold frsA frsP; rw [h, h2]; simp only [if_true, Int.toNat_natCast]; rw [if_pos h3]
theorem frs_yes {ds : List Int} {n : Nat} {day bound : Int} (h : listedB ds = true) (h2 : argB ds n day bound = true) (h3 : ¬ day < ds.getD n 0) : frsA ds n day bound = .tu [.b (frsV ds n day bound), .i .i64 0] := by
  unfold frsA frsP; rw [h, h2]; simp only [if_true, Int.toNat_natCast]; rw [if_neg h3]
theorem arg_yes {ds : List Int} {no day bound : Int} (h : 0 ≤ no ∧ no < ds.length ∧ 0 ≤ day ∧ day < 1024 ∧ 0 ≤ bound) : argB ds no day bound = true := decide_eq_true h
theorem arg_no {ds : List Int} {no day bound : Int} (h : ¬ (0 ≤ no ∧ no < ds.length ∧ 0 ≤ day ∧ day < 1024 ∧ 0 ≤ bound)) : argB ds no day bound = false := decide_eq_false h
theorem getD_get {l : List Int} {i : Nat} {v : Int} (h : l[i]? = some v) : l.getD i 0 = v := by rw [List.getD, h]; rfl
theorem zero_M : (List.replicate 8320 (Value.int .u8 0)).map evC = zeroM.map u8 := by
  unfold zeroM; rw [List.map_replicate, zmap]
theorem put_cs {M D : List UInt8} {o k p : Nat} (hp : p = o + k) : ((putD M o D k).map u8).set p (u8 (D.getD k 0)) = (putD M o D (k + 1)).map u8 := by
  subst hp; rw [putD, List.map_set]
theorem getO7 {M : List UInt8} {p i : Nat} (hp : p = i) (hi : i < M.length) : ((M.map u8).drop p)[0]? = some (u8 (M.getD i 0)) := by
  subst hp; simp [hi]
theorem set_cs {M : List UInt8} {j p : Nat} (hp : p = 8192 + j / 8) : ((M.map u8).set p (u8 (M.getD (8192 + j / 8) 0 ||| bitB (j % 8)))) = (setA M (65536 + j)).map u8 := by
  subst hp; unfold setA
  rw [show (65536 + j) / 8 = 8192 + j / 8 by omega, show (65536 + j) % 8 = j % 8 by omega, List.map_set]
theorem blk_view {M : List UInt8} {i o : Nat} (ho : o = 16 * i) : ((M.map u8).drop o).take 16 = (blkN M i).map u8 := by
  subst ho; unfold blkN; rw [List.map_take, List.map_drop]
theorem rows_dbN (M : List UInt8) : A.fz 520 ((dbN M 520).map V6.slV) = rowsV (dbN M 520) := by rw [rowsV, len_dbN]
theorem bools_res (c : Cas) (ids : List Int) (a b : List (List UInt8)) (n : Nat) : A.fz n ((resN c ids a b n).map .b) = boolsA (resN c ids a b n) := by rw [boolsA, len_resN]
theorem rows_J (a b : List (List UInt8)) (n k : Nat) : A.fz k ((rowsJ a b n k).map V6.slV) = rowsV (rowsJ a b n k) := by rw [rowsV, len_rowsJ]
theorem data_at {F : List Fil} {i : Nat} {f : Fil} (h : F[i]? = some f) : (F.map Fil.D).getD i [] = f.D := by rw [List.getD, List.getElem?_map, h]; rfl
theorem filF_next {F : List Fil} {i : Nat} {f : Fil} (h : F[i]? = some f) : putD (filF F i) (512 * i) f.D f.D.length = filF F (i + 1) := by rw [filF, data_at h]
theorem exc_next {M : List UInt8} {E : List Int} {k j : Nat} (h : E[k]? = some (j : Int)) : setA (excF M E k) (65536 + j) = excF M E (k + 1) := by rw [excF, List.getD, h]; rfl
theorem lev_get : ∀ {F : List Fil} {j i : Nat} {f : Fil}, levB j F = true → F[i]? = some f → f.lv = (j + i : Nat) ∧ chkB f.lv f.nb f.D = true
  | [], _, _, _, _, h => by simp at h
  | g :: F, j, i, f, h0, h => by
    simp only [levB, Bool.and_eq_true, decide_eq_true_eq] at h0
    cases i with
    | zero => simp at h; subst h; exact h0.1
    | succ i =>
      have := lev_get h0.2 (by simpa using h)
      rw [show j + (i + 1) = j + 1 + i by omega]; exact this
theorem chkC_all {c : Cas} (h : chkC c = true) : c.F.length ≤ 16 ∧ listedB c.E = true ∧ levB 0 c.F = true := by
  unfold chkC at h
  simp only [Bool.and_eq_true, decide_eq_true_eq] at h
  exact ⟨h.1.1, h.1.2, h.2⟩
theorem chkC_get {c : Cas} (h : chkC c = true) {i : Nat} {f : Fil} (hf : c.F[i]? = some f) : f.lv = (i : Nat) ∧ ∃ n : Nat, f.nb = (n : Int) ∧ 8 ≤ n ∧ n ≤ 4096 ∧ f.D.length = (n + 7) / 8 ∧ chkB (i : Nat) (n : Nat) f.D = true := by
  have := lev_get (chkC_all h).2.2 hf
  obtain ⟨l, n, e1, e2, _, h2, h3, h4, _⟩ := chk_nat this.2
  refine ⟨by rw [this.1]; simp, n, e2, h2, h3, h4, ?_⟩
  have e3 := this.2
  rw [this.1, e2] at e3
  simpa using e3
end Go.Abs.D2

/-! S7D -/
namespace Go.Abs.D2
open Go Go.Eng Go.Abs Go.Proofs 
set_option linter.unusedSimpArgs false in
set_option linter.unusedVariables false in
set_option maxHeartbeats 1000000 in
set_option maxRecDepth 10000 in
theorem sset_ok (M : List UInt8) (hM : M.length = 8320) (j : Nat) (hj : j < 1024) : ConS Tryd.prog 39 [.p 5 (0 + (512 + j / 128) * 16), nJ j] ⟨[(5, some (M.map u8))]⟩ (RetS (.tu []) [(5, (setA M (65536 + j)).map u8)]) := by
  refine enterS Tryd.func39 rfl Tryd.ntmps39 (by kernel_rfl) (Nat.le_of_ble_eq_true rfl) fun w0 X0 hI => ?_
  refine at_draw_tail 13 hmix (by kernel_rfl) ?_
  refine t1 (y_p rfl) rfl <| t1 (y_p rfl) rfl <| t1 (remN _ 128 rfl rfl rfl rfl (by omega)) rfl <| t1 (quoN _ 8 rfl rfl rfl rfl (by omega) (by omega)) rfl <| t1 (y_nilc rfl rfl) rfl <| t1 (y_ixa (j % 128 / 8) Tryd.underlying79 ti5 rfl rfl rfl (by omega) rfl) rfl <| t1 (y_load ti5 rfl rfl (getO7 (i := 8192 + j / 8) (by omega) (by omega))) rfl <| t1 (y_p rfl) rfl <| t1 (remN _ 8 rfl rfl rfl rfl (by omega)) rfl <| t1 (shl1B (j % 8) rfl rfl rfl (by omega)) rfl <| ?_
  refine t1 (orB _ _ rfl rfl) rfl <| t1 (y_nilc rfl rfl) rfl <| t1 (y_ixa (j % 128 / 8) Tryd.underlying79 ti5 rfl rfl rfl (by omega) rfl) rfl <| ?_
  refine at_snil ?_
  refine at_op rfl (n_store1 ti5 rfl rfl rfl rfl (by simp; omega) (set_cs (by omega)) ?_)
  refine at_nil ?_
  refine at_result' (rs := []) rfl r_nil ?_
  exact retS_1 rfl
theorem clone16_ok (D : List UInt8) (h : D.length = 16) : Con Tryd.prog 40 [.fz 16 (D.map u8)] (RetO 1 16 (D.map u8)) := by
  have : Con Tryd.prog 40 [.fz D.length (D.map u8)] (RetO 1 D.length (D.map u8)) := clone_ok D (by omega) (by omega)
  rw [h] at this
  exact this
set_option linter.unusedSimpArgs false in
set_option linter.unusedVariables false in
set_option maxHeartbeats 1000000 in
set_option maxRecDepth 10000 in
theorem sblocks_ok (c : Cas) (hx : c.x.length = 32) (hn : c.E.length ≤ maxLen) : Con Tryd.prog 13 [.ag (casL c)] (Ret (blocksA c)) := by
  refine enter Tryd.func13 rfl Tryd.ntmps13 (by kernel_rfl) (Nat.le_of_ble_eq_true rfl) fun w0 X0 hI => ?_
  refine at_seq ?_
  refine at_region ?_
  refine at_op rfl (n_boxA 1 rfl rfl rfl ?_)
  refine s1 (y_p rfl) rfl <| s1 ((y_p rfl).v (v' := .i .i64 0) rfl) rfl <| ?_
  refine at_nil ?_
  refine x_tn ?_
  refine at_seq ?_
  refine at_seq ?_
  rcases tfC (chkC c) with hcs | hcs
  · skip
    refine at_region ?_
    refine s1 (y_loadA0 ti27 rfl rfl (cas_len hx)) rfl <| ?_
    refine at_op rfl (n_call false rfl (.cons (.pure pu) (.nil)) (Con.cast (cchk_ok c hx hn) (congrArg (fun b => A.i .i64 (errC b)) hcs)) pu (.inl rfl) rfl ?_)
    refine s1 (y_p rfl) rfl <| ?_
    refine at_nil ?_
    refine x_tn ?_
    refine at_seq ?_
    refine at_region ?_
    refine s1 (y_p rfl) rfl <| s1 ((y_p rfl).v (v' := .b true) (rfl)) rfl <| ?_
    refine at_nil ?_
    refine x_tn ?_
    refine at_then rfl ?_
    refine at_seq ?_
    refine at_region ?_
    refine s1 (y_p rfl) rfl <| s1 (y_p rfl) rfl <| s1 (y_p rfl) rfl <| ?_
    refine at_nil ?_
    refine x_tn ?_
    refine at_ret ?_
    refine x_tr ?_
    refine at_result (rs := [.tmp 2, .tmp 3]) rfl (r_tmp rfl (r_tmp rfl r_nil)) ?_
    rw [blocks_no hcs]; rfl
  · obtain ⟨hF16, hLE, _⟩ := chkC_all hcs
    have hen := hn
    simp only [maxLen] at hen
    refine at_region ?_
    refine s1 (y_loadA0 ti27 rfl rfl (cas_len hx)) rfl <| ?_
    refine at_op rfl (n_call false rfl (.cons (.pure pu) (.nil)) (Con.cast (cchk_ok c hx hn) (congrArg (fun b => A.i .i64 (errC b)) hcs)) pu (.inl rfl) rfl ?_)
    refine s1 (y_p rfl) rfl <| ?_
    refine at_nil ?_
    refine x_tn ?_
    refine at_seq ?_
    refine at_region ?_
    refine s1 (y_p rfl) rfl <| s1 ((y_p rfl).v (v' := .b false) (rfl)) rfl <| ?_
    refine at_nil ?_
    refine x_tn ?_
    refine at_else rfl ?_
    refine at_skip ?_
    refine x_tn ?_
    refine at_seq ?_
    refine at_region ?_
    refine at_op rfl (n_alloc 5 rfl ti80 (all_rep rfl) rfl ?_)
    refine at_nil ?_
    refine x_tn ?_
    refine at_seq ?_
    refine at_seq ?_
    refine at_sayO 5 (cs' := zeroM.map u8) rfl zero_M ?_
    refine at_region ?_
    refine s1 (y_fld Tryd.underlying27 rfl ti24 (by decide) rfl rfl) rfl <| s1 (y_load ti24 rfl rfl (cas_F hx)) rfl <| s1 (y_len Tryd.underlying24 rfl rfl rfl) rfl <| s1 ((y_p rfl).v (v' := .i .i64 0) rfl) rfl <| ?_
    refine at_nil ?_
    refine x_tn ?_
    refine at_block ?_
    refine at_loop (ι := Nat) (fun i => [(1, .p 1 0), (2, .nl), (5, .p 5 0), (19, filsA c.F), (20, nJ c.F.length), (21, nJ i)]) (fun i => ⟨[(1, some (casL c)), (5, some ((filF c.F i).map u8))]⟩) (fun i => i ≤ c.F.length) (fun i => c.F.length - i) ?_ ?_
    · exact at_ex (0) (Nat.zero_le _) [(1, some 1), (5, some 5)] hI rfl rfl ⟨⟨_, rfl, .p rfl⟩, ⟨_, rfl, .pure pu⟩, ⟨_, rfl, .p rfl⟩, ⟨_, rfl, .pure pu⟩, ⟨_, rfl, .pure pu⟩, ⟨_, rfl, .pure pu⟩, trivial⟩ ⟨.inr ⟨_, _, rfl, rfl, .pure pul⟩, .inr ⟨_, _, rfl, rfl, .pure pul⟩, trivial⟩
    rintro i hi
    refine at_seq ?_
    refine at_region ?_
    refine s1 (y_p rfl) rfl <| ?_
    refine at_nil ?_
    refine x_tn ?_
    refine at_seq ?_
    refine at_cond rfl (fun hc22 => ?_) (fun hc22 => ?_)
    · have h22 : i < c.F.length := by have := of_decide_eq_true hc22; omega
      obtain ⟨f, hf⟩ : ∃ f, c.F[i]? = some f := ⟨_, List.getElem?_eq_getElem h22⟩
      obtain ⟨_, n, hn0, hn1, hn2, hD, _⟩ := chkC_get hcs hf
      refine at_skip ?_
      refine x_tn ?_
      refine at_seq ?_
      refine at_block ?_
      refine at_seq ?_
      refine at_region ?_
      refine s1 (y_p rfl) rfl <| s1 (y_ixf i Tryd.underlying24 ti82 rfl rfl rfl (by omega) rfl) rfl <| s1 (y_loadA ti82 rfl rfl (flat_get hf) rfl) rfl <| ?_
      refine at_op rfl (n_alloc 7 rfl ti82 rfl rfl ?_)
      refine s1 (y_p rfl) rfl <| ?_
      refine at_op rfl (n_storeA ti82 rfl rfl rfl (by first | rfl | omega | (simp; done) | (simp [*]; done) | (simp; omega) | (simp [*]; omega) | (simp [D32.len, -List.length_flatten, *]; done) | (simp [D32.len, -List.length_flatten, *]; omega)) (by first | rfl | omega | (simp; done) | (simp [*]; done) | (simp; omega) | (simp [*]; omega) | (simp [D32.len, -List.length_flatten, *]; done) | (simp [D32.len, -List.length_flatten, *]; omega)) ?_)
      refine at_nil ?_
      refine x_tn ?_
      refine at_seq ?_
      refine at_region ?_
      refine s1 (y_fld Tryd.underlying82 rfl ti66 (by decide) rfl rfl) rfl <| s1 (y_load ti66 rfl rfl rfl) rfl <| s1 (y_len Tryd.underlying66 rfl rfl rfl) rfl <| s1 ((y_p rfl).v (v' := .i .i64 0) rfl) rfl <| ?_
      refine at_nil ?_
      refine x_tn ?_
      refine at_block ?_
      refine at_loop (ι := Nat) (fun k => [(1, .p 1 0), (2, .nl), (5, .p 5 0), (6, nJ i), (19, filsA c.F), (20, nJ c.F.length), (21, nJ i), (27, slA f.D), (28, nJ f.D.length), (29, nJ k)]) (fun k => ⟨[(1, some (casL c)), (5, some ((putD (filF c.F i) (512 * i) f.D k).map u8))]⟩) (fun k => k ≤ f.D.length) (fun k => f.D.length - k) ?_ ?_
      · exact at_ex (0) (Nat.zero_le _) [(1, some 1), (5, some 5)] hI rfl rfl ⟨⟨_, rfl, .p rfl⟩, ⟨_, rfl, .pure pu⟩, ⟨_, rfl, .p rfl⟩, ⟨_, rfl, .pure pu⟩, ⟨_, rfl, .pure pu⟩, ⟨_, rfl, .pure pu⟩, ⟨_, rfl, .pure pu⟩, ⟨_, rfl, .pure pu⟩, ⟨_, rfl, .pure pu⟩, ⟨_, rfl, .pure pu⟩, trivial⟩ ⟨.inr ⟨_, _, rfl, rfl, .pure pul⟩, .inr ⟨_, _, rfl, rfl, .pure pul⟩, trivial⟩
      rintro k hk
      refine at_seq ?_
      refine at_region ?_
      refine s1 (y_p rfl) rfl <| ?_
      refine at_nil ?_
      refine x_tn ?_
      refine at_seq ?_
      refine at_cond rfl (fun hc30 => ?_) (fun hc30 => ?_)
      · have h30 : k < f.D.length := by have := of_decide_eq_true hc30; omega
        refine at_skip ?_
        refine x_tn ?_
        refine at_seq ?_
        refine at_block ?_
        refine at_seq ?_
        refine at_region ?_
        refine s1 (y_p rfl) rfl <| s1 (y_ixf k Tryd.underlying66 ti5 rfl rfl rfl (by omega) rfl) rfl <| s1 (y_load ti5 rfl rfl (getD8 h30)) rfl <| s1 (y_p rfl) rfl <| s1 (y_p rfl) rfl <| ?_
        refine at_nil ?_
        refine x_tn ?_
        refine at_region ?_
        refine s1 (y_p rfl) rfl <| s1 (mulN 32 _ rfl rfl rfl rfl (by omega)) rfl <| s1 (y_p rfl) rfl <| s1 (quoN _ 16 rfl rfl rfl rfl (by omega) (by omega)) rfl <| s1 (addN _ _ rfl rfl rfl rfl (by omega)) rfl <| s1 (y_p rfl) rfl <| s1 (remN _ 16 rfl rfl rfl rfl (by omega)) rfl <| s1 (y_p rfl) rfl <| s1 (y_ixa (32 * i + k / 16) Tryd.underlying80 ti79 rfl rfl rfl (by omega) rfl) rfl <| s1 (y_ixa (k % 16) Tryd.underlying79 ti5 rfl rfl rfl (by omega) rfl) rfl <| ?_
        refine at_op rfl (n_store1 ti5 rfl rfl rfl rfl (by rw [List.length_map, len_putD, len_filF]; omega) (put_cs (by omega)) ?_)
        refine at_nil ?_
        refine x_bn ?_
        refine x_tn ?_
        refine at_region ?_
        refine s1 (addN _ 1 rfl rfl rfl rfl (by omega)) rfl <| s1 (y_p rfl) rfl <| ?_
        refine at_nil ?_
        exact at_end (k + 1) (by omega) (by omega) [(1, some 1), (5, some 5)] hI rfl rfl ⟨⟨_, rfl, .p rfl⟩, ⟨_, rfl, .pure pu⟩, ⟨_, rfl, .p rfl⟩, ⟨_, rfl, .pure pu⟩, ⟨_, rfl, .pure pu⟩, ⟨_, rfl, .pure pu⟩, ⟨_, rfl, .pure pu⟩, ⟨_, rfl, .pure pu⟩, ⟨_, rfl, .pure pu⟩, ⟨_, rfl, .pure pu⟩, trivial⟩ ⟨.inr ⟨_, _, rfl, rfl, .pure pul⟩, .inr ⟨_, _, rfl, rfl, .pure pul⟩, trivial⟩
      · have h30 : k = f.D.length := by have := of_decide_eq_false hc30; omega
        subst h30
        refine at_exit ?_
        refine x_te ?_
        refine x_te ?_
        refine x_be ?_
        refine x_bn ?_
        refine x_tn ?_
        refine at_region ?_
        refine s1 (addN _ 1 rfl rfl rfl rfl (by omega)) rfl <| s1 (y_p rfl) rfl <| ?_
        refine at_nil ?_
        exact at_end (i + 1) (by omega) (by omega) [(1, some 1), (5, some 5)] hI rfl rfl ⟨⟨_, rfl, .p rfl⟩, ⟨_, rfl, .pure pu⟩, ⟨_, rfl, .p rfl⟩, ⟨_, rfl, .pure pu⟩, ⟨_, rfl, .pure pu⟩, ⟨_, rfl, .pure pu⟩, trivial⟩ ⟨.inr ⟨_, _, rfl, rfl, .pure pul⟩, .inr ⟨_, _, rfl, rfl, .of (by rw [filF_next hf]) (.pure pul)⟩, trivial⟩
    · have h22 : i = c.F.length := by have := of_decide_eq_false hc22; omega
      subst h22
      refine at_exit ?_
      refine x_te ?_
      refine x_te ?_
      refine x_be ?_
      refine x_tn ?_
      refine at_seq ?_
      refine at_seq ?_
      refine at_region ?_
      refine s1 (y_fld Tryd.underlying27 rfl ti25 (by decide) rfl rfl) rfl <| s1 (y_load ti25 rfl rfl (cas_E hx)) rfl <| s1 (y_len Tryd.underlying25 rfl rfl rfl) rfl <| s1 ((y_p rfl).v (v' := .i .i64 0) rfl) rfl <| ?_
      refine at_nil ?_
      refine x_tn ?_
      refine at_block ?_
      refine at_loop (ι := Nat) (fun k => [(2, .nl), (5, .p 5 0), (47, intsA c.E), (48, nJ c.E.length), (49, nJ k)]) (fun k => ⟨[(5, some ((excF (filF c.F c.F.length) c.E k).map u8))]⟩) (fun k => k ≤ c.E.length) (fun k => c.E.length - k) ?_ ?_
      · exact at_ex (0) (Nat.zero_le _) [(5, some 5)] hI rfl rfl ⟨⟨_, rfl, .pure pu⟩, ⟨_, rfl, .p rfl⟩, ⟨_, rfl, .pure pu⟩, ⟨_, rfl, .pure pu⟩, ⟨_, rfl, .pure pu⟩, trivial⟩ ⟨.inr ⟨_, _, rfl, rfl, .pure pul⟩, trivial⟩
      rintro k hk
      refine at_seq ?_
      refine at_region ?_
      refine s1 (y_p rfl) rfl <| ?_
      refine at_nil ?_
      refine x_tn ?_
      refine at_seq ?_
      refine at_cond rfl (fun hc50 => ?_) (fun hc50 => ?_)
      · have h50 : k < c.E.length := by have := of_decide_eq_true hc50; omega
        obtain ⟨q, hq⟩ : ∃ q, c.E[k]? = some q := ⟨_, List.getElem?_eq_getElem h50⟩
        have hqm := listed_mem hLE q (List.mem_of_getElem? hq)
        obtain ⟨j, rfl⟩ : ∃ j : Nat, q = (j : Int) := ⟨q.toNat, by omega⟩
        refine at_skip ?_
        refine x_tn ?_
        refine at_seq ?_
        refine at_block ?_
        refine at_seq ?_
        refine at_region ?_
        refine s1 (y_ixf k Tryd.underlying25 ti3 rfl rfl rfl (by omega) rfl) rfl <| s1 (y_load ti3 rfl rfl (getI4 hq)) rfl <| s1 (y_p rfl) rfl <| ?_
        refine at_nil ?_
        refine x_tn ?_
        refine at_region ?_
        refine s1 (y_p rfl) rfl <| s1 (quoN _ 128 rfl rfl rfl rfl (by omega) (by omega)) rfl <| s1 (addN 512 _ rfl rfl rfl rfl (by omega)) rfl <| s1 (y_ixa (512 + j / 128) Tryd.underlying80 ti79 rfl rfl rfl (by omega) rfl) rfl <| s1 (y_p rfl) rfl <| ?_
        refine at_op rfl (n_callGd ⟨[(5, some ((excF (filF c.F c.F.length) c.E k).map u8))]⟩ [(5, (setA (excF (filF c.F c.F.length) c.E k) (65536 + j)).map u8)] true rfl ⟨⟨rfl, VwL.pure pul⟩, trivial⟩ (.cons (.kp rfl) (.cons (.pure pu) .nil)) (sset_ok (excF (filF c.F c.F.length) c.E k) (by simp) j (by omega)) trivial (.inr trivial) (upd_1 (c0 := (excF (filF c.F c.F.length) c.E k).map u8) rfl pul ful) rfl ?_)
        refine at_nil ?_
        refine x_bn ?_
        refine x_tn ?_
        refine at_region ?_
        refine s1 (addN _ 1 rfl rfl rfl rfl (by omega)) rfl <| s1 (y_p rfl) rfl <| ?_
        refine at_nil ?_
        exact at_end (k + 1) (by omega) (by omega) [(5, some 5)] hI rfl rfl ⟨⟨_, rfl, .pure pu⟩, ⟨_, rfl, .p rfl⟩, ⟨_, rfl, .pure pu⟩, ⟨_, rfl, .pure pu⟩, ⟨_, rfl, .pure pu⟩, trivial⟩ ⟨.inr ⟨_, _, rfl, rfl, .of (by rw [exc_next hq]) (.pure pul)⟩, trivial⟩
      · have h50 : k = c.E.length := by have := of_decide_eq_false hc50; omega
        subst h50
        refine at_exit ?_
        refine x_te ?_
        refine x_te ?_
        refine x_be ?_
        refine x_tn ?_
        refine at_seq ?_
        refine at_seq ?_
        refine at_sayO 5 (cs' := (imgB c).map u8) rfl (by rw [imgB_eq]) ?_
        have hM := len_imgB c
        have hret := blocks_yes hcs
        generalize imgB c = M at hM hret
        refine at_region ?_
        refine s1 ((y_p rfl).v (v' := .i .i64 0) rfl) rfl <| ?_
        refine at_nil ?_
        refine x_tn ?_
        refine at_block ?_
        refine at_loop (ι := Nat) (fun i => [(2, .sl 169 1 0 i), (5, .p 5 0), (60, nJ i)]) (fun i => ⟨[(169, some ((dbN M i).map V6.slV)), (5, some (M.map u8))]⟩) (fun i => i ≤ 520) (fun i => 520 - i) ?_ ?_
        · exact at_ex (0) (Nat.zero_le _) [(5, some 5), (169, none)] hI rfl rfl ⟨⟨_, rfl, .nl rfl⟩, ⟨_, rfl, .p rfl⟩, ⟨_, rfl, .pure pu⟩, trivial⟩ ⟨.inl ⟨rfl, rfl⟩, .inr ⟨_, _, rfl, rfl, .pure pul⟩, trivial⟩
        rintro i hi
        refine at_seq ?_
        refine at_region ?_
        refine s1 (y_p rfl) rfl <| ?_
        refine at_nil ?_
        refine x_tn ?_
        refine at_seq ?_
        refine at_cond rfl (fun hc61 => ?_) (fun hc61 => ?_)
        · have h61 : i < 520 := by have := of_decide_eq_true hc61; omega
          have hb16 := len_blkN hM h61
          refine at_skip ?_
          refine x_tn ?_
          refine at_seq ?_
          refine at_block ?_
          refine at_seq ?_
          refine at_region ?_
          refine s1 (y_p rfl) rfl <| s1 (y_p rfl) rfl <| ?_
          refine at_nil ?_
          refine x_tn ?_
          refine at_region ?_
          refine s1 (y_p rfl) rfl <| s1 (y_p rfl) rfl <| s1 (y_ixa i Tryd.underlying80 ti79 rfl rfl rfl (by omega) rfl) rfl <| s1 (y_cuta (o' := 0 + i * 16) 16 Tryd.underlying79 ti5 rfl rfl (by rw [List.length_map, hM]; omega) (by simp [maxLen]) bn bn (by omega) (by omega) (by omega) (by simp)) rfl <| ?_
          refine at_op rfl (n_callO 67 rfl true rfl (.cons (.sl rfl rfl rfl (blk_view (by omega)) (VwL.pure pul) pul) .nil) (clone16_ok (blkN M i) hb16) pul (.inr ful) rfl ?_)
          refine at_frz 67 rfl rfl pul (view_eq (by rw [List.length_map, hb16]) rfl) ?_
          refine at_say 67 rfl (v' := V6.slV (blkN M i)) (by rw [V6.slV, hb16]) ?_
          refine at_op rfl (n_bs1 68 rfl Tryd.underlying28 ti66 rfl rfl rfl rfl rfl ?_)
          refine at_op rfl (n_app 69 rfl Tryd.underlying28 ti66 rfl (.sl rfl (by simp)) rfl (SM_full rfl (by first | rfl | omega | (simp; done) | (simp [*]; done) | (simp; omega) | (simp [*]; omega) | (simp [D32.len, -List.length_flatten, *]; done) | (simp [D32.len, -List.length_flatten, *]; omega))) (by simp) (by simp only [maxLen]; omega) (by omega) rfl (dbN_s M i) rfl ?_)
          refine s1 (y_p rfl) rfl <| ?_
          refine at_nil ?_
          refine x_bn ?_
          refine x_tn ?_
          refine at_region ?_
          refine s1 (addN _ 1 rfl rfl rfl rfl (by omega)) rfl <| s1 (y_p rfl) rfl <| ?_
          refine at_nil ?_
          exact at_end (i + 1) (by omega) (by omega) [(5, some 5), (169, some 69)] hI rfl rfl ⟨⟨_, rfl, .sl rfl (by first | rfl | omega | (simp; done) | (simp [*]; done) | (simp; omega) | (simp [*]; omega) | (simp [D32.len, -List.length_flatten, *]; done) | (simp [D32.len, -List.length_flatten, *]; omega))⟩, ⟨_, rfl, .p rfl⟩, ⟨_, rfl, .pure pu⟩, trivial⟩ ⟨.inr ⟨_, _, rfl, rfl, .pure pul⟩, .inr ⟨_, _, rfl, rfl, .pure pul⟩, trivial⟩
        · have h61 : i = 520 := by have := of_decide_eq_false hc61; omega
          subst h61
          refine at_exit ?_
          refine x_te ?_
          refine x_te ?_
          refine x_be ?_
          refine x_tn ?_
          refine at_seq ?_
          refine at_frz 2 rfl rfl pul (view_eq (by simp) rfl) ?_
          refine at_say 2 rfl (v' := rowsV (dbN M 520)) (rows_dbN M) ?_
          refine at_region ?_
          refine s1 (y_p rfl) rfl <| s1 (y_p rfl) rfl <| s1 ((y_p rfl).v (v' := .i .i64 0) rfl) rfl <| ?_
          refine at_nil ?_
          refine x_tn ?_
          refine at_ret ?_
          refine at_result (rs := [.tmp 2, .tmp 3]) rfl (r_tmp rfl (r_tmp rfl r_nil)) ?_
          rw [hret]; rfl
end Go.Abs.D2

/-! S7E -/
namespace Go.Abs.D2
open Go Go.Eng Go.Abs Go.Proofs 
set_option linter.unusedSimpArgs false in
set_option linter.unusedVariables false in
set_option maxHeartbeats 1000000 in
set_option maxRecDepth 10000 in
theorem sresult_ok (c : Cas) (hx : c.x.length = 32) (ids : List Int) (a b : List (List UInt8)) : Con Tryd.prog 24 [.ag (casL c), .fz ids.length (ids.map (A.i .i64)), .ag [rowsV a], .ag [rowsV b]] (Ret (resA c ids a b)) := by
  refine enter Tryd.func24 rfl Tryd.ntmps24 (by kernel_rfl) (Nat.le_of_ble_eq_true rfl) fun w0 X0 hI => ?_
  refine at_seq ?_
  refine at_region ?_
  refine at_op rfl (n_boxA 4 rfl rfl rfl ?_)
  refine at_op rfl (n_boxA 6 rfl rfl rfl ?_)
  refine at_op rfl (n_boxA 7 rfl rfl rfl ?_)
  refine s1 (y_p rfl) rfl <| s1 ((y_p rfl).v (v' := .i .i64 0) rfl) rfl <| ?_
  refine at_nil ?_
  refine x_tn ?_
  refine at_seq ?_
  refine at_seq ?_
  rcases rs_cases c ids a b with hcs | hcs | hcs | hcs
  · obtain ⟨hk, hr⟩ := hcs
    refine at_region ?_
    refine s1 (y_loadA0 ti27 rfl rfl (cas_len hx)) rfl <| s1 (y_p rfl) rfl <| ?_
    refine at_op rfl (n_call false rfl (.cons (.pure pu) (.cons (.pure pu) (.nil))) (Con.cast (sasked_ok c hx ids) (congrArg A.b hk)) pu (.inl rfl) rfl ?_)
    refine s1 ((y_p rfl).v (v' := .b true) (rfl)) rfl <| s1 (y_p rfl) rfl <| g0 rfl rfl rfl rfl <| g0 rfl rfl rfl rfl <| g0 rfl rfl rfl rfl <| g0 rfl rfl rfl rfl <| s1 (y_p rfl) rfl <| s1 (y_p rfl) rfl <| g0 rfl rfl rfl rfl <| g0 rfl rfl rfl rfl <| ?_
    refine g0 rfl rfl rfl rfl <| g0 rfl rfl rfl rfl <| s1 (y_p rfl) rfl <| ?_
    refine at_nil ?_
    refine x_tn ?_
    refine at_then rfl ?_
    refine at_seq ?_
    refine at_region ?_
    refine s1 (y_p rfl) rfl <| s1 ((y_p rfl).v (v' := .i .i64 370) rfl) rfl <| ?_
    refine at_nil ?_
    refine x_tn ?_
    refine at_ret ?_
    refine x_tr ?_
    refine at_result (rs := [.tmp 8, .tmp 9]) rfl (r_tmp rfl (r_tmp rfl r_nil)) ?_
    rw [res_no hr]; rfl
  · obtain ⟨hk, ha, hr⟩ := hcs
    refine at_region ?_
    refine s1 (y_loadA0 ti27 rfl rfl (cas_len hx)) rfl <| s1 (y_p rfl) rfl <| ?_
    refine at_op rfl (n_call false rfl (.cons (.pure pu) (.cons (.pure pu) (.nil))) (Con.cast (sasked_ok c hx ids) (congrArg A.b hk)) pu (.inl rfl) rfl ?_)
    refine s1 ((y_p rfl).v (v' := .b false) (rfl)) rfl <| s1 (y_p rfl) rfl <| g1 rfl rfl (y_fld Tryd.underlying43 rfl ti28 (by decide) rfl rfl) rfl <| g1 rfl rfl (y_load ti28 rfl rfl rfl) rfl <| ?_
    refine at_opg rfl rfl rfl (n_call false rfl (.cons (.pure pu) (.cons (.pure pu) (.nil))) (Con.cast (ssized_ok a 132 (by omega)) (congrArg A.b ha)) pu (.inl rfl) rfl ?_)
    refine g1 rfl rfl ((y_p rfl).v (v' := .b true) (rfl)) rfl <| s1 (y_p rfl) rfl <| s1 (y_p rfl) rfl <| g0 rfl rfl rfl rfl <| g0 rfl rfl rfl rfl <| g0 rfl rfl rfl rfl <| g0 rfl rfl rfl rfl <| s1 (y_p rfl) rfl <| ?_
    refine at_nil ?_
    refine x_tn ?_
    refine at_then rfl ?_
    refine at_seq ?_
    refine at_region ?_
    refine s1 (y_p rfl) rfl <| s1 ((y_p rfl).v (v' := .i .i64 370) rfl) rfl <| ?_
    refine at_nil ?_
    refine x_tn ?_
    refine at_ret ?_
    refine x_tr ?_
    refine at_result (rs := [.tmp 8, .tmp 9]) rfl (r_tmp rfl (r_tmp rfl r_nil)) ?_
    rw [res_no hr]; rfl
  · obtain ⟨hk, ha, hb, hr⟩ := hcs
    refine at_region ?_
    refine s1 (y_loadA0 ti27 rfl rfl (cas_len hx)) rfl <| s1 (y_p rfl) rfl <| ?_
    refine at_op rfl (n_call false rfl (.cons (.pure pu) (.cons (.pure pu) (.nil))) (Con.cast (sasked_ok c hx ids) (congrArg A.b hk)) pu (.inl rfl) rfl ?_)
    refine s1 ((y_p rfl).v (v' := .b false) (rfl)) rfl <| s1 (y_p rfl) rfl <| g1 rfl rfl (y_fld Tryd.underlying43 rfl ti28 (by decide) rfl rfl) rfl <| g1 rfl rfl (y_load ti28 rfl rfl rfl) rfl <| ?_
    refine at_opg rfl rfl rfl (n_call false rfl (.cons (.pure pu) (.cons (.pure pu) (.nil))) (Con.cast (ssized_ok a 132 (by omega)) (congrArg A.b ha)) pu (.inl rfl) rfl ?_)
    refine g1 rfl rfl ((y_p rfl).v (v' := .b false) (rfl)) rfl <| s1 (y_p rfl) rfl <| s1 (y_p rfl) rfl <| g1 rfl rfl (y_fld Tryd.underlying43 rfl ti28 (by decide) rfl rfl) rfl <| g1 rfl rfl (y_load ti28 rfl rfl rfl) rfl <| ?_
    refine at_opg rfl rfl rfl (n_call false rfl (.cons (.pure pu) (.cons (.pure pu) (.nil))) (Con.cast (ssized_ok b 132 (by omega)) (congrArg A.b hb)) pu (.inl rfl) rfl ?_)
    refine g1 rfl rfl ((y_p rfl).v (v' := .b true) (rfl)) rfl <| s1 (y_p rfl) rfl <| ?_
    refine at_nil ?_
    refine x_tn ?_
    refine at_then rfl ?_
    refine at_seq ?_
    refine at_region ?_
    refine s1 (y_p rfl) rfl <| s1 ((y_p rfl).v (v' := .i .i64 370) rfl) rfl <| ?_
    refine at_nil ?_
    refine x_tn ?_
    refine at_ret ?_
    refine x_tr ?_
    refine at_result (rs := [.tmp 8, .tmp 9]) rfl (r_tmp rfl (r_tmp rfl r_nil)) ?_
    rw [res_no hr]; rfl
  · obtain ⟨hk, ha, hb, hr⟩ := hcs
    obtain ⟨hh, hi4, hall⟩ := ask_all hk
    have hal := siz_len ha
    have hbl := siz_len hb
    refine at_region ?_
    refine s1 (y_loadA0 ti27 rfl rfl (cas_len hx)) rfl <| s1 (y_p rfl) rfl <| ?_
    refine at_op rfl (n_call false rfl (.cons (.pure pu) (.cons (.pure pu) (.nil))) (Con.cast (sasked_ok c hx ids) (congrArg A.b hk)) pu (.inl rfl) rfl ?_)
    refine s1 ((y_p rfl).v (v' := .b false) (rfl)) rfl <| s1 (y_p rfl) rfl <| g1 rfl rfl (y_fld Tryd.underlying43 rfl ti28 (by decide) rfl rfl) rfl <| g1 rfl rfl (y_load ti28 rfl rfl rfl) rfl <| ?_
    refine at_opg rfl rfl rfl (n_call false rfl (.cons (.pure pu) (.cons (.pure pu) (.nil))) (Con.cast (ssized_ok a 132 (by omega)) (congrArg A.b ha)) pu (.inl rfl) rfl ?_)
    refine g1 rfl rfl ((y_p rfl).v (v' := .b false) (rfl)) rfl <| s1 (y_p rfl) rfl <| s1 (y_p rfl) rfl <| g1 rfl rfl (y_fld Tryd.underlying43 rfl ti28 (by decide) rfl rfl) rfl <| g1 rfl rfl (y_load ti28 rfl rfl rfl) rfl <| ?_
    refine at_opg rfl rfl rfl (n_call false rfl (.cons (.pure pu) (.cons (.pure pu) (.nil))) (Con.cast (ssized_ok b 132 (by omega)) (congrArg A.b hb)) pu (.inl rfl) rfl ?_)
    refine g1 rfl rfl ((y_p rfl).v (v' := .b false) (rfl)) rfl <| s1 (y_p rfl) rfl <| ?_
    refine at_nil ?_
    refine x_tn ?_
    refine at_else rfl ?_
    refine at_skip ?_
    refine x_tn ?_
    refine at_seq ?_
    refine at_seq ?_
    refine at_region ?_
    refine s1 (y_p rfl) rfl <| s1 (y_len Tryd.underlying25 rfl rfl rfl) rfl <| s1 ((y_p rfl).v (v' := .i .i64 0) rfl) rfl <| ?_
    refine at_nil ?_
    refine x_tn ?_
    refine at_block ?_
    refine at_loop (ι := Nat) (fun n => [(4, .p 4 0), (6, .p 6 0), (7, .p 7 0), (8, .sl 184 1 0 n), (34, .fz ids.length (ids.map (A.i .i64))), (35, nJ ids.length), (36, nJ n)]) (fun n => ⟨[(4, some (casL c)), (6, some ([rowsV a])), (7, some ([rowsV b])), (184, some ((resN c ids a b n).map A.b))]⟩) (fun n => n ≤ ids.length) (fun n => ids.length - n) ?_ ?_
    · exact at_ex (0) (Nat.zero_le _) [(4, some 4), (6, some 6), (7, some 7), (184, none)] hI rfl rfl ⟨⟨_, rfl, .p rfl⟩, ⟨_, rfl, .p rfl⟩, ⟨_, rfl, .p rfl⟩, ⟨_, rfl, .nl rfl⟩, ⟨_, rfl, .pure pu⟩, ⟨_, rfl, .pure pu⟩, ⟨_, rfl, .pure pu⟩, trivial⟩ ⟨.inr ⟨_, _, rfl, rfl, .pure pul⟩, .inr ⟨_, _, rfl, rfl, .pure pul⟩, .inr ⟨_, _, rfl, rfl, .pure pul⟩, .inl ⟨rfl, rfl⟩, trivial⟩
    rintro n hn
    refine at_seq ?_
    refine at_region ?_
    refine s1 (y_p rfl) rfl <| ?_
    refine at_nil ?_
    refine x_tn ?_
    refine at_seq ?_
    refine at_cond rfl (fun hc37 => ?_) (fun hc37 => ?_)
    · have h37 : n < ids.length := by have := of_decide_eq_true hc37; omega
      obtain ⟨q, hq⟩ : ∃ q, ids[n]? = some q := ⟨_, List.getElem?_eq_getElem h37⟩
      have hnb := hall q (List.mem_of_getElem? hq)
      obtain ⟨j, rfl, hj⟩ := num_nat hnb
      refine at_skip ?_
      refine x_tn ?_
      refine at_seq ?_
      refine at_block ?_
      refine at_seq ?_
      refine at_region ?_
      refine s1 (y_p rfl) rfl <| s1 (y_ixf n Tryd.underlying25 ti3 rfl rfl rfl (by omega) rfl) rfl <| s1 (y_load ti3 rfl rfl (getI4 hq)) rfl <| s1 (y_p rfl) rfl <| s1 (y_p rfl) rfl <| ?_
      refine at_nil ?_
      refine x_tn ?_
      refine at_seq ?_
      refine at_region ?_
      refine s1 (y_p rfl) rfl <| ?_
      refine at_nil ?_
      refine x_tn ?_
      refine at_seq ?_
      refine at_seq ?_
      refine at_region ?_
      refine s1 (y_p rfl) rfl <| s1 (mulN 33 _ rfl rfl rfl rfl (by omega)) rfl <| s1 (y_p rfl) rfl <| ?_
      refine at_nil ?_
      refine x_tn ?_
      refine at_block ?_
      refine at_loop (ι := Nat) (fun k => [(4, .p 4 0), (6, .p 6 0), (7, .p 7 0), (8, .sl 184 1 0 n), (34, .fz ids.length (ids.map (A.i .i64))), (35, nJ ids.length), (36, nJ n), (10, nJ n), (11, nJ j), (12, .sl 170 1 0 k), (13, nJ (33 * n + k))]) (fun k => ⟨[(4, some (casL c)), (6, some ([rowsV a])), (7, some ([rowsV b])), (184, some ((resN c ids a b n).map A.b)), (170, some ((rowsJ a b n k).map V6.slV))]⟩) (fun k => k ≤ 33) (fun k => 33 - k) ?_ ?_
      · exact at_ex (0) (Nat.zero_le _) [(4, some 4), (6, some 6), (7, some 7), (170, none), (184, some 184)] hI rfl rfl ⟨⟨_, rfl, .p rfl⟩, ⟨_, rfl, .p rfl⟩, ⟨_, rfl, .p rfl⟩, ⟨_, rfl, .sl rfl (by first | rfl | omega | (simp; done) | (simp [*]; done) | (simp; omega) | (simp [*]; omega) | (simp [D32.len, -List.length_flatten, *]; done) | (simp [D32.len, -List.length_flatten, *]; omega))⟩, ⟨_, rfl, .pure pu⟩, ⟨_, rfl, .pure pu⟩, ⟨_, rfl, .pure pu⟩, ⟨_, rfl, .pure pu⟩, ⟨_, rfl, .pure pu⟩, ⟨_, rfl, .nl rfl⟩, ⟨_, rfl, .pure pu⟩, trivial⟩ ⟨.inr ⟨_, _, rfl, rfl, .pure pul⟩, .inr ⟨_, _, rfl, rfl, .pure pul⟩, .inr ⟨_, _, rfl, rfl, .pure pul⟩, .inr ⟨_, _, rfl, rfl, .pure pul⟩, .inl ⟨rfl, rfl⟩, trivial⟩
      rintro k hk
      refine at_seq ?_
      refine at_seq ?_
      refine at_region ?_
      refine s1 (y_p rfl) rfl <| s1 (y_p rfl) rfl <| s1 (addN _ 1 rfl rfl rfl rfl (by omega)) rfl <| s1 (mulN 33 _ rfl rfl rfl rfl (by omega)) rfl <| s1 (y_p rfl) rfl <| ?_
      refine at_nil ?_
      refine x_tn ?_
      refine at_cond rfl (fun hc47 => ?_) (fun hc47 => ?_)
      · have h47 : k < 33 := by have := of_decide_eq_true hc47; omega
        obtain ⟨p, hp, hpd, hp16⟩ := siz_get ha (i := 33 * n + k) (by omega)
        obtain ⟨r, hr1, hrd, hr16⟩ := siz_get hb (i := 33 * n + k) (by omega)
        refine at_skip ?_
        refine x_tn ?_
        refine at_seq ?_
        refine at_block ?_
        refine at_seq ?_
        refine at_fs ⟨_, [], []⟩ 15 4 hmix (le_refl rfl) ?_
        refine fs_q 0 [] [(6, none)] (y_fld Tryd.underlying43 rfl ti28 (by decide) rfl rfl) rfl rfl ?_
        refine fs_q 1 [0] [(6, none)] (y_load ti28 rfl rfl rfl) rfl rfl ?_
        refine fs_q 2 [] [] (y_p rfl) rfl rfl ?_
        refine fs_q 3 [1, 2] [] (y_ixf (33 * n + k) Tryd.underlying28 ti66 rfl rfl rfl (by omega) rfl) rfl rfl ?_
        refine fs_q 4 [3] [] (y_load ti66 rfl rfl (V6.getR hp)) rfl rfl ?_
        refine fs_q 5 [] [(7, none)] (y_fld Tryd.underlying43 rfl ti28 (by decide) rfl rfl) rfl rfl ?_
        refine fs_q 6 [5] [(7, none)] (y_load ti28 rfl rfl rfl) rfl rfl ?_
        refine fs_q 7 [] [] (y_p rfl) rfl rfl ?_
        refine fs_q 8 [6, 7] [] (y_ixf (33 * n + k) Tryd.underlying28 ti66 rfl rfl rfl (by omega) rfl) rfl rfl ?_
        refine fs_q 9 [8] [] (y_load ti66 rfl rfl (V6.getR hr1)) rfl rfl ?_
        refine fs_call false 10 [4, 9] [] gy0 rfl (.cons (.pure pu) (.cons (.pure pu) (.nil))) (Con.cast (vjoin_ok p r) (join_16 hp16 hr16)) pu (.inl rfl) rfl rfl ?_
        refine fs_q 11 [10] [] (y_p rfl) rfl rfl ?_
        refine fs_q 12 [11] [] (y_p rfl) rfl rfl ?_
        refine fs_q 13 [11] [] (y_p rfl) rfl rfl ?_
        refine fs_q 14 [12] [] (y_p rfl) rfl rfl ?_
        refine fs_end (by kernel_rfl) ?_
        refine s1 (y_p rfl) rfl <| ?_
        refine at_nil ?_
        refine x_tn ?_
        refine at_seq ?_
        refine at_seq ?_
        refine at_region ?_
        refine s1 (y_p rfl) rfl <| s1 ((y_p rfl).v (v' := .b false) (rfl)) rfl <| ?_
        refine at_nil ?_
        refine x_tn ?_
        refine at_else rfl ?_
        refine at_skip ?_
        refine x_tn ?_
        refine at_region ?_
        refine s1 (y_p rfl) rfl <| s1 (y_p rfl) rfl <| ?_
        refine at_op rfl (n_bs1 69 rfl Tryd.underlying28 ti66 rfl rfl rfl rfl rfl ?_)
        refine at_op rfl (n_app 70 rfl Tryd.underlying28 ti66 rfl (.sl rfl (by simp)) rfl (SM_full rfl (by first | rfl | omega | (simp; done) | (simp [*]; done) | (simp; omega) | (simp [*]; omega) | (simp [D32.len, -List.length_flatten, *]; done) | (simp [D32.len, -List.length_flatten, *]; omega))) (by simp) (by simp only [maxLen]; omega) (by omega) rfl (rowsJ_s hpd hrd) rfl ?_)
        refine s1 (y_p rfl) rfl <| ?_
        refine at_nil ?_
        refine x_bn ?_
        refine x_tn ?_
        refine at_region ?_
        refine s1 (y_p rfl) rfl <| s1 (addN _ 1 rfl rfl rfl rfl (by omega)) rfl <| s1 (y_p rfl) rfl <| ?_
        refine at_nil ?_
        exact at_end (k + 1) (by omega) (by omega) [(4, some 4), (6, some 6), (7, some 7), (170, some 70), (184, some 184)] hI rfl rfl ⟨⟨_, rfl, .p rfl⟩, ⟨_, rfl, .p rfl⟩, ⟨_, rfl, .p rfl⟩, ⟨_, rfl, .sl rfl (by first | rfl | omega | (simp; done) | (simp [*]; done) | (simp; omega) | (simp [*]; omega) | (simp [D32.len, -List.length_flatten, *]; done) | (simp [D32.len, -List.length_flatten, *]; omega))⟩, ⟨_, rfl, .pure pu⟩, ⟨_, rfl, .pure pu⟩, ⟨_, rfl, .pure pu⟩, ⟨_, rfl, .pure pu⟩, ⟨_, rfl, .pure pu⟩, ⟨_, rfl, .sl rfl (by first | rfl | omega | (simp; done) | (simp [*]; done) | (simp; omega) | (simp [*]; omega) | (simp [D32.len, -List.length_flatten, *]; done) | (simp [D32.len, -List.length_flatten, *]; omega))⟩, ⟨_, rfl, .pure pu⟩, trivial⟩ ⟨.inr ⟨_, _, rfl, rfl, .pure pul⟩, .inr ⟨_, _, rfl, rfl, .pure pul⟩, .inr ⟨_, _, rfl, rfl, .pure pul⟩, .inr ⟨_, _, rfl, rfl, .pure pul⟩, .inr ⟨_, _, rfl, rfl, .pure pul⟩, trivial⟩
      · obtain rfl : k = 33 := by have := of_decide_eq_false hc47; omega
        refine at_exit ?_
        refine x_te ?_
        refine x_te ?_
        refine x_be ?_
        refine x_tn ?_
        refine at_seq ?_
        refine at_frz 12 rfl rfl pul (view_eq (by simp) rfl) ?_
        refine at_say 12 rfl (v' := rowsV (rowsJ a b n 33)) (rows_J ..) ?_
        refine at_region ?_
        refine s1 (y_loadA0 ti27 rfl rfl (cas_len hx)) rfl <| s1 (y_p rfl) rfl <| s1 (y_p rfl) rfl <| ?_
        refine at_op rfl (n_call false rfl (.cons (.pure pu) (.cons (.pure pu) (.cons (.pure pu) (.nil)))) (Con.cast (sread_ok c hx j (rowsJ a b n 33)) (read_yes hh hnb (siz_rowsJ ha hb (by omega)))) pu (.inl rfl) rfl ?_)
        refine s1 (y_p rfl) rfl <| s1 (y_p rfl) rfl <| s1 (y_p rfl) rfl <| s1 (y_p rfl) rfl <| s1 (y_p rfl) rfl <| ?_
        refine at_nil ?_
        refine x_tn ?_
        refine at_seq ?_
        refine at_seq ?_
        refine at_region ?_
        refine s1 (y_p rfl) rfl <| s1 ((y_p rfl).v (v' := .b false) (rfl)) rfl <| ?_
        refine at_nil ?_
        refine x_tn ?_
        refine at_else rfl ?_
        refine at_skip ?_
        refine x_tn ?_
        refine at_region ?_
        refine s1 (y_p rfl) rfl <| s1 (y_p rfl) rfl <| ?_
        refine at_op rfl (n_bs1 83 rfl Tryd.underlying49 ti4 rfl rfl rfl rfl rfl ?_)
        refine at_op rfl (n_app 84 rfl Tryd.underlying49 ti4 rfl (.sl rfl (by simp)) rfl (SM_full rfl (by first | rfl | omega | (simp; done) | (simp [*]; done) | (simp; omega) | (simp [*]; omega) | (simp [D32.len, -List.length_flatten, *]; done) | (simp [D32.len, -List.length_flatten, *]; omega))) (by simp) (by simp only [maxLen]; omega) (by omega) rfl (resN_s hq) rfl ?_)
        refine s1 (y_p rfl) rfl <| ?_
        refine at_nil ?_
        refine x_bn ?_
        refine x_tn ?_
        refine at_region ?_
        refine s1 (addN _ 1 rfl rfl rfl rfl (by omega)) rfl <| s1 (y_p rfl) rfl <| ?_
        refine at_nil ?_
        exact at_end (n + 1) (by omega) (by omega) [(4, some 4), (6, some 6), (7, some 7), (184, some 84)] hI rfl rfl ⟨⟨_, rfl, .p rfl⟩, ⟨_, rfl, .p rfl⟩, ⟨_, rfl, .p rfl⟩, ⟨_, rfl, .sl rfl (by first | rfl | omega | (simp; done) | (simp [*]; done) | (simp; omega) | (simp [*]; omega) | (simp [D32.len, -List.length_flatten, *]; done) | (simp [D32.len, -List.length_flatten, *]; omega))⟩, ⟨_, rfl, .pure pu⟩, ⟨_, rfl, .pure pu⟩, ⟨_, rfl, .pure pu⟩, trivial⟩ ⟨.inr ⟨_, _, rfl, rfl, .pure pul⟩, .inr ⟨_, _, rfl, rfl, .pure pul⟩, .inr ⟨_, _, rfl, rfl, .pure pul⟩, .inr ⟨_, _, rfl, rfl, .pure pul⟩, trivial⟩
    · have h37 : n = ids.length := by have := of_decide_eq_false hc37; omega
      subst h37
      refine at_exit ?_
      refine x_te ?_
      refine x_te ?_
      refine x_be ?_
      refine x_tn ?_
      refine at_seq ?_
      refine at_frz 8 rfl rfl pul (view_eq (by simp) rfl) ?_
      refine at_say 8 rfl (v' := boolsA (resN c ids a b ids.length)) (bools_res ..) ?_
      refine at_region ?_
      refine s1 (y_p rfl) rfl <| s1 (y_p rfl) rfl <| s1 ((y_p rfl).v (v' := .i .i64 0) rfl) rfl <| ?_
      refine at_nil ?_
      refine x_tn ?_
      refine at_ret ?_
      refine at_result (rs := [.tmp 8, .tmp 9]) rfl (r_tmp rfl (r_tmp rfl r_nil)) ?_
      rw [res_yes hr]; rfl
set_option linter.unusedSimpArgs false in
set_option linter.unusedVariables false in
set_option maxHeartbeats 1000000 in
set_option maxRecDepth 10000 in
theorem sfresh_ok (l : List Epo) (no day bound : Int) (ho : okE l) (hn : l.length ≤ maxLen) : Con Tryd.prog 27 [eposA l, .i .i64 no, .i .i64 day, .i .i64 bound] (Ret (frsA (daysE l) no day bound)) := by
  refine enter Tryd.func27 rfl Tryd.ntmps27 (by kernel_rfl) (Nat.le_of_ble_eq_true rfl) fun w0 X0 hI => ?_
  refine at_seq ?_
  refine at_region ?_
  refine s1 (y_p rfl) rfl <| s1 ((y_p rfl).v (v' := .i .i64 0) rfl) rfl <| ?_
  refine at_nil ?_
  refine x_tn ?_
  refine at_seq ?_
  simp only [maxLen] at hn
  have hdl := len_daysE l
  refine at_region ?_
  refine s1 ((y_p rfl).v (v' := .i .i64 (-1)) rfl) rfl <| ?_
  refine at_nil ?_
  refine x_tn ?_
  refine at_seq ?_
  refine at_seq ?_
  refine at_region ?_
  refine s1 (y_p rfl) rfl <| s1 (y_len Tryd.underlying54 rfl rfl rfl) rfl <| s1 ((y_p rfl).v (v' := .i .i64 0) rfl) rfl <| ?_
  refine at_nil ?_
  refine x_tn ?_
  refine at_block ?_
  refine at_loop (ι := Nat) (fun i => [(0, eposA l), (1, .i .i64 no), (2, .i .i64 day), (3, .i .i64 bound), (10, .i .i64 (lastI (daysE l) i)), (13, eposA l), (14, nJ l.length), (15, nJ i)]) (fun i => ⟨[]⟩) (fun i => i ≤ l.length ∧ listedB (daysE l) = ascB (lastI (daysE l) i) ((daysE l).drop i)) (fun i => l.length - i) ?_ ?_
  · exact at_ex (0) (⟨Nat.zero_le _, asc_start _⟩) [] hI rfl rfl ⟨⟨_, rfl, .pure pu⟩, ⟨_, rfl, .pure pu⟩, ⟨_, rfl, .pure pu⟩, ⟨_, rfl, .pure pu⟩, ⟨_, rfl, .pure pu⟩, ⟨_, rfl, .pure pu⟩, ⟨_, rfl, .pure pu⟩, ⟨_, rfl, .pure pu⟩, trivial⟩ trivial
  rintro i ⟨hi, hl⟩
  refine at_seq ?_
  refine at_region ?_
  refine s1 (y_p rfl) rfl <| ?_
  refine at_nil ?_
  refine x_tn ?_
  refine at_seq ?_
  refine at_cond rfl (fun hc16 => ?_) (fun hc16 => ?_)
  · have h16 : i < l.length := by have := of_decide_eq_true hc16; omega
    obtain ⟨e, he⟩ : ∃ e, l[i]? = some e := ⟨_, List.getElem?_eq_getElem h16⟩
    refine at_skip ?_
    refine x_tn ?_
    refine at_seq ?_
    refine at_block ?_
    refine at_seq ?_
    refine at_region ?_
    refine s1 (y_ixf i Tryd.underlying54 ti61 rfl rfl rfl (by omega) rfl) rfl <| s1 (y_loadA ti61 rfl rfl (epo_get ho he) (epo_len ho he)) rfl <| ?_
    refine at_op rfl (n_alloc 12 rfl ti61 rfl rfl ?_)
    refine at_op rfl (n_storeA ti61 rfl rfl rfl (epo_len ho he) (by first | rfl | omega | (simp; done) | (simp [*]; done) | (simp; omega) | (simp [*]; omega) | (simp [D32.len, -List.length_flatten, *]; done) | (simp [D32.len, -List.length_flatten, *]; omega)) ?_)
    refine at_nil ?_
    refine x_tn ?_
    refine at_seq ?_
    refine at_seq ?_
    refine at_region ?_
    refine s1 (y_fld Tryd.underlying61 rfl ti3 (by decide) rfl rfl) rfl <| s1 (y_load ti3 rfl rfl rfl) rfl <| s1 (y_p rfl) rfl <| s1 (y_p rfl) rfl <| s1 (y_p rfl) rfl <| ?_
    refine g_or 3 rfl rfl rfl rfl (fun hb23 => .step (y_fld Tryd.underlying61 rfl ti3 (by decide) rfl rfl) rfl rfl <| .step (y_load ti3 rfl rfl rfl) rfl rfl <| .step (y_p rfl) rfl rfl <| .done) rfl rfl ?_
    refine at_nil ?_
    refine x_tn ?_
    refine at_cond rfl (fun hc27 => ?_) (fun hc27 => ?_)
    · have h27 : ¬ (lastI (daysE l) i < e.d ∧ e.d < 1024) := by simp at hc27; omega
      refine at_seq ?_
      refine at_region ?_
      refine s1 (y_p rfl) rfl <| s1 ((y_p rfl).v (v' := .i .i64 370) rfl) rfl <| ?_
      refine at_nil ?_
      refine x_tn ?_
      refine at_ret ?_
      refine x_tr ?_
      refine x_br ?_
      refine x_tr ?_
      refine x_tr ?_
      refine x_br ?_
      refine x_tr ?_
      refine at_result (rs := [.tmp 8, .tmp 9]) rfl (r_tmp rfl (r_tmp rfl r_nil)) ?_
      rw [frs_no (asc_no hl (days_get he) h27)]; rfl
    · have h27 : lastI (daysE l) i < e.d ∧ e.d < 1024 := by simp at hc27; omega
      refine at_skip ?_
      refine x_tn ?_
      refine at_region ?_
      refine s1 (y_fld Tryd.underlying61 rfl ti3 (by decide) rfl rfl) rfl <| s1 ((y_load ti3 rfl rfl rfl).v (v' := .i .i64 (lastI (daysE l) (i + 1))) (congrArg (A.i .i64) (lastI_next (days_get he)).symm)) rfl <| s1 (y_p rfl) rfl <| ?_
      refine at_nil ?_
      refine x_bn ?_
      refine x_tn ?_
      refine at_region ?_
      refine s1 (addN _ 1 rfl rfl rfl rfl (by omega)) rfl <| s1 (y_p rfl) rfl <| ?_
      refine at_nil ?_
      exact at_end (i + 1) (⟨by omega, asc_next hl (days_get he) h27⟩) (by omega) [] hI rfl rfl ⟨⟨_, rfl, .pure pu⟩, ⟨_, rfl, .pure pu⟩, ⟨_, rfl, .pure pu⟩, ⟨_, rfl, .pure pu⟩, ⟨_, rfl, .pure pu⟩, ⟨_, rfl, .pure pu⟩, ⟨_, rfl, .pure pu⟩, ⟨_, rfl, .pure pu⟩, trivial⟩ trivial
  · have h16 : i = l.length := by have := of_decide_eq_false hc16; omega
    subst h16
    have hls := asc_end (hl.trans (by rw [hdl]))
    refine at_exit ?_
    refine x_te ?_
    refine x_te ?_
    refine x_be ?_
    refine x_tn ?_
    refine at_seq ?_
    refine at_seq ?_
    refine at_region ?_
    refine s1 (y_p rfl) rfl <| s1 (y_p rfl) rfl <| s1 (y_p rfl) rfl <| ?_
    refine g_or 4 rfl rfl rfl rfl (fun hb33 => .step (y_p rfl) rfl rfl <| .step (y_p rfl) rfl rfl <| .step (y_len Tryd.underlying54 rfl rfl rfl) rfl rfl <| .step (y_p rfl) rfl rfl <| .done) rfl rfl ?_
    refine s1 (y_p rfl) rfl <| ?_
    refine g_or 2 rfl rfl rfl rfl (fun hb39 => .step (y_p rfl) rfl rfl <| .step (y_p rfl) rfl rfl <| .done) rfl rfl ?_
    refine s1 (y_p rfl) rfl <| ?_
    refine g_or 2 rfl rfl rfl rfl (fun hb43 => .step (y_p rfl) rfl rfl <| .step (y_p rfl) rfl rfl <| .done) rfl rfl ?_
    refine s1 (y_p rfl) rfl <| ?_
    refine g_or 2 rfl rfl rfl rfl (fun hb47 => .step (y_p rfl) rfl rfl <| .step (y_p rfl) rfl rfl <| .done) rfl rfl ?_
    refine at_nil ?_
    refine x_tn ?_
    refine at_cond rfl (fun hc50 => ?_) (fun hc50 => ?_)
    · have h50 : ¬ (0 ≤ no ∧ no < (daysE l).length ∧ 0 ≤ day ∧ day < 1024 ∧ 0 ≤ bound) := by simp at hc50; rw [len_daysE]; omega
      refine at_seq ?_
      refine at_region ?_
      refine s1 (y_p rfl) rfl <| s1 ((y_p rfl).v (v' := .i .i64 1) rfl) rfl <| ?_
      refine at_nil ?_
      refine x_tn ?_
      refine at_ret ?_
      refine x_tr ?_
      refine at_result (rs := [.tmp 8, .tmp 9]) rfl (r_tmp rfl (r_tmp rfl r_nil)) ?_
      rw [frs_arg hls (arg_no h50)]; rfl
    · have h50 : (0 ≤ no ∧ no < (daysE l).length ∧ 0 ≤ day ∧ day < 1024 ∧ 0 ≤ bound) := by simp at hc50; rw [len_daysE]; omega
      have harg := arg_yes h50
      rw [len_daysE] at h50
      obtain ⟨m, rfl⟩ : ∃ m : Nat, no = (m : Int) := ⟨no.toNat, by omega⟩
      obtain ⟨q, hq⟩ : ∃ q, l[m]? = some q := ⟨_, List.getElem?_eq_getElem (by omega)⟩
      have hqd := getD_get (days_get hq)
      have hqm := listed_mem hls _ (List.mem_of_getElem? (days_get hq))
      refine at_skip ?_
      refine x_tn ?_
      refine at_seq ?_
      refine at_seq ?_
      refine at_region ?_
      refine s1 (y_p rfl) rfl <| s1 (y_p rfl) rfl <| s1 (y_ixf m Tryd.underlying54 ti61 rfl rfl rfl (by omega) rfl) rfl <| s1 (y_fldf Tryd.underlying61 rfl ti3 (by decide) rfl rfl) rfl <| s1 (y_load ti3 rfl rfl (epo_day ho hq)) rfl <| s1 (y_p rfl) rfl <| s1 (y_p rfl) rfl <| ?_
      refine at_nil ?_
      refine x_tn ?_
      refine at_cond rfl (fun hc57 => ?_) (fun hc57 => ?_)
      · have h57 : day < (daysE l).getD m 0 := by rw [hqd]; exact of_decide_eq_true hc57
        refine at_seq ?_
        refine at_region ?_
        refine s1 (y_p rfl) rfl <| s1 ((y_p rfl).v (v' := .i .i64 0) rfl) rfl <| ?_
        refine at_nil ?_
        refine x_tn ?_
        refine at_ret ?_
        refine x_tr ?_
        refine at_result (rs := [.tmp 8, .tmp 9]) rfl (r_tmp rfl (r_tmp rfl r_nil)) ?_
        rw [frs_late hls harg h57]; rfl
      · have h57 : ¬ day < (daysE l).getD m 0 := by rw [hqd]; exact of_decide_eq_false hc57
        refine at_skip ?_
        refine x_tn ?_
        refine at_seq ?_
        refine at_region ?_
        refine s1 (y_p rfl) rfl <| s1 (y_p rfl) rfl <| s1 (y_len Tryd.underlying54 rfl rfl rfl) rfl <| s1 (subI rfl rfl (by omega) (by omega)) rfl <| s1 (y_p rfl) rfl <| s1 (y_p rfl) rfl <| ?_
        refine at_bc 63 rfl (fun hc63 => ?_) (fun hc63 => ?_)
        · have h63 : m + 1 = l.length := by have := of_decide_eq_true hc63; omega
          refine g0 rfl rfl rfl rfl <| g0 rfl rfl rfl rfl <| g0 rfl rfl rfl rfl <| g0 rfl rfl rfl rfl <| g0 rfl rfl rfl rfl <| g0 rfl rfl rfl rfl <| g0 rfl rfl rfl rfl <| g0 rfl rfl rfl rfl <| g0 rfl rfl rfl rfl <| g0 rfl rfl rfl rfl <| ?_
          refine s1 (y_p rfl) rfl <| s1 (y_p rfl) rfl <| s1 ((y_p rfl).v (v' := .i .i64 0) rfl) rfl <| ?_
          refine at_nil ?_
          refine x_tn ?_
          refine at_ret ?_
          refine at_result (rs := [.tmp 8, .tmp 9]) rfl (r_tmp rfl (r_tmp rfl r_nil)) ?_
          rw [frs_yes hls harg h57]; exact congrArg (fun b => A.tu [.b b, .i .i64 0]) (by unfold frsV; rw [len_daysE]; simp [h63])
        · have h63 : m + 1 < l.length := by have := of_decide_eq_false hc63; omega
          obtain ⟨r, hr⟩ : ∃ q, l[m + 1]? = some q := ⟨_, List.getElem?_eq_getElem h63⟩
          have hrd := getD_get (days_get hr)
          have hrm := listed_mem hls _ (List.mem_of_getElem? (days_get hr))
          refine g1 rfl rfl (y_p rfl) rfl <| g1 rfl rfl (y_p rfl) rfl <| g1 rfl rfl (y_p rfl) rfl <| g1 rfl rfl (addI rfl rfl (by omega) (by omega)) rfl <| g1 rfl rfl (y_ixf (m + 1) Tryd.underlying54 ti61 rfl rfl rfl (by omega) rfl) rfl <| g1 rfl rfl (y_fldf Tryd.underlying61 rfl ti3 (by decide) rfl rfl) rfl <| g1 rfl rfl (y_load ti3 rfl rfl (epo_day ho hr)) rfl <| g1 rfl rfl (subI rfl rfl (by omega) (by omega)) rfl <| g1 rfl rfl (y_p rfl) rfl <| g1 rfl rfl (y_p rfl) rfl <| ?_
          refine s1 (y_p rfl) rfl <| s1 (y_p rfl) rfl <| s1 ((y_p rfl).v (v' := .i .i64 0) rfl) rfl <| ?_
          refine at_nil ?_
          refine x_tn ?_
          refine at_ret ?_
          refine at_result (rs := [.tmp 8, .tmp 9]) rfl (r_tmp rfl (r_tmp rfl r_nil)) ?_
          rw [frs_yes hls harg h57]; exact congrArg (fun b => A.tu [.b b, .i .i64 0]) (by unfold frsV; rw [len_daysE, hrd, decide_eq_false (by omega : ¬ m + 1 = l.length)]; rfl)
end Go.Abs.D2

/-! S7R -/
namespace Go.Abs.D2
open Go Go.Eng Go.Abs
abbrev Z32 : List UInt8 := List.replicate 32 0
abbrev cas0 : Cas := ⟨Z32, [], []⟩
abbrev cas1 : Cas := ⟨Z32, [], [0, 1023]⟩
theorem hx0 : cas0.x.length = 32 := rfl
theorem hx1 : cas1.x.length = 32 := rfl
theorem wk_tail : ∀ l : List A, WkL (l ++ [.nl, .nl]) (l ++ [.fz 0 [], .fz 0 []])
  | [] => .cons .nl (.cons .nl .nil)
  | _ :: l => .cons (.eq rfl) (wk_tail l)
theorem wk_cas0 : WkL (Z32.map u8 ++ [.nl, .nl]) (casL cas0) := wk_tail _
theorem wk_tail1 (x : A) : ∀ l : List A, WkL (l ++ [.nl, x]) (l ++ [.fz 0 [], x])
  | [] => .cons .nl WkL.same
  | _ :: l => .cons (.eq rfl) (wk_tail1 x l)
theorem wk_cas1 : WkL (Z32.map u8 ++ [.nl, intsA [0, 1023]]) (casL cas1) := wk_tail1 _ _
abbrev W0 : List Int := [0, 0, 32, 32, 64, 64, 96, 96, 128, 128, 160, 160, 192, 192, 224, 224, 256, 256, 288, 288, 320, 320, 352, 352, 384, 384, 416, 416, 448, 448, 480, 480, 519]
theorem plc0 (j : Nat) : plc cas0 1023 j = ((32 * (j / 2) : Nat) : Int) := by
  unfold plc; rw [bitsAt_none (by simp)]; simp
theorem where0 : whereL cas0 1023 = W0 := by
  unfold whereL plcL
  rw [show plc cas0 1023 = fun j => ((32 * (j / 2) : Nat) : Int) from funext plc0]
  decide
theorem head0 : headB cas0.F = true := rfl
theorem saneW1 : whereA cas0 1023 = .tu [intsA W0, .i .i64 0] := (where_yes (j := 1023) head0 rfl).trans (by rw [where0])
theorem saneW2 : whereA cas0 1024 = .tu [.nl, .i .i64 370] := where_no (by decide)
theorem chk1 : chkC cas1 = true := by decide
abbrev M1 : List UInt8 := (zeroM.set 8192 1).set 8319 128
theorem zero_get {i : Nat} (h : i < 8320) : zeroM[i]? = some 0 := by unfold zeroM; rw [List.getElem?_replicate, if_pos h]
theorem len_zeroM : zeroM.length = 8320 := by rw [zeroM, List.length_replicate]
theorem img1 : imgB cas1 = M1 := by
  rw [imgB_eq]
  show setA (setA zeroM (65536 + 0)) (65536 + 1023) = _
  have e1 : setA zeroM (65536 + 0) = zeroM.set 8192 1 := by
    unfold setA
    rw [show (65536 + 0) / 8 = 8192 by omega, show (65536 + 0) % 8 = 0 by omega, List.getD, zero_get (by omega)]
    rfl
  have e2 : (zeroM.set 8192 1)[8319]? = some 0 := by rw [List.getElem?_set_ne (by omega), zero_get (by omega)]
  rw [e1]
  unfold setA
  rw [show (65536 + 1023) / 8 = 8319 by omega, show (65536 + 1023) % 8 = 7 by omega, List.getD, e2]
  rfl
theorem len_M1 : M1.length = 8320 := by rw [List.length_set, List.length_set, len_zeroM]
theorem M1_a : M1[8192]? = some 1 := by
  rw [List.getElem?_set_ne (by omega), List.getElem?_set_self (by rw [len_zeroM]; omega)]
theorem M1_b : M1[8319]? = some 128 := by
  rw [List.getElem?_set_self (by rw [List.length_set, len_zeroM]; omega)]
theorem sane_db : ∃ (db : List (List UInt8)) (p q : List UInt8), blocksA cas1 = .tu [rowsV db, .i .i64 0] ∧ db.length = 520 ∧ db[512]? = some p ∧ db[519]? = some q ∧ p.length = 16 ∧ q.length = 16 ∧ p[0]? = some 1 ∧ q[15]? = some 128 := by
  refine ⟨dbN M1 520, blkN M1 512, blkN M1 519, by rw [blocks_yes chk1, img1], len_dbN _ _, ?_, ?_, len_blkN len_M1 (by omega), len_blkN len_M1 (by omega), ?_, ?_⟩
  · unfold dbN; rw [List.getElem?_map, List.getElem?_range (by omega)]; rfl
  · unfold dbN; rw [List.getElem?_map, List.getElem?_range (by omega)]; rfl
  · unfold blkN; rw [List.getElem?_take, if_pos (by omega), List.getElem?_drop]; exact M1_a
  · unfold blkN; rw [List.getElem?_take, if_pos (by omega), List.getElem?_drop]; exact M1_b
theorem get_u8 {p : List UInt8} {i : Nat} {x : UInt8} (h : p[i]? = some x) : ((p.map u8).drop (i * 1))[0]? = some (u8 x) := by
  rw [List.getElem?_drop, show i * 1 + 0 = i by omega, List.getElem?_map, h]; rfl
abbrev Z16 : List UInt8 := List.replicate 16 0
abbrev fillL (k : Nat) : List A := List.replicate k (V6.slV Z16) ++ List.replicate (33 - k) .nl
theorem filL_s {k : Nat} (h : k < 33) : (fillL k).set k (V6.slV Z16) = fillL (k + 1) := by
  unfold fillL
  rw [List.set_append_right _ _ (by simp), List.length_replicate, Nat.sub_self, show 33 - k = (33 - (k + 1)) + 1 by omega, List.replicate_succ, List.set_cons_zero, List.replicate_succ', List.append_assoc]
  rfl
theorem len_fill {k : Nat} (h : k ≤ 33) : (fillL k).length = 33 := by unfold fillL; simp; omega
theorem filL_33 : fillL 33 = (List.replicate 33 Z16).map V6.slV := rfl
theorem siz_z : sizB (List.replicate 33 Z16) 33 = true := by decide
theorem siz_q {q : List UInt8} (h : q.length = 16) : sizB ((List.replicate 33 Z16).set 32 q) 33 = true := by
  unfold sizB
  rw [List.length_set, List.length_replicate, Bool.and_eq_true]
  refine ⟨rfl, ?_⟩
  rw [Bool.not_eq_true', List.any_eq_false]
  intro x hx
  rcases List.mem_or_eq_of_mem_set hx with hx | rfl
  · rw [List.eq_of_mem_replicate hx]; decide
  · simp [no16, h]
theorem saneR1 : readA cas0 1023 (List.replicate 33 Z16) = .tu [.b false, .i .i64 0] := (read_yes (j := 1023) head0 rfl siz_z).trans rfl
theorem saneR2 {q : List UInt8} (h : q.length = 16) (hq : q[15]? = some 128) : readA cas0 1023 ((List.replicate 33 Z16).set 32 q) = .tu [.b true, .i .i64 0] := by
  refine (read_yes (j := 1023) head0 rfl (siz_q h)).trans ?_
  have : readV cas0 1023 ((List.replicate 33 Z16).set 32 q) = true := by
    unfold readV blkB
    rw [List.getD, List.getElem?_set_self (by simp)]
    show (((0 : Nat) % 2 == 1) != bitA q 127) = true
    unfold bitA
    rw [List.getD, show 127 / 8 = 15 by omega, hq]
    rfl
  rw [this]
theorem saneR3 : readA cas0 1023 [] = .tu [.b false, .i .i64 370] := read_no (by decide)
theorem saneA : sAskA cas0 [1, 2, 3, 4, 5] [] = .tu [qryE, qryE, .i .i64 370] := sask_no (by decide)
theorem saneQ : resA cas0 [] [] [] = .tu [.nl, .i .i64 370] := res_no (by decide)
abbrev epR : List A := .nl :: (List.replicate 64 (.i .u8 0) ++ [.i .i64 0, .nl, .nl])
abbrev eps2 : List Epo := [⟨0, 0, 3, epR⟩, ⟨0, 0, 8, epR⟩]
abbrev ep3L : List A := .i .i64 0 :: .i .i64 0 :: .i .i64 3 :: epR
abbrev ep8L : List A := .i .i64 0 :: .i .i64 0 :: .i .i64 8 :: epR
theorem ok_eps2 : okE eps2 := by
  intro e he
  rcases List.mem_cons.1 he with rfl | he
  · rfl
  · rcases List.mem_cons.1 he with rfl | he
    · rfl
    · cases he
theorem ok_eps0 : okE [] := fun e he => by cases he
theorem saneF0 : frsA (daysE []) 0 0 0 = .tu [.b false, .i .i64 1] := frs_arg rfl (by decide)
theorem saneF1 : frsA (daysE eps2) 0 10 2 = .tu [.b true, .i .i64 0] := (frs_yes (n := 0) (by decide) (by decide) (by decide)).trans rfl
theorem saneF2 : frsA (daysE eps2) 0 11 2 = .tu [.b false, .i .i64 0] := (frs_yes (n := 0) (by decide) (by decide) (by decide)).trans rfl
theorem saneF3 : frsA (daysE eps2) 1 1023 0 = .tu [.b true, .i .i64 0] := (frs_yes (n := 1) (by decide) (by decide) (by decide)).trans rfl
end Go.Abs.D2

/-! S7F -/
namespace Go.Abs.D2
open Go Go.Eng Go.Abs Go.Proofs 
set_option linter.unusedSimpArgs false in
set_option linter.unusedVariables false in
set_option maxHeartbeats 1000000 in
set_option maxRecDepth 10000 in
theorem sane_ok : Con Tryd.prog 10 [] (Ret (.b true)) := by
  refine enter Tryd.func10 rfl Tryd.ntmps10 (by kernel_rfl) (Nat.le_of_ble_eq_true rfl) fun w0 X0 hI => ?_
  refine at_seq ?_
  obtain ⟨db, p, q, hdb, hdl, hp, hq, hp16, hq16, hp0, hq15⟩ := sane_db
  refine at_region ?_
  refine s1 (y_p rfl) rfl <| ?_
  refine at_nil ?_
  refine x_tn ?_
  refine at_seq ?_
  refine at_region ?_
  refine s1 (y_bld (out := _) [(List.replicate 32 (.int .u8 0)).map evC, [evC (.slice none 0 0)], [evC (.slice none 0 0)]] ti27 rfl Tryd.underlying27 (by kernel_rfl) rfl rfl trivial rfl) rfl <| ?_
  refine at_op rfl (n_alloc 1 rfl ti27 rfl rfl ?_)
  refine at_op rfl (n_storeA ti27 rfl rfl rfl (by first | rfl | omega | (simp; done) | (simp [*]; done) | (simp; omega) | (simp [*]; omega) | (simp [D32.len, -List.length_flatten, *]; done) | (simp [D32.len, -List.length_flatten, *]; omega)) (by first | rfl | omega | (simp; done) | (simp [*]; done) | (simp; omega) | (simp [*]; omega) | (simp [D32.len, -List.length_flatten, *]; done) | (simp [D32.len, -List.length_flatten, *]; omega)) ?_)
  refine at_nil ?_
  refine x_tn ?_
  refine at_seq ?_
  refine at_sayO 1 (cs' := Z32.map u8 ++ [.nl, .nl]) rfl rfl ?_
  refine at_wkO 1 rfl wk_cas0 ?_
  refine at_region ?_
  refine s1 (y_loadA0 ti27 rfl rfl rfl) rfl <| ?_
  refine at_op rfl (n_call false rfl (.cons (.pure pu) (.cons (.pure pu) (.nil))) (Con.cast (swhere_ok cas0 hx0 1023) saneW1) pu (.inl rfl) rfl ?_)
  refine s1 (y_p rfl) rfl <| s1 (y_p rfl) rfl <| s1 (y_p rfl) rfl <| s1 (y_p rfl) rfl <| s1 (y_p rfl) rfl <| ?_
  refine at_nil ?_
  refine x_tn ?_
  refine at_seq ?_
  refine at_region ?_
  refine s1 (y_loadA0 ti27 rfl rfl rfl) rfl <| ?_
  refine at_op rfl (n_call false rfl (.cons (.pure pu) (.cons (.pure pu) (.nil))) (Con.cast (swhere_ok cas0 hx0 1024) saneW2) pu (.inl rfl) rfl ?_)
  refine s1 (y_p rfl) rfl <| s1 (y_p rfl) rfl <| s1 (y_p rfl) rfl <| s1 (y_p rfl) rfl <| s1 (y_p rfl) rfl <| ?_
  refine at_nil ?_
  refine x_tn ?_
  refine at_seq ?_
  refine at_region ?_
  refine at_op rfl (n_bs1 42 rfl Tryd.underlying25 ti3 rfl rfl rfl rfl rfl ?_)
  refine at_frz 42 rfl rfl pul (view_eq rfl rfl) ?_
  refine s1 (y_bld (out := _) [(List.replicate 32 (.int .u8 0)).map evC, [evC (.slice none 0 0)], [evC (.slice none 0 0)]] ti27 rfl Tryd.underlying27 (by kernel_rfl) rfl rfl ⟨⟨by (first | rfl | omega | (simp; done) | (simp [*]; done) | (simp [cellsA, *]; done)), rfl⟩, trivial⟩ rfl) rfl <| ?_
  refine at_say 43 rfl (v' := .ag (Z32.map u8 ++ [.nl, intsA [0, 1023]])) rfl ?_
  refine at_wk 43 rfl (.ag wk_cas1) ?_
  refine at_op rfl (n_call false rfl (.cons (.pure pu) (.nil)) (Con.cast (sblocks_ok cas1 hx1 (by decide)) hdb) pu (.inl rfl) rfl ?_)
  refine s1 (y_p rfl) rfl <| s1 (y_p rfl) rfl <| s1 (y_p rfl) rfl <| s1 (y_p rfl) rfl <| s1 (y_p rfl) rfl <| ?_
  refine at_nil ?_
  refine x_tn ?_
  refine at_seq ?_
  refine at_seq ?_
  refine at_region ?_
  refine s1 (y_p rfl) rfl <| s1 ((y_p rfl).v (v' := .b false) (rfl)) rfl <| s1 (y_p rfl) rfl <| g1 rfl rfl (y_p rfl) rfl <| g1 rfl rfl ((y_p rfl).v (v' := .b false) (rfl)) rfl <| s1 (y_p rfl) rfl <| s1 (y_p rfl) rfl <| g1 rfl rfl (y_p rfl) rfl <| g1 rfl rfl ((y_p rfl).v (v' := .b false) (rfl)) rfl <| s1 (y_p rfl) rfl <| ?_
  refine s1 (y_p rfl) rfl <| g1 rfl rfl (y_p rfl) rfl <| g1 rfl rfl (y_len Tryd.underlying25 rfl rfl rfl) rfl <| g1 rfl rfl ((y_p rfl).v (v' := .b false) (rfl)) rfl <| s1 (y_p rfl) rfl <| s1 (y_p rfl) rfl <| g1 rfl rfl (y_p rfl) rfl <| g1 rfl rfl (y_ixf 0 Tryd.underlying25 ti3 rfl rfl rfl (by decide) rfl) rfl <| g1 rfl rfl (y_load ti3 rfl rfl rfl) rfl <| g1 rfl rfl ((y_p rfl).v (v' := .b false) (rfl)) rfl <| ?_
  refine s1 (y_p rfl) rfl <| s1 (y_p rfl) rfl <| g1 rfl rfl (y_p rfl) rfl <| g1 rfl rfl (y_ixf 1 Tryd.underlying25 ti3 rfl rfl rfl (by decide) rfl) rfl <| g1 rfl rfl (y_load ti3 rfl rfl rfl) rfl <| g1 rfl rfl ((y_p rfl).v (v' := .b false) (rfl)) rfl <| s1 (y_p rfl) rfl <| s1 (y_p rfl) rfl <| g1 rfl rfl (y_p rfl) rfl <| g1 rfl rfl (y_ixf 30 Tryd.underlying25 ti3 rfl rfl rfl (by decide) rfl) rfl <| ?_
  refine g1 rfl rfl (y_load ti3 rfl rfl rfl) rfl <| g1 rfl rfl ((y_p rfl).v (v' := .b false) (rfl)) rfl <| s1 (y_p rfl) rfl <| s1 (y_p rfl) rfl <| g1 rfl rfl (y_p rfl) rfl <| g1 rfl rfl (y_ixf 31 Tryd.underlying25 ti3 rfl rfl rfl (by decide) rfl) rfl <| g1 rfl rfl (y_load ti3 rfl rfl rfl) rfl <| g1 rfl rfl ((y_p rfl).v (v' := .b false) (rfl)) rfl <| s1 (y_p rfl) rfl <| s1 (y_p rfl) rfl <| ?_
  refine g1 rfl rfl (y_p rfl) rfl <| g1 rfl rfl (y_ixf 32 Tryd.underlying25 ti3 rfl rfl rfl (by decide) rfl) rfl <| g1 rfl rfl (y_load ti3 rfl rfl rfl) rfl <| g1 rfl rfl ((y_p rfl).v (v' := .b false) (rfl)) rfl <| s1 (y_p rfl) rfl <| s1 (y_p rfl) rfl <| g1 rfl rfl (y_p rfl) rfl <| g1 rfl rfl (y_len Tryd.underlying28 rfl rfl rfl) rfl <| g1 rfl rfl ((y_p rfl).v (v' := .b false) (congrArg A.b (by rw [hdl]; rfl))) rfl <| s1 (y_p rfl) rfl <| ?_
  refine s1 (y_p rfl) rfl <| g1 rfl rfl (y_p rfl) rfl <| g1 rfl rfl (y_ixf 512 Tryd.underlying28 ti66 rfl rfl rfl (by omega) rfl) rfl <| g1 rfl rfl (y_load ti66 rfl rfl (V6.getR hp)) rfl <| g1 rfl rfl (y_len Tryd.underlying66 rfl rfl rfl) rfl <| g1 rfl rfl ((y_p rfl).v (v' := .b false) (congrArg A.b (by rw [hp16]; rfl))) rfl <| s1 (y_p rfl) rfl <| s1 (y_p rfl) rfl <| g1 rfl rfl (y_p rfl) rfl <| g1 rfl rfl (y_ixf 512 Tryd.underlying28 ti66 rfl rfl rfl (by omega) rfl) rfl <| ?_
  refine g1 rfl rfl (y_load ti66 rfl rfl (V6.getR hp)) rfl <| g1 rfl rfl (y_ixf 0 Tryd.underlying66 ti5 rfl rfl rfl (by omega) rfl) rfl <| g1 rfl rfl (y_load ti5 rfl rfl (get_u8 hp0)) rfl <| g1 rfl rfl ((y_p rfl).v (v' := .b false) (rfl)) rfl <| s1 (y_p rfl) rfl <| s1 (y_p rfl) rfl <| g1 rfl rfl (y_p rfl) rfl <| g1 rfl rfl (y_ixf 519 Tryd.underlying28 ti66 rfl rfl rfl (by omega) rfl) rfl <| g1 rfl rfl (y_load ti66 rfl rfl (V6.getR hq)) rfl <| g1 rfl rfl (y_ixf 15 Tryd.underlying66 ti5 rfl rfl rfl (by omega) rfl) rfl <| ?_
  refine g1 rfl rfl (y_load ti5 rfl rfl (get_u8 hq15)) rfl <| g1 rfl rfl ((y_p rfl).v (v' := .b false) (rfl)) rfl <| s1 (y_p rfl) rfl <| ?_
  refine at_nil ?_
  refine x_tn ?_
  refine at_else rfl ?_
  refine at_skip ?_
  refine x_tn ?_
  refine at_seq ?_
  refine at_region ?_
  refine at_op rfl (n_make 120 rfl 33 33 Tryd.underlying28 ti66 rfl rfl rfl rfl rfl (by first | omega | (simp only [maxLen]; omega) | (simp [maxLen]; done) | (simp [maxLen]; omega) | (simp [maxLen, *]; omega)) (by first | omega | (simp only [maxLen]; omega) | (simp [maxLen]; done) | (simp [maxLen]; omega) | (simp [maxLen, *]; omega)) (by first | omega | (simp only [maxLen]; omega) | (simp [maxLen]; done) | (simp [maxLen]; omega) | (simp [maxLen, *]; omega)) rfl ?_)
  refine s1 (y_p rfl) rfl <| ?_
  refine at_nil ?_
  refine x_tn ?_
  refine at_seq ?_
  refine at_seq ?_
  refine at_region ?_
  refine s1 (y_p rfl) rfl <| s1 (y_len Tryd.underlying28 rfl rfl rfl) rfl <| s1 ((y_p rfl).v (v' := .i .i64 0) rfl) rfl <| ?_
  refine at_nil ?_
  refine x_tn ?_
  refine at_block ?_
  refine at_loop (ι := Nat) (fun k => [(1, .p 1 0), (6, rowsV db), (8, .sl 220 1 0 33), (122, nJ 33), (123, nJ k)]) (fun k => ⟨[(1, some (casL cas0)), (220, some (fillL k))]⟩) (fun k => k ≤ 33) (fun k => 33 - k) ?_ ?_
  · exact at_ex (0) (by omega) [(1, some 1), (220, some 120)] hI rfl rfl ⟨⟨_, rfl, .p rfl⟩, ⟨_, rfl, .pure pu⟩, ⟨_, rfl, .sl rfl (by first | rfl | omega | (simp; done) | (simp [*]; done) | (simp; omega) | (simp [*]; omega) | (simp [D32.len, -List.length_flatten, *]; done) | (simp [D32.len, -List.length_flatten, *]; omega))⟩, ⟨_, rfl, .pure pu⟩, ⟨_, rfl, .pure pu⟩, trivial⟩ ⟨.inr ⟨_, _, rfl, rfl, .pure pul⟩, .inr ⟨_, _, rfl, rfl, .of rfl (.pure pul)⟩, trivial⟩
  rintro k hk
  refine at_seq ?_
  refine at_region ?_
  refine s1 (y_p rfl) rfl <| ?_
  refine at_nil ?_
  refine x_tn ?_
  refine at_seq ?_
  refine at_cond rfl (fun hc124 => ?_) (fun hc124 => ?_)
  · have h124 : k < 33 := by have := of_decide_eq_true hc124; omega
    refine at_skip ?_
    refine x_tn ?_
    refine at_seq ?_
    refine at_block ?_
    refine at_seq ?_
    refine at_region ?_
    refine s1 (y_p rfl) rfl <| s1 (y_p rfl) rfl <| ?_
    refine at_nil ?_
    refine x_tn ?_
    refine at_region ?_
    refine s1 (y_p rfl) rfl <| s1 (y_p rfl) rfl <| ?_
    refine at_op rfl (n_make 128 rfl 16 16 Tryd.underlying66 ti5 rfl rfl rfl rfl rfl (by first | omega | (simp only [maxLen]; omega) | (simp [maxLen]; done) | (simp [maxLen]; omega) | (simp [maxLen, *]; omega)) (by first | omega | (simp only [maxLen]; omega) | (simp [maxLen]; done) | (simp [maxLen]; omega) | (simp [maxLen, *]; omega)) (by first | omega | (simp only [maxLen]; omega) | (simp [maxLen]; done) | (simp [maxLen]; omega) | (simp [maxLen, *]; omega)) rfl ?_)
    refine at_sayO 128 (cs' := Z16.map u8) rfl rfl ?_
    refine at_frz 128 rfl rfl pul (view_eq rfl rfl) ?_
    refine s1 (y_ixs k Tryd.underlying28 ti66 rfl rfl rfl rfl (by omega) rfl) rfl <| ?_
    refine at_op rfl (n_store1 ti66 rfl rfl rfl rfl (by rw [len_fill (by omega)]; omega) (by rw [show 0 + k * 1 = k by omega]) ?_)
    refine at_nil ?_
    refine x_bn ?_
    refine x_tn ?_
    refine at_region ?_
    refine s1 (addN _ 1 rfl rfl rfl rfl (by omega)) rfl <| s1 (y_p rfl) rfl <| ?_
    refine at_nil ?_
    exact at_end (k + 1) (by omega) (by omega) [(1, some 1), (220, some 220)] hI rfl rfl ⟨⟨_, rfl, .p rfl⟩, ⟨_, rfl, .pure pu⟩, ⟨_, rfl, .sl rfl (by first | rfl | omega | (simp; done) | (simp [*]; done) | (simp; omega) | (simp [*]; omega) | (simp [D32.len, -List.length_flatten, *]; done) | (simp [D32.len, -List.length_flatten, *]; omega))⟩, ⟨_, rfl, .pure pu⟩, ⟨_, rfl, .pure pu⟩, trivial⟩ ⟨.inr ⟨_, _, rfl, rfl, .pure pul⟩, .inr ⟨_, _, rfl, rfl, .of (filL_s h124) (.pure pul)⟩, trivial⟩
  · obtain rfl : k = 33 := by have := of_decide_eq_false hc124; omega
    refine at_exit ?_
    refine x_te ?_
    refine x_te ?_
    refine x_be ?_
    refine x_tn ?_
    refine at_seq ?_
    refine at_sayO 220 (cs' := (List.replicate 33 Z16).map V6.slV) rfl filL_33 ?_
    refine at_region ?_
    refine s1 (y_loadA0 ti27 rfl rfl rfl) rfl <| s1 (y_p rfl) rfl <| ?_
    refine at_op rfl (n_call true rfl (.cons (.pure pu) (.cons (.pure pu) (.cons (.sl rfl rfl rfl (view_eq rfl rfl) (VwL.pure pul) pul) .nil))) (Con.cast (sread_ok cas0 hx0 1023 (List.replicate 33 Z16)) saneR1) pu (.inr fu) rfl ?_)
    refine s1 (y_p rfl) rfl <| s1 (y_p rfl) rfl <| s1 (y_p rfl) rfl <| s1 (y_p rfl) rfl <| s1 (y_p rfl) rfl <| ?_
    refine at_nil ?_
    refine x_tn ?_
    refine at_seq ?_
    refine at_region ?_
    refine s1 (y_p rfl) rfl <| s1 (y_p rfl) rfl <| s1 (y_ixf 519 Tryd.underlying28 ti66 rfl rfl rfl (by omega) rfl) rfl <| s1 (y_load ti66 rfl rfl (V6.getR hq)) rfl <| s1 (y_ixs 32 Tryd.underlying28 ti66 rfl rfl rfl rfl (by omega) rfl) rfl <| ?_
    refine at_op rfl (n_store1 ti66 rfl rfl rfl rfl (by simp) rfl ?_)
    refine at_nil ?_
    refine x_tn ?_
    refine at_seq ?_
    refine at_sayO 220 (cs' := ((List.replicate 33 Z16).set 32 q).map V6.slV) rfl (by rw [List.map_set]) ?_
    refine at_region ?_
    refine s1 (y_loadA0 ti27 rfl rfl rfl) rfl <| s1 (y_p rfl) rfl <| ?_
    refine at_op rfl (n_call true rfl (.cons (.pure pu) (.cons (.pure pu) (.cons (.sl rfl rfl (by rw [List.length_set]; rfl) (view_eq (by rw [List.length_map, List.length_set]; rfl) rfl) (VwL.pure pul) pul) .nil))) (Con.cast (sread_ok cas0 hx0 1023 ((List.replicate 33 Z16).set 32 q)) (saneR2 hq16 hq15)) pu (.inr fu) rfl ?_)
    refine s1 (y_p rfl) rfl <| s1 (y_p rfl) rfl <| s1 (y_p rfl) rfl <| s1 (y_p rfl) rfl <| s1 (y_p rfl) rfl <| ?_
    refine at_nil ?_
    refine x_tn ?_
    refine at_seq ?_
    refine at_region ?_
    refine s1 (y_loadA0 ti27 rfl rfl rfl) rfl <| ?_
    refine at_op rfl (n_call false rfl (.cons (.pure pu) (.cons (.pure pu) (.cons .nl (.nil)))) (Con.cast (sread_ok cas0 hx0 1023 []) saneR3) pu (.inl rfl) rfl ?_)
    refine s1 (y_p rfl) rfl <| s1 (y_p rfl) rfl <| s1 (y_p rfl) rfl <| s1 (y_p rfl) rfl <| s1 (y_p rfl) rfl <| ?_
    refine at_nil ?_
    refine x_tn ?_
    refine at_seq ?_
    refine at_region ?_
    refine s1 (y_loadA0 ti27 rfl rfl rfl) rfl <| ?_
    refine at_op rfl (n_bs1 155 rfl Tryd.underlying25 ti3 rfl rfl rfl rfl rfl ?_)
    refine at_op rfl (n_call true rfl (.cons (.pure pu) (.cons (.sl rfl rfl (by first | rfl | omega | (simp; done) | (simp [*]; done) | (simp; omega) | (simp [*]; omega) | (simp [D32.len, -List.length_flatten, *]; done) | (simp [D32.len, -List.length_flatten, *]; omega)) (view_eq (by first | rfl | omega | (simp; done) | (simp [*]; done) | (simp; omega) | (simp [*]; omega) | (simp [D32.len, -List.length_flatten, *]; done) | (simp [D32.len, -List.length_flatten, *]; omega)) (by first | rfl | (simp; done) | (simp [*]; done))) (VwL.pure pul) pul) (.cons .nl (.nil)))) (Con.cast (sask_ok cas0 hx0 [1, 2, 3, 4, 5] []) saneA) pu (.inr fu) rfl ?_)
    refine s1 (y_p rfl) rfl <| s1 (y_p rfl) rfl <| s1 (y_p rfl) rfl <| s1 (y_p rfl) rfl <| ?_
    refine at_op rfl (n_alloc 16 rfl ti46 rfl rfl ?_)
    refine at_op rfl (n_alloc 17 rfl ti46 rfl rfl ?_)
    refine at_op rfl (n_storeA ti46 rfl rfl rfl (by first | rfl | omega | (simp; done) | (simp [*]; done) | (simp; omega) | (simp [*]; omega) | (simp [D32.len, -List.length_flatten, *]; done) | (simp [D32.len, -List.length_flatten, *]; omega)) (by first | rfl | omega | (simp; done) | (simp [*]; done) | (simp; omega) | (simp [*]; omega) | (simp [D32.len, -List.length_flatten, *]; done) | (simp [D32.len, -List.length_flatten, *]; omega)) ?_)
    refine at_op rfl (n_storeA ti46 rfl rfl rfl (by first | rfl | omega | (simp; done) | (simp [*]; done) | (simp; omega) | (simp [*]; omega) | (simp [D32.len, -List.length_flatten, *]; done) | (simp [D32.len, -List.length_flatten, *]; omega)) (by first | rfl | omega | (simp; done) | (simp [*]; done) | (simp; omega) | (simp [*]; omega) | (simp [D32.len, -List.length_flatten, *]; done) | (simp [D32.len, -List.length_flatten, *]; omega)) ?_)
    refine s1 (y_p rfl) rfl <| ?_
    refine at_nil ?_
    refine x_tn ?_
    refine at_seq ?_
    refine at_region ?_
    refine s1 (y_loadA0 ti27 rfl rfl rfl) rfl <| s1 (y_bld (out := [_]) [[evC (.slice none 0 0)]] ti43 rfl Tryd.underlying43 (by kernel_rfl) rfl rfl trivial rfl) rfl <| s1 (y_bld (out := [_]) [[evC (.slice none 0 0)]] ti43 rfl Tryd.underlying43 (by kernel_rfl) rfl rfl trivial rfl) rfl <| ?_
    refine at_wk 162 rfl (.ag (.cons .nl .nil)) ?_
    refine at_wk 163 rfl (.ag (.cons .nl .nil)) ?_
    refine at_op rfl (n_call false rfl (.cons (.pure pu) (.cons .nl (.cons (.pure pu) (.cons (.pure pu) (.nil))))) (Con.cast (sresult_ok cas0 hx0 [] [] []) saneQ) pu (.inl rfl) rfl ?_)
    refine s1 (y_p rfl) rfl <| s1 (y_p rfl) rfl <| s1 (y_p rfl) rfl <| s1 (y_p rfl) rfl <| s1 (y_p rfl) rfl <| ?_
    refine at_nil ?_
    refine x_tn ?_
    refine at_seq ?_
    refine at_region ?_
    refine at_op rfl (n_call false rfl (.cons .nl (.cons (.pure pu) (.cons (.pure pu) (.cons (.pure pu) (.nil))))) (Con.cast (sfresh_ok [] 0 0 0 ok_eps0 (by decide)) saneF0) pu (.inl rfl) rfl ?_)
    refine s1 (y_p rfl) rfl <| s1 (y_p rfl) rfl <| s1 (y_p rfl) rfl <| s1 (y_p rfl) rfl <| s1 (y_p rfl) rfl <| ?_
    refine at_nil ?_
    refine x_tn ?_
    refine at_seq ?_
    refine at_region ?_
    refine s1 (y_bld (out := _) [[evC (.int .i64 0)], [evC (.int .i64 0)], [evC (.int .i64 0)], [evC (.slice none 0 0)], (List.replicate 32 (.int .u8 0)).map evC, (List.replicate 32 (.int .u8 0)).map evC, [evC (.int .i64 0), evC (.slice none 0 0), evC (.slice none 0 0)]] ti61 rfl Tryd.underlying61 (by kernel_rfl) rfl rfl ⟨⟨by (first | rfl | omega | (simp; done) | (simp [*]; done) | (simp [cellsA, *]; done)), rfl⟩, trivial⟩ rfl) rfl <| s1 (y_bld (out := _) [[evC (.int .i64 0)], [evC (.int .i64 0)], [evC (.int .i64 0)], [evC (.slice none 0 0)], (List.replicate 32 (.int .u8 0)).map evC, (List.replicate 32 (.int .u8 0)).map evC, [evC (.int .i64 0), evC (.slice none 0 0), evC (.slice none 0 0)]] ti61 rfl Tryd.underlying61 (by kernel_rfl) rfl rfl ⟨⟨by (first | rfl | omega | (simp; done) | (simp [*]; done) | (simp [cellsA, *]; done)), rfl⟩, trivial⟩ rfl) rfl <| ?_
    refine at_say 171 rfl (v' := .ag ep3L) rfl ?_
    refine at_say 172 rfl (v' := .ag ep8L) rfl ?_
    refine at_op rfl (n_bs 173 rfl Tryd.underlying54 ti61 rfl rfl rfl (by simp [cellsA]) rfl rfl rfl rfl ?_)
    refine s1 (y_p rfl) rfl <| ?_
    refine at_nil ?_
    refine x_tn ?_
    refine at_seq ?_
    refine at_sayO 173 (cs' := ep3L ++ ep8L) rfl rfl ?_
    refine at_frz 23 rfl rfl pul (view_eq rfl rfl) ?_
    refine at_say 23 rfl (v' := eposA eps2) rfl ?_
    refine at_region ?_
    refine s1 (y_p rfl) rfl <| ?_
    refine at_op rfl (n_call false rfl (.cons (.pure pu) (.cons (.pure pu) (.cons (.pure pu) (.cons (.pure pu) (.nil))))) (Con.cast (sfresh_ok eps2 0 10 2 ok_eps2 (by decide)) saneF1) pu (.inl rfl) rfl ?_)
    refine s1 (y_p rfl) rfl <| s1 (y_p rfl) rfl <| s1 (y_p rfl) rfl <| s1 (y_p rfl) rfl <| s1 (y_p rfl) rfl <| ?_
    refine at_nil ?_
    refine x_tn ?_
    refine at_seq ?_
    refine at_region ?_
    refine s1 (y_p rfl) rfl <| ?_
    refine at_op rfl (n_call false rfl (.cons (.pure pu) (.cons (.pure pu) (.cons (.pure pu) (.cons (.pure pu) (.nil))))) (Con.cast (sfresh_ok eps2 0 11 2 ok_eps2 (by decide)) saneF2) pu (.inl rfl) rfl ?_)
    refine s1 (y_p rfl) rfl <| s1 (y_p rfl) rfl <| s1 (y_p rfl) rfl <| s1 (y_p rfl) rfl <| s1 (y_p rfl) rfl <| ?_
    refine at_nil ?_
    refine x_tn ?_
    refine at_seq ?_
    refine at_region ?_
    refine s1 (y_p rfl) rfl <| ?_
    refine at_op rfl (n_call false rfl (.cons (.pure pu) (.cons (.pure pu) (.cons (.pure pu) (.cons (.pure pu) (.nil))))) (Con.cast (sfresh_ok eps2 1 1023 0 ok_eps2 (by decide)) saneF3) pu (.inl rfl) rfl ?_)
    refine s1 (y_p rfl) rfl <| s1 (y_p rfl) rfl <| s1 (y_p rfl) rfl <| s1 (y_p rfl) rfl <| s1 (y_p rfl) rfl <| ?_
    refine at_nil ?_
    refine x_tn ?_
    refine at_seq ?_
    refine at_region ?_
    refine s1 (y_p rfl) rfl <| s1 ((y_p rfl).v (v' := .b true) (rfl)) rfl <| s1 (y_p rfl) rfl <| g1 rfl rfl (y_p rfl) rfl <| g1 rfl rfl ((y_p rfl).v (v' := .b true) (rfl)) rfl <| s1 (y_p rfl) rfl <| s1 (y_p rfl) rfl <| g1 rfl rfl (y_p rfl) rfl <| g1 rfl rfl ((y_p rfl).v (v' := .b true) (rfl)) rfl <| s1 (y_p rfl) rfl <| ?_
    refine s1 (y_p rfl) rfl <| g1 rfl rfl (y_p rfl) rfl <| g1 rfl rfl ((y_p rfl).v (v' := .b true) (rfl)) rfl <| s1 (y_p rfl) rfl <| s1 (y_p rfl) rfl <| g1 rfl rfl (y_p rfl) rfl <| g1 rfl rfl ((y_p rfl).v (v' := .b true) (rfl)) rfl <| s1 (y_p rfl) rfl <| s1 (y_p rfl) rfl <| g1 rfl rfl (y_p rfl) rfl <| ?_
    refine g1 rfl rfl ((y_p rfl).v (v' := .b true) (rfl)) rfl <| s1 (y_p rfl) rfl <| s1 (y_p rfl) rfl <| g1 rfl rfl (y_p rfl) rfl <| g1 rfl rfl ((y_p rfl).v (v' := .b true) (rfl)) rfl <| s1 (y_p rfl) rfl <| s1 (y_p rfl) rfl <| g1 rfl rfl (y_p rfl) rfl <| g1 rfl rfl ((y_p rfl).v (v' := .b true) (rfl)) rfl <| s1 (y_p rfl) rfl <| ?_
    refine s1 (y_p rfl) rfl <| g1 rfl rfl (y_p rfl) rfl <| g1 rfl rfl ((y_p rfl).v (v' := .b true) (rfl)) rfl <| s1 (y_p rfl) rfl <| s1 (y_p rfl) rfl <| g1 rfl rfl (y_p rfl) rfl <| g1 rfl rfl ((y_p rfl).v (v' := .b true) (rfl)) rfl <| s1 (y_p rfl) rfl <| s1 (y_p rfl) rfl <| g1 rfl rfl ((y_p rfl).v (v' := .b true) (rfl)) rfl <| ?_
    refine s1 (y_p rfl) rfl <| s1 (y_p rfl) rfl <| g1 rfl rfl ((y_p rfl).v (v' := .b true) (rfl)) rfl <| s1 (y_p rfl) rfl <| s1 (y_p rfl) rfl <| g1 rfl rfl (y_p rfl) rfl <| g1 rfl rfl ((y_p rfl).v (v' := .b true) (rfl)) rfl <| s1 (y_p rfl) rfl <| s1 (y_p rfl) rfl <| g1 rfl rfl ((y_p rfl).v (v' := .b true) (rfl)) rfl <| ?_
    refine s1 (y_p rfl) rfl <| s1 (y_p rfl) rfl <| ?_
    refine at_nil ?_
    refine x_tn ?_
    refine at_ret ?_
    refine at_result (rs := [.tmp 0]) rfl (r_tmp rfl r_nil) ?_
    rfl
end Go.Abs.D2

/-! S7T -/
namespace Go.Abs.D2
open Go Go.Eng Go.Abs
def fewF (F : List Fil) : Bool := decide (F.length ≤ 20) && F.all fun f => decide (f.D.length ≤ 600)
theorem few_yes {F : List Fil} (h1 : F.length ≤ 20) (h2 : ∀ i, i < F.length → ∀ f, F[i]? = some f → f.D.length ≤ 600) : fewF F = true := by
  unfold fewF
  rw [decide_eq_true h1, Bool.true_and, List.all_eq_true]
  intro f hf
  obtain ⟨i, hi, rfl⟩ := List.mem_iff_getElem.1 hf
  exact decide_eq_true (h2 i hi _ (List.getElem?_eq_getElem hi))
def hdF (fill : UInt8) (f : Fil) : Fil := ⟨f.lv, f.nb, [fill]⟩
abbrev headC (c : Cas) (fill : UInt8) : Cas := ⟨c.x, c.F.map (hdF fill), []⟩
theorem hed_hd (fill : UInt8) : ∀ (F : List Fil) (i : Nat), hedB i (F.map (hdF fill)) = hedB i F
  | [], _ => rfl
  | f :: F, i => by simp only [List.map_cons, hedB, hed_hd fill F]; rfl
theorem head_hd (fill : UInt8) (F : List Fil) : headB (F.map (hdF fill)) = headB F := by unfold headB; rw [hed_hd, List.length_map]
theorem bitsAt_hd (c : Cas) (fill : UInt8) (id i k : Nat) : bitsAt (headC c fill) id i k = bitsAt c id i k := by
  unfold bitsAt headC
  rw [List.getElem?_map]
  cases c.F[i]? <;> rfl
theorem where_hd (c : Cas) (fill : UInt8) (id : Nat) : whereL (headC c fill) id = whereL c id := by
  unfold whereL plcL
  have : plc (headC c fill) id = plc c id := by
    funext j; unfold plc; rw [bitsAt_hd]
  rw [this]
theorem atL_hd (c : Cas) (fill : UInt8) (ids : List Int) : atL (headC c fill) ids = atL c ids := by
  unfold atL
  congr 1
  funext q
  exact where_hd c fill _
theorem askB_hd (c : Cas) (fill : UInt8) (ids : List Int) : askB (headC c fill) ids = askB c ids := by
  unfold askB
  show (headB (c.F.map (hdF fill)) && _ && _) = _
  rw [head_hd]
theorem sAskA_hd (c : Cas) (fill : UInt8) (ids : List Int) (coins : List (List UInt8)) : sAskA (headC c fill) ids coins = sAskA c ids coins := by
  unfold sAskA
  rw [askB_hd, atL_hd]
theorem read_hd (c : Cas) (fill : UInt8) (id : Nat) (bl : List (List UInt8)) : readV (headC c fill) id bl = readV c id bl := by
  unfold readV
  rw [show metB (headC c fill) id bl = metB c id bl from funext fun i => by unfold metB; rw [bitsAt_hd, bitsAt_hd]]
  rw [show (headC c fill).F.length = c.F.length from List.length_map ..]
theorem hd_next {F : List Fil} {i : Nat} {f : Fil} {fill : UInt8} (h : F[i]? = some f) : ((F.take i).map (hdF fill)).flatMap filC ++ [.i .i64 f.lv, .i .i64 f.nb, .fz 1 [u8 fill]] = ((F.take (i + 1)).map (hdF fill)).flatMap filC := by
  rw [List.take_add_one, h]; simp [hdF]
theorem tail_get {x : List UInt8} (hx : x.length = 32) (l : List A) : ((x.map u8 ++ l).drop 32) = l := List.drop_left' (by rw [List.length_map, hx])
theorem tail_set {x : List UInt8} (hx : x.length = 32) (v a b : A) : (x.map u8 ++ [a, b]).set 32 v = x.map u8 ++ [v, b] := by
  rw [List.set_append_right _ _ (by simp [hx]), List.length_map, hx]; rfl
theorem hd_end (c : Cas) (fill : UInt8) : c.x.map u8 ++ [.fz c.F.length (((c.F.take c.F.length).map (hdF fill)).flatMap filC), .nl] = c.x.map u8 ++ [filsA (c.F.map (hdF fill)), .nl] := by
  rw [List.take_length, filsA, List.length_map]
theorem wk_tailE (a : A) : ∀ l : List A, WkL (l ++ [a, .nl]) (l ++ [a, .fz 0 []])
  | [] => .cons (.eq rfl) (.cons .nl .nil)
  | _ :: l => .cons (.eq rfl) (wk_tailE a l)
theorem flat_len (F : List Fil) : (F.flatMap filC).length = F.length * 3 := by
  induction F with
  | nil => rfl
  | cons f F ih => rw [List.flatMap_cons, List.length_append, ih, List.length_cons]; simp; omega
end Go.Abs.D2

/-! S7G -/
namespace Go.Abs.D2
open Go Go.Eng Go.Abs Go.Proofs 
set_option linter.unusedSimpArgs false in
set_option linter.unusedVariables false in
set_option maxHeartbeats 1000000 in
set_option maxRecDepth 10000 in
theorem shd_ok (c : Cas) (hx : c.x.length = 32) (fill : UInt8) (hF : c.F.length ≤ 1000) : Con Tryd.prog 29 [.ag (casL c), u8 fill] (Ret (.ag (casL (headC c fill)))) := by
  refine enter Tryd.func29 rfl Tryd.ntmps29 (by kernel_rfl) (Nat.le_of_ble_eq_true rfl) fun w0 X0 hI => ?_
  refine at_seq ?_
  refine at_region ?_
  refine at_op rfl (n_boxA 2 rfl rfl rfl ?_)
  refine at_op rfl (n_alloc 4 rfl ti27 rfl rfl ?_)
  refine at_nil ?_
  refine x_tn ?_
  refine at_seq ?_
  refine at_region ?_
  refine s1 (y_fld Tryd.underlying27 rfl ti23 (by decide) rfl rfl) rfl <| s1 (y_loadA ti23 rfl rfl (cas_x hx) (by simp [hx])) rfl <| s1 (y_bld (out := _) [(List.replicate 32 (.int .u8 0)).map evC, [evC (.slice none 0 0)], [evC (.slice none 0 0)]] ti27 rfl Tryd.underlying27 (by kernel_rfl) rfl rfl ⟨⟨by (first | rfl | omega | (simp; done) | (simp [*]; done) | (simp [cellsA, *]; done)), rfl⟩, trivial⟩ rfl) rfl <| ?_
  refine at_say 10 rfl (v' := .ag (c.x.map u8 ++ [.nl, .nl])) rfl ?_
  refine at_op rfl (n_alloc 5 rfl ti27 rfl rfl ?_)
  refine at_op rfl (n_storeA ti27 rfl rfl rfl (by first | rfl | omega | (simp; done) | (simp [*]; done) | (simp; omega) | (simp [*]; omega) | (simp [D32.len, -List.length_flatten, *]; done) | (simp [D32.len, -List.length_flatten, *]; omega)) (by first | rfl | omega | (simp; done) | (simp [*]; done) | (simp; omega) | (simp [*]; omega) | (simp [D32.len, -List.length_flatten, *]; done) | (simp [D32.len, -List.length_flatten, *]; omega)) ?_)
  refine at_nil ?_
  refine x_tn ?_
  refine at_seq ?_
  refine at_seq ?_
  refine at_region ?_
  refine s1 (y_fld Tryd.underlying27 rfl ti24 (by decide) rfl rfl) rfl <| s1 (y_load ti24 rfl rfl (cas_F hx)) rfl <| s1 (y_len Tryd.underlying24 rfl rfl rfl) rfl <| s1 ((y_p rfl).v (v' := .i .i64 0) rfl) rfl <| ?_
  refine at_nil ?_
  refine x_tn ?_
  refine at_block ?_
  refine at_loop (ι := Nat) (fun i => [(1, u8 fill), (4, .p 4 0), (5, .p 5 0), (12, filsA c.F), (13, nJ c.F.length), (14, nJ i)]) (fun i => ⟨[(4, some (([.int .u8 0, .int .u8 0, .int .u8 0, .int .u8 0, .int .u8 0, .int .u8 0, .int .u8 0, .int .u8 0, .int .u8 0, .int .u8 0, .int .u8 0, .int .u8 0, .int .u8 0, .int .u8 0, .int .u8 0, .int .u8 0, .int .u8 0, .int .u8 0, .int .u8 0, .int .u8 0, .int .u8 0, .int .u8 0, .int .u8 0, .int .u8 0, .int .u8 0, .int .u8 0, .int .u8 0, .int .u8 0, .int .u8 0, .int .u8 0, .int .u8 0, .int .u8 0, .slice none 0 0, .slice none 0 0] : List Value).map evC)), (5, some (c.x.map u8 ++ [.sl 125 3 0 i, .nl])), (125, some (((c.F.take i).map (hdF fill)).flatMap filC))]⟩) (fun i => i ≤ c.F.length) (fun i => c.F.length - i) ?_ ?_
  · exact at_ex (0) (Nat.zero_le _) [(4, some 4), (5, some 5), (125, none)] hI rfl rfl ⟨⟨_, rfl, .pure pu⟩, ⟨_, rfl, .p rfl⟩, ⟨_, rfl, .p rfl⟩, ⟨_, rfl, .pure pu⟩, ⟨_, rfl, .pure pu⟩, ⟨_, rfl, .pure pu⟩, trivial⟩ ⟨.inr ⟨_, _, rfl, rfl, .pure pul⟩, .inr ⟨_, _, rfl, rfl, .app (.pure pul) (.cons (.nl rfl) (.cons (.pure pu) .nil))⟩, .inl ⟨rfl, rfl⟩, trivial⟩
  rintro i hi
  have hfl : (((c.F.take i).map (hdF fill)).flatMap filC).length = i * 3 := by rw [flat_len, List.length_map, List.length_take, Nat.min_eq_left hi]
  refine at_seq ?_
  refine at_region ?_
  refine s1 (y_p rfl) rfl <| ?_
  refine at_nil ?_
  refine x_tn ?_
  refine at_seq ?_
  refine at_cond rfl (fun hc15 => ?_) (fun hc15 => ?_)
  · have h15 : i < c.F.length := by have := of_decide_eq_true hc15; omega
    obtain ⟨f, hf⟩ : ∃ f, c.F[i]? = some f := ⟨_, List.getElem?_eq_getElem h15⟩
    refine at_skip ?_
    refine x_tn ?_
    refine at_seq ?_
    refine at_block ?_
    refine at_seq ?_
    refine at_region ?_
    refine s1 (y_ixf i Tryd.underlying24 ti82 rfl rfl rfl (by omega) rfl) rfl <| s1 (y_loadA ti82 rfl rfl (flat_get hf) rfl) rfl <| ?_
    refine at_op rfl (n_alloc 7 rfl ti82 rfl rfl ?_)
    refine at_op rfl (n_storeA ti82 rfl rfl rfl (by first | rfl | omega | (simp; done) | (simp [*]; done) | (simp; omega) | (simp [*]; omega) | (simp [D32.len, -List.length_flatten, *]; done) | (simp [D32.len, -List.length_flatten, *]; omega)) (by first | rfl | omega | (simp; done) | (simp [*]; done) | (simp; omega) | (simp [*]; omega) | (simp [D32.len, -List.length_flatten, *]; done) | (simp [D32.len, -List.length_flatten, *]; omega)) ?_)
    refine at_nil ?_
    refine x_tn ?_
    refine at_seq ?_
    refine at_region ?_
    refine s1 (y_p rfl) rfl <| ?_
    refine at_op rfl (n_bs1 19 rfl Tryd.underlying66 ti5 rfl rfl rfl rfl rfl ?_)
    refine at_frz 19 rfl rfl pul (view_eq rfl rfl) ?_
    refine s1 (y_fld Tryd.underlying82 rfl ti66 (by decide) rfl rfl) rfl <| ?_
    refine at_op rfl (n_store1 ti66 rfl rfl rfl rfl (by first | rfl | omega | (simp; done) | (simp [*]; done) | (simp; omega) | (simp [*]; omega) | (simp [D32.len, -List.length_flatten, *]; done) | (simp [D32.len, -List.length_flatten, *]; omega)) rfl ?_)
    refine at_nil ?_
    refine x_tn ?_
    refine at_region ?_
    refine s1 (y_fld Tryd.underlying27 rfl ti24 (by decide) rfl rfl) rfl <| s1 (y_load ti24 rfl rfl (congrArg (fun l => l[0]?) (tail_get hx _))) rfl <| s1 (y_loadA0 ti82 rfl rfl rfl) rfl <| ?_
    refine at_op rfl (n_bs 24 rfl Tryd.underlying24 ti82 rfl rfl rfl (by first | (simp [cellsA]; done) | (simp [cellsA, *]; done)) rfl rfl rfl rfl ?_)
    refine at_op rfl (n_app 25 rfl Tryd.underlying24 ti82 rfl (.sl rfl (by rw [hfl])) rfl (SM_full rfl (by first | rfl | omega | (simp; done) | (simp [*]; done) | (simp; omega) | (simp [*]; omega) | (simp [D32.len, -List.length_flatten, *]; done) | (simp [D32.len, -List.length_flatten, *]; omega))) rfl (by simp only [maxLen]; omega) (by omega) rfl (hd_next hf) rfl ?_)
    refine s1 (y_fld Tryd.underlying27 rfl ti24 (by decide) rfl rfl) rfl <| ?_
    refine at_op rfl (n_store1 ti24 rfl rfl rfl rfl (by simp [hx]) (tail_set hx _ _ _) ?_)
    refine at_nil ?_
    refine x_bn ?_
    refine x_tn ?_
    refine at_region ?_
    refine s1 (addN _ 1 rfl rfl rfl rfl (by omega)) rfl <| s1 (y_p rfl) rfl <| ?_
    refine at_nil ?_
    exact at_end (i + 1) (by omega) (by omega) [(4, some 4), (5, some 5), (125, some 25)] hI rfl rfl ⟨⟨_, rfl, .pure pu⟩, ⟨_, rfl, .p rfl⟩, ⟨_, rfl, .p rfl⟩, ⟨_, rfl, .pure pu⟩, ⟨_, rfl, .pure pu⟩, ⟨_, rfl, .pure pu⟩, trivial⟩ ⟨.inr ⟨_, _, rfl, rfl, .pure pul⟩, .inr ⟨_, _, rfl, rfl, .app (.pure pul) (.cons (.sl rfl (by first | rfl | omega | (simp; done) | (simp [*]; done) | (simp; omega) | (simp [*]; omega) | (simp [D32.len, -List.length_flatten, *]; done) | (simp [D32.len, -List.length_flatten, *]; omega))) (.cons (.pure pu) .nil))⟩, .inr ⟨_, _, rfl, rfl, .pure pul⟩, trivial⟩
  · have h15 : i = c.F.length := by have := of_decide_eq_false hc15; omega
    subst h15
    refine at_exit ?_
    refine x_te ?_
    refine x_te ?_
    refine x_be ?_
    refine x_tn ?_
    refine at_seq ?_
    refine at_frzO 5 32 rfl (by rw [List.getElem?_append_right (by simp [hx]), List.length_map, hx]; rfl) rfl rfl pul (view_eq (by rw [flat_len, List.length_map, List.length_take, Nat.min_self]) rfl) (tail_set hx _ _ _) ?_
    refine at_sayO 5 (cs' := c.x.map u8 ++ [filsA (c.F.map (hdF fill)), .nl]) rfl (hd_end ..) ?_
    refine at_wkO 5 rfl (wk_tailE ..) ?_
    refine at_region ?_
    refine s1 (y_loadA0 ti27 rfl rfl (cas_len (c := headC c fill) hx)) rfl <| ?_
    refine at_op rfl (n_storeA ti27 rfl rfl rfl (cas_len (c := headC c fill) hx) (by first | rfl | omega | (simp; done) | (simp [*]; done) | (simp; omega) | (simp [*]; omega) | (simp [D32.len, -List.length_flatten, *]; done) | (simp [D32.len, -List.length_flatten, *]; omega)) ?_)
    refine at_nil ?_
    refine x_tn ?_
    refine at_ret ?_
    refine at_result (rs := [.cell 4 27]) rfl (r_cellA ti27 rfl rfl (cas_all (c := headC c fill) hx) (cas_len (c := headC c fill) hx) r_nil) rfl
end Go.Abs.D2

/-! S7U -/
namespace Go.Abs.D2
open Go Go.Eng Go.Abs
theorem sask_form (c : Cas) (ids : List Int) (coins : List (List UInt8)) : (∃ e : Int, e ≠ 0 ∧ sAskA c ids coins = .tu [qryE, qryE, .i .i64 e]) ∨
    (∃ a b, sAskA c ids coins = .tu [.ag [rowsV a], .ag [rowsV b], .i .i64 0] ∧ askB c ids = true ∧ coins.length = 132 ∧ (atL c ids).length ≤ 132 ∧ a.length = 132 ∧ b.length = 132 ∧ ∀ k, k < coins.length → V6.Round (520 : Nat) (atL c ids) coins a b k) := by
  cases h : askB c ids with
  | false => exact .inl ⟨370, by decide, sask_no h⟩
  | true =>
    rcases ask_split 520 (atL c ids) 132 coins with ⟨e, he, hA⟩ | ⟨a, b, hA, h1, _, _, h4, h5, h6, h7⟩
    · exact .inl ⟨e, he, (sask_yes h).trans hA⟩
    · have : coins.length = 132 := by omega
      exact .inr ⟨a, b, (sask_yes h).trans hA, rfl, this, by omega, by omega, by omega, h7⟩
theorem bit_blk {M : List UInt8} {i b : Nat} (hb : b < 128) : bitA (blkN M i) b = bitA M (128 * i + b) := by
  unfold bitA blkN
  rw [show (128 * i + b) / 8 = 16 * i + b / 8 by omega, show (128 * i + b) % 8 = b % 8 by omega]
  congr 2
  rw [List.getD, List.getElem?_take, if_pos (by omega), List.getElem?_drop]; rfl
theorem get_putD {M D : List UInt8} {o : Nat} : ∀ {k j : Nat}, o + k ≤ M.length → (putD M o D k).getD j 0 = if o ≤ j ∧ j < o + k then D.getD (j - o) 0 else M.getD j 0
  | 0, j, _ => by rw [if_neg (by omega)]; rfl
  | k + 1, j, h => by
    rw [putD, List.getD, List.getElem?_set]
    have ih := get_putD (M := M) (D := D) (o := o) (k := k) (j := j) (by omega)
    rw [List.getD] at ih
    by_cases e : o + k = j
    · subst e
      rw [if_pos rfl, if_pos (by rw [len_putD]; omega), if_pos (by omega), show o + k - o = k by omega]; rfl
    · rw [if_neg e, ih]
      by_cases h2 : o ≤ j ∧ j < o + k
      · rw [if_pos h2, if_pos (by omega)]
      · rw [if_neg h2, if_neg (by omega)]
theorem filF_at {F : List Fil} (hD : ∀ f ∈ F, f.D.length ≤ 512) : ∀ {n i t : Nat} {f : Fil}, n ≤ 16 → n ≤ F.length → i < n → F[i]? = some f → t < f.D.length → (filF F n).getD (512 * i + t) 0 = f.D.getD t 0
  | 0, _, _, _, _, _, h, _, _ => by omega
  | n + 1, i, t, f, hn, hl, hi, hf, ht => by
    have hm := hD f (List.mem_of_getElem? hf)
    obtain ⟨g, hg⟩ : ∃ g, F[n]? = some g := ⟨_, List.getElem?_eq_getElem (by omega)⟩
    have hgm := hD g (List.mem_of_getElem? hg)
    rw [filF, data_at hg, get_putD (by rw [len_filF]; omega)]
    by_cases e : i = n
    · subst e
      rw [hf] at hg; cases hg
      rw [if_pos (by omega), show 512 * i + t - 512 * i = t by omega]
    · rw [if_neg (by omega)]
      exact filF_at hD (by omega) (by omega) (by omega) hf ht
theorem filF_zero {F : List Fil} (hD : ∀ f ∈ F, f.D.length ≤ 512) : ∀ {n p : Nat}, n ≤ 16 → n ≤ F.length → 8192 ≤ p → (filF F n).getD p 0 = 0
  | 0, p, _, _, _ => by
    show zeroM.getD p 0 = 0
    rw [List.getD]
    rcases Nat.lt_or_ge p 8320 with h | h
    · rw [zero_get h]; rfl
    · rw [List.getElem?_eq_none (by rw [len_zeroM]; omega)]; rfl
  | n + 1, p, hn, hl, hp => by
    obtain ⟨g, hg⟩ : ∃ g, F[n]? = some g := ⟨_, List.getElem?_eq_getElem (by omega)⟩
    have hgm := hD g (List.mem_of_getElem? hg)
    rw [filF, data_at hg, get_putD (by rw [len_filF]; omega), if_neg (by omega)]
    exact filF_zero hD (by omega) (by omega) hp
theorem bit_exc {M : List UInt8} {E : List Int} (hM : M.length = 8320) (hE : ∀ n ∈ E, 0 ≤ n ∧ n < 1024) (j : Nat) : ∀ {k : Nat}, k ≤ E.length → bitA (excF M E k) j = (bitA M j || (E.take k).any fun e => j == 65536 + e.toNat)
  | 0, _ => by simp [excF]
  | k + 1, hk => by
    obtain ⟨q, hq⟩ : ∃ q, E[k]? = some q := ⟨_, List.getElem?_eq_getElem (by omega)⟩
    have hqm := hE q (List.mem_of_getElem? hq)
    rw [excF, getD_get hq, bit_setA (by rw [len_excF]; omega), bit_exc hM hE j (by omega), List.take_add_one, hq]
    simp [Bool.or_assoc]
def inE (E : List Int) (id : Nat) : Bool := E.any fun e => e == (id : Int)
def hasAt (c : Cas) (id i : Nat) : Bool := match c.F[i]? with
  | some f => hasD c.x i f.nb.toNat id f.D
  | none => false
theorem hasAt_some {c : Cas} {id i n : Nat} {f : Fil} (h : c.F[i]? = some f) (hn : f.nb = (n : Int)) : hasAt c id i = hasD c.x i n id f.D := by unfold hasAt; rw [h]; simp [hn]
def hasC (c : Cas) (id : Nat) : Bool := (passT (hasAt c id) c.F.length % 2 == 1) != inE c.E id
theorem chkC_512 {c : Cas} (h : chkC c = true) : ∀ f ∈ c.F, f.D.length ≤ 512 := fun f hf => by
  obtain ⟨i, hi⟩ := List.mem_iff_getElem?.1 hf
  obtain ⟨_, n, _, _, h2, h3, _⟩ := chkC_get h hi
  omega
theorem img_fil {c : Cas} (h : chkC c = true) {i b n : Nat} {f : Fil} (hf : c.F[i]? = some f) (hn : f.nb = (n : Int)) (hb : b < n) : bitA (imgB c) (4096 * i + b) = bitA f.D b := by
  obtain ⟨h1, h2, _⟩ := chkC_all h
  have hi := (List.getElem?_eq_some_iff.1 hf).1
  obtain ⟨_, m, e, _, g2, g3, _⟩ := chkC_get h hf
  have : m = n := by omega
  subst this
  rw [imgB_eq, bit_exc (len_filF _ _) (listed_mem h2) _ (Nat.le_refl _)]
  have hz : ((c.E.take c.E.length).any fun e => 4096 * i + b == 65536 + e.toNat) = false := by
    rw [List.any_eq_false]
    intro x _
    simp only [beq_iff_eq]
    omega
  rw [hz, Bool.or_false]
  unfold bitA
  rw [show (4096 * i + b) / 8 = 512 * i + b / 8 by omega, show (4096 * i + b) % 8 = b % 8 by omega, filF_at (chkC_512 h) h1 (Nat.le_refl _) hi hf (by omega)]
theorem img_exc {c : Cas} (h : chkC c = true) (id : Nat) : bitA (imgB c) (65536 + id) = inE c.E id := by
  obtain ⟨h1, h2, _⟩ := chkC_all h
  have hm := listed_mem h2
  rw [imgB_eq, bit_exc (len_filF _ _) hm _ (Nat.le_refl _), List.take_length]
  have hz : bitA (filF c.F c.F.length) (65536 + id) = false := by
    unfold bitA
    rw [filF_zero (chkC_512 h) h1 (Nat.le_refl _) (by omega)]
    simp
  rw [hz, Bool.false_or]
  unfold inE
  rw [Bool.eq_iff_iff, List.any_eq_true, List.any_eq_true]
  constructor
  · rintro ⟨x, hx, e⟩
    have := hm x hx
    exact ⟨x, hx, by simp only [beq_iff_eq] at e ⊢; omega⟩
  · rintro ⟨x, hx, e⟩
    have := hm x hx
    exact ⟨x, hx, by simp only [beq_iff_eq] at e ⊢; omega⟩
/-- The blocks at the places of a number. -/
def blkL (c : Cas) (id : Nat) : List (List UInt8) := (whereL c id).map fun n => blkN (imgB c) n.toNat
theorem blkL_at {c : Cas} {id k : Nat} {n : Int} (h : (whereL c id)[k]? = some n) (b : Nat) : blkB (blkL c id) k b = bitA (imgB c) (128 * n.toNat + b % 128) := by
  unfold blkB blkL
  rw [List.getD, List.getElem?_map, h]
  exact bit_blk (Nat.mod_lt _ (by omega))
theorem where_at {c : Cas} {id j : Nat} (hj : j < 32) : (whereL c id)[j]? = some (plc c id j) := by
  unfold whereL
  rw [List.getElem?_append_left (by simpa using hj)]
  unfold plcL
  rw [List.getElem?_map, List.getElem?_range hj]; rfl
theorem where_32 (c : Cas) (id : Nat) : (whereL c id)[32]? = some ((512 + id / 128 : Nat) : Int) := by
  unfold whereL
  rw [List.getElem?_append_right (by simp)]; simp
theorem read_has {c : Cas} (h : chkC c = true) (id : Nat) : readV c id (blkL c id) = hasC c id := by
  obtain ⟨h1, h2, _⟩ := chkC_all h
  unfold readV hasC
  have hx : blkB (blkL c id) 32 id = inE c.E id := by
    rw [blkL_at (where_32 c id), ← img_exc h]
    congr 1
    omega
  have hp : passT (metB c id (blkL c id)) c.F.length = passT (hasAt c id) c.F.length := passT_congr fun i hi => by
    obtain ⟨f, hf⟩ : ∃ f, c.F[i]? = some f := ⟨_, List.getElem?_eq_getElem hi⟩
    obtain ⟨_, n, hn, g1, _, _, _⟩ := chkC_get h hf
    have key : ∀ k, k < 2 → blkB (blkL c id) (2 * i + k) (bitsAt c id i k) = bitA f.D (bN c.x i n id k) := fun k hk => by
      rw [blkL_at (where_at (by omega)), plc_at c id i hk, ← img_fil h hf hn (bN_lt (by omega) k), bitsAt_some hf hn]
      congr 1
      omega
    unfold metB
    rw [hasAt_some hf hn]
    have k0 := key 0 (by omega)
    rw [Nat.add_zero] at k0
    rw [k0, key 1 (by omega)]; rfl
  rw [hx, hp]
end Go.Abs.D2

/-! C4Q -/
namespace Go.Abs.D2
open Go Go.Eng Go.Abs
@[irreducible] def hasCA (c : Cas) (id : Int) : A := if chkC c && numB id then .tu [.b (hasC c id.toNat), .i .i64 0] else .tu [.b false, .i .i64 340]
theorem hasc_no {c : Cas} {id : Int} (h : (chkC c && numB id) = false) : hasCA c id = .tu [.b false, .i .i64 340] := by unfold hasCA; rw [h]; rfl
theorem hasc_yes {c : Cas} {j : Nat} (h1 : chkC c = true) (h2 : numB j = true) : hasCA c j = .tu [.b (hasC c j), .i .i64 0] := by unfold hasCA; rw [h1, h2]; rfl
theorem hs_cases (c : Cas) (id : Int) : chkC c = false ∨ (chkC c = true ∧ numB id = false) ∨ (chkC c = true ∧ ∃ j : Nat, id = (j : Int) ∧ j < 1024 ∧ numB j = true) := by
  cases h1 : chkC c with
  | false => exact .inl rfl
  | true =>
    cases h2 : numB id with
    | false => exact .inr (.inl ⟨rfl, rfl⟩)
    | true =>
      obtain ⟨j, rfl, hj⟩ := num_nat h2
      exact .inr (.inr ⟨rfl, j, rfl, hj, h2⟩)
theorem has_at {c : Cas} (h : chkC c = true) {i j : Nat} {f : Fil} (hf : c.F[i]? = some f) (hj : j < 1024) : hasA c.x f.lv f.nb f.D (j : Int) = .tu [.b (hasAt c j i), .i .i64 0] := by
  obtain ⟨e1, n, e2, _, _, _, g⟩ := chkC_get h hf
  rw [hasAt_some hf e2, e1, e2]
  exact has_yes (okB_eq g hj)
theorem asc_pair : ∀ {l : List Int} {last : Int}, ascB last l = true → l.Pairwise (· < ·)
  | [], _, _ => .nil
  | a :: l, last, h => by
    simp only [ascB, Bool.and_eq_true, decide_eq_true_eq] at h
    exact .cons (fun b hb => (asc_mem h.2 b hb).1) (asc_pair h.2)
theorem take_not {E : List Int} (h : listedB E = true) {k : Nat} {q : Int} (hq : E[k]? = some q) : (E.take k).any (fun e => e == q) = false := by
  have hp := asc_pair h
  have hk := (List.getElem?_eq_some_iff.1 hq).1
  rw [← List.take_append_drop k E, List.drop_eq_getElem_cons hk, (List.getElem?_eq_some_iff.1 hq).2] at hp
  have := (List.pairwise_append.1 hp).2.2
  rw [List.any_eq_false]
  intro x hx
  have := this x hx q (.head _)
  simp only [beq_iff_eq]
  omega
theorem exc_hit {E : List Int} (h : listedB E = true) {k j : Nat} {o : Bool} {q : Int} (hq : E[k]? = some q) (he : q = (j : Int)) : (!(o != inE (E.take k) j)) = (o != inE (E.take (k + 1)) j) := by
  subst he
  have h1 : inE (E.take k) j = false := take_not h hq
  have h2 : inE (E.take (k + 1)) j = true := by unfold inE; rw [List.take_add_one, hq]; simp
  rw [h1, h2]; cases o <;> rfl
theorem exc_miss {E : List Int} {k j : Nat} {q : Int} (hq : E[k]? = some q) (he : ¬ q = (j : Int)) : inE (E.take k) j = inE (E.take (k + 1)) j := by
  unfold inE
  rw [List.take_add_one, hq]; simp [he]
theorem exc_0 (o : Bool) (E : List Int) (j : Nat) : o = (o != inE (E.take 0) j) := by
  have : inE (E.take 0) j = false := rfl
  rw [this]; cases o <;> rfl
end Go.Abs.D2

/-! C4C -/
namespace Go.Abs.D2
open Go Go.Eng Go.Abs Go.Proofs 
set_option linter.unusedSimpArgs false in
set_option linter.unusedVariables false in
set_option maxHeartbeats 1000000 in
set_option maxRecDepth 10000 in
theorem cpassed_ok (c : Cas) (j : Nat) : Con Tryd.prog 65 [.ag (casL c), nJ j] (Ret (.fn (.func 89) [] [.fp (casL c), .fp [nJ j]])) := by
  refine enter Tryd.func65 rfl Tryd.ntmps65 (by kernel_rfl) (Nat.le_of_ble_eq_true rfl) fun w0 X0 hI => ?_
  refine at_seq ?_
  refine at_region ?_
  refine at_op rfl (n_boxA 2 rfl rfl rfl ?_)
  refine at_op rfl (n_box1 3 rfl rfl rfl rfl ?_)
  refine s1 (y_p rfl) rfl <| ?_
  refine at_nil ?_
  refine x_tn ?_
  refine at_seq ?_
  refine at_frzP 2 rfl rfl pul ?_
  refine at_frzP 3 rfl rfl pul ?_
  refine at_region ?_
  refine s1 (y_func (us := []) (vs := [.fp (casL c), .fp [nJ j]]) rfl rfl) rfl <| s1 (y_p rfl) rfl <| ?_
  refine at_nil ?_
  refine x_tn ?_
  refine at_ret ?_
  refine at_result (rs := [.tmp 4]) rfl (r_tmp rfl r_nil) ?_
  rfl
set_option linter.unusedSimpArgs false in
set_option linter.unusedVariables false in
set_option maxHeartbeats 1000000 in
set_option maxRecDepth 10000 in
theorem chas_ok (c : Cas) (hx : c.x.length = 32) (hn : c.E.length ≤ maxLen) (id : Int) : Con Tryd.prog 32 [.ag (casL c), .i .i64 id] (Ret (hasCA c id)) := by
  refine enterM Tryd.func32 rfl Tryd.ntmps32 (by kernel_rfl) (Nat.le_of_ble_eq_true rfl) fun w0 X0 hI hS => ?_
  refine at_seq ?_
  refine at_region ?_
  refine at_op rfl (n_boxA 2 rfl rfl rfl ?_)
  refine at_op rfl (n_alloc 4 rfl ti4 rfl rfl ?_)
  refine s1 ((y_p rfl).v (v' := .i .i64 0) rfl) rfl <| ?_
  refine at_nil ?_
  refine x_tn ?_
  refine at_seq ?_
  refine at_seq ?_
  rcases hs_cases c id with hcs | hcs | hcs
  · skip
    refine at_region ?_
    refine s1 (y_loadA0 ti27 rfl rfl (cas_len hx)) rfl <| ?_
    refine at_op rfl (n_call false rfl (.cons (.pure pu) (.nil)) (Con.cast (cchk_ok c hx hn) (congrArg (fun b => A.i .i64 (errC b)) hcs)) pu (.inl rfl) rfl ?_)
    refine s1 (y_p rfl) rfl <| ?_
    refine at_nil ?_
    refine x_tn ?_
    refine at_seq ?_
    refine at_region ?_
    refine s1 (y_p rfl) rfl <| s1 ((y_p rfl).v (v' := .b true) (rfl)) rfl <| ?_
    refine at_nil ?_
    refine x_tn ?_
    refine at_then rfl ?_
    refine at_seq ?_
    refine at_region ?_
    refine s1 (y_p rfl) rfl <| ?_
    refine at_op rfl (n_store1 ti4 rfl rfl rfl rfl (by first | rfl | omega | (simp; done) | (simp [*]; done) | (simp; omega) | (simp [*]; omega) | (simp [D32.len, -List.length_flatten, *]; done) | (simp [D32.len, -List.length_flatten, *]; omega)) rfl ?_)
    refine s1 (y_p rfl) rfl <| ?_
    refine at_nil ?_
    refine x_tn ?_
    refine at_ret ?_
    refine x_tr ?_
    refine at_resultM (rs := [.cell 4 4, .tmp 5]) rfl rfl rfl hS hS List.nodup_nil rfl (r_cell ti4 rfl rfl rfl (r_tmp rfl r_nil)) ?_
    show A.tu _ = _; rw [hasc_no (by rw [hcs]; rfl)]; rfl
  · obtain ⟨hck, hnb⟩ := hcs
    refine at_region ?_
    refine s1 (y_loadA0 ti27 rfl rfl (cas_len hx)) rfl <| ?_
    refine at_op rfl (n_call false rfl (.cons (.pure pu) (.nil)) (Con.cast (cchk_ok c hx hn) (congrArg (fun b => A.i .i64 (errC b)) hck)) pu (.inl rfl) rfl ?_)
    refine s1 (y_p rfl) rfl <| ?_
    refine at_nil ?_
    refine x_tn ?_
    refine at_seq ?_
    refine at_region ?_
    refine s1 (y_p rfl) rfl <| s1 ((y_p rfl).v (v' := .b false) (rfl)) rfl <| ?_
    refine at_nil ?_
    refine x_tn ?_
    refine at_else rfl ?_
    refine at_skip ?_
    refine x_tn ?_
    refine at_seq ?_
    refine at_seq ?_
    refine at_region ?_
    refine s1 (y_p rfl) rfl <| s1 (y_p rfl) rfl <| s1 (y_p rfl) rfl <| ?_
    refine g_or 2 rfl rfl rfl rfl (fun hb16 => .step (y_p rfl) rfl rfl <| .step (y_p rfl) rfl rfl <| .done) rfl rfl ?_
    refine at_say 19 rfl (v' := .b true) (congrArg A.b (by have := of_decide_eq_false hnb; simp; omega)) ?_
    refine at_nil ?_
    refine x_tn ?_
    refine at_then rfl ?_
    refine at_seq ?_
    refine at_region ?_
    refine at_op rfl (n_store1 ti4 rfl rfl rfl rfl (by first | rfl | omega | (simp; done) | (simp [*]; done) | (simp; omega) | (simp [*]; omega) | (simp [D32.len, -List.length_flatten, *]; done) | (simp [D32.len, -List.length_flatten, *]; omega)) rfl ?_)
    refine s1 ((y_p rfl).v (v' := .i .i64 340) rfl) rfl <| ?_
    refine at_nil ?_
    refine x_tn ?_
    refine at_ret ?_
    refine x_tr ?_
    refine at_resultM (rs := [.cell 4 4, .tmp 5]) rfl rfl rfl hS hS List.nodup_nil rfl (r_cell ti4 rfl rfl rfl (r_tmp rfl r_nil)) ?_
    show A.tu _ = _; rw [hasc_no (by rw [hck, hnb]; rfl)]; rfl
  · obtain ⟨hck, j, rfl, hj, hnb⟩ := hcs
    obtain ⟨_, hle, _⟩ := chkC_all hck
    have hen := hn
    simp only [maxLen] at hen
    refine at_region ?_
    refine s1 (y_loadA0 ti27 rfl rfl (cas_len hx)) rfl <| ?_
    refine at_op rfl (n_call false rfl (.cons (.pure pu) (.nil)) (Con.cast (cchk_ok c hx hn) (congrArg (fun b => A.i .i64 (errC b)) hck)) pu (.inl rfl) rfl ?_)
    refine s1 (y_p rfl) rfl <| ?_
    refine at_nil ?_
    refine x_tn ?_
    refine at_seq ?_
    refine at_region ?_
    refine s1 (y_p rfl) rfl <| s1 ((y_p rfl).v (v' := .b false) (rfl)) rfl <| ?_
    refine at_nil ?_
    refine x_tn ?_
    refine at_else rfl ?_
    refine at_skip ?_
    refine x_tn ?_
    refine at_seq ?_
    refine at_seq ?_
    refine at_region ?_
    refine s1 (y_p rfl) rfl <| s1 (y_p rfl) rfl <| s1 (y_p rfl) rfl <| ?_
    refine g_or 2 rfl rfl rfl rfl (fun hb16 => .step (y_p rfl) rfl rfl <| .step (y_p rfl) rfl rfl <| .done) rfl rfl ?_
    refine at_say 19 rfl (v' := .b false) (congrArg A.b (by simp; omega)) ?_
    refine at_nil ?_
    refine x_tn ?_
    refine at_else rfl ?_
    refine at_skip ?_
    refine x_tn ?_
    refine at_seq ?_
    refine at_seq ?_
    refine at_region ?_
    refine s1 (y_loadA0 ti27 rfl rfl (cas_len hx)) rfl <| s1 (y_p rfl) rfl <| ?_
    refine at_op rfl (n_call false rfl (.cons (.pure pu) (.cons (.pure pu) (.nil))) (cpassed_ok c j) pu (.inl rfl) rfl ?_)
    refine at_nil ?_
    refine x_tn ?_
    refine at_block ?_
    refine at_range [2, 4] [(0, _), (1, _), (2, _), (4, _), (5, _), (6, _), (9, _), (10, _), (11, _), (12, _), (14, _), (15, _), (16, _), (19, _), (20, _), (21, _), (22, _)] hI rfl ⟨rfl, ⟨rfl, ⟨rfl, ⟨rfl, ⟨rfl, ⟨rfl, ⟨rfl, ⟨rfl, ⟨rfl, ⟨rfl, ⟨rfl, ⟨rfl, ⟨rfl, ⟨rfl, ⟨rfl, ⟨rfl, ⟨rfl, trivial⟩⟩⟩⟩⟩⟩⟩⟩⟩⟩⟩⟩⟩⟩⟩⟩⟩ (by first | rfl | (simp [onlyE, refsE, refs, refsL, refsL_pul, refs_pu, memN]; done)) rfl Tryd.func89 rfl Tryd.ntmps89 (by kernel_rfl) (Nat.le_of_ble_eq_true rfl) fun w1 l1 D1 rc1 hR1 => ?_
    refine at_seq ?_
    refine at_region ?_
    refine s1 (y_fldf Tryd.underlying27 rfl ti24 (by decide) rfl rfl) rfl <| s1 (y_load ti24 rfl rfl (cas_F hx)) rfl <| s1 (y_len Tryd.underlying24 rfl rfl rfl) rfl <| s1 ((y_p rfl).v (v' := .i .i64 0) rfl) rfl <| ?_
    refine at_nil ?_
    refine x_tn ?_
    refine at_block ?_
    refine at_loop (ι := Nat) (fun i => [(0, yv l1), (1, .fp (casL c)), (2, .fp [nJ j]), (9, filsA c.F), (10, nJ c.F.length), (11, nJ i)]) (fun i => ⟨[(2, some (casL c)), (4, some ([.b (i % 2 == 1)]))]⟩) (fun i => i ≤ c.F.length ∧ ∀ t, t < i → hasAt c j t = true) (fun i => c.F.length - i) ?_ ?_
    · exact at_ex (0) (⟨Nat.zero_le _, fun t ht => absurd ht (by omega)⟩) [(2, some 2), (4, some 4)] hR1.sub.ids rfl rfl ⟨⟨_, rfl, .pure trivial⟩, ⟨_, rfl, .pure pu⟩, ⟨_, rfl, .pure pu⟩, ⟨_, rfl, .pure pu⟩, ⟨_, rfl, .pure pu⟩, ⟨_, rfl, .pure pu⟩, trivial⟩ ⟨.inr ⟨_, _, rfl, rfl, .pure pul⟩, .inr ⟨_, _, rfl, rfl, .pure pul⟩, trivial⟩
    rintro i ⟨hi, hp⟩
    refine at_seq ?_
    refine at_region ?_
    refine s1 (y_p rfl) rfl <| ?_
    refine at_nil ?_
    refine x_tn ?_
    refine at_seq ?_
    refine at_cond rfl (fun hc12 => ?_) (fun hc12 => ?_)
    · have h12 : i < c.F.length := by have := of_decide_eq_true hc12; omega
      obtain ⟨f, hf⟩ : ∃ f, c.F[i]? = some f := ⟨_, List.getElem?_eq_getElem h12⟩
      refine at_skip ?_
      refine x_tn ?_
      refine at_seq ?_
      refine at_block ?_
      refine at_seq ?_
      refine at_region ?_
      refine s1 (y_ixf i Tryd.underlying24 ti82 rfl rfl rfl (by omega) rfl) rfl <| s1 (y_loadA ti82 rfl rfl (flat_get hf) rfl) rfl <| ?_
      refine at_op rfl (n_alloc 1005 rfl ti82 rfl rfl ?_)
      refine at_op rfl (n_storeA ti82 rfl rfl rfl (by first | rfl | omega | (simp; done) | (simp [*]; done) | (simp; omega) | (simp [*]; omega) | (simp [D32.len, -List.length_flatten, *]; done) | (simp [D32.len, -List.length_flatten, *]; omega)) (by first | rfl | omega | (simp; done) | (simp [*]; done) | (simp; omega) | (simp [*]; omega) | (simp [D32.len, -List.length_flatten, *]; done) | (simp [D32.len, -List.length_flatten, *]; omega)) ?_)
      refine at_nil ?_
      refine x_tn ?_
      refine at_seq ?_
      refine at_region ?_
      refine s1 (y_fldf Tryd.underlying27 rfl ti23 (by decide) rfl rfl) rfl <| s1 (y_loadA ti23 rfl rfl (cas_x hx) (by simp [hx])) rfl <| s1 (y_loadA0 ti82 rfl rfl rfl) rfl <| s1 (y_load ti3 rfl rfl rfl) rfl <| ?_
      refine at_op rfl (n_call false rfl (.cons (.pure pu) (.cons (.pure pu) (.cons (.pure pu) (.nil)))) (Con.cast (fhas_ok c.x f.lv f.nb (j : Int) f.D hx) (has_at hck hf hj)) pu (.inl rfl) rfl ?_)
      refine s1 (y_p rfl) rfl <| s1 (y_p rfl) rfl <| s1 (y_p rfl) rfl <| s1 (y_p rfl) rfl <| s1 (y_p rfl) rfl <| ?_
      refine at_nil ?_
      refine x_tn ?_
      refine at_seq ?_
      refine at_region ?_
      refine s1 (y_p rfl) rfl <| s1 (y_p rfl) rfl <| s1 (y_p rfl) rfl <| ?_
      refine at_bc 25 rfl (fun hc25 => ?_) (fun hc25 => ?_)
      · have h25 : hasAt c j i = false := by simpa using hc25
        have hps := passT_no h12 hp h25
        refine g0 rfl rfl rfl rfl <| g0 rfl rfl rfl rfl <| g0 rfl rfl rfl rfl <| g0 rfl rfl rfl rfl <| s1 (y_p rfl) rfl <| ?_
        refine at_nil ?_
        refine x_tn ?_
        refine at_then rfl ?_
        refine at_ret ?_
        refine x_br ?_
        refine x_tr ?_
        refine x_tr ?_
        refine x_br ?_
        refine at_itret rfl hR1 hS ?_
        refine x_bn ?_
        refine x_tn ?_
        refine at_seq ?_
        refine at_seq ?_
        refine at_sayO 4 (cs' := [.b (passT (hasAt c j) c.F.length % 2 == 1)]) rfl (by rw [hps]) ?_
        refine at_region ?_
        refine s1 (y_fld Tryd.underlying27 rfl ti25 (by decide) rfl rfl) rfl <| s1 (y_load ti25 rfl rfl (cas_E hx)) rfl <| s1 (y_len Tryd.underlying25 rfl rfl rfl) rfl <| s1 ((y_p rfl).v (v' := .i .i64 0) rfl) rfl <| ?_
        refine at_nil ?_
        refine x_tn ?_
        refine at_block ?_
        refine at_loop (ι := Nat) (fun k => [(1, nJ j), (4, .p 4 0), (27, intsA c.E), (28, nJ c.E.length), (29, nJ k)]) (fun k => ⟨[(4, some ([.b ((passT (hasAt c j) c.F.length % 2 == 1) != inE (c.E.take k) j)]))]⟩) (fun k => k ≤ c.E.length) (fun k => c.E.length - k) ?_ ?_
        · exact at_ex (0) (Nat.zero_le _) [(4, some 4)] hI rfl rfl ⟨⟨_, rfl, .pure pu⟩, ⟨_, rfl, .p rfl⟩, ⟨_, rfl, .pure pu⟩, ⟨_, rfl, .pure pu⟩, ⟨_, rfl, .pure pu⟩, trivial⟩ ⟨.inr ⟨_, _, rfl, rfl, .of (by rw [← exc_0]) (.pure pul)⟩, trivial⟩
        rintro k hk
        refine at_seq ?_
        refine at_region ?_
        refine s1 (y_p rfl) rfl <| ?_
        refine at_nil ?_
        refine x_tn ?_
        refine at_seq ?_
        refine at_cond rfl (fun hc30 => ?_) (fun hc30 => ?_)
        · have h30 : k < c.E.length := by have := of_decide_eq_true hc30; omega
          obtain ⟨q, hq⟩ : ∃ q, c.E[k]? = some q := ⟨_, List.getElem?_eq_getElem h30⟩
          refine at_skip ?_
          refine x_tn ?_
          refine at_seq ?_
          refine at_block ?_
          refine at_seq ?_
          refine at_region ?_
          refine s1 (y_ixf k Tryd.underlying25 ti3 rfl rfl rfl (by omega) rfl) rfl <| s1 (y_load ti3 rfl rfl (getI4 hq)) rfl <| s1 (y_p rfl) rfl <| ?_
          refine at_nil ?_
          refine x_tn ?_
          refine at_seq ?_
          refine at_region ?_
          refine s1 (y_p rfl) rfl <| s1 (y_p rfl) rfl <| s1 (y_p rfl) rfl <| ?_
          refine at_nil ?_
          refine x_tn ?_
          refine at_cond rfl (fun hc35 => ?_) (fun hc35 => ?_)
          · have h35 : q = (j : Int) := by have := of_decide_eq_true hc35; omega
            refine at_region ?_
            refine s1 (y_load ti4 rfl rfl rfl) rfl <| s1 (y_p rfl) rfl <| ?_
            refine at_op rfl (n_store1 ti4 rfl rfl rfl rfl (by first | rfl | omega | (simp; done) | (simp [*]; done) | (simp; omega) | (simp [*]; omega) | (simp [D32.len, -List.length_flatten, *]; done) | (simp [D32.len, -List.length_flatten, *]; omega)) rfl ?_)
            refine at_nil ?_
            refine x_bn ?_
            refine x_tn ?_
            refine at_region ?_
            refine s1 (addN _ 1 rfl rfl rfl rfl (by omega)) rfl <| s1 (y_p rfl) rfl <| ?_
            refine at_nil ?_
            exact at_end (k + 1) (by omega) (by omega) [(4, some 4)] hI rfl rfl ⟨⟨_, rfl, .pure pu⟩, ⟨_, rfl, .p rfl⟩, ⟨_, rfl, .pure pu⟩, ⟨_, rfl, .pure pu⟩, ⟨_, rfl, .pure pu⟩, trivial⟩ ⟨.inr ⟨_, _, rfl, rfl, .of (by rw [← exc_hit hle hq h35]; rfl) (.pure pul)⟩, trivial⟩
          · have h35 : ¬ q = (j : Int) := by have := of_decide_eq_false hc35; omega
            refine at_skip ?_
            refine x_bn ?_
            refine x_tn ?_
            refine at_region ?_
            refine s1 (addN _ 1 rfl rfl rfl rfl (by omega)) rfl <| s1 (y_p rfl) rfl <| ?_
            refine at_nil ?_
            exact at_end (k + 1) (by omega) (by omega) [(4, some 4)] hI rfl rfl ⟨⟨_, rfl, .pure pu⟩, ⟨_, rfl, .p rfl⟩, ⟨_, rfl, .pure pu⟩, ⟨_, rfl, .pure pu⟩, ⟨_, rfl, .pure pu⟩, trivial⟩ ⟨.inr ⟨_, _, rfl, rfl, .of (by rw [← exc_miss hq h35]) (.pure pul)⟩, trivial⟩
        · have h30 : k = c.E.length := by have := of_decide_eq_false hc30; omega
          subst h30
          refine at_exit ?_
          refine x_te ?_
          refine x_te ?_
          refine x_be ?_
          refine x_tn ?_
          refine at_seq ?_
          refine at_region ?_
          refine s1 (y_load ti4 rfl rfl rfl) rfl <| ?_
          refine at_op rfl (n_store1 ti4 rfl rfl rfl rfl (by first | rfl | omega | (simp; done) | (simp [*]; done) | (simp; omega) | (simp [*]; omega) | (simp [D32.len, -List.length_flatten, *]; done) | (simp [D32.len, -List.length_flatten, *]; omega)) rfl ?_)
          refine s1 ((y_p rfl).v (v' := .i .i64 0) rfl) rfl <| ?_
          refine at_nil ?_
          refine x_tn ?_
          refine at_ret ?_
          refine at_resultM (rs := [.cell 4 4, .tmp 5]) rfl rfl rfl hS rfl (by simp) rfl (r_cell ti4 rfl rfl rfl (r_tmp rfl r_nil)) ?_
          show A.tu _ = _; rw [hasc_yes hck hnb, hasC, List.take_length]
      · have h25 : hasAt c j i = true := by simpa using hc25
        refine g1 rfl rfl (y_p rfl) rfl <| g1 rfl rfl (y_loadA0 ti82 rfl rfl rfl) rfl <| ?_
        refine at_ung rfl rfl ?_
        refine at_yield [2, 4, 1005] [(0, _), (1, _), (2, _), (5, _), (6, _), (9, _), (10, _), (11, _), (12, _), (13, _), (14, _), (15, _), (16, _), (17, _), (18, _), (19, _), (20, _), (21, _), (22, _), (23, _), (24, _), (25, _), (26, _), (27, _)] hR1 hR1.sub.ids rfl ⟨rfl, ⟨rfl, ⟨rfl, ⟨rfl, ⟨rfl, ⟨rfl, ⟨rfl, ⟨rfl, ⟨rfl, ⟨rfl, ⟨rfl, ⟨rfl, ⟨rfl, ⟨rfl, ⟨rfl, ⟨rfl, ⟨rfl, ⟨rfl, ⟨rfl, ⟨rfl, ⟨rfl, ⟨rfl, ⟨rfl, ⟨rfl, trivial⟩⟩⟩⟩⟩⟩⟩⟩⟩⟩⟩⟩⟩⟩⟩⟩⟩⟩⟩⟩⟩⟩⟩⟩ (by first | rfl | (simp [onlyE, refsE, refs, refsL, refsL_pul, refs_pu, memN]; done)) rfl rfl rfl rfl rfl fun w2 tm2 hd2 => ?_
        refine at_skip ?_
        refine at_begin hd2 fun w3 hd3 => ?_
        refine at_block ?_
        refine at_region ?_
        refine s1 (y_load ti4 rfl rfl rfl) rfl <| s1 (y_p rfl) rfl <| ?_
        refine at_op rfl (n_store1 ti4 rfl rfl rfl rfl (by first | rfl | omega | (simp; done) | (simp [*]; done) | (simp; omega) | (simp [*]; omega) | (simp [D32.len, -List.length_flatten, *]; done) | (simp [D32.len, -List.length_flatten, *]; omega)) rfl ?_)
        refine at_nil ?_
        refine x_bn ?_
        refine at_rend hR1 hd3 rfl ?_
        refine g1 rfl rfl (y_p rfl) rfl <| s1 (y_p rfl) rfl <| ?_
        refine at_nil ?_
        refine x_tn ?_
        refine at_else rfl ?_
        refine at_skip ?_
        refine x_bn ?_
        refine x_tn ?_
        refine at_region ?_
        refine s1 (addN _ 1 rfl rfl rfl rfl (by omega)) rfl <| s1 (y_p rfl) rfl <| ?_
        refine at_nil ?_
        exact at_end (i + 1) (⟨by omega, all_next hp h25⟩) (by omega) [(2, some 2), (4, some 4)] hR1.sub.ids rfl rfl ⟨⟨_, rfl, .pure trivial⟩, ⟨_, rfl, .pure pu⟩, ⟨_, rfl, .pure pu⟩, ⟨_, rfl, .pure pu⟩, ⟨_, rfl, .pure pu⟩, ⟨_, rfl, .pure pu⟩, trivial⟩ ⟨.inr ⟨_, _, rfl, rfl, .pure pul⟩, .inr ⟨_, _, rfl, rfl, .of (by rw [← odd_next i]; rfl) (.pure pul)⟩, trivial⟩
    · have h12 : i = c.F.length := by have := of_decide_eq_false hc12; omega
      subst h12
      have hps : passT (hasAt c j) c.F.length = c.F.length := passT_all hp
      refine at_exit ?_
      refine x_te ?_
      refine x_te ?_
      refine x_be ?_
      refine at_itnil rfl hR1 hS ?_
      refine x_bn ?_
      refine x_tn ?_
      refine at_seq ?_
      refine at_seq ?_
      refine at_sayO 4 (cs' := [.b (passT (hasAt c j) c.F.length % 2 == 1)]) rfl (by rw [hps]) ?_
      refine at_region ?_
      refine s1 (y_fld Tryd.underlying27 rfl ti25 (by decide) rfl rfl) rfl <| s1 (y_load ti25 rfl rfl (cas_E hx)) rfl <| s1 (y_len Tryd.underlying25 rfl rfl rfl) rfl <| s1 ((y_p rfl).v (v' := .i .i64 0) rfl) rfl <| ?_
      refine at_nil ?_
      refine x_tn ?_
      refine at_block ?_
      refine at_loop (ι := Nat) (fun k => [(1, nJ j), (4, .p 4 0), (27, intsA c.E), (28, nJ c.E.length), (29, nJ k)]) (fun k => ⟨[(4, some ([.b ((passT (hasAt c j) c.F.length % 2 == 1) != inE (c.E.take k) j)]))]⟩) (fun k => k ≤ c.E.length) (fun k => c.E.length - k) ?_ ?_
      · exact at_ex (0) (Nat.zero_le _) [(4, some 4)] hI rfl rfl ⟨⟨_, rfl, .pure pu⟩, ⟨_, rfl, .p rfl⟩, ⟨_, rfl, .pure pu⟩, ⟨_, rfl, .pure pu⟩, ⟨_, rfl, .pure pu⟩, trivial⟩ ⟨.inr ⟨_, _, rfl, rfl, .of (by rw [← exc_0]) (.pure pul)⟩, trivial⟩
      rintro k hk
      refine at_seq ?_
      refine at_region ?_
      refine s1 (y_p rfl) rfl <| ?_
      refine at_nil ?_
      refine x_tn ?_
      refine at_seq ?_
      refine at_cond rfl (fun hc30 => ?_) (fun hc30 => ?_)
      · have h30 : k < c.E.length := by have := of_decide_eq_true hc30; omega
        obtain ⟨q, hq⟩ : ∃ q, c.E[k]? = some q := ⟨_, List.getElem?_eq_getElem h30⟩
        refine at_skip ?_
        refine x_tn ?_
        refine at_seq ?_
        refine at_block ?_
        refine at_seq ?_
        refine at_region ?_
        refine s1 (y_ixf k Tryd.underlying25 ti3 rfl rfl rfl (by omega) rfl) rfl <| s1 (y_load ti3 rfl rfl (getI4 hq)) rfl <| s1 (y_p rfl) rfl <| ?_
        refine at_nil ?_
        refine x_tn ?_
        refine at_seq ?_
        refine at_region ?_
        refine s1 (y_p rfl) rfl <| s1 (y_p rfl) rfl <| s1 (y_p rfl) rfl <| ?_
        refine at_nil ?_
        refine x_tn ?_
        refine at_cond rfl (fun hc35 => ?_) (fun hc35 => ?_)
        · have h35 : q = (j : Int) := by have := of_decide_eq_true hc35; omega
          refine at_region ?_
          refine s1 (y_load ti4 rfl rfl rfl) rfl <| s1 (y_p rfl) rfl <| ?_
          refine at_op rfl (n_store1 ti4 rfl rfl rfl rfl (by first | rfl | omega | (simp; done) | (simp [*]; done) | (simp; omega) | (simp [*]; omega) | (simp [D32.len, -List.length_flatten, *]; done) | (simp [D32.len, -List.length_flatten, *]; omega)) rfl ?_)
          refine at_nil ?_
          refine x_bn ?_
          refine x_tn ?_
          refine at_region ?_
          refine s1 (addN _ 1 rfl rfl rfl rfl (by omega)) rfl <| s1 (y_p rfl) rfl <| ?_
          refine at_nil ?_
          exact at_end (k + 1) (by omega) (by omega) [(4, some 4)] hI rfl rfl ⟨⟨_, rfl, .pure pu⟩, ⟨_, rfl, .p rfl⟩, ⟨_, rfl, .pure pu⟩, ⟨_, rfl, .pure pu⟩, ⟨_, rfl, .pure pu⟩, trivial⟩ ⟨.inr ⟨_, _, rfl, rfl, .of (by rw [← exc_hit hle hq h35]; rfl) (.pure pul)⟩, trivial⟩
        · have h35 : ¬ q = (j : Int) := by have := of_decide_eq_false hc35; omega
          refine at_skip ?_
          refine x_bn ?_
          refine x_tn ?_
          refine at_region ?_
          refine s1 (addN _ 1 rfl rfl rfl rfl (by omega)) rfl <| s1 (y_p rfl) rfl <| ?_
          refine at_nil ?_
          exact at_end (k + 1) (by omega) (by omega) [(4, some 4)] hI rfl rfl ⟨⟨_, rfl, .pure pu⟩, ⟨_, rfl, .p rfl⟩, ⟨_, rfl, .pure pu⟩, ⟨_, rfl, .pure pu⟩, ⟨_, rfl, .pure pu⟩, trivial⟩ ⟨.inr ⟨_, _, rfl, rfl, .of (by rw [← exc_miss hq h35]) (.pure pul)⟩, trivial⟩
      · have h30 : k = c.E.length := by have := of_decide_eq_false hc30; omega
        subst h30
        refine at_exit ?_
        refine x_te ?_
        refine x_te ?_
        refine x_be ?_
        refine x_tn ?_
        refine at_seq ?_
        refine at_region ?_
        refine s1 (y_load ti4 rfl rfl rfl) rfl <| ?_
        refine at_op rfl (n_store1 ti4 rfl rfl rfl rfl (by first | rfl | omega | (simp; done) | (simp [*]; done) | (simp; omega) | (simp [*]; omega) | (simp [D32.len, -List.length_flatten, *]; done) | (simp [D32.len, -List.length_flatten, *]; omega)) rfl ?_)
        refine s1 ((y_p rfl).v (v' := .i .i64 0) rfl) rfl <| ?_
        refine at_nil ?_
        refine x_tn ?_
        refine at_ret ?_
        refine at_resultM (rs := [.cell 4 4, .tmp 5]) rfl rfl rfl hS rfl (by simp) rfl (r_cell ti4 rfl rfl rfl (r_tmp rfl r_nil)) ?_
        show A.tu _ = _; rw [hasc_yes hck hnb, hasC, List.take_length]
end Go.Abs.D2
