/-
  The engine, the plain laws and the walks that the rows need, part 10. Conditions: none.
-/
import Derived.Test.YtahjdbnhgdaejaaDoorM9

/-! K6E -/
namespace Go.Abs.D2
open Go Go.Eng Go.Abs Go.Proofs 
set_option linter.unusedSimpArgs false in
set_option linter.unusedVariables false in
set_option maxHeartbeats 1000000 in
set_option maxRecDepth 10000 in
theorem mul64_ok : Con Tryd.prog 93 [w64 (c64 1), w64 (c64 19)] (Ret (.tu [w64 (c64 0), w64 (c64 19)])) := by
  refine enter Tryd.func93 rfl Tryd.ntmps93 (by kernel_rfl) (Nat.le_of_ble_eq_true rfl) fun w0 X0 hI => ?_
  refine at_seq ?_
  refine at_region ?_
  refine s1 ((y_p rfl).v (v' := .i .u64 0) rfl) rfl <| s1 ((y_p rfl).v (v' := .i .u64 0) rfl) rfl <| ?_
  refine at_nil ?_
  refine x_tn ?_
  refine at_seq ?_
  refine at_region ?_
  refine s1 (y_p rfl) rfl <| s1 ((and64 _ (c64 4294967295) rfl rfl).v (v' := w64 (c64 1)) (congrArg w64 (by decide))) rfl <| s1 (y_p rfl) rfl <| ?_
  refine at_nil ?_
  refine x_tn ?_
  refine at_seq ?_
  refine at_region ?_
  refine s1 (y_p rfl) rfl <| s1 ((shr64 _ 32 rfl rfl rfl (by decide)).v (v' := w64 (c64 0)) (congrArg w64 (by decide))) rfl <| s1 (y_p rfl) rfl <| ?_
  refine at_nil ?_
  refine x_tn ?_
  refine at_seq ?_
  refine at_region ?_
  refine s1 (y_p rfl) rfl <| s1 ((and64 _ (c64 4294967295) rfl rfl).v (v' := w64 (c64 19)) (congrArg w64 (by decide))) rfl <| s1 (y_p rfl) rfl <| ?_
  refine at_nil ?_
  refine x_tn ?_
  refine at_seq ?_
  refine at_region ?_
  refine s1 (y_p rfl) rfl <| s1 ((shr64 _ 32 rfl rfl rfl (by decide)).v (v' := w64 (c64 0)) (congrArg w64 (by decide))) rfl <| s1 (y_p rfl) rfl <| ?_
  refine at_nil ?_
  refine x_tn ?_
  refine at_seq ?_
  refine at_region ?_
  refine s1 (y_p rfl) rfl <| s1 (y_p rfl) rfl <| s1 ((mul64 _ _ rfl rfl).v (v' := w64 (c64 19)) (congrArg w64 (by decide))) rfl <| s1 (y_p rfl) rfl <| ?_
  refine at_nil ?_
  refine x_tn ?_
  refine at_seq ?_
  refine at_region ?_
  refine s1 (y_p rfl) rfl <| s1 (y_p rfl) rfl <| s1 ((mul64 _ _ rfl rfl).v (v' := w64 (c64 0)) (congrArg w64 (by decide))) rfl <| s1 (y_p rfl) rfl <| s1 ((shr64 _ 32 rfl rfl rfl (by decide)).v (v' := w64 (c64 0)) (congrArg w64 (by decide))) rfl <| s1 ((add64 _ _ rfl rfl).v (v' := w64 (c64 0)) (congrArg w64 (by decide))) rfl <| s1 (y_p rfl) rfl <| ?_
  refine at_nil ?_
  refine x_tn ?_
  refine at_seq ?_
  refine at_region ?_
  refine s1 (y_p rfl) rfl <| s1 ((and64 _ (c64 4294967295) rfl rfl).v (v' := w64 (c64 0)) (congrArg w64 (by decide))) rfl <| s1 (y_p rfl) rfl <| ?_
  refine at_nil ?_
  refine x_tn ?_
  refine at_seq ?_
  refine at_region ?_
  refine s1 (y_p rfl) rfl <| s1 ((shr64 _ 32 rfl rfl rfl (by decide)).v (v' := w64 (c64 0)) (congrArg w64 (by decide))) rfl <| s1 (y_p rfl) rfl <| ?_
  refine at_nil ?_
  refine x_tn ?_
  refine at_seq ?_
  refine at_region ?_
  refine s1 (y_p rfl) rfl <| s1 (y_p rfl) rfl <| s1 (y_p rfl) rfl <| s1 ((mul64 _ _ rfl rfl).v (v' := w64 (c64 0)) (congrArg w64 (by decide))) rfl <| s1 ((add64 _ _ rfl rfl).v (v' := w64 (c64 0)) (congrArg w64 (by decide))) rfl <| s1 (y_p rfl) rfl <| ?_
  refine at_nil ?_
  refine x_tn ?_
  refine at_seq ?_
  refine at_region ?_
  refine s1 (y_p rfl) rfl <| s1 (y_p rfl) rfl <| s1 ((mul64 _ _ rfl rfl).v (v' := w64 (c64 0)) (congrArg w64 (by decide))) rfl <| s1 (y_p rfl) rfl <| s1 ((add64 _ _ rfl rfl).v (v' := w64 (c64 0)) (congrArg w64 (by decide))) rfl <| s1 (y_p rfl) rfl <| s1 ((shr64 _ 32 rfl rfl rfl (by decide)).v (v' := w64 (c64 0)) (congrArg w64 (by decide))) rfl <| s1 ((add64 _ _ rfl rfl).v (v' := w64 (c64 0)) (congrArg w64 (by decide))) rfl <| s1 (y_p rfl) rfl <| ?_
  refine at_nil ?_
  refine x_tn ?_
  refine at_seq ?_
  refine at_region ?_
  refine s1 (y_p rfl) rfl <| s1 (y_p rfl) rfl <| s1 ((mul64 _ _ rfl rfl).v (v' := w64 (c64 19)) (congrArg w64 (by decide))) rfl <| s1 (y_p rfl) rfl <| ?_
  refine at_nil ?_
  refine x_tn ?_
  refine at_ret ?_
  refine at_result (rs := [.tmp 4, .tmp 5]) rfl (r_tmp rfl (r_tmp rfl (r_nil))) rfl
set_option linter.unusedSimpArgs false in
set_option linter.unusedVariables false in
set_option maxHeartbeats 1000000 in
set_option maxRecDepth 10000 in
theorem mul_ok : Con Tryd.prog 81 [w64 (c64 1), w64 (c64 19)] (Ret (.tu [w64 (c64 0), w64 (c64 19)])) := by
  refine enter Tryd.func81 rfl Tryd.ntmps81 (by kernel_rfl) (Nat.le_of_ble_eq_true rfl) fun w0 X0 hI => ?_
  refine at_seq ?_
  refine at_region ?_
  refine s1 ((y_p rfl).v (v' := .i .u64 0) rfl) rfl <| s1 ((y_p rfl).v (v' := .i .u64 0) rfl) rfl <| ?_
  refine at_nil ?_
  refine x_tn ?_
  refine at_seq ?_
  refine at_else rfl ?_
  refine at_skip ?_
  refine x_tn ?_
  refine at_seq ?_
  refine at_region ?_
  refine s1 (y_p rfl) rfl <| s1 (y_p rfl) rfl <| ?_
  refine at_op rfl (n_call false rfl (.cons (.pure pu) (.cons (.pure pu) (.nil))) (mul64_ok) pu (.inl rfl) rfl ?_)
  refine s1 (y_p rfl) rfl <| s1 (y_p rfl) rfl <| s1 (y_p rfl) rfl <| s1 (y_p rfl) rfl <| s1 (y_p rfl) rfl <| ?_
  refine at_nil ?_
  refine x_tn ?_
  refine at_seq ?_
  refine at_region ?_
  refine s1 (y_p rfl) rfl <| s1 (y_p rfl) rfl <| s1 (y_p rfl) rfl <| s1 (y_p rfl) rfl <| ?_
  refine at_nil ?_
  refine x_tn ?_
  refine at_ret ?_
  refine at_result (rs := [.tmp 4, .tmp 5]) rfl (r_tmp rfl (r_tmp rfl (r_nil))) rfl
set_option linter.unusedSimpArgs false in
set_option linter.unusedVariables false in
set_option maxHeartbeats 1000000 in
set_option maxRecDepth 10000 in
theorem repeat_ok : Con Tryd.prog 51 [.fz 1 [nI 3], nI 19] (RetO 1 19 (List.replicate 19 (nI 3))) := by
  refine enter Tryd.func51 rfl Tryd.ntmps51 (by kernel_rfl) (Nat.le_of_ble_eq_true rfl) fun w0 X0 hI => ?_
  refine at_seq ?_
  refine at_region ?_
  refine s1 (y_p rfl) rfl <| ?_
  refine at_nil ?_
  refine x_tn ?_
  refine at_seq ?_
  refine at_seq ?_
  refine at_region ?_
  refine s1 (y_p rfl) rfl <| s1 ((y_p rfl).v (v' := .b false) (rfl)) rfl <| ?_
  refine at_nil ?_
  refine x_tn ?_
  refine at_else rfl ?_
  refine at_skip ?_
  refine x_tn ?_
  refine at_seq ?_
  refine at_region ?_
  refine s1 (y_p rfl) rfl <| s1 (y_len Tryd.underlying42 rfl rfl rfl) rfl <| s1 (ofN_64 1 Tryd.underlying3 Tryd.underlying93 rfl rfl) rfl <| s1 (y_p rfl) rfl <| s1 (ofN_64 19 Tryd.underlying3 Tryd.underlying93 rfl rfl) rfl <| ?_
  refine at_op rfl (n_call false rfl (.cons (.pure pu) (.cons (.pure pu) (.nil))) (mul_ok) pu (.inl rfl) rfl ?_)
  refine s1 (y_p rfl) rfl <| s1 (y_p rfl) rfl <| s1 (y_p rfl) rfl <| s1 (y_p rfl) rfl <| s1 (y_p rfl) rfl <| ?_
  refine at_nil ?_
  refine x_tn ?_
  refine at_seq ?_
  refine at_seq ?_
  refine at_region ?_
  refine s1 (y_p rfl) rfl <| s1 ((y_p rfl).v (v' := .b false) (congrArg A.b (by decide))) rfl <| s1 (y_p rfl) rfl <| g1 rfl rfl (y_p rfl) rfl <| g1 rfl rfl ((y_p rfl).v (v' := .b false) (congrArg A.b (by decide))) rfl <| s1 (y_p rfl) rfl <| ?_
  refine at_nil ?_
  refine x_tn ?_
  refine at_else rfl ?_
  refine at_skip ?_
  refine x_tn ?_
  refine at_seq ?_
  refine at_region ?_
  refine s1 (y_p rfl) rfl <| s1 ((y_conv Tryd.underlying93 Tryd.underlying3 rfl).v (v' := nI 19) (congrArg (A.i .i64) (by decide))) rfl <| ?_
  refine at_op rfl (n_make 30 rfl _ _ Tryd.underlying42 ti3 rfl rfl rfl rfl rfl (by first | omega | (simp only [maxLen]; omega) | (simp [maxLen]; done) | (simp [maxLen]; omega) | (simp [maxLen, *]; omega)) (by first | omega | (simp only [maxLen]; omega) | (simp [maxLen]; done) | (simp [maxLen]; omega) | (simp [maxLen, *]; omega)) (by first | omega | (simp only [maxLen]; omega) | (simp [maxLen]; done) | (simp [maxLen]; omega) | (simp [maxLen, *]; omega)) rfl ?_)
  refine s1 (y_p rfl) rfl <| ?_
  refine at_nil ?_
  refine x_tn ?_
  refine at_seq ?_
  refine at_region ?_
  refine s1 (y_p rfl) rfl <| s1 (y_p rfl) rfl <| ?_
  refine at_op rfl (n_copyC (1) Tryd.underlying42 ti3 rfl rfl rfl rfl (by first | rfl | omega | (simp; done) | (simp [*]; done) | (simp; omega) | (simp [*]; omega) | (simp [D32.len, -List.length_flatten, *]; done) | (simp [D32.len, -List.length_flatten, *]; omega)) rfl (by decide) (by first | omega | (simp only [maxLen]; omega) | (simp [maxLen]; done) | (simp [maxLen]; omega) | (simp [maxLen, *]; omega)) rep_0 rfl ?_)
  refine s1 (y_p rfl) rfl <| ?_
  refine at_nil ?_
  refine x_tn ?_
  refine at_seq ?_
  refine at_block ?_
  refine at_loop (ι := Nat) (fun e => [(7, .sl 30 1 0 19), (8, nI (szR e))]) (fun e => ⟨[(30, some (List.replicate (szR e) (nI 3) ++ List.replicate (19 - szR e) (nI 0)))]⟩) (fun e => 0 < szR e ∧ szR e ≤ 19) (fun e => 19 - szR e) ?_ ?_
  · exact at_ex (0) (⟨by decide, by decide⟩) [(30, some 30)] hI rfl rfl ⟨⟨_, rfl, .sl rfl (by first | rfl | omega | (simp; done) | (simp [*]; done) | (simp; omega) | (simp [*]; omega) | (simp [D32.len, -List.length_flatten, *]; done) | (simp [D32.len, -List.length_flatten, *]; omega))⟩, ⟨_, rfl, .of (by rfl) (.pure pu)⟩, trivial⟩ ⟨.inr ⟨_, _, rfl, rfl, .pure pul⟩, trivial⟩
  rintro e ⟨he, he2⟩
  refine at_seq ?_
  refine at_seq ?_
  refine at_region ?_
  refine s1 (y_p rfl) rfl <| s1 (y_p rfl) rfl <| s1 (y_len Tryd.underlying42 rfl rfl rfl) rfl <| s1 (y_p rfl) rfl <| ?_
  refine at_nil ?_
  refine x_tn ?_
  refine at_cond rfl (fun hc37 => ?_) (fun hc37 => ?_)
  · have h37 : szR e < 19 := by have := of_decide_eq_true hc37; omega
    refine at_skip ?_
    refine x_tn ?_
    refine at_block ?_
    refine at_fs ⟨_, [], []⟩ 9 4 hmix (le_refl rfl) ?_
    refine fs_q 0 [] [] (y_p rfl) rfl rfl ?_
    refine fs_q 1 [] [(30, none)] (y_p rfl) rfl rfl ?_
    refine fs_q 2 [] [] (y_p rfl) rfl rfl ?_
    refine fs_q 3 [1, 2] [(30, none)] (y_cuts (19 - szR e) Tryd.underlying42 ti3 rfl rfl (bs rfl rfl) bn (by omega) (by omega) rfl rfl) rfl rfl ?_
    refine fs_q 4 [] [(30, none)] (y_p rfl) rfl rfl ?_
    refine fs_q 5 [] [] (y_p rfl) rfl rfl ?_
    refine fs_q 6 [4, 5] [(30, none)] (y_cuts (szR e) Tryd.underlying42 ti3 rfl rfl bn (bs rfl rfl) (by omega) (by omega) rfl rfl) rfl rfl ?_
    refine fs_copyC (Nat.min (szR e) (19 - szR e)) 7 [3, 6] [(30, none)] gy0 Tryd.underlying42 ti3 rfl rfl rfl rfl (by first | rfl | omega | (simp; done) | (simp [*]; done) | (simp; omega) | (simp [*]; omega) | (simp [D32.len, -List.length_flatten, *]; done) | (simp [D32.len, -List.length_flatten, *]; omega)) rfl (rep_pos he h37) (rep_fit h37) rfl rfl rfl ?_
    refine fs_q 8 [0, 7] [] (addN (szR e) (Nat.min (szR e) (19 - szR e)) rfl rfl rfl rfl (by have := szR_next e h37; have := szR_le (e + 1); omega)) rfl rfl ?_
    refine fs_end (by kernel_rfl) ?_
    refine s1 (y_p rfl) rfl <| ?_
    refine at_nil ?_
    refine x_bn ?_
    exact at_end (e + 1) (rep_pre he h37) (rep_dec he h37) [(30, some 30)] hI rfl rfl ⟨⟨_, rfl, .sl rfl (by first | rfl | omega | (simp; done) | (simp [*]; done) | (simp; omega) | (simp [*]; omega) | (simp [D32.len, -List.length_flatten, *]; done) | (simp [D32.len, -List.length_flatten, *]; omega))⟩, ⟨_, rfl, .of (congrArg nI (szR_next e h37)) (.pure pu)⟩, trivial⟩ ⟨.inr ⟨_, _, rfl, rfl, .of (rep_next e h37) (.pure pul)⟩, trivial⟩
  · have h37 : szR e = 19 := by have := of_decide_eq_false hc37; omega
    refine at_exit ?_
    refine x_te ?_
    refine x_te ?_
    refine x_be ?_
    refine x_tn ?_
    refine at_seq ?_
    refine at_region ?_
    refine s1 (y_p rfl) rfl <| s1 (y_p rfl) rfl <| ?_
    refine at_nil ?_
    refine x_tn ?_
    refine at_ret ?_
    refine at_result (rs := [.tmp 4]) rfl (r_tmp rfl r_nil) ⟨30, rfl, ?_⟩
    rw [h37]; rfl
set_option linter.unusedSimpArgs false in
set_option linter.unusedVariables false in
set_option maxHeartbeats 1000000 in
set_option maxRecDepth 10000 in
theorem equalI_ok (L M : List Nat) (hL : L.length < 1000000) : Con Tryd.prog 52 [.fz L.length (L.map nI), .fz M.length (M.map nI)] (Ret (.b (L == M))) := by
  refine enter Tryd.func52 rfl Tryd.ntmps52 (by kernel_rfl) (Nat.le_of_ble_eq_true rfl) fun w0 X0 hI => ?_
  refine at_seq ?_
  refine at_region ?_
  refine s1 (y_p rfl) rfl <| ?_
  refine at_nil ?_
  refine x_tn ?_
  refine at_seq ?_
  refine at_seq ?_
  refine at_region ?_
  refine s1 (y_p rfl) rfl <| s1 (y_len Tryd.underlying42 rfl rfl rfl) rfl <| s1 (y_p rfl) rfl <| s1 (y_len Tryd.underlying42 rfl rfl rfl) rfl <| s1 (y_p rfl) rfl <| ?_
  refine at_nil ?_
  refine x_tn ?_
  refine at_cond rfl (fun hc10 => ?_) (fun hc10 => ?_)
  · have hl : L.length ≠ M.length := by intro h; rw [h] at hc10; simp at hc10
    refine at_seq ?_
    refine at_region ?_
    refine s1 (y_p rfl) rfl <| ?_
    refine at_nil ?_
    refine x_tn ?_
    refine at_ret ?_
    refine x_tr ?_
    refine at_result (rs := [.tmp 4]) rfl (r_tmp rfl r_nil) ?_
    exact congrArg A.b (beq_eq_false_iff_ne.2 fun h => hl (congrArg List.length h)).symm
  · have hl : L.length = M.length := by simp at hc10; omega
    refine at_skip ?_
    refine x_tn ?_
    refine at_seq ?_
    refine at_seq ?_
    refine at_region ?_
    refine s1 (y_p rfl) rfl <| s1 (y_len Tryd.underlying42 rfl rfl rfl) rfl <| s1 ((y_p rfl).v (v' := .i .i64 0) rfl) rfl <| ?_
    refine at_nil ?_
    refine x_tn ?_
    refine at_block ?_
    refine at_loop (ι := Nat) (fun i => [(0, .fz L.length (L.map nI)), (1, .fz M.length (M.map nI)), (12, nI L.length), (13, nI i)]) (fun i => ⟨[]⟩) (fun i => i ≤ L.length ∧ ∀ t, t < i → L[t]? = M[t]?) (fun i => L.length - i) ?_ ?_
    · exact at_ex (0) (⟨Nat.zero_le _, fun t ht => absurd ht (by omega)⟩) [] hI rfl rfl ⟨⟨_, rfl, .pure pu⟩, ⟨_, rfl, .pure pu⟩, ⟨_, rfl, .pure pu⟩, ⟨_, rfl, .pure pu⟩, trivial⟩ trivial
    rintro i ⟨hi, hall⟩
    refine at_seq ?_
    refine at_region ?_
    refine s1 (y_p rfl) rfl <| ?_
    refine at_nil ?_
    refine x_tn ?_
    refine at_seq ?_
    refine at_cond rfl (fun hc14 => ?_) (fun hc14 => ?_)
    · have h14 : i < L.length := by have := of_decide_eq_true hc14; omega
      obtain ⟨u, hu⟩ : ∃ u, L[i]? = some u := ⟨_, List.getElem?_eq_getElem h14⟩
      obtain ⟨v, hv⟩ : ∃ v, M[i]? = some v := ⟨_, List.getElem?_eq_getElem (by omega)⟩
      refine at_skip ?_
      refine x_tn ?_
      refine at_seq ?_
      refine at_block ?_
      refine at_seq ?_
      refine at_region ?_
      refine s1 (y_p rfl) rfl <| s1 (y_p rfl) rfl <| ?_
      refine at_nil ?_
      refine x_tn ?_
      refine at_seq ?_
      refine at_draw_tail 8 hmix (by kernel_rfl) ?_
      refine t1 (y_p rfl) rfl <| t1 (y_p rfl) rfl <| t1 (y_ixf i Tryd.underlying42 ti3 rfl rfl rfl (by omega) rfl) rfl <| t1 (y_load ti3 rfl rfl (get_nI hu)) rfl <| t1 (y_p rfl) rfl <| t1 (y_p rfl) rfl <| t1 (y_ixf i Tryd.underlying42 ti3 rfl rfl rfl (by omega) rfl) rfl <| t1 (y_load ti3 rfl rfl (get_nI hv)) rfl <| ?_
      refine at_snil ?_
      refine s1 (y_p rfl) rfl <| ?_
      refine at_nil ?_
      refine x_tn ?_
      refine at_cond rfl (fun hc24 => ?_) (fun hc24 => ?_)
      · have hne : u ≠ v := by intro h; subst h; simp at hc24
        refine at_seq ?_
        refine at_region ?_
        refine s1 (y_p rfl) rfl <| ?_
        refine at_nil ?_
        refine x_tn ?_
        refine at_ret ?_
        refine x_br ?_
        refine x_tr ?_
        refine x_tr ?_
        refine x_br ?_
        refine x_tr ?_
        refine at_result (rs := [.tmp 4]) rfl (r_tmp rfl r_nil) ?_
        exact congrArg A.b (nbeq_listsK (t := i) (by rw [hu, hv]; simpa using hne)).symm
      · have heq : u = v := by simp at hc24; omega
        refine at_skip ?_
        refine x_bn ?_
        refine x_tn ?_
        refine at_region ?_
        refine s1 (addN _ 1 rfl rfl rfl rfl (by omega)) rfl <| s1 (y_p rfl) rfl <| ?_
        refine at_nil ?_
        exact at_end (i + 1) (⟨by omega, all_nextK hall (by rw [hu, hv, heq])⟩) (by omega) [] hI rfl rfl ⟨⟨_, rfl, .pure pu⟩, ⟨_, rfl, .pure pu⟩, ⟨_, rfl, .pure pu⟩, ⟨_, rfl, .pure pu⟩, trivial⟩ trivial
    · have h14 : i = L.length := by have := of_decide_eq_false hc14; omega
      subst h14
      refine at_exit ?_
      refine x_te ?_
      refine x_te ?_
      refine x_be ?_
      refine x_tn ?_
      refine at_seq ?_
      refine at_region ?_
      refine s1 (y_p rfl) rfl <| ?_
      refine at_nil ?_
      refine x_tn ?_
      refine at_ret ?_
      refine at_result (rs := [.tmp 4]) rfl (r_tmp rfl r_nil) ?_
      exact congrArg A.b (beq_listsK hl hall).symm
set_option linter.unusedSimpArgs false in
set_option linter.unusedVariables false in
set_option maxHeartbeats 1000000 in
set_option maxRecDepth 10000 in
theorem sameK_ok (L M : List Nat) (hL : L.length < 1000000) : Con Tryd.prog 57 [.fz L.length (L.map nI), .fz M.length (M.map nI)] (Ret (.b (L == M))) := by
  refine enter Tryd.func57 rfl Tryd.ntmps57 (by kernel_rfl) (Nat.le_of_ble_eq_true rfl) fun w0 X0 hI => ?_
  refine at_seq ?_
  refine at_region ?_
  refine s1 (y_p rfl) rfl <| ?_
  refine at_nil ?_
  refine x_tn ?_
  refine at_seq ?_
  refine at_seq ?_
  refine at_region ?_
  refine s1 (y_p rfl) rfl <| s1 (y_len Tryd.underlying42 rfl rfl rfl) rfl <| s1 (y_p rfl) rfl <| s1 (y_len Tryd.underlying42 rfl rfl rfl) rfl <| s1 (y_p rfl) rfl <| ?_
  refine at_nil ?_
  refine x_tn ?_
  refine at_cond rfl (fun hc10 => ?_) (fun hc10 => ?_)
  · have hl : L.length ≠ M.length := by intro h; rw [h] at hc10; simp at hc10
    refine at_seq ?_
    refine at_region ?_
    refine s1 (y_p rfl) rfl <| ?_
    refine at_nil ?_
    refine x_tn ?_
    refine at_ret ?_
    refine x_tr ?_
    refine at_result (rs := [.tmp 4]) rfl (r_tmp rfl r_nil) ?_
    exact congrArg A.b (beq_eq_false_iff_ne.2 fun h => hl (congrArg List.length h)).symm
  · have hl : L.length = M.length := by simp at hc10; omega
    refine at_skip ?_
    refine x_tn ?_
    refine at_seq ?_
    refine at_seq ?_
    refine at_region ?_
    refine s1 ((y_p rfl).v (v' := .i .i64 0) rfl) rfl <| ?_
    refine at_nil ?_
    refine x_tn ?_
    refine at_block ?_
    refine at_loop (ι := Nat) (fun i => [(0, .fz L.length (L.map nI)), (1, .fz M.length (M.map nI)), (5, nI i)]) (fun i => ⟨[]⟩) (fun i => i ≤ L.length ∧ ∀ t, t < i → L[t]? = M[t]?) (fun i => L.length - i) ?_ ?_
    · exact at_ex (0) (⟨Nat.zero_le _, fun t ht => absurd ht (by omega)⟩) [] hI rfl rfl ⟨⟨_, rfl, .pure pu⟩, ⟨_, rfl, .pure pu⟩, ⟨_, rfl, .pure pu⟩, trivial⟩ trivial
    rintro i ⟨hi, hall⟩
    refine at_seq ?_
    refine at_seq ?_
    refine at_region ?_
    refine s1 (y_p rfl) rfl <| s1 (y_p rfl) rfl <| s1 (y_len Tryd.underlying42 rfl rfl rfl) rfl <| s1 (y_p rfl) rfl <| ?_
    refine at_nil ?_
    refine x_tn ?_
    refine at_cond rfl (fun hc14 => ?_) (fun hc14 => ?_)
    · have h14 : i < L.length := by have := of_decide_eq_true hc14; omega
      obtain ⟨u, hu⟩ : ∃ u, L[i]? = some u := ⟨_, List.getElem?_eq_getElem h14⟩
      obtain ⟨v, hv⟩ : ∃ v, M[i]? = some v := ⟨_, List.getElem?_eq_getElem (by omega)⟩
      refine at_skip ?_
      refine x_tn ?_
      refine at_seq ?_
      refine at_block ?_
      refine at_seq ?_
      refine at_draw_tail 8 hmix (by kernel_rfl) ?_
      refine t1 (y_p rfl) rfl <| t1 (y_p rfl) rfl <| t1 (y_ixf i Tryd.underlying42 ti3 rfl rfl rfl (by omega) rfl) rfl <| t1 (y_load ti3 rfl rfl (get_nI hu)) rfl <| t1 (y_p rfl) rfl <| t1 (y_p rfl) rfl <| t1 (y_ixf i Tryd.underlying42 ti3 rfl rfl rfl (by omega) rfl) rfl <| t1 (y_load ti3 rfl rfl (get_nI hv)) rfl <| ?_
      refine at_snil ?_
      refine s1 (y_p rfl) rfl <| ?_
      refine at_nil ?_
      refine x_tn ?_
      refine at_cond rfl (fun hc25 => ?_) (fun hc25 => ?_)
      · have hne : u ≠ v := by intro h; subst h; simp at hc25
        refine at_seq ?_
        refine at_region ?_
        refine s1 (y_p rfl) rfl <| ?_
        refine at_nil ?_
        refine x_tn ?_
        refine at_ret ?_
        refine x_br ?_
        refine x_tr ?_
        refine x_tr ?_
        refine x_br ?_
        refine x_tr ?_
        refine at_result (rs := [.tmp 4]) rfl (r_tmp rfl r_nil) ?_
        exact congrArg A.b (nbeq_listsK (t := i) (by rw [hu, hv]; simpa using hne)).symm
      · have heq : u = v := by simp at hc25; omega
        refine at_skip ?_
        refine x_bn ?_
        refine x_tn ?_
        refine at_region ?_
        refine s1 (y_p rfl) rfl <| s1 (addN _ 1 rfl rfl rfl rfl (by omega)) rfl <| s1 (y_p rfl) rfl <| ?_
        refine at_nil ?_
        exact at_end (i + 1) (⟨by omega, all_nextK hall (by rw [hu, hv, heq])⟩) (by omega) [] hI rfl rfl ⟨⟨_, rfl, .pure pu⟩, ⟨_, rfl, .pure pu⟩, ⟨_, rfl, .pure pu⟩, trivial⟩ trivial
    · have h14 : i = L.length := by have := of_decide_eq_false hc14; omega
      subst h14
      refine at_exit ?_
      refine x_te ?_
      refine x_te ?_
      refine x_be ?_
      refine x_tn ?_
      refine at_seq ?_
      refine at_region ?_
      refine s1 (y_p rfl) rfl <| ?_
      refine at_nil ?_
      refine x_tn ?_
      refine at_ret ?_
      refine at_result (rs := [.tmp 4]) rfl (r_tmp rfl r_nil) ?_
      exact congrArg A.b (beq_listsK hl hall).symm
theorem equalD_ok (p q : List UInt8) : Con Tryd.prog 52 [.fz 19 ((digits p).map nI), .fz 19 ((digits q).map nI)] (Ret (.b (digits p == digits q))) := by
  have := equalI_ok (digits p) (digits q) (by simp)
  rwa [len_digits, len_digits] at this
theorem sameD_ok (p q : List UInt8) : Con Tryd.prog 57 [.fz 19 ((digits p).map nI), .fz 19 ((digits q).map nI)] (Ret (.b (digits p == digits q))) := by
  have := sameK_ok (digits p) (digits q) (by simp)
  rwa [len_digits, len_digits] at this
set_option linter.unusedSimpArgs false in
set_option linter.unusedVariables false in
set_option maxHeartbeats 1000000 in
set_option maxRecDepth 10000 in
theorem kforg_ok (x : List UInt8) (n : Int) (L : List (List UInt8)) (m : List UInt8) (a : Int) (S P : List (List UInt8)) (hx : x.length = 32) (hL : D32 L) (hl : L.length ≤ 1000) (hm : m.length = 32) (hS : D32 S) (hP : D32 P) : Con Tryd.prog 21 [.ag (x.map u8), .i .i64 n, dgs L, .ag (m.map u8), .ag [.i .i64 a, dgs S, dgs P]] (Ret (forgA x n L m a S P)) := by
  refine enter Tryd.func21 rfl Tryd.ntmps21 (by kernel_rfl) (Nat.le_of_ble_eq_true rfl) fun w0 X0 hI => ?_
  refine at_seq ?_
  refine at_region ?_
  refine at_op rfl (n_boxA 5 rfl rfl rfl ?_)
  refine at_op rfl (n_boxA 8 rfl rfl rfl ?_)
  refine at_op rfl (n_boxA 9 rfl rfl rfl ?_)
  refine s1 ((y_p rfl).v (v' := .i .i64 0) rfl) rfl <| s1 ((y_p rfl).v (v' := .i .i64 0) rfl) rfl <| ?_
  refine at_nil ?_
  refine x_tn ?_
  refine at_seq ?_
  rcases (Decidable.em (sizeK n)).symm with hcs | hcs
  · skip
    refine at_region ?_
    refine s1 (y_loadA0 ti23 rfl rfl (by first | rfl | omega | (simp; done) | (simp [*]; done) | (simp; omega) | (simp [*]; omega) | (simp [D32.len, -List.length_flatten, *]; done) | (simp [D32.len, -List.length_flatten, *]; omega))) rfl <| s1 (y_p rfl) rfl <| ?_
    refine at_op rfl (n_call false rfl (.cons (.pure pu) (.cons (.pure pu) (.nil))) (Con.cast (root_ok x n hx) (rootA_no hcs)) pu (.inl rfl) rfl ?_)
    refine s1 (y_p rfl) rfl <| s1 (y_p rfl) rfl <| s1 (y_p rfl) rfl <| ?_
    refine at_op rfl (n_alloc 12 rfl ti23 rfl rfl ?_)
    refine at_op rfl (n_storeA ti23 rfl rfl rfl (by first | rfl | omega | (simp; done) | (simp [*]; done) | (simp; omega) | (simp [*]; omega) | (simp [D32.len, -List.length_flatten, *]; done) | (simp [D32.len, -List.length_flatten, *]; omega)) (by first | rfl | omega | (simp; done) | (simp [*]; done) | (simp; omega) | (simp [*]; omega) | (simp [D32.len, -List.length_flatten, *]; done) | (simp [D32.len, -List.length_flatten, *]; omega)) ?_)
    refine s1 (y_p rfl) rfl <| ?_
    refine at_nil ?_
    refine x_tn ?_
    refine at_seq ?_
    refine at_seq ?_
    refine at_region ?_
    refine s1 (y_p rfl) rfl <| s1 ((y_p rfl).v (v' := .b true) (rfl)) rfl <| s1 (y_p rfl) rfl <| g0 rfl rfl rfl rfl <| g0 rfl rfl rfl rfl <| g0 rfl rfl rfl rfl <| g0 rfl rfl rfl rfl <| g0 rfl rfl rfl rfl <| g0 rfl rfl rfl rfl <| s1 (y_p rfl) rfl <| ?_
    refine at_nil ?_
    refine x_tn ?_
    refine at_then rfl ?_
    refine at_seq ?_
    refine at_region ?_
    refine s1 ((y_p rfl).v (v' := .i .i64 0) rfl) rfl <| s1 ((y_p rfl).v (v' := .i .i64 0) rfl) rfl <| ?_
    refine at_nil ?_
    refine x_tn ?_
    refine at_ret ?_
    refine x_tr ?_
    refine at_result (rs := [.tmp 10, .tmp 11]) rfl (r_tmp rfl (r_tmp rfl r_nil)) ?_
    exact forg_ret (forg_no (ver_k1 hcs))
  · have hsz := hcs
    obtain ⟨k, rfl, h1, h2⟩ := sizeK_nat hcs
    refine at_region ?_
    refine s1 (y_loadA0 ti23 rfl rfl (by first | rfl | omega | (simp; done) | (simp [*]; done) | (simp; omega) | (simp [*]; omega) | (simp [D32.len, -List.length_flatten, *]; done) | (simp [D32.len, -List.length_flatten, *]; omega))) rfl <| s1 (y_p rfl) rfl <| ?_
    refine at_op rfl (n_call false rfl (.cons (.pure pu) (.cons (.pure pu) (.nil))) (Con.cast (root_ok x k hx) ((rootA_eq ..).trans (by rw [decide_eq_true hsz]; rfl : _ = .tu [.ag ((rootD x (k : Int)).map u8), .i .i64 0]))) pu (.inl rfl) rfl ?_)
    refine s1 (y_p rfl) rfl <| s1 (y_p rfl) rfl <| s1 (y_p rfl) rfl <| ?_
    refine at_op rfl (n_alloc 12 rfl ti23 rfl rfl ?_)
    refine at_op rfl (n_storeA ti23 rfl rfl rfl (by first | rfl | omega | (simp; done) | (simp [*]; done) | (simp; omega) | (simp [*]; omega) | (simp [D32.len, -List.length_flatten, *]; done) | (simp [D32.len, -List.length_flatten, *]; omega)) (by first | rfl | omega | (simp; done) | (simp [*]; done) | (simp; omega) | (simp [*]; omega) | (simp [D32.len, -List.length_flatten, *]; done) | (simp [D32.len, -List.length_flatten, *]; omega)) ?_)
    refine s1 (y_p rfl) rfl <| ?_
    refine at_nil ?_
    refine x_tn ?_
    refine at_seq ?_
    refine at_seq ?_
    rcases tfK (verK (rootD x (k : Int)) (k : Int) m a S P) with hcs | hcs
    · skip
      refine at_region ?_
      refine s1 (y_p rfl) rfl <| s1 ((y_p rfl).v (v' := .b false) (rfl)) rfl <| s1 (y_p rfl) rfl <| g1 rfl rfl (y_loadA0 ti23 rfl rfl (by first | rfl | omega | (simp; done) | (simp [*]; done) | (simp; omega) | (simp [*]; omega) | (simp [D32.len, -List.length_flatten, *]; done) | (simp [D32.len, -List.length_flatten, *]; omega))) rfl <| g1 rfl rfl (y_p rfl) rfl <| g1 rfl rfl (y_loadA0 ti23 rfl rfl (by first | rfl | omega | (simp; done) | (simp [*]; done) | (simp; omega) | (simp [*]; omega) | (simp [D32.len, -List.length_flatten, *]; done) | (simp [D32.len, -List.length_flatten, *]; omega))) rfl <| g1 rfl rfl (y_loadA0 ti28 rfl rfl (by first | rfl | omega | (simp; done) | (simp [*]; done) | (simp; omega) | (simp [*]; omega) | (simp [D32.len, -List.length_flatten, *]; done) | (simp [D32.len, -List.length_flatten, *]; omega))) rfl <| ?_
      refine at_opg rfl rfl rfl (n_call false rfl (.cons (.pure pu) (.cons (.pure pu) (.cons (.pure pu) (.cons (.pure pu) (.nil))))) (Con.cast (kver_ok (rootD x (k : Int)) m k a S P (by simp) hm hS hP) (congrArg (A.i .i64) (by rw [hcs]; rfl : errK (verK (rootD x (k : Int)) (k : Int) m a S P) = 60))) pu (.inl rfl) rfl ?_)
      refine g1 rfl rfl ((y_p rfl).v (v' := .b true) (rfl)) rfl <| s1 (y_p rfl) rfl <| ?_
      refine at_nil ?_
      refine x_tn ?_
      refine at_then rfl ?_
      refine at_seq ?_
      refine at_region ?_
      refine s1 ((y_p rfl).v (v' := .i .i64 0) rfl) rfl <| s1 ((y_p rfl).v (v' := .i .i64 0) rfl) rfl <| ?_
      refine at_nil ?_
      refine x_tn ?_
      refine at_ret ?_
      refine x_tr ?_
      refine at_result (rs := [.tmp 10, .tmp 11]) rfl (r_tmp rfl (r_tmp rfl r_nil)) ?_
      exact forg_ret (forg_no hcs)
    · have hver := hcs
      obtain ⟨_, hat, hrec, _, _⟩ := ver_spec hcs
      have hS19 := recE_len hrec
      obtain ⟨i, rfl⟩ : ∃ i : Nat, a = (i : Int) := ⟨a.toNat, by unfold atK at hat; omega⟩
      have hq32 := len_sgnK hL i
      refine at_region ?_
      refine s1 (y_p rfl) rfl <| s1 ((y_p rfl).v (v' := .b false) (rfl)) rfl <| s1 (y_p rfl) rfl <| g1 rfl rfl (y_loadA0 ti23 rfl rfl (by first | rfl | omega | (simp; done) | (simp [*]; done) | (simp; omega) | (simp [*]; omega) | (simp [D32.len, -List.length_flatten, *]; done) | (simp [D32.len, -List.length_flatten, *]; omega))) rfl <| g1 rfl rfl (y_p rfl) rfl <| g1 rfl rfl (y_loadA0 ti23 rfl rfl (by first | rfl | omega | (simp; done) | (simp [*]; done) | (simp; omega) | (simp [*]; omega) | (simp [D32.len, -List.length_flatten, *]; done) | (simp [D32.len, -List.length_flatten, *]; omega))) rfl <| g1 rfl rfl (y_loadA0 ti28 rfl rfl (by first | rfl | omega | (simp; done) | (simp [*]; done) | (simp; omega) | (simp [*]; omega) | (simp [D32.len, -List.length_flatten, *]; done) | (simp [D32.len, -List.length_flatten, *]; omega))) rfl <| ?_
      refine at_opg rfl rfl rfl (n_call false rfl (.cons (.pure pu) (.cons (.pure pu) (.cons (.pure pu) (.cons (.pure pu) (.nil))))) (Con.cast (kver_ok (rootD x (k : Int)) m k (i : Nat) S P (by simp) hm hS hP) (congrArg (A.i .i64) (by rw [hcs]; rfl : errK (verK (rootD x (k : Int)) (k : Int) m (i : Nat) S P) = 0))) pu (.inl rfl) rfl ?_)
      refine g1 rfl rfl ((y_p rfl).v (v' := .b false) (rfl)) rfl <| s1 (y_p rfl) rfl <| ?_
      refine at_nil ?_
      refine x_tn ?_
      refine at_else rfl ?_
      refine at_skip ?_
      refine x_tn ?_
      refine at_seq ?_
      refine at_region ?_
      refine at_op rfl (n_alloc 14 rfl ti23 rfl rfl ?_)
      refine at_op rfl (n_alloc 15 rfl ti23 rfl rfl ?_)
      refine at_nil ?_
      refine x_tn ?_
      refine at_seq ?_
      refine at_seq ?_
      refine at_region ?_
      refine s1 (y_fld Tryd.underlying28 rfl ti3 (by decide) rfl rfl) rfl <| s1 (y_load ti3 rfl rfl rfl) rfl <| s1 (y_p rfl) rfl <| s1 (y_len Tryd.underlying26 rfl rfl rfl) rfl <| s1 (y_p rfl) rfl <| ?_
      refine at_nil ?_
      refine x_tn ?_
      refine at_cond rfl (fun hc41 => ?_) (fun hc41 => ?_)
      · have h41 : i < L.length := by have := of_decide_eq_true hc41; omega
        obtain ⟨q, hq⟩ : ∃ q, L[i]? = some q := ⟨_, List.getElem?_eq_getElem h41⟩
        have hql := hL q (List.mem_of_getElem? hq)
        refine at_region ?_
        refine s1 (y_p rfl) rfl <| s1 (y_fld Tryd.underlying28 rfl ti3 (by decide) rfl rfl) rfl <| s1 (y_load ti3 rfl rfl rfl) rfl <| s1 (y_ixf i Tryd.underlying26 ti23 rfl rfl rfl (by omega) rfl) rfl <| s1 (y_loadA ti23 rfl rfl (get_d hL hq) (by simp [hql])) rfl <| ?_
        refine at_op rfl (n_storeA ti23 rfl rfl rfl (by simp [hql]) (by first | rfl | omega | (simp; done) | (simp [*]; done) | (simp; omega) | (simp [*]; omega) | (simp [D32.len, -List.length_flatten, *]; done) | (simp [D32.len, -List.length_flatten, *]; omega)) ?_)
        refine at_nil ?_
        refine x_tn ?_
        refine at_seq ?_
        refine at_seq ?_
        refine at_sayO 14 rfl (cs' := (sgnK L i).map u8) (by rw [sgnK_in hq]) ?_
        refine at_sayO 15 rfl (cs' := zD.map u8) zD_cells ?_
        refine at_region ?_
        refine s1 (y_loadA0 ti23 rfl rfl (by first | rfl | omega | (simp; done) | (simp [*]; done) | (simp; omega) | (simp [*]; omega) | (simp [D32.len, -List.length_flatten, *]; done) | (simp [D32.len, -List.length_flatten, *]; omega))) rfl <| s1 (y_loadA0 ti23 rfl rfl (by first | rfl | omega | (simp; done) | (simp [*]; done) | (simp; omega) | (simp [*]; omega) | (simp [D32.len, -List.length_flatten, *]; done) | (simp [D32.len, -List.length_flatten, *]; omega))) rfl <| s1 (y_aqn Tryd.underlying23 Tryd.underlying5 ti5 (by kernel_rfl) rfl rfl (by first | assumption | (simp; done) | (simp [*]; done)) (by first | assumption | (simp; done) | (simp [*]; done))) rfl <| s1 (y_p rfl) rfl <| ?_
        refine g_and 3 rfl rfl rfl rfl (fun hb50 => .step (y_loadA0 ti23 rfl rfl (by first | rfl | omega | (simp; done) | (simp [*]; done) | (simp; omega) | (simp [*]; omega) | (simp [D32.len, -List.length_flatten, *]; done) | (simp [D32.len, -List.length_flatten, *]; omega))) rfl rfl <| .step (y_loadA0 ti23 rfl rfl (by first | rfl | omega | (simp; done) | (simp [*]; done) | (simp; omega) | (simp [*]; omega) | (simp [D32.len, -List.length_flatten, *]; done) | (simp [D32.len, -List.length_flatten, *]; omega))) rfl rfl <| .step (y_aq Tryd.underlying23 Tryd.underlying5 ti5 (by kernel_rfl) rfl rfl (by first | assumption | (simp; done) | (simp [*]; done)) (by first | assumption | (simp; done) | (simp [*]; done))) rfl rfl <| .done) rfl rfl ?_
        refine at_nil ?_
        refine x_tn ?_
        refine at_cond rfl (fun hc54 => ?_) (fun hc54 => ?_)
        · have h54 : (!(sgnK L i == zD) && sgnK L i == m) = true := hc54
          refine at_seq ?_
          refine at_region ?_
          refine s1 ((y_p rfl).v (v' := .i .i64 0) rfl) rfl <| s1 ((y_p rfl).v (v' := .i .i64 0) rfl) rfl <| ?_
          refine at_nil ?_
          refine x_tn ?_
          refine at_ret ?_
          refine x_tr ?_
          refine at_result (rs := [.tmp 10, .tmp 11]) rfl (r_tmp rfl (r_tmp rfl r_nil)) ?_
          exact forg_ret (forg_own h54)
        · have h54 : (!(sgnK L i == zD) && sgnK L i == m) = false := hc54
          refine at_skip ?_
          refine x_tn ?_
          refine at_seq ?_
          refine at_region ?_
          refine s1 (y_loadA0 ti23 rfl rfl (by first | rfl | omega | (simp; done) | (simp [*]; done) | (simp; omega) | (simp [*]; omega) | (simp [D32.len, -List.length_flatten, *]; done) | (simp [D32.len, -List.length_flatten, *]; omega))) rfl <| ?_
          refine at_op rfl (n_call false rfl (.cons (.pure pu) (.nil)) (digits_ok m hm) pu (.inl rfl) rfl ?_)
          refine s1 (y_p rfl) rfl <| ?_
          refine at_nil ?_
          refine x_tn ?_
          refine at_seq ?_
          refine at_region ?_
          refine at_op rfl (n_bs1 57 rfl Tryd.underlying42 ti3 rfl rfl rfl rfl rfl ?_)
          refine s1 (y_p rfl) rfl <| s1 (y_len Tryd.underlying42 rfl rfl rfl) rfl <| ?_
          refine at_op rfl (n_callO 60 rfl true rfl (.cons (.sl rfl rfl rfl rfl (VwL.pure pul) pul) (.cons (.pure pu) .nil)) (repeat_ok) pul (.inr ful) rfl ?_)
          refine s1 (y_p rfl) rfl <| ?_
          refine at_nil ?_
          refine x_tn ?_
          refine at_seq ?_
          refine at_seq ?_
          refine at_region ?_
          refine s1 (y_loadA0 ti23 rfl rfl (by first | rfl | omega | (simp; done) | (simp [*]; done) | (simp; omega) | (simp [*]; omega) | (simp [D32.len, -List.length_flatten, *]; done) | (simp [D32.len, -List.length_flatten, *]; omega))) rfl <| s1 (y_loadA0 ti23 rfl rfl (by first | rfl | omega | (simp; done) | (simp [*]; done) | (simp; omega) | (simp [*]; omega) | (simp [D32.len, -List.length_flatten, *]; done) | (simp [D32.len, -List.length_flatten, *]; omega))) rfl <| s1 (y_aqn Tryd.underlying23 Tryd.underlying5 ti5 (by kernel_rfl) rfl rfl (by first | assumption | (simp; done) | (simp [*]; done)) (by first | assumption | (simp; done) | (simp [*]; done))) rfl <| ?_
          refine at_nil ?_
          refine x_tn ?_
          refine at_cond rfl (fun hc63 => ?_) (fun hc63 => ?_)
          · have h63 : (sgnK L i == zD) = false := by simpa using hc63
            refine at_seq ?_
            refine at_region ?_
            refine s1 (y_loadA0 ti23 rfl rfl (by first | rfl | omega | (simp; done) | (simp [*]; done) | (simp; omega) | (simp [*]; omega) | (simp [D32.len, -List.length_flatten, *]; done) | (simp [D32.len, -List.length_flatten, *]; omega))) rfl <| ?_
            refine at_op rfl (n_call false rfl (.cons (.pure pu) (.nil)) (digits_ok (sgnK L i) hq32) pu (.inl rfl) rfl ?_)
            refine s1 (y_p rfl) rfl <| ?_
            refine at_nil ?_
            refine x_tn ?_
            refine at_seq ?_
            refine at_region ?_
            refine s1 (y_p rfl) rfl <| s1 (y_p rfl) rfl <| ?_
            refine at_op rfl (n_call false rfl (.cons (.pure pu) (.cons (.pure pu) (.nil))) (equalD_ok m (sgnK L i)) pu (.inl rfl) rfl ?_)
            refine at_nil ?_
            refine x_tn ?_
            refine at_cond rfl (fun hc68 => ?_) (fun hc68 => ?_)
            · have h68 : (!(sgnK L i == zD) && digits m == digits (sgnK L i)) = true := by rw [h63, hc68]; rfl
              refine at_seq ?_
              refine at_region ?_
              refine s1 ((y_p rfl).v (v' := .i .i64 1) rfl) rfl <| s1 ((y_p rfl).v (v' := .i .i64 0) rfl) rfl <| ?_
              refine at_nil ?_
              refine x_tn ?_
              refine at_ret ?_
              refine x_tr ?_
              refine at_result (rs := [.tmp 10, .tmp 11]) rfl (r_tmp rfl (r_tmp rfl r_nil)) ?_
              exact forg_ret (forg_same hver h54 h68)
            · have h68 : (!(sgnK L i == zD) && digits m == digits (sgnK L i)) = false := by rw [h63, hc68]; rfl
              refine at_say 17 rfl (v' := .fz 19 ((knwK (sgnK L i)).map nI)) (by rw [knw_no h63]) ?_
              refine at_skip ?_
              refine x_tn ?_
              refine at_seq ?_
              refine at_fs ⟨_, [], []⟩ 6 4 hmix (le_refl rfl) ?_
              refine fs_q 0 [] [(5, none)] (y_loadA0 ti23 rfl rfl (by first | rfl | omega | (simp; done) | (simp [*]; done) | (simp; omega) | (simp [*]; omega) | (simp [D32.len, -List.length_flatten, *]; done) | (simp [D32.len, -List.length_flatten, *]; omega))) rfl rfl ?_
              refine fs_q 1 [] [(9, none)] (y_fld Tryd.underlying28 rfl ti3 (by decide) rfl rfl) rfl rfl ?_
              refine fs_q 2 [1] [(9, none)] (y_load ti3 rfl rfl rfl) rfl rfl ?_
              refine fs_call false 3 [0, 2] [] gy0 rfl (.cons (.pure pu) (.cons (.pure pu) (.nil))) (seed_ok x (i : Nat) hx) pu (.inl rfl) rfl rfl ?_
              refine fs_q 4 [] [(8, none)] (y_loadA0 ti23 rfl rfl (by first | rfl | omega | (simp; done) | (simp [*]; done) | (simp; omega) | (simp [*]; omega) | (simp [D32.len, -List.length_flatten, *]; done) | (simp [D32.len, -List.length_flatten, *]; omega))) rfl rfl ?_
              refine fs_call false 5 [3, 4] [] gy0 rfl (.cons (.pure pu) (.cons (.pure pu) (.nil))) (sign_ok (seedL x (i : Nat)) m (by simp) hm) pu (.inl rfl) rfl rfl ?_
              refine fs_end (by kernel_rfl) ?_
              refine s1 (y_p rfl) rfl <| ?_
              refine at_nil ?_
              refine x_tn ?_
              refine at_seq ?_
              refine at_seq ?_
              refine at_region ?_
              refine s1 (y_p rfl) rfl <| s1 (y_len Tryd.underlying26 rfl rfl rfl) rfl <| s1 ((y_p rfl).v (v' := .i .i64 0) rfl) rfl <| ?_
              refine at_nil ?_
              refine x_tn ?_
              refine at_block ?_
              refine at_loop (ι := Nat) (fun j => [(9, .p 9 0), (16, .fz 19 ((digits m).map nI)), (17, .fz 19 ((knwK (sgnK L i)).map nI)), (75, dgs (signD (seedL x (i : Nat)) m)), (76, nI 19), (77, nI j)]) (fun j => ⟨[(9, some ([nI i, dgs S, dgs P]))]⟩) (fun j => j ≤ 19 ∧ ∀ t, t < j → badK (seedL x (i : Nat)) m (sgnK L i) S t = false) (fun j => 19 - j) ?_ ?_
              · exact at_ex (0) (⟨by omega, fun t ht => absurd ht (by omega)⟩) [(9, some 9)] hI rfl rfl ⟨⟨_, rfl, .p rfl⟩, ⟨_, rfl, .pure pu⟩, ⟨_, rfl, .pure pu⟩, ⟨_, rfl, .pure pu⟩, ⟨_, rfl, .pure pu⟩, ⟨_, rfl, .pure pu⟩, trivial⟩ ⟨.inr ⟨_, _, rfl, rfl, .pure pul⟩, trivial⟩
              rintro j ⟨hj, hall⟩
              refine at_seq ?_
              refine at_region ?_
              refine s1 (y_p rfl) rfl <| ?_
              refine at_nil ?_
              refine x_tn ?_
              refine at_seq ?_
              refine at_cond rfl (fun hc78 => ?_) (fun hc78 => ?_)
              · have h78 : j < 19 := by have := of_decide_eq_true hc78; omega
                have hown := get_sign (seedL x (i : Nat)) m h78
                obtain ⟨s, hs⟩ : ∃ s, S[j]? = some s := ⟨_, List.getElem?_eq_getElem (by omega)⟩
                have hs32 := hS s (List.mem_of_getElem? hs)
                have ho32 := len_iterD (len_firstD (seedL x (i : Nat)) j) (dg m j)
                have hkn := kdg_le (sgnK L i) j
                have hdm := dg_lt m j
                have hso : (signD (seedL x (i : Nat)) m).length = 19 := len_signL _ _ 19
                refine at_skip ?_
                refine x_tn ?_
                refine at_seq ?_
                refine at_block ?_
                refine at_seq ?_
                refine at_region ?_
                refine s1 (y_p rfl) rfl <| s1 (y_ixf j Tryd.underlying26 ti23 rfl rfl rfl (by omega) rfl) rfl <| s1 (y_loadA ti23 rfl rfl (get_d (D32_signD _ _) hown) (by rw [List.length_map]; exact ho32)) rfl <| ?_
                refine at_op rfl (n_alloc 20 rfl ti23 rfl rfl ?_)
                refine s1 (y_p rfl) rfl <| ?_
                refine at_op rfl (n_storeA ti23 rfl rfl rfl (by rw [List.length_map]; exact ho32) (by first | rfl | omega | (simp; done) | (simp [*]; done) | (simp; omega) | (simp [*]; omega) | (simp [D32.len, -List.length_flatten, *]; done) | (simp [D32.len, -List.length_flatten, *]; omega)) ?_)
                refine at_nil ?_
                refine x_tn ?_
                refine at_seq ?_
                rcases Decidable.em (dg m j < kdg (sgnK L i) j) with hcs | hcs
                · skip
                  refine at_draw_tail 17 hmix (by kernel_rfl) ?_
                  refine t1 (y_p rfl) rfl <| t1 (y_p rfl) rfl <| t1 (y_ixf j Tryd.underlying42 ti3 rfl rfl rfl (by omega) rfl) rfl <| t1 (y_load ti3 rfl rfl (get_dig3 m j h78)) rfl <| t1 (y_p rfl) rfl <| t1 (y_p rfl) rfl <| t1 (y_ixf j Tryd.underlying42 ti3 rfl rfl rfl (by omega) rfl) rfl <| t1 (y_load ti3 rfl rfl (get_knw _ j h78)) rfl <| t1 ((y_p rfl).v (v' := .b true) (congrArg A.b (decide_eq_true (by omega)))) rfl <| t1 (y_p rfl) rfl <| ?_
                  refine t1g rfl rfl (y_fld Tryd.underlying28 rfl ti26 (by decide) rfl rfl) rfl <| t1g rfl rfl (y_load ti26 rfl rfl rfl) rfl <| t1g rfl rfl (y_p rfl) rfl <| t1g rfl rfl (y_ixf j Tryd.underlying26 ti23 rfl rfl rfl (by omega) rfl) rfl <| t1g rfl rfl (y_loadA ti23 rfl rfl (get_d hS hs) (by rw [List.length_map]; exact hs32)) rfl <| t1g rfl rfl (y_loadA0 ti23 rfl rfl (by rw [List.length_map]; exact ho32)) rfl <| t1g rfl rfl (y_aq Tryd.underlying23 Tryd.underlying5 ti5 (by kernel_rfl) rfl rfl hs32 ho32) rfl <| ?_
                  refine at_snil ?_
                  refine s1 (y_p rfl) rfl <| ?_
                  refine at_nil ?_
                  refine x_tn ?_
                  refine at_cond rfl (fun hc99 => ?_) (fun hc99 => ?_)
                  · have hb := hc99
                    refine at_seq ?_
                    refine at_region ?_
                    refine s1 (y_p rfl) rfl <| s1 ((y_p rfl).v (v' := .i .i64 2) rfl) rfl <| s1 (y_p rfl) rfl <| ?_
                    refine at_nil ?_
                    refine x_tn ?_
                    refine at_ret ?_
                    refine x_br ?_
                    refine x_tr ?_
                    refine x_tr ?_
                    refine x_br ?_
                    refine x_tr ?_
                    refine at_result (rs := [.tmp 10, .tmp 11]) rfl (r_tmp rfl (r_tmp rfl r_nil)) ?_
                    exact forg_ret (forg_hit hver h54 h68 h78 ((bad_is hcs hs).trans hb) hall)
                  · have hb := hc99
                    refine at_skip ?_
                    refine x_bn ?_
                    refine x_tn ?_
                    refine at_region ?_
                    refine s1 (addN _ 1 rfl rfl rfl rfl (by omega)) rfl <| s1 (y_p rfl) rfl <| ?_
                    refine at_nil ?_
                    exact at_end (j + 1) (⟨by omega, next_all hall ((bad_is hcs hs).trans hb)⟩) (by omega) [(9, some 9)] hI rfl rfl ⟨⟨_, rfl, .p rfl⟩, ⟨_, rfl, .pure pu⟩, ⟨_, rfl, .pure pu⟩, ⟨_, rfl, .pure pu⟩, ⟨_, rfl, .pure pu⟩, ⟨_, rfl, .pure pu⟩, trivial⟩ ⟨.inr ⟨_, _, rfl, rfl, .pure pul⟩, trivial⟩
                · skip
                  refine at_draw_tail 17 hmix (by kernel_rfl) ?_
                  refine t1 (y_p rfl) rfl <| t1 (y_p rfl) rfl <| t1 (y_ixf j Tryd.underlying42 ti3 rfl rfl rfl (by omega) rfl) rfl <| t1 (y_load ti3 rfl rfl (get_dig3 m j h78)) rfl <| t1 (y_p rfl) rfl <| t1 (y_p rfl) rfl <| t1 (y_ixf j Tryd.underlying42 ti3 rfl rfl rfl (by omega) rfl) rfl <| t1 (y_load ti3 rfl rfl (get_knw _ j h78)) rfl <| t1 ((y_p rfl).v (v' := .b false) (congrArg A.b (decide_eq_false (by omega)))) rfl <| t1 (y_p rfl) rfl <| ?_
                  refine t0g rfl rfl rfl rfl <| t0g rfl rfl rfl rfl <| t0g rfl rfl rfl rfl <| t0g rfl rfl rfl rfl <| t0g rfl rfl rfl rfl <| t0g rfl rfl rfl rfl <| t0g rfl rfl rfl rfl <| ?_
                  refine at_snil ?_
                  refine s1 (y_p rfl) rfl <| ?_
                  refine at_nil ?_
                  refine x_tn ?_
                  refine at_else rfl ?_
                  refine at_skip ?_
                  refine x_bn ?_
                  refine x_tn ?_
                  refine at_region ?_
                  refine s1 (addN _ 1 rfl rfl rfl rfl (by omega)) rfl <| s1 (y_p rfl) rfl <| ?_
                  refine at_nil ?_
                  exact at_end (j + 1) (⟨by omega, next_all hall (bad_no hcs)⟩) (by omega) [(9, some 9)] hI rfl rfl ⟨⟨_, rfl, .p rfl⟩, ⟨_, rfl, .pure pu⟩, ⟨_, rfl, .pure pu⟩, ⟨_, rfl, .pure pu⟩, ⟨_, rfl, .pure pu⟩, ⟨_, rfl, .pure pu⟩, trivial⟩ ⟨.inr ⟨_, _, rfl, rfl, .pure pul⟩, trivial⟩
              · have h78 : j = 19 := by have := of_decide_eq_false hc78; omega
                subst h78
                refine at_exit ?_
                refine x_te ?_
                refine x_te ?_
                refine x_be ?_
                refine x_tn ?_
                refine at_seq ?_
                refine at_region ?_
                refine s1 ((y_p rfl).v (v' := .i .i64 3) rfl) rfl <| s1 ((y_p rfl).v (v' := .i .i64 0) rfl) rfl <| ?_
                refine at_nil ?_
                refine x_tn ?_
                refine at_ret ?_
                refine at_result (rs := [.tmp 10, .tmp 11]) rfl (r_tmp rfl (r_tmp rfl r_nil)) ?_
                exact forg_ret (forg_else hver h54 h68 hall)
          · have h63 : (sgnK L i == zD) = true := by simpa using hc63
            have h68 : (!(sgnK L i == zD) && digits m == digits (sgnK L i)) = false := by rw [h63]; rfl
            refine at_frz 17 rfl rfl pul (view_eq (by simp) rfl) ?_
            refine at_say 17 rfl (v' := .fz 19 ((knwK (sgnK L i)).map nI)) (by rw [knw_yes h63]; rfl) ?_
            refine at_skip ?_
            refine x_tn ?_
            refine at_seq ?_
            refine at_fs ⟨_, [], []⟩ 6 4 hmix (le_refl rfl) ?_
            refine fs_q 0 [] [(5, none)] (y_loadA0 ti23 rfl rfl (by first | rfl | omega | (simp; done) | (simp [*]; done) | (simp; omega) | (simp [*]; omega) | (simp [D32.len, -List.length_flatten, *]; done) | (simp [D32.len, -List.length_flatten, *]; omega))) rfl rfl ?_
            refine fs_q 1 [] [(9, none)] (y_fld Tryd.underlying28 rfl ti3 (by decide) rfl rfl) rfl rfl ?_
            refine fs_q 2 [1] [(9, none)] (y_load ti3 rfl rfl rfl) rfl rfl ?_
            refine fs_call false 3 [0, 2] [] gy0 rfl (.cons (.pure pu) (.cons (.pure pu) (.nil))) (seed_ok x (i : Nat) hx) pu (.inl rfl) rfl rfl ?_
            refine fs_q 4 [] [(8, none)] (y_loadA0 ti23 rfl rfl (by first | rfl | omega | (simp; done) | (simp [*]; done) | (simp; omega) | (simp [*]; omega) | (simp [D32.len, -List.length_flatten, *]; done) | (simp [D32.len, -List.length_flatten, *]; omega))) rfl rfl ?_
            refine fs_call false 5 [3, 4] [] gy0 rfl (.cons (.pure pu) (.cons (.pure pu) (.nil))) (sign_ok (seedL x (i : Nat)) m (by simp) hm) pu (.inl rfl) rfl rfl ?_
            refine fs_end (by kernel_rfl) ?_
            refine s1 (y_p rfl) rfl <| ?_
            refine at_nil ?_
            refine x_tn ?_
            refine at_seq ?_
            refine at_seq ?_
            refine at_region ?_
            refine s1 (y_p rfl) rfl <| s1 (y_len Tryd.underlying26 rfl rfl rfl) rfl <| s1 ((y_p rfl).v (v' := .i .i64 0) rfl) rfl <| ?_
            refine at_nil ?_
            refine x_tn ?_
            refine at_block ?_
            refine at_loop (ι := Nat) (fun j => [(9, .p 9 0), (16, .fz 19 ((digits m).map nI)), (17, .fz 19 ((knwK (sgnK L i)).map nI)), (75, dgs (signD (seedL x (i : Nat)) m)), (76, nI 19), (77, nI j)]) (fun j => ⟨[(9, some ([nI i, dgs S, dgs P]))]⟩) (fun j => j ≤ 19 ∧ ∀ t, t < j → badK (seedL x (i : Nat)) m (sgnK L i) S t = false) (fun j => 19 - j) ?_ ?_
            · exact at_ex (0) (⟨by omega, fun t ht => absurd ht (by omega)⟩) [(9, some 9)] hI rfl rfl ⟨⟨_, rfl, .p rfl⟩, ⟨_, rfl, .pure pu⟩, ⟨_, rfl, .pure pu⟩, ⟨_, rfl, .pure pu⟩, ⟨_, rfl, .pure pu⟩, ⟨_, rfl, .pure pu⟩, trivial⟩ ⟨.inr ⟨_, _, rfl, rfl, .pure pul⟩, trivial⟩
            rintro j ⟨hj, hall⟩
            refine at_seq ?_
            refine at_region ?_
            refine s1 (y_p rfl) rfl <| ?_
            refine at_nil ?_
            refine x_tn ?_
            refine at_seq ?_
            refine at_cond rfl (fun hc78 => ?_) (fun hc78 => ?_)
            · have h78 : j < 19 := by have := of_decide_eq_true hc78; omega
              have hown := get_sign (seedL x (i : Nat)) m h78
              obtain ⟨s, hs⟩ : ∃ s, S[j]? = some s := ⟨_, List.getElem?_eq_getElem (by omega)⟩
              have hs32 := hS s (List.mem_of_getElem? hs)
              have ho32 := len_iterD (len_firstD (seedL x (i : Nat)) j) (dg m j)
              have hkn := kdg_le (sgnK L i) j
              have hdm := dg_lt m j
              have hso : (signD (seedL x (i : Nat)) m).length = 19 := len_signL _ _ 19
              refine at_skip ?_
              refine x_tn ?_
              refine at_seq ?_
              refine at_block ?_
              refine at_seq ?_
              refine at_region ?_
              refine s1 (y_p rfl) rfl <| s1 (y_ixf j Tryd.underlying26 ti23 rfl rfl rfl (by omega) rfl) rfl <| s1 (y_loadA ti23 rfl rfl (get_d (D32_signD _ _) hown) (by rw [List.length_map]; exact ho32)) rfl <| ?_
              refine at_op rfl (n_alloc 20 rfl ti23 rfl rfl ?_)
              refine s1 (y_p rfl) rfl <| ?_
              refine at_op rfl (n_storeA ti23 rfl rfl rfl (by rw [List.length_map]; exact ho32) (by first | rfl | omega | (simp; done) | (simp [*]; done) | (simp; omega) | (simp [*]; omega) | (simp [D32.len, -List.length_flatten, *]; done) | (simp [D32.len, -List.length_flatten, *]; omega)) ?_)
              refine at_nil ?_
              refine x_tn ?_
              refine at_seq ?_
              rcases Decidable.em (dg m j < kdg (sgnK L i) j) with hcs | hcs
              · skip
                refine at_draw_tail 17 hmix (by kernel_rfl) ?_
                refine t1 (y_p rfl) rfl <| t1 (y_p rfl) rfl <| t1 (y_ixf j Tryd.underlying42 ti3 rfl rfl rfl (by omega) rfl) rfl <| t1 (y_load ti3 rfl rfl (get_dig3 m j h78)) rfl <| t1 (y_p rfl) rfl <| t1 (y_p rfl) rfl <| t1 (y_ixf j Tryd.underlying42 ti3 rfl rfl rfl (by omega) rfl) rfl <| t1 (y_load ti3 rfl rfl (get_knw _ j h78)) rfl <| t1 ((y_p rfl).v (v' := .b true) (congrArg A.b (decide_eq_true (by omega)))) rfl <| t1 (y_p rfl) rfl <| ?_
                refine t1g rfl rfl (y_fld Tryd.underlying28 rfl ti26 (by decide) rfl rfl) rfl <| t1g rfl rfl (y_load ti26 rfl rfl rfl) rfl <| t1g rfl rfl (y_p rfl) rfl <| t1g rfl rfl (y_ixf j Tryd.underlying26 ti23 rfl rfl rfl (by omega) rfl) rfl <| t1g rfl rfl (y_loadA ti23 rfl rfl (get_d hS hs) (by rw [List.length_map]; exact hs32)) rfl <| t1g rfl rfl (y_loadA0 ti23 rfl rfl (by rw [List.length_map]; exact ho32)) rfl <| t1g rfl rfl (y_aq Tryd.underlying23 Tryd.underlying5 ti5 (by kernel_rfl) rfl rfl hs32 ho32) rfl <| ?_
                refine at_snil ?_
                refine s1 (y_p rfl) rfl <| ?_
                refine at_nil ?_
                refine x_tn ?_
                refine at_cond rfl (fun hc99 => ?_) (fun hc99 => ?_)
                · have hb := hc99
                  refine at_seq ?_
                  refine at_region ?_
                  refine s1 (y_p rfl) rfl <| s1 ((y_p rfl).v (v' := .i .i64 2) rfl) rfl <| s1 (y_p rfl) rfl <| ?_
                  refine at_nil ?_
                  refine x_tn ?_
                  refine at_ret ?_
                  refine x_br ?_
                  refine x_tr ?_
                  refine x_tr ?_
                  refine x_br ?_
                  refine x_tr ?_
                  refine at_result (rs := [.tmp 10, .tmp 11]) rfl (r_tmp rfl (r_tmp rfl r_nil)) ?_
                  exact forg_ret (forg_hit hver h54 h68 h78 ((bad_is hcs hs).trans hb) hall)
                · have hb := hc99
                  refine at_skip ?_
                  refine x_bn ?_
                  refine x_tn ?_
                  refine at_region ?_
                  refine s1 (addN _ 1 rfl rfl rfl rfl (by omega)) rfl <| s1 (y_p rfl) rfl <| ?_
                  refine at_nil ?_
                  exact at_end (j + 1) (⟨by omega, next_all hall ((bad_is hcs hs).trans hb)⟩) (by omega) [(9, some 9)] hI rfl rfl ⟨⟨_, rfl, .p rfl⟩, ⟨_, rfl, .pure pu⟩, ⟨_, rfl, .pure pu⟩, ⟨_, rfl, .pure pu⟩, ⟨_, rfl, .pure pu⟩, ⟨_, rfl, .pure pu⟩, trivial⟩ ⟨.inr ⟨_, _, rfl, rfl, .pure pul⟩, trivial⟩
              · skip
                refine at_draw_tail 17 hmix (by kernel_rfl) ?_
                refine t1 (y_p rfl) rfl <| t1 (y_p rfl) rfl <| t1 (y_ixf j Tryd.underlying42 ti3 rfl rfl rfl (by omega) rfl) rfl <| t1 (y_load ti3 rfl rfl (get_dig3 m j h78)) rfl <| t1 (y_p rfl) rfl <| t1 (y_p rfl) rfl <| t1 (y_ixf j Tryd.underlying42 ti3 rfl rfl rfl (by omega) rfl) rfl <| t1 (y_load ti3 rfl rfl (get_knw _ j h78)) rfl <| t1 ((y_p rfl).v (v' := .b false) (congrArg A.b (decide_eq_false (by omega)))) rfl <| t1 (y_p rfl) rfl <| ?_
                refine t0g rfl rfl rfl rfl <| t0g rfl rfl rfl rfl <| t0g rfl rfl rfl rfl <| t0g rfl rfl rfl rfl <| t0g rfl rfl rfl rfl <| t0g rfl rfl rfl rfl <| t0g rfl rfl rfl rfl <| ?_
                refine at_snil ?_
                refine s1 (y_p rfl) rfl <| ?_
                refine at_nil ?_
                refine x_tn ?_
                refine at_else rfl ?_
                refine at_skip ?_
                refine x_bn ?_
                refine x_tn ?_
                refine at_region ?_
                refine s1 (addN _ 1 rfl rfl rfl rfl (by omega)) rfl <| s1 (y_p rfl) rfl <| ?_
                refine at_nil ?_
                exact at_end (j + 1) (⟨by omega, next_all hall (bad_no hcs)⟩) (by omega) [(9, some 9)] hI rfl rfl ⟨⟨_, rfl, .p rfl⟩, ⟨_, rfl, .pure pu⟩, ⟨_, rfl, .pure pu⟩, ⟨_, rfl, .pure pu⟩, ⟨_, rfl, .pure pu⟩, ⟨_, rfl, .pure pu⟩, trivial⟩ ⟨.inr ⟨_, _, rfl, rfl, .pure pul⟩, trivial⟩
            · have h78 : j = 19 := by have := of_decide_eq_false hc78; omega
              subst h78
              refine at_exit ?_
              refine x_te ?_
              refine x_te ?_
              refine x_be ?_
              refine x_tn ?_
              refine at_seq ?_
              refine at_region ?_
              refine s1 ((y_p rfl).v (v' := .i .i64 3) rfl) rfl <| s1 ((y_p rfl).v (v' := .i .i64 0) rfl) rfl <| ?_
              refine at_nil ?_
              refine x_tn ?_
              refine at_ret ?_
              refine at_result (rs := [.tmp 10, .tmp 11]) rfl (r_tmp rfl (r_tmp rfl r_nil)) ?_
              exact forg_ret (forg_else hver h54 h68 hall)
      · have h41 : ¬ i < L.length := by have := of_decide_eq_false hc41; omega
        refine at_skip ?_
        refine x_tn ?_
        refine at_seq ?_
        refine at_seq ?_
        refine at_sayO 14 rfl (cs' := (sgnK L i).map u8) (by rw [sgnK_out h41]; exact zD_cells) ?_
        refine at_sayO 15 rfl (cs' := zD.map u8) zD_cells ?_
        refine at_region ?_
        refine s1 (y_loadA0 ti23 rfl rfl (by first | rfl | omega | (simp; done) | (simp [*]; done) | (simp; omega) | (simp [*]; omega) | (simp [D32.len, -List.length_flatten, *]; done) | (simp [D32.len, -List.length_flatten, *]; omega))) rfl <| s1 (y_loadA0 ti23 rfl rfl (by first | rfl | omega | (simp; done) | (simp [*]; done) | (simp; omega) | (simp [*]; omega) | (simp [D32.len, -List.length_flatten, *]; done) | (simp [D32.len, -List.length_flatten, *]; omega))) rfl <| s1 (y_aqn Tryd.underlying23 Tryd.underlying5 ti5 (by kernel_rfl) rfl rfl (by first | assumption | (simp; done) | (simp [*]; done)) (by first | assumption | (simp; done) | (simp [*]; done))) rfl <| s1 (y_p rfl) rfl <| ?_
        refine g_and 3 rfl rfl rfl rfl (fun hb50 => .step (y_loadA0 ti23 rfl rfl (by first | rfl | omega | (simp; done) | (simp [*]; done) | (simp; omega) | (simp [*]; omega) | (simp [D32.len, -List.length_flatten, *]; done) | (simp [D32.len, -List.length_flatten, *]; omega))) rfl rfl <| .step (y_loadA0 ti23 rfl rfl (by first | rfl | omega | (simp; done) | (simp [*]; done) | (simp; omega) | (simp [*]; omega) | (simp [D32.len, -List.length_flatten, *]; done) | (simp [D32.len, -List.length_flatten, *]; omega))) rfl rfl <| .step (y_aq Tryd.underlying23 Tryd.underlying5 ti5 (by kernel_rfl) rfl rfl (by first | assumption | (simp; done) | (simp [*]; done)) (by first | assumption | (simp; done) | (simp [*]; done))) rfl rfl <| .done) rfl rfl ?_
        refine at_nil ?_
        refine x_tn ?_
        refine at_cond rfl (fun hc54 => ?_) (fun hc54 => ?_)
        · have h54 : (!(sgnK L i == zD) && sgnK L i == m) = true := hc54
          refine at_seq ?_
          refine at_region ?_
          refine s1 ((y_p rfl).v (v' := .i .i64 0) rfl) rfl <| s1 ((y_p rfl).v (v' := .i .i64 0) rfl) rfl <| ?_
          refine at_nil ?_
          refine x_tn ?_
          refine at_ret ?_
          refine x_tr ?_
          refine at_result (rs := [.tmp 10, .tmp 11]) rfl (r_tmp rfl (r_tmp rfl r_nil)) ?_
          exact forg_ret (forg_own h54)
        · have h54 : (!(sgnK L i == zD) && sgnK L i == m) = false := hc54
          refine at_skip ?_
          refine x_tn ?_
          refine at_seq ?_
          refine at_region ?_
          refine s1 (y_loadA0 ti23 rfl rfl (by first | rfl | omega | (simp; done) | (simp [*]; done) | (simp; omega) | (simp [*]; omega) | (simp [D32.len, -List.length_flatten, *]; done) | (simp [D32.len, -List.length_flatten, *]; omega))) rfl <| ?_
          refine at_op rfl (n_call false rfl (.cons (.pure pu) (.nil)) (digits_ok m hm) pu (.inl rfl) rfl ?_)
          refine s1 (y_p rfl) rfl <| ?_
          refine at_nil ?_
          refine x_tn ?_
          refine at_seq ?_
          refine at_region ?_
          refine at_op rfl (n_bs1 57 rfl Tryd.underlying42 ti3 rfl rfl rfl rfl rfl ?_)
          refine s1 (y_p rfl) rfl <| s1 (y_len Tryd.underlying42 rfl rfl rfl) rfl <| ?_
          refine at_op rfl (n_callO 60 rfl true rfl (.cons (.sl rfl rfl rfl rfl (VwL.pure pul) pul) (.cons (.pure pu) .nil)) (repeat_ok) pul (.inr ful) rfl ?_)
          refine s1 (y_p rfl) rfl <| ?_
          refine at_nil ?_
          refine x_tn ?_
          refine at_seq ?_
          refine at_seq ?_
          refine at_region ?_
          refine s1 (y_loadA0 ti23 rfl rfl (by first | rfl | omega | (simp; done) | (simp [*]; done) | (simp; omega) | (simp [*]; omega) | (simp [D32.len, -List.length_flatten, *]; done) | (simp [D32.len, -List.length_flatten, *]; omega))) rfl <| s1 (y_loadA0 ti23 rfl rfl (by first | rfl | omega | (simp; done) | (simp [*]; done) | (simp; omega) | (simp [*]; omega) | (simp [D32.len, -List.length_flatten, *]; done) | (simp [D32.len, -List.length_flatten, *]; omega))) rfl <| s1 (y_aqn Tryd.underlying23 Tryd.underlying5 ti5 (by kernel_rfl) rfl rfl (by first | assumption | (simp; done) | (simp [*]; done)) (by first | assumption | (simp; done) | (simp [*]; done))) rfl <| ?_
          refine at_nil ?_
          refine x_tn ?_
          refine at_cond rfl (fun hc63 => ?_) (fun hc63 => ?_)
          · have h63 : (sgnK L i == zD) = false := by simpa using hc63
            refine at_seq ?_
            refine at_region ?_
            refine s1 (y_loadA0 ti23 rfl rfl (by first | rfl | omega | (simp; done) | (simp [*]; done) | (simp; omega) | (simp [*]; omega) | (simp [D32.len, -List.length_flatten, *]; done) | (simp [D32.len, -List.length_flatten, *]; omega))) rfl <| ?_
            refine at_op rfl (n_call false rfl (.cons (.pure pu) (.nil)) (digits_ok (sgnK L i) hq32) pu (.inl rfl) rfl ?_)
            refine s1 (y_p rfl) rfl <| ?_
            refine at_nil ?_
            refine x_tn ?_
            refine at_seq ?_
            refine at_region ?_
            refine s1 (y_p rfl) rfl <| s1 (y_p rfl) rfl <| ?_
            refine at_op rfl (n_call false rfl (.cons (.pure pu) (.cons (.pure pu) (.nil))) (equalD_ok m (sgnK L i)) pu (.inl rfl) rfl ?_)
            refine at_nil ?_
            refine x_tn ?_
            refine at_cond rfl (fun hc68 => ?_) (fun hc68 => ?_)
            · have h68 : (!(sgnK L i == zD) && digits m == digits (sgnK L i)) = true := by rw [h63, hc68]; rfl
              refine at_seq ?_
              refine at_region ?_
              refine s1 ((y_p rfl).v (v' := .i .i64 1) rfl) rfl <| s1 ((y_p rfl).v (v' := .i .i64 0) rfl) rfl <| ?_
              refine at_nil ?_
              refine x_tn ?_
              refine at_ret ?_
              refine x_tr ?_
              refine at_result (rs := [.tmp 10, .tmp 11]) rfl (r_tmp rfl (r_tmp rfl r_nil)) ?_
              exact forg_ret (forg_same hver h54 h68)
            · have h68 : (!(sgnK L i == zD) && digits m == digits (sgnK L i)) = false := by rw [h63, hc68]; rfl
              refine at_say 17 rfl (v' := .fz 19 ((knwK (sgnK L i)).map nI)) (by rw [knw_no h63]) ?_
              refine at_skip ?_
              refine x_tn ?_
              refine at_seq ?_
              refine at_fs ⟨_, [], []⟩ 6 4 hmix (le_refl rfl) ?_
              refine fs_q 0 [] [(5, none)] (y_loadA0 ti23 rfl rfl (by first | rfl | omega | (simp; done) | (simp [*]; done) | (simp; omega) | (simp [*]; omega) | (simp [D32.len, -List.length_flatten, *]; done) | (simp [D32.len, -List.length_flatten, *]; omega))) rfl rfl ?_
              refine fs_q 1 [] [(9, none)] (y_fld Tryd.underlying28 rfl ti3 (by decide) rfl rfl) rfl rfl ?_
              refine fs_q 2 [1] [(9, none)] (y_load ti3 rfl rfl rfl) rfl rfl ?_
              refine fs_call false 3 [0, 2] [] gy0 rfl (.cons (.pure pu) (.cons (.pure pu) (.nil))) (seed_ok x (i : Nat) hx) pu (.inl rfl) rfl rfl ?_
              refine fs_q 4 [] [(8, none)] (y_loadA0 ti23 rfl rfl (by first | rfl | omega | (simp; done) | (simp [*]; done) | (simp; omega) | (simp [*]; omega) | (simp [D32.len, -List.length_flatten, *]; done) | (simp [D32.len, -List.length_flatten, *]; omega))) rfl rfl ?_
              refine fs_call false 5 [3, 4] [] gy0 rfl (.cons (.pure pu) (.cons (.pure pu) (.nil))) (sign_ok (seedL x (i : Nat)) m (by simp) hm) pu (.inl rfl) rfl rfl ?_
              refine fs_end (by kernel_rfl) ?_
              refine s1 (y_p rfl) rfl <| ?_
              refine at_nil ?_
              refine x_tn ?_
              refine at_seq ?_
              refine at_seq ?_
              refine at_region ?_
              refine s1 (y_p rfl) rfl <| s1 (y_len Tryd.underlying26 rfl rfl rfl) rfl <| s1 ((y_p rfl).v (v' := .i .i64 0) rfl) rfl <| ?_
              refine at_nil ?_
              refine x_tn ?_
              refine at_block ?_
              refine at_loop (ι := Nat) (fun j => [(9, .p 9 0), (16, .fz 19 ((digits m).map nI)), (17, .fz 19 ((knwK (sgnK L i)).map nI)), (75, dgs (signD (seedL x (i : Nat)) m)), (76, nI 19), (77, nI j)]) (fun j => ⟨[(9, some ([nI i, dgs S, dgs P]))]⟩) (fun j => j ≤ 19 ∧ ∀ t, t < j → badK (seedL x (i : Nat)) m (sgnK L i) S t = false) (fun j => 19 - j) ?_ ?_
              · exact at_ex (0) (⟨by omega, fun t ht => absurd ht (by omega)⟩) [(9, some 9)] hI rfl rfl ⟨⟨_, rfl, .p rfl⟩, ⟨_, rfl, .pure pu⟩, ⟨_, rfl, .pure pu⟩, ⟨_, rfl, .pure pu⟩, ⟨_, rfl, .pure pu⟩, ⟨_, rfl, .pure pu⟩, trivial⟩ ⟨.inr ⟨_, _, rfl, rfl, .pure pul⟩, trivial⟩
              rintro j ⟨hj, hall⟩
              refine at_seq ?_
              refine at_region ?_
              refine s1 (y_p rfl) rfl <| ?_
              refine at_nil ?_
              refine x_tn ?_
              refine at_seq ?_
              refine at_cond rfl (fun hc78 => ?_) (fun hc78 => ?_)
              · have h78 : j < 19 := by have := of_decide_eq_true hc78; omega
                have hown := get_sign (seedL x (i : Nat)) m h78
                obtain ⟨s, hs⟩ : ∃ s, S[j]? = some s := ⟨_, List.getElem?_eq_getElem (by omega)⟩
                have hs32 := hS s (List.mem_of_getElem? hs)
                have ho32 := len_iterD (len_firstD (seedL x (i : Nat)) j) (dg m j)
                have hkn := kdg_le (sgnK L i) j
                have hdm := dg_lt m j
                have hso : (signD (seedL x (i : Nat)) m).length = 19 := len_signL _ _ 19
                refine at_skip ?_
                refine x_tn ?_
                refine at_seq ?_
                refine at_block ?_
                refine at_seq ?_
                refine at_region ?_
                refine s1 (y_p rfl) rfl <| s1 (y_ixf j Tryd.underlying26 ti23 rfl rfl rfl (by omega) rfl) rfl <| s1 (y_loadA ti23 rfl rfl (get_d (D32_signD _ _) hown) (by rw [List.length_map]; exact ho32)) rfl <| ?_
                refine at_op rfl (n_alloc 20 rfl ti23 rfl rfl ?_)
                refine s1 (y_p rfl) rfl <| ?_
                refine at_op rfl (n_storeA ti23 rfl rfl rfl (by rw [List.length_map]; exact ho32) (by first | rfl | omega | (simp; done) | (simp [*]; done) | (simp; omega) | (simp [*]; omega) | (simp [D32.len, -List.length_flatten, *]; done) | (simp [D32.len, -List.length_flatten, *]; omega)) ?_)
                refine at_nil ?_
                refine x_tn ?_
                refine at_seq ?_
                rcases Decidable.em (dg m j < kdg (sgnK L i) j) with hcs | hcs
                · skip
                  refine at_draw_tail 17 hmix (by kernel_rfl) ?_
                  refine t1 (y_p rfl) rfl <| t1 (y_p rfl) rfl <| t1 (y_ixf j Tryd.underlying42 ti3 rfl rfl rfl (by omega) rfl) rfl <| t1 (y_load ti3 rfl rfl (get_dig3 m j h78)) rfl <| t1 (y_p rfl) rfl <| t1 (y_p rfl) rfl <| t1 (y_ixf j Tryd.underlying42 ti3 rfl rfl rfl (by omega) rfl) rfl <| t1 (y_load ti3 rfl rfl (get_knw _ j h78)) rfl <| t1 ((y_p rfl).v (v' := .b true) (congrArg A.b (decide_eq_true (by omega)))) rfl <| t1 (y_p rfl) rfl <| ?_
                  refine t1g rfl rfl (y_fld Tryd.underlying28 rfl ti26 (by decide) rfl rfl) rfl <| t1g rfl rfl (y_load ti26 rfl rfl rfl) rfl <| t1g rfl rfl (y_p rfl) rfl <| t1g rfl rfl (y_ixf j Tryd.underlying26 ti23 rfl rfl rfl (by omega) rfl) rfl <| t1g rfl rfl (y_loadA ti23 rfl rfl (get_d hS hs) (by rw [List.length_map]; exact hs32)) rfl <| t1g rfl rfl (y_loadA0 ti23 rfl rfl (by rw [List.length_map]; exact ho32)) rfl <| t1g rfl rfl (y_aq Tryd.underlying23 Tryd.underlying5 ti5 (by kernel_rfl) rfl rfl hs32 ho32) rfl <| ?_
                  refine at_snil ?_
                  refine s1 (y_p rfl) rfl <| ?_
                  refine at_nil ?_
                  refine x_tn ?_
                  refine at_cond rfl (fun hc99 => ?_) (fun hc99 => ?_)
                  · have hb := hc99
                    refine at_seq ?_
                    refine at_region ?_
                    refine s1 (y_p rfl) rfl <| s1 ((y_p rfl).v (v' := .i .i64 2) rfl) rfl <| s1 (y_p rfl) rfl <| ?_
                    refine at_nil ?_
                    refine x_tn ?_
                    refine at_ret ?_
                    refine x_br ?_
                    refine x_tr ?_
                    refine x_tr ?_
                    refine x_br ?_
                    refine x_tr ?_
                    refine at_result (rs := [.tmp 10, .tmp 11]) rfl (r_tmp rfl (r_tmp rfl r_nil)) ?_
                    exact forg_ret (forg_hit hver h54 h68 h78 ((bad_is hcs hs).trans hb) hall)
                  · have hb := hc99
                    refine at_skip ?_
                    refine x_bn ?_
                    refine x_tn ?_
                    refine at_region ?_
                    refine s1 (addN _ 1 rfl rfl rfl rfl (by omega)) rfl <| s1 (y_p rfl) rfl <| ?_
                    refine at_nil ?_
                    exact at_end (j + 1) (⟨by omega, next_all hall ((bad_is hcs hs).trans hb)⟩) (by omega) [(9, some 9)] hI rfl rfl ⟨⟨_, rfl, .p rfl⟩, ⟨_, rfl, .pure pu⟩, ⟨_, rfl, .pure pu⟩, ⟨_, rfl, .pure pu⟩, ⟨_, rfl, .pure pu⟩, ⟨_, rfl, .pure pu⟩, trivial⟩ ⟨.inr ⟨_, _, rfl, rfl, .pure pul⟩, trivial⟩
                · skip
                  refine at_draw_tail 17 hmix (by kernel_rfl) ?_
                  refine t1 (y_p rfl) rfl <| t1 (y_p rfl) rfl <| t1 (y_ixf j Tryd.underlying42 ti3 rfl rfl rfl (by omega) rfl) rfl <| t1 (y_load ti3 rfl rfl (get_dig3 m j h78)) rfl <| t1 (y_p rfl) rfl <| t1 (y_p rfl) rfl <| t1 (y_ixf j Tryd.underlying42 ti3 rfl rfl rfl (by omega) rfl) rfl <| t1 (y_load ti3 rfl rfl (get_knw _ j h78)) rfl <| t1 ((y_p rfl).v (v' := .b false) (congrArg A.b (decide_eq_false (by omega)))) rfl <| t1 (y_p rfl) rfl <| ?_
                  refine t0g rfl rfl rfl rfl <| t0g rfl rfl rfl rfl <| t0g rfl rfl rfl rfl <| t0g rfl rfl rfl rfl <| t0g rfl rfl rfl rfl <| t0g rfl rfl rfl rfl <| t0g rfl rfl rfl rfl <| ?_
                  refine at_snil ?_
                  refine s1 (y_p rfl) rfl <| ?_
                  refine at_nil ?_
                  refine x_tn ?_
                  refine at_else rfl ?_
                  refine at_skip ?_
                  refine x_bn ?_
                  refine x_tn ?_
                  refine at_region ?_
                  refine s1 (addN _ 1 rfl rfl rfl rfl (by omega)) rfl <| s1 (y_p rfl) rfl <| ?_
                  refine at_nil ?_
                  exact at_end (j + 1) (⟨by omega, next_all hall (bad_no hcs)⟩) (by omega) [(9, some 9)] hI rfl rfl ⟨⟨_, rfl, .p rfl⟩, ⟨_, rfl, .pure pu⟩, ⟨_, rfl, .pure pu⟩, ⟨_, rfl, .pure pu⟩, ⟨_, rfl, .pure pu⟩, ⟨_, rfl, .pure pu⟩, trivial⟩ ⟨.inr ⟨_, _, rfl, rfl, .pure pul⟩, trivial⟩
              · have h78 : j = 19 := by have := of_decide_eq_false hc78; omega
                subst h78
                refine at_exit ?_
                refine x_te ?_
                refine x_te ?_
                refine x_be ?_
                refine x_tn ?_
                refine at_seq ?_
                refine at_region ?_
                refine s1 ((y_p rfl).v (v' := .i .i64 3) rfl) rfl <| s1 ((y_p rfl).v (v' := .i .i64 0) rfl) rfl <| ?_
                refine at_nil ?_
                refine x_tn ?_
                refine at_ret ?_
                refine at_result (rs := [.tmp 10, .tmp 11]) rfl (r_tmp rfl (r_tmp rfl r_nil)) ?_
                exact forg_ret (forg_else hver h54 h68 hall)
          · have h63 : (sgnK L i == zD) = true := by simpa using hc63
            have h68 : (!(sgnK L i == zD) && digits m == digits (sgnK L i)) = false := by rw [h63]; rfl
            refine at_frz 17 rfl rfl pul (view_eq (by simp) rfl) ?_
            refine at_say 17 rfl (v' := .fz 19 ((knwK (sgnK L i)).map nI)) (by rw [knw_yes h63]; rfl) ?_
            refine at_skip ?_
            refine x_tn ?_
            refine at_seq ?_
            refine at_fs ⟨_, [], []⟩ 6 4 hmix (le_refl rfl) ?_
            refine fs_q 0 [] [(5, none)] (y_loadA0 ti23 rfl rfl (by first | rfl | omega | (simp; done) | (simp [*]; done) | (simp; omega) | (simp [*]; omega) | (simp [D32.len, -List.length_flatten, *]; done) | (simp [D32.len, -List.length_flatten, *]; omega))) rfl rfl ?_
            refine fs_q 1 [] [(9, none)] (y_fld Tryd.underlying28 rfl ti3 (by decide) rfl rfl) rfl rfl ?_
            refine fs_q 2 [1] [(9, none)] (y_load ti3 rfl rfl rfl) rfl rfl ?_
            refine fs_call false 3 [0, 2] [] gy0 rfl (.cons (.pure pu) (.cons (.pure pu) (.nil))) (seed_ok x (i : Nat) hx) pu (.inl rfl) rfl rfl ?_
            refine fs_q 4 [] [(8, none)] (y_loadA0 ti23 rfl rfl (by first | rfl | omega | (simp; done) | (simp [*]; done) | (simp; omega) | (simp [*]; omega) | (simp [D32.len, -List.length_flatten, *]; done) | (simp [D32.len, -List.length_flatten, *]; omega))) rfl rfl ?_
            refine fs_call false 5 [3, 4] [] gy0 rfl (.cons (.pure pu) (.cons (.pure pu) (.nil))) (sign_ok (seedL x (i : Nat)) m (by simp) hm) pu (.inl rfl) rfl rfl ?_
            refine fs_end (by kernel_rfl) ?_
            refine s1 (y_p rfl) rfl <| ?_
            refine at_nil ?_
            refine x_tn ?_
            refine at_seq ?_
            refine at_seq ?_
            refine at_region ?_
            refine s1 (y_p rfl) rfl <| s1 (y_len Tryd.underlying26 rfl rfl rfl) rfl <| s1 ((y_p rfl).v (v' := .i .i64 0) rfl) rfl <| ?_
            refine at_nil ?_
            refine x_tn ?_
            refine at_block ?_
            refine at_loop (ι := Nat) (fun j => [(9, .p 9 0), (16, .fz 19 ((digits m).map nI)), (17, .fz 19 ((knwK (sgnK L i)).map nI)), (75, dgs (signD (seedL x (i : Nat)) m)), (76, nI 19), (77, nI j)]) (fun j => ⟨[(9, some ([nI i, dgs S, dgs P]))]⟩) (fun j => j ≤ 19 ∧ ∀ t, t < j → badK (seedL x (i : Nat)) m (sgnK L i) S t = false) (fun j => 19 - j) ?_ ?_
            · exact at_ex (0) (⟨by omega, fun t ht => absurd ht (by omega)⟩) [(9, some 9)] hI rfl rfl ⟨⟨_, rfl, .p rfl⟩, ⟨_, rfl, .pure pu⟩, ⟨_, rfl, .pure pu⟩, ⟨_, rfl, .pure pu⟩, ⟨_, rfl, .pure pu⟩, ⟨_, rfl, .pure pu⟩, trivial⟩ ⟨.inr ⟨_, _, rfl, rfl, .pure pul⟩, trivial⟩
            rintro j ⟨hj, hall⟩
            refine at_seq ?_
            refine at_region ?_
            refine s1 (y_p rfl) rfl <| ?_
            refine at_nil ?_
            refine x_tn ?_
            refine at_seq ?_
            refine at_cond rfl (fun hc78 => ?_) (fun hc78 => ?_)
            · have h78 : j < 19 := by have := of_decide_eq_true hc78; omega
              have hown := get_sign (seedL x (i : Nat)) m h78
              obtain ⟨s, hs⟩ : ∃ s, S[j]? = some s := ⟨_, List.getElem?_eq_getElem (by omega)⟩
              have hs32 := hS s (List.mem_of_getElem? hs)
              have ho32 := len_iterD (len_firstD (seedL x (i : Nat)) j) (dg m j)
              have hkn := kdg_le (sgnK L i) j
              have hdm := dg_lt m j
              have hso : (signD (seedL x (i : Nat)) m).length = 19 := len_signL _ _ 19
              refine at_skip ?_
              refine x_tn ?_
              refine at_seq ?_
              refine at_block ?_
              refine at_seq ?_
              refine at_region ?_
              refine s1 (y_p rfl) rfl <| s1 (y_ixf j Tryd.underlying26 ti23 rfl rfl rfl (by omega) rfl) rfl <| s1 (y_loadA ti23 rfl rfl (get_d (D32_signD _ _) hown) (by rw [List.length_map]; exact ho32)) rfl <| ?_
              refine at_op rfl (n_alloc 20 rfl ti23 rfl rfl ?_)
              refine s1 (y_p rfl) rfl <| ?_
              refine at_op rfl (n_storeA ti23 rfl rfl rfl (by rw [List.length_map]; exact ho32) (by first | rfl | omega | (simp; done) | (simp [*]; done) | (simp; omega) | (simp [*]; omega) | (simp [D32.len, -List.length_flatten, *]; done) | (simp [D32.len, -List.length_flatten, *]; omega)) ?_)
              refine at_nil ?_
              refine x_tn ?_
              refine at_seq ?_
              rcases Decidable.em (dg m j < kdg (sgnK L i) j) with hcs | hcs
              · skip
                refine at_draw_tail 17 hmix (by kernel_rfl) ?_
                refine t1 (y_p rfl) rfl <| t1 (y_p rfl) rfl <| t1 (y_ixf j Tryd.underlying42 ti3 rfl rfl rfl (by omega) rfl) rfl <| t1 (y_load ti3 rfl rfl (get_dig3 m j h78)) rfl <| t1 (y_p rfl) rfl <| t1 (y_p rfl) rfl <| t1 (y_ixf j Tryd.underlying42 ti3 rfl rfl rfl (by omega) rfl) rfl <| t1 (y_load ti3 rfl rfl (get_knw _ j h78)) rfl <| t1 ((y_p rfl).v (v' := .b true) (congrArg A.b (decide_eq_true (by omega)))) rfl <| t1 (y_p rfl) rfl <| ?_
                refine t1g rfl rfl (y_fld Tryd.underlying28 rfl ti26 (by decide) rfl rfl) rfl <| t1g rfl rfl (y_load ti26 rfl rfl rfl) rfl <| t1g rfl rfl (y_p rfl) rfl <| t1g rfl rfl (y_ixf j Tryd.underlying26 ti23 rfl rfl rfl (by omega) rfl) rfl <| t1g rfl rfl (y_loadA ti23 rfl rfl (get_d hS hs) (by rw [List.length_map]; exact hs32)) rfl <| t1g rfl rfl (y_loadA0 ti23 rfl rfl (by rw [List.length_map]; exact ho32)) rfl <| t1g rfl rfl (y_aq Tryd.underlying23 Tryd.underlying5 ti5 (by kernel_rfl) rfl rfl hs32 ho32) rfl <| ?_
                refine at_snil ?_
                refine s1 (y_p rfl) rfl <| ?_
                refine at_nil ?_
                refine x_tn ?_
                refine at_cond rfl (fun hc99 => ?_) (fun hc99 => ?_)
                · have hb := hc99
                  refine at_seq ?_
                  refine at_region ?_
                  refine s1 (y_p rfl) rfl <| s1 ((y_p rfl).v (v' := .i .i64 2) rfl) rfl <| s1 (y_p rfl) rfl <| ?_
                  refine at_nil ?_
                  refine x_tn ?_
                  refine at_ret ?_
                  refine x_br ?_
                  refine x_tr ?_
                  refine x_tr ?_
                  refine x_br ?_
                  refine x_tr ?_
                  refine at_result (rs := [.tmp 10, .tmp 11]) rfl (r_tmp rfl (r_tmp rfl r_nil)) ?_
                  exact forg_ret (forg_hit hver h54 h68 h78 ((bad_is hcs hs).trans hb) hall)
                · have hb := hc99
                  refine at_skip ?_
                  refine x_bn ?_
                  refine x_tn ?_
                  refine at_region ?_
                  refine s1 (addN _ 1 rfl rfl rfl rfl (by omega)) rfl <| s1 (y_p rfl) rfl <| ?_
                  refine at_nil ?_
                  exact at_end (j + 1) (⟨by omega, next_all hall ((bad_is hcs hs).trans hb)⟩) (by omega) [(9, some 9)] hI rfl rfl ⟨⟨_, rfl, .p rfl⟩, ⟨_, rfl, .pure pu⟩, ⟨_, rfl, .pure pu⟩, ⟨_, rfl, .pure pu⟩, ⟨_, rfl, .pure pu⟩, ⟨_, rfl, .pure pu⟩, trivial⟩ ⟨.inr ⟨_, _, rfl, rfl, .pure pul⟩, trivial⟩
              · skip
                refine at_draw_tail 17 hmix (by kernel_rfl) ?_
                refine t1 (y_p rfl) rfl <| t1 (y_p rfl) rfl <| t1 (y_ixf j Tryd.underlying42 ti3 rfl rfl rfl (by omega) rfl) rfl <| t1 (y_load ti3 rfl rfl (get_dig3 m j h78)) rfl <| t1 (y_p rfl) rfl <| t1 (y_p rfl) rfl <| t1 (y_ixf j Tryd.underlying42 ti3 rfl rfl rfl (by omega) rfl) rfl <| t1 (y_load ti3 rfl rfl (get_knw _ j h78)) rfl <| t1 ((y_p rfl).v (v' := .b false) (congrArg A.b (decide_eq_false (by omega)))) rfl <| t1 (y_p rfl) rfl <| ?_
                refine t0g rfl rfl rfl rfl <| t0g rfl rfl rfl rfl <| t0g rfl rfl rfl rfl <| t0g rfl rfl rfl rfl <| t0g rfl rfl rfl rfl <| t0g rfl rfl rfl rfl <| t0g rfl rfl rfl rfl <| ?_
                refine at_snil ?_
                refine s1 (y_p rfl) rfl <| ?_
                refine at_nil ?_
                refine x_tn ?_
                refine at_else rfl ?_
                refine at_skip ?_
                refine x_bn ?_
                refine x_tn ?_
                refine at_region ?_
                refine s1 (addN _ 1 rfl rfl rfl rfl (by omega)) rfl <| s1 (y_p rfl) rfl <| ?_
                refine at_nil ?_
                exact at_end (j + 1) (⟨by omega, next_all hall (bad_no hcs)⟩) (by omega) [(9, some 9)] hI rfl rfl ⟨⟨_, rfl, .p rfl⟩, ⟨_, rfl, .pure pu⟩, ⟨_, rfl, .pure pu⟩, ⟨_, rfl, .pure pu⟩, ⟨_, rfl, .pure pu⟩, ⟨_, rfl, .pure pu⟩, trivial⟩ ⟨.inr ⟨_, _, rfl, rfl, .pure pul⟩, trivial⟩
            · have h78 : j = 19 := by have := of_decide_eq_false hc78; omega
              subst h78
              refine at_exit ?_
              refine x_te ?_
              refine x_te ?_
              refine x_be ?_
              refine x_tn ?_
              refine at_seq ?_
              refine at_region ?_
              refine s1 ((y_p rfl).v (v' := .i .i64 3) rfl) rfl <| s1 ((y_p rfl).v (v' := .i .i64 0) rfl) rfl <| ?_
              refine at_nil ?_
              refine x_tn ?_
              refine at_ret ?_
              refine at_result (rs := [.tmp 10, .tmp 11]) rfl (r_tmp rfl (r_tmp rfl r_nil)) ?_
              exact forg_ret (forg_else hver h54 h68 hall)
end Go.Abs.D2

/-! K6C -/
namespace Go.Abs.D2
open Go Go.Eng Go.Abs Go.Proofs 
set_option linter.unusedSimpArgs false in
set_option linter.unusedVariables false in
set_option maxHeartbeats 1000000 in
set_option maxRecDepth 10000 in
theorem rbytes_ok (a : Int) : Con Tryd.prog 42 [.i .i64 a] (RetO 1 4 ((seedBs a 4).map u8)) := by
  refine enter Tryd.func42 rfl Tryd.ntmps42 (by kernel_rfl) (Nat.le_of_ble_eq_true rfl) fun w0 X0 hI => ?_
  refine at_seq ?_
  refine at_region ?_
  refine s1 (y_p rfl) rfl <| ?_
  refine at_nil ?_
  refine x_tn ?_
  refine at_seq ?_
  refine at_region ?_
  refine s1 (y_p rfl) rfl <| s1 (y_conv Tryd.underlying3 Tryd.underlying92 rfl) rfl <| s1 (y_p rfl) rfl <| ?_
  refine at_nil ?_
  refine x_tn ?_
  refine at_seq ?_
  refine at_region ?_
  refine s1 (y_p rfl) rfl <| s1 (y_shr rfl rfl (by decide)) rfl <| s1 ((y_conv Tryd.underlying92 Tryd.underlying5 rfl).v (ref_byte a 24 0 rfl (by omega))) rfl <| s1 (y_p rfl) rfl <| s1 (y_shr rfl rfl (by decide)) rfl <| s1 ((y_conv Tryd.underlying92 Tryd.underlying5 rfl).v (ref_byte a 16 1 rfl (by omega))) rfl <| s1 (y_p rfl) rfl <| s1 (y_shr rfl rfl (by decide)) rfl <| s1 ((y_conv Tryd.underlying92 Tryd.underlying5 rfl).v (ref_byte a 8 2 rfl (by omega))) rfl <| s1 (y_p rfl) rfl <| ?_
  refine s1 ((y_conv Tryd.underlying92 Tryd.underlying5 rfl).v (ref_byte3 a)) rfl <| ?_
  refine at_op rfl (n_bs1 17 rfl Tryd.underlying65 ti5 rfl rfl rfl rfl rfl ?_)
  refine s1 (y_p rfl) rfl <| ?_
  refine at_nil ?_
  refine x_tn ?_
  refine at_ret ?_
  refine at_result (rs := [.tmp 2]) rfl (r_tmp rfl r_nil) ⟨17, rfl, rfl⟩
set_option linter.unusedSimpArgs false in
set_option linter.unusedVariables false in
set_option maxHeartbeats 1000000 in
set_option maxRecDepth 10000 in
theorem rseed_ok (x : List UInt8) (a : Int) (hx : x.length = 32) : Con Tryd.prog 17 [.ag (x.map u8), .i .i64 a] (Ret (.ag ((seedL x a).map u8))) := by
  refine enter Tryd.func17 rfl Tryd.ntmps17 (by kernel_rfl) (Nat.le_of_ble_eq_true rfl) fun w0 X0 hI => ?_
  refine at_seq ?_
  refine at_region ?_
  refine at_op rfl (n_boxA 2 rfl rfl rfl ?_)
  refine at_op rfl (n_alloc 4 rfl ti23 rfl rfl ?_)
  refine at_nil ?_
  refine x_tn ?_
  refine at_seq ?_
  refine at_region ?_
  refine at_op rfl (n_bs1 5 rfl Tryd.underlying65 ti5 rfl rfl rfl rfl rfl ?_)
  refine s1 (y_cuta0 Tryd.underlying23 ti5 rfl rfl (by simp [hx]) (by simp [maxLen])) rfl <| ?_
  refine at_op rfl (n_app 7 rfl Tryd.underlying65 ti5 rfl (.sl rfl (by first | rfl | omega | (simp; done) | (simp [*]; done) | (simp; omega) | (simp [*]; omega) | (simp [D32.len, -List.length_flatten, *]; done) | (simp [D32.len, -List.length_flatten, *]; omega))) rfl (SM_full rfl (by simp [hx])) (by simp [hx]) (by simp [maxLen]) (by simp) rfl rfl rfl ?_)
  refine s1 (y_p rfl) rfl <| ?_
  refine at_op rfl (n_callO 9 rfl false rfl (.cons (.pure pu) (.nil)) (rbytes_ok a) pul (.inl rfl) rfl ?_)
  refine at_op rfl (n_app 10 rfl Tryd.underlying65 ti5 rfl (.sl rfl (by simp [hx])) rfl (SM_full rfl (by simp)) (by simp) (by simp [maxLen]) (by simp) rfl rfl rfl ?_)
  refine at_op rfl (n_call true rfl (.cons (.pure pu) (.cons (.sl rfl rfl rfl (view_eq (by simp [hx]) (by simp)) (VwL.pure pul) pul) .nil)) (rtag_seed x a hx) pu (.inr fu) rfl ?_)
  refine at_op rfl (n_storeA ti23 rfl rfl rfl (by first | rfl | omega | (simp; done) | (simp [*]; done) | (simp; omega) | (simp [*]; omega) | (simp [D32.len, -List.length_flatten, *]; done) | (simp [D32.len, -List.length_flatten, *]; omega)) (by first | rfl | omega | (simp; done) | (simp [*]; done) | (simp; omega) | (simp [*]; omega) | (simp [D32.len, -List.length_flatten, *]; done) | (simp [D32.len, -List.length_flatten, *]; omega)) ?_)
  refine at_nil ?_
  refine x_tn ?_
  refine at_ret ?_
  refine at_result (rs := [.cell 4 23]) rfl (r_cellA ti23 rfl rfl (List.take_of_length_le (by simp)) (by simp) r_nil) rfl
set_option linter.unusedSimpArgs false in
set_option linter.unusedVariables false in
set_option maxHeartbeats 1000000 in
set_option maxRecDepth 10000 in
theorem rpubs_ok (x : List UInt8) (n : Nat) (hx : x.length = 32) (hn : n ≤ 256) : Con Tryd.prog 34 [.ag (x.map u8), nI n] (Ret (dgs (kpubs x n))) := by
  refine enter Tryd.func34 rfl Tryd.ntmps34 (by kernel_rfl) (Nat.le_of_ble_eq_true rfl) fun w0 X0 hI => ?_
  refine at_seq ?_
  refine at_region ?_
  refine at_op rfl (n_boxA 2 rfl rfl rfl ?_)
  refine s1 (y_p rfl) rfl <| ?_
  refine at_nil ?_
  refine x_tn ?_
  refine at_seq ?_
  refine at_region ?_
  refine at_op rfl (n_bs 7 rfl Tryd.underlying26 ti23 rfl rfl rfl (by first | (simp [cellsA]; done) | (simp [cellsA, *]; done)) rfl rfl rfl rfl ?_)
  refine s1 (y_p rfl) rfl <| ?_
  refine at_nil ?_
  refine x_tn ?_
  refine at_seq ?_
  refine at_seq ?_
  refine at_region ?_
  refine s1 ((y_p rfl).v (v' := .i .i64 0) rfl) rfl <| ?_
  refine at_nil ?_
  refine x_tn ?_
  refine at_block ?_
  refine at_loop (ι := Nat) (fun i => [(1, nI n), (2, .p 2 0), (5, .sl 7 32 0 i), (6, nI i)]) (fun i => ⟨[(2, some (x.map u8)), (7, some ((kpubs x i).flatten.map u8))]⟩) (fun i => i ≤ n) (fun i => n - i) ?_ ?_
  · exact at_ex (0) (Nat.zero_le _) [(2, some 2), (7, some 7)] hI rfl rfl ⟨⟨_, rfl, .pure pu⟩, ⟨_, rfl, .p rfl⟩, ⟨_, rfl, .sl rfl (by first | rfl | omega | (simp; done) | (simp [*]; done) | (simp; omega) | (simp [*]; omega) | (simp [D32.len, -List.length_flatten, *]; done) | (simp [D32.len, -List.length_flatten, *]; omega))⟩, ⟨_, rfl, .pure pu⟩, trivial⟩ ⟨.inr ⟨_, _, rfl, rfl, .pure pul⟩, .inr ⟨_, _, rfl, rfl, .of (by rfl) (.pure pul)⟩, trivial⟩
  rintro i hi
  have hfl := (D32_kpubs x i).len
  rw [len_kpubs] at hfl
  refine at_seq ?_
  refine at_seq ?_
  refine at_region ?_
  refine s1 (y_p rfl) rfl <| s1 (y_p rfl) rfl <| s1 (y_p rfl) rfl <| ?_
  refine at_nil ?_
  refine x_tn ?_
  refine at_cond rfl (fun hc10 => ?_) (fun hc10 => ?_)
  · have h10 : i < n := by have := of_decide_eq_true hc10; omega
    refine at_skip ?_
    refine x_tn ?_
    refine at_seq ?_
    refine at_block ?_
    refine at_region ?_
    refine s1 (y_p rfl) rfl <| s1 (y_loadA0 ti23 rfl rfl (by simp [hx])) rfl <| s1 (y_p rfl) rfl <| ?_
    refine at_op rfl (n_call false rfl (.cons (.pure pu) (.cons (.pure pu) (.nil))) (rseed_ok x (i : Nat) hx) pu (.inl rfl) rfl ?_)
    refine at_op rfl (n_call false rfl (.cons (.pure pu) (.nil)) (rpublic_ok (seedL x (i : Nat)) (by simp)) pu (.inl rfl) rfl ?_)
    refine at_op rfl (n_bs 18 rfl Tryd.underlying26 ti23 rfl rfl rfl (by first | (simp [cellsA]; done) | (simp [cellsA, *]; done)) (List.append_nil ((pubD (seedL x (i : Nat))).map u8)) rfl rfl rfl ?_)
    refine at_op rfl (n_app 19 rfl Tryd.underlying26 ti23 rfl (.sl rfl (by rw [List.length_map]; exact hfl)) rfl (SM_full rfl (by first | rfl | omega | (simp; done) | (simp [*]; done) | (simp; omega) | (simp [*]; omega) | (simp [D32.len, -List.length_flatten, *]; done) | (simp [D32.len, -List.length_flatten, *]; omega))) (by simp) (by simp only [maxLen]; omega) (by omega) rfl rfl rfl ?_)
    refine s1 (y_p rfl) rfl <| ?_
    refine at_nil ?_
    refine x_bn ?_
    refine x_tn ?_
    refine at_region ?_
    refine s1 (y_p rfl) rfl <| s1 (addN _ 1 rfl rfl rfl rfl (by omega)) rfl <| s1 (y_p rfl) rfl <| ?_
    refine at_nil ?_
    exact at_end (i + 1) (by omega) (by omega) [(2, some 2), (7, some 19)] hI rfl rfl ⟨⟨_, rfl, .pure pu⟩, ⟨_, rfl, .p rfl⟩, ⟨_, rfl, .sl rfl (by first | rfl | omega | (simp; done) | (simp [*]; done) | (simp; omega) | (simp [*]; omega) | (simp [D32.len, -List.length_flatten, *]; done) | (simp [D32.len, -List.length_flatten, *]; omega))⟩, ⟨_, rfl, .pure pu⟩, trivial⟩ ⟨.inr ⟨_, _, rfl, rfl, .pure pul⟩, .inr ⟨_, _, rfl, rfl, .of (kpubs_flat x i) (.pure pul)⟩, trivial⟩
  · have h10 : i = n := by have := of_decide_eq_false hc10; omega
    subst h10
    refine at_exit ?_
    refine x_te ?_
    refine x_te ?_
    refine x_be ?_
    refine x_tn ?_
    refine at_seq ?_
    refine at_region ?_
    refine s1 (y_p rfl) rfl <| s1 (y_p rfl) rfl <| ?_
    refine at_nil ?_
    refine x_tn ?_
    refine at_ret ?_
    refine at_frz 4 rfl rfl pul (view_eq (by rw [List.length_map, (D32_kpubs x _).len, len_kpubs]) rfl) ?_
    refine at_result (rs := [.tmp 4]) rfl (r_tmp rfl r_nil) ?_
    exact congrArg (fun z => A.fz z _) (len_kpubs x _).symm
set_option linter.unusedSimpArgs false in
set_option linter.unusedVariables false in
set_option maxHeartbeats 1000000 in
set_option maxRecDepth 10000 in
theorem rroot_ok (x : List UInt8) (n : Int) (hx : x.length = 32) : Con Tryd.prog 13 [.ag (x.map u8), .i .i64 n] (Ret (rootA x n)) := by
  refine enter Tryd.func13 rfl Tryd.ntmps13 (by kernel_rfl) (Nat.le_of_ble_eq_true rfl) fun w0 X0 hI => ?_
  refine at_seq ?_
  refine at_region ?_
  refine at_op rfl (n_boxA 2 rfl rfl rfl ?_)
  refine at_op rfl (n_alloc 4 rfl ti23 rfl rfl ?_)
  refine s1 ((y_p rfl).v (v' := .i .i64 0) rfl) rfl <| ?_
  refine at_nil ?_
  refine x_tn ?_
  refine at_seq ?_
  refine at_seq ?_
  rcases (Decidable.em (sizeK n)).symm with hcs | hcs
  · skip
    refine at_region ?_
    refine s1 (y_p rfl) rfl <| ?_
    refine at_op rfl (n_call false rfl (.cons (.pure pu) (.nil)) (Con.cast (rsize_ok n) (congrArg A.b (decide_eq_false hcs))) pu (.inl rfl) rfl ?_)
    refine s1 (y_p rfl) rfl <| ?_
    refine at_nil ?_
    refine x_tn ?_
    refine at_then rfl ?_
    refine at_seq ?_
    refine at_region ?_
    refine s1 (y_bld0 ti23 rfl Tryd.underlying23 ti5 rfl) rfl <| ?_
    refine at_op rfl (n_storeA ti23 rfl rfl rfl (by first | rfl | omega | (simp; done) | (simp [*]; done) | (simp; omega) | (simp [*]; omega) | (simp [D32.len, -List.length_flatten, *]; done) | (simp [D32.len, -List.length_flatten, *]; omega)) (by first | rfl | omega | (simp; done) | (simp [*]; done) | (simp; omega) | (simp [*]; omega) | (simp [D32.len, -List.length_flatten, *]; done) | (simp [D32.len, -List.length_flatten, *]; omega)) ?_)
    refine s1 ((y_p rfl).v (v' := .i .i64 60) rfl) rfl <| ?_
    refine at_nil ?_
    refine x_tn ?_
    refine at_ret ?_
    refine x_tr ?_
    refine at_result (rs := [.cell 4 23, .tmp 5]) rfl (r_cellA ti23 rfl rfl (List.take_of_length_le (by simp)) (by simp) (r_tmp rfl r_nil)) ?_
    exact (rootA_no hcs).symm
  · have hsz := hcs
    obtain ⟨k, rfl, h1, h2⟩ := sizeK_nat hcs
    refine at_region ?_
    refine s1 (y_p rfl) rfl <| ?_
    refine at_op rfl (n_call false rfl (.cons (.pure pu) (.nil)) (Con.cast (rsize_ok _) (congrArg A.b (decide_eq_true hcs))) pu (.inl rfl) rfl ?_)
    refine s1 (y_p rfl) rfl <| ?_
    refine at_nil ?_
    refine x_tn ?_
    refine at_else rfl ?_
    refine at_skip ?_
    refine x_tn ?_
    refine at_seq ?_
    refine at_region ?_
    refine s1 (y_loadA0 ti23 rfl rfl (by first | rfl | omega | (simp; done) | (simp [*]; done) | (simp; omega) | (simp [*]; omega) | (simp [D32.len, -List.length_flatten, *]; done) | (simp [D32.len, -List.length_flatten, *]; omega))) rfl <| s1 (y_p rfl) rfl <| ?_
    refine at_op rfl (n_call false rfl (.cons (.pure pu) (.cons (.pure pu) (.nil))) (rpubs_ok x k hx h2) pu (.inl rfl) rfl ?_)
    refine at_op rfl (n_call false rfl (.cons (.pure pu) (.nil)) (rtree_ok _ (kpubs x k) (Nat.le_refl _) (D32_kpubs x k) (by simp; omega)) pu (.inl rfl) rfl ?_)
    refine at_op rfl (n_storeA ti23 rfl rfl rfl (by first | rfl | omega | (simp; done) | (simp [*]; done) | (simp; omega) | (simp [*]; omega) | (simp [D32.len, -List.length_flatten, *]; done) | (simp [D32.len, -List.length_flatten, *]; omega)) (by first | rfl | omega | (simp; done) | (simp [*]; done) | (simp; omega) | (simp [*]; omega) | (simp [D32.len, -List.length_flatten, *]; done) | (simp [D32.len, -List.length_flatten, *]; omega)) ?_)
    refine s1 ((y_p rfl).v (v' := .i .i64 0) rfl) rfl <| ?_
    refine at_nil ?_
    refine x_tn ?_
    refine at_ret ?_
    refine at_result (rs := [.cell 4 23, .tmp 5]) rfl (r_cellA ti23 rfl rfl (List.take_of_length_le (by simp)) (by simp) (r_tmp rfl r_nil)) ?_
    exact (rootA_yes hsz).symm
set_option linter.unusedSimpArgs false in
set_option linter.unusedVariables false in
set_option maxHeartbeats 1000000 in
set_option maxRecDepth 10000 in
theorem signW_ok (x : List UInt8) (k : Nat) (a : Int) (m : List UInt8) (hx : x.length = 32) (hm : m.length = 32) (hk : sizeK (k : Int)) : Con Tryd.prog 35 [.ag (x.map u8), dgs (kpubs x k), .i .i64 a, .ag (m.map u8)] (Ret (signA x k a m)) := by
  refine enter Tryd.func35 rfl Tryd.ntmps35 (by kernel_rfl) (Nat.le_of_ble_eq_true rfl) fun w0 X0 hI => ?_
  refine at_seq ?_
  refine at_region ?_
  refine at_op rfl (n_boxA 4 rfl rfl rfl ?_)
  refine at_op rfl (n_boxA 7 rfl rfl rfl ?_)
  refine at_op rfl (n_alloc 8 rfl ti28 rfl rfl ?_)
  refine s1 ((y_p rfl).v (v' := .i .i64 0) rfl) rfl <| ?_
  refine at_nil ?_
  refine x_tn ?_
  refine at_seq ?_
  rcases (Decidable.em (atK (k : Int) a)).symm with hcs | hcs
  · skip
    have hk2 : k ≤ 256 := by unfold sizeK at hk; omega
    refine at_region ?_
    refine s1 (y_p rfl) rfl <| s1 (y_p rfl) rfl <| ?_
    refine at_op rfl (n_call false rfl (.cons (.pure pu) (.cons (.pure pu) (.nil))) (Con.cast (pathI_ok (kpubs x k) a (D32_kpubs x k) (by simp; omega)) (pathA_no (by rw [len_kpubs]; exact hcs))) pu (.inl rfl) rfl ?_)
    refine s1 (y_p rfl) rfl <| s1 (y_p rfl) rfl <| s1 (y_p rfl) rfl <| s1 (y_p rfl) rfl <| s1 (y_p rfl) rfl <| ?_
    refine at_nil ?_
    refine x_tn ?_
    refine at_seq ?_
    refine at_seq ?_
    refine at_region ?_
    refine s1 (y_p rfl) rfl <| s1 ((y_p rfl).v (v' := .b true) (rfl)) rfl <| ?_
    refine at_nil ?_
    refine x_tn ?_
    refine at_then rfl ?_
    refine at_seq ?_
    refine at_region ?_
    refine s1 (y_loadA0 ti28 rfl rfl (by first | rfl | omega | (simp; done) | (simp [*]; done) | (simp; omega) | (simp [*]; omega) | (simp [D32.len, -List.length_flatten, *]; done) | (simp [D32.len, -List.length_flatten, *]; omega))) rfl <| ?_
    refine at_op rfl (n_storeA ti28 rfl rfl rfl (by first | rfl | omega | (simp; done) | (simp [*]; done) | (simp; omega) | (simp [*]; omega) | (simp [D32.len, -List.length_flatten, *]; done) | (simp [D32.len, -List.length_flatten, *]; omega)) (by first | rfl | omega | (simp; done) | (simp [*]; done) | (simp; omega) | (simp [*]; omega) | (simp [D32.len, -List.length_flatten, *]; done) | (simp [D32.len, -List.length_flatten, *]; omega)) ?_)
    refine s1 ((y_p rfl).v (v' := .i .i64 60) rfl) rfl <| ?_
    refine at_nil ?_
    refine x_tn ?_
    refine at_ret ?_
    refine x_tr ?_
    refine at_wkO 8 rfl (.cons (.eq rfl) (.cons .nl (.cons .nl .nil))) ?_
    refine at_result (rs := [.cell 8 28, .tmp 9]) rfl (r_cellA ti28 rfl rfl rfl rfl (r_tmp rfl r_nil)) ?_
    exact (signA_no (fun h => hcs h.2)).symm
  · have hat := hcs
    obtain ⟨i, rfl, hi⟩ : ∃ i : Nat, a = (i : Int) ∧ i < k := ⟨a.toNat, by unfold atK at hcs; omega, by unfold atK at hcs; omega⟩
    have hk2 : k ≤ 256 := by unfold sizeK at hk; omega
    refine at_region ?_
    refine s1 (y_p rfl) rfl <| s1 (y_p rfl) rfl <| ?_
    refine at_op rfl (n_call false rfl (.cons (.pure pu) (.cons (.pure pu) (.nil))) (Con.cast (pathI_ok (kpubs x k) (i : Nat) (D32_kpubs x k) (by simp; omega)) (pathA_yes (by rw [len_kpubs]; exact hi))) pu (.inl rfl) rfl ?_)
    refine s1 (y_p rfl) rfl <| s1 (y_p rfl) rfl <| s1 (y_p rfl) rfl <| s1 (y_p rfl) rfl <| s1 (y_p rfl) rfl <| ?_
    refine at_nil ?_
    refine x_tn ?_
    refine at_seq ?_
    refine at_seq ?_
    refine at_region ?_
    refine s1 (y_p rfl) rfl <| s1 ((y_p rfl).v (v' := .b false) (rfl)) rfl <| ?_
    refine at_nil ?_
    refine x_tn ?_
    refine at_else rfl ?_
    refine at_skip ?_
    refine x_tn ?_
    refine at_seq ?_
    refine at_fs ⟨_, [], []⟩ 8 4 hmix (le_refl rfl) ?_
    refine fs_q 0 [] [] (y_p rfl) rfl rfl ?_
    refine fs_q 1 [] [(4, none)] (y_loadA0 ti23 rfl rfl (by first | rfl | omega | (simp; done) | (simp [*]; done) | (simp; omega) | (simp [*]; omega) | (simp [D32.len, -List.length_flatten, *]; done) | (simp [D32.len, -List.length_flatten, *]; omega))) rfl rfl ?_
    refine fs_q 2 [] [] (y_p rfl) rfl rfl ?_
    refine fs_call false 3 [1, 2] [] gy0 rfl (.cons (.pure pu) (.cons (.pure pu) (.nil))) (seed_ok x (i : Nat) hx) pu (.inl rfl) rfl rfl ?_
    refine fs_q 4 [] [(7, none)] (y_loadA0 ti23 rfl rfl (by first | rfl | omega | (simp; done) | (simp [*]; done) | (simp; omega) | (simp [*]; omega) | (simp [D32.len, -List.length_flatten, *]; done) | (simp [D32.len, -List.length_flatten, *]; omega))) rfl rfl ?_
    refine fs_call false 5 [3, 4] [] gy0 rfl (.cons (.pure pu) (.cons (.pure pu) (.nil))) (sign_ok (seedL x (i : Nat)) m (by simp) hm) pu (.inl rfl) rfl rfl ?_
    refine fs_q 6 [] [] (y_p rfl) rfl rfl ?_
    refine fs_q 7 [0, 5, 6] [] (y_bld (out := [_, _, _]) [[evC (.int .i64 0)], [evC (.slice none 0 0)], [evC (.slice none 0 0)]] ti28 rfl Tryd.underlying28 (by kernel_rfl) rfl rfl ⟨⟨by (first | rfl | omega | (simp; done) | (simp [*]; done) | (simp; omega) | (simp [*]; omega) | (simp [D32.len, -List.length_flatten, *]; done) | (simp [D32.len, -List.length_flatten, *]; omega)), rfl⟩, ⟨⟨by (first | rfl | omega | (simp; done) | (simp [*]; done) | (simp; omega) | (simp [*]; omega) | (simp [D32.len, -List.length_flatten, *]; done) | (simp [D32.len, -List.length_flatten, *]; omega)), rfl⟩, ⟨⟨by (first | rfl | omega | (simp; done) | (simp [*]; done) | (simp; omega) | (simp [*]; omega) | (simp [D32.len, -List.length_flatten, *]; done) | (simp [D32.len, -List.length_flatten, *]; omega)), rfl⟩, trivial⟩⟩⟩ rfl) rfl rfl ?_
    refine fs_end (by kernel_rfl) ?_
    refine at_op rfl (n_storeA ti28 rfl rfl rfl (by first | rfl | omega | (simp; done) | (simp [*]; done) | (simp; omega) | (simp [*]; omega) | (simp [D32.len, -List.length_flatten, *]; done) | (simp [D32.len, -List.length_flatten, *]; omega)) (by first | rfl | omega | (simp; done) | (simp [*]; done) | (simp; omega) | (simp [*]; omega) | (simp [D32.len, -List.length_flatten, *]; done) | (simp [D32.len, -List.length_flatten, *]; omega)) ?_)
    refine s1 ((y_p rfl).v (v' := .i .i64 0) rfl) rfl <| ?_
    refine at_nil ?_
    refine x_tn ?_
    refine at_ret ?_
    refine at_result (rs := [.cell 8 28, .tmp 9]) rfl (r_cellA ti28 rfl rfl rfl rfl (r_tmp rfl r_nil)) ?_
    exact (signA_yes hk hi).symm
set_option linter.unusedSimpArgs false in
set_option linter.unusedVariables false in
set_option maxHeartbeats 1000000 in
set_option maxRecDepth 10000 in
theorem ksign_ok (x : List UInt8) (n a : Int) (m : List UInt8) (hx : x.length = 32) (hm : m.length = 32) : Con Tryd.prog 14 [.ag (x.map u8), .i .i64 n, .i .i64 a, .ag (m.map u8)] (Ret (signA x n a m)) := by
  refine enter Tryd.func14 rfl Tryd.ntmps14 (by kernel_rfl) (Nat.le_of_ble_eq_true rfl) fun w0 X0 hI => ?_
  refine at_seq ?_
  refine at_region ?_
  refine at_op rfl (n_boxA 4 rfl rfl rfl ?_)
  refine at_op rfl (n_boxA 7 rfl rfl rfl ?_)
  refine at_op rfl (n_alloc 8 rfl ti28 rfl rfl ?_)
  refine s1 ((y_p rfl).v (v' := .i .i64 0) rfl) rfl <| ?_
  refine at_nil ?_
  refine x_tn ?_
  refine at_seq ?_
  refine at_seq ?_
  refine at_region ?_
  refine s1 (y_p rfl) rfl <| s1 (y_p rfl) rfl <| s1 (y_p rfl) rfl <| ?_
  refine g_or 2 rfl rfl rfl rfl (fun hb12 => .step (y_p rfl) rfl rfl <| .step (y_p rfl) rfl rfl <| .done) rfl rfl ?_
  refine s1 (y_p rfl) rfl <| ?_
  refine g_or 2 rfl rfl rfl rfl (fun hb16 => .step (y_p rfl) rfl rfl <| .step (y_p rfl) rfl rfl <| .done) rfl rfl ?_
  refine s1 (y_p rfl) rfl <| ?_
  refine g_or 3 rfl rfl rfl rfl (fun hb20 => .step (y_p rfl) rfl rfl <| .step (y_p rfl) rfl rfl <| .step (y_p rfl) rfl rfl <| .done) rfl rfl ?_
  refine at_nil ?_
  refine x_tn ?_
  refine at_cond rfl (fun hc24 => ?_) (fun hc24 => ?_)
  · have hcs : ¬ (sizeK n ∧ atK n a) := by intro h; unfold sizeK atK at h; simp at hc24; omega
    refine at_seq ?_
    refine at_region ?_
    refine s1 (y_loadA0 ti28 rfl rfl (by first | rfl | omega | (simp; done) | (simp [*]; done) | (simp; omega) | (simp [*]; omega) | (simp [D32.len, -List.length_flatten, *]; done) | (simp [D32.len, -List.length_flatten, *]; omega))) rfl <| ?_
    refine at_op rfl (n_storeA ti28 rfl rfl rfl (by first | rfl | omega | (simp; done) | (simp [*]; done) | (simp; omega) | (simp [*]; omega) | (simp [D32.len, -List.length_flatten, *]; done) | (simp [D32.len, -List.length_flatten, *]; omega)) (by first | rfl | omega | (simp; done) | (simp [*]; done) | (simp; omega) | (simp [*]; omega) | (simp [D32.len, -List.length_flatten, *]; done) | (simp [D32.len, -List.length_flatten, *]; omega)) ?_)
    refine s1 ((y_p rfl).v (v' := .i .i64 60) rfl) rfl <| ?_
    refine at_nil ?_
    refine x_tn ?_
    refine at_ret ?_
    refine x_tr ?_
    refine at_wkO 8 rfl (.cons (.eq rfl) (.cons .nl (.cons .nl .nil))) ?_
    refine at_result (rs := [.cell 8 28, .tmp 9]) rfl (r_cellA ti28 rfl rfl rfl rfl (r_tmp rfl r_nil)) ?_
    exact (signA_no hcs).symm
  · have hcs : sizeK n := by unfold sizeK; simp at hc24; omega
    have hsz := hcs
    obtain ⟨k, rfl, h1, h2⟩ := sizeK_nat hcs
    obtain ⟨i, rfl, hi⟩ : ∃ i : Nat, a = (i : Int) ∧ i < k := ⟨a.toNat, by simp at hc24; omega, by simp at hc24; omega⟩
    refine at_skip ?_
    refine x_tn ?_
    refine at_seq ?_
    refine at_fs ⟨_, [], []⟩ 10 4 hmix (le_refl rfl) ?_
    refine fs_q 0 [] [(4, none)] (y_loadA0 ti23 rfl rfl (by first | rfl | omega | (simp; done) | (simp [*]; done) | (simp; omega) | (simp [*]; omega) | (simp [D32.len, -List.length_flatten, *]; done) | (simp [D32.len, -List.length_flatten, *]; omega))) rfl rfl ?_
    refine fs_q 1 [] [(4, none)] (y_loadA0 ti23 rfl rfl (by first | rfl | omega | (simp; done) | (simp [*]; done) | (simp; omega) | (simp [*]; omega) | (simp [D32.len, -List.length_flatten, *]; done) | (simp [D32.len, -List.length_flatten, *]; omega))) rfl rfl ?_
    refine fs_q 2 [] [] (y_p rfl) rfl rfl ?_
    refine fs_call false 3 [1, 2] [] gy0 rfl (.cons (.pure pu) (.cons (.pure pu) (.nil))) (publics_ok x k) pu (.inl rfl) rfl rfl ?_
    refine fs_call false 4 [3] [] gy0 rfl (.cons (.pure pu) (.nil)) (collectD_ok x k hx h2) pu (.inl rfl) rfl rfl ?_
    refine fs_q 5 [] [] (y_p rfl) rfl rfl ?_
    refine fs_q 6 [] [(7, none)] (y_loadA0 ti23 rfl rfl (by first | rfl | omega | (simp; done) | (simp [*]; done) | (simp; omega) | (simp [*]; omega) | (simp [D32.len, -List.length_flatten, *]; done) | (simp [D32.len, -List.length_flatten, *]; omega))) rfl rfl ?_
    refine fs_call false 7 [0, 4, 5, 6] [] gy0 rfl (.cons (.pure pu) (.cons (.pure pu) (.cons (.pure pu) (.cons (.pure pu) (.nil))))) (Con.cast (signW_ok x k (i : Nat) m hx hm hsz) (signA_yes hsz hi)) pu (.inl rfl) rfl rfl ?_
    refine fs_q 8 [7] [] (y_p rfl) rfl rfl ?_
    refine fs_q 9 [7] [] (y_p rfl) rfl rfl ?_
    refine fs_end (by kernel_rfl) ?_
    refine at_op rfl (n_storeA ti28 rfl rfl rfl (by first | rfl | omega | (simp; done) | (simp [*]; done) | (simp; omega) | (simp [*]; omega) | (simp [D32.len, -List.length_flatten, *]; done) | (simp [D32.len, -List.length_flatten, *]; omega)) (by first | rfl | omega | (simp; done) | (simp [*]; done) | (simp; omega) | (simp [*]; omega) | (simp [D32.len, -List.length_flatten, *]; done) | (simp [D32.len, -List.length_flatten, *]; omega)) ?_)
    refine s1 (y_p rfl) rfl <| ?_
    refine at_nil ?_
    refine x_tn ?_
    refine at_ret ?_
    refine at_result (rs := [.cell 8 28, .tmp 9]) rfl (r_cellA ti28 rfl rfl rfl rfl (r_tmp rfl r_nil)) ?_
    exact (signA_yes hsz hi).symm
set_option linter.unusedSimpArgs false in
set_option linter.unusedVariables false in
set_option maxHeartbeats 1000000 in
set_option maxRecDepth 10000 in
theorem rksign_ok (x : List UInt8) (n a : Int) (m : List UInt8) (hx : x.length = 32) (hm : m.length = 32) : Con Tryd.prog 15 [.ag (x.map u8), .i .i64 n, .i .i64 a, .ag (m.map u8)] (Ret (signA x n a m)) := by
  refine enter Tryd.func15 rfl Tryd.ntmps15 (by kernel_rfl) (Nat.le_of_ble_eq_true rfl) fun w0 X0 hI => ?_
  refine at_seq ?_
  refine at_region ?_
  refine at_op rfl (n_boxA 4 rfl rfl rfl ?_)
  refine at_op rfl (n_boxA 7 rfl rfl rfl ?_)
  refine at_op rfl (n_alloc 8 rfl ti28 rfl rfl ?_)
  refine s1 ((y_p rfl).v (v' := .i .i64 0) rfl) rfl <| ?_
  refine at_nil ?_
  refine x_tn ?_
  refine at_seq ?_
  refine at_seq ?_
  rcases (Decidable.em (sizeK n)).symm with hcs | hcs
  · skip
    refine at_region ?_
    refine s1 (y_p rfl) rfl <| ?_
    refine at_op rfl (n_call false rfl (.cons (.pure pu) (.nil)) (Con.cast (rsize_ok n) (congrArg A.b (decide_eq_false hcs))) pu (.inl rfl) rfl ?_)
    refine s1 (y_p rfl) rfl <| s1 (y_p rfl) rfl <| g0 rfl rfl rfl rfl <| g0 rfl rfl rfl rfl <| s1 (y_p rfl) rfl <| s1 (y_p rfl) rfl <| g0 rfl rfl rfl rfl <| g0 rfl rfl rfl rfl <| g0 rfl rfl rfl rfl <| s1 (y_p rfl) rfl <| ?_
    refine at_nil ?_
    refine x_tn ?_
    refine at_then rfl ?_
    refine at_seq ?_
    refine at_region ?_
    refine s1 (y_bld (out := [_, _, _]) [[evC (.int .i64 0)], [evC (.slice none 0 0)], [evC (.slice none 0 0)]] ti28 rfl Tryd.underlying28 (by kernel_rfl) rfl rfl trivial rfl) rfl <| ?_
    refine at_op rfl (n_storeA ti28 rfl rfl rfl (by first | rfl | omega | (simp; done) | (simp [*]; done) | (simp; omega) | (simp [*]; omega) | (simp [D32.len, -List.length_flatten, *]; done) | (simp [D32.len, -List.length_flatten, *]; omega)) (by first | rfl | omega | (simp; done) | (simp [*]; done) | (simp; omega) | (simp [*]; omega) | (simp [D32.len, -List.length_flatten, *]; done) | (simp [D32.len, -List.length_flatten, *]; omega)) ?_)
    refine s1 ((y_p rfl).v (v' := .i .i64 60) rfl) rfl <| ?_
    refine at_nil ?_
    refine x_tn ?_
    refine at_ret ?_
    refine x_tr ?_
    refine at_wkO 8 rfl (.cons (.eq rfl) (.cons .nl (.cons .nl .nil))) ?_
    refine at_result (rs := [.cell 8 28, .tmp 9]) rfl (r_cellA ti28 rfl rfl rfl rfl (r_tmp rfl r_nil)) ?_
    exact (signA_no (fun h => hcs h.1)).symm
  · have hsz := hcs
    obtain ⟨k, rfl, h1, h2⟩ := sizeK_nat hcs
    refine at_region ?_
    refine s1 (y_p rfl) rfl <| ?_
    refine at_op rfl (n_call false rfl (.cons (.pure pu) (.nil)) (Con.cast (rsize_ok _) (congrArg A.b (decide_eq_true hcs))) pu (.inl rfl) rfl ?_)
    refine s1 (y_p rfl) rfl <| s1 (y_p rfl) rfl <| g1 rfl rfl (y_p rfl) rfl <| g1 rfl rfl (y_p rfl) rfl <| s1 (y_p rfl) rfl <| s1 (y_p rfl) rfl <| ?_
    refine g_or 3 rfl rfl rfl rfl (fun hb19 => .step (y_p rfl) rfl rfl <| .step (y_p rfl) rfl rfl <| .step (y_p rfl) rfl rfl <| .done) rfl rfl ?_
    refine at_nil ?_
    refine x_tn ?_
    refine at_cond rfl (fun hc23 => ?_) (fun hc23 => ?_)
    · have hna : ¬ atK (k : Int) a := by intro h; unfold atK at h; simp at hc23; omega
      refine at_seq ?_
      refine at_region ?_
      refine s1 (y_bld (out := [_, _, _]) [[evC (.int .i64 0)], [evC (.slice none 0 0)], [evC (.slice none 0 0)]] ti28 rfl Tryd.underlying28 (by kernel_rfl) rfl rfl trivial rfl) rfl <| ?_
      refine at_op rfl (n_storeA ti28 rfl rfl rfl (by first | rfl | omega | (simp; done) | (simp [*]; done) | (simp; omega) | (simp [*]; omega) | (simp [D32.len, -List.length_flatten, *]; done) | (simp [D32.len, -List.length_flatten, *]; omega)) (by first | rfl | omega | (simp; done) | (simp [*]; done) | (simp; omega) | (simp [*]; omega) | (simp [D32.len, -List.length_flatten, *]; done) | (simp [D32.len, -List.length_flatten, *]; omega)) ?_)
      refine s1 ((y_p rfl).v (v' := .i .i64 60) rfl) rfl <| ?_
      refine at_nil ?_
      refine x_tn ?_
      refine at_ret ?_
      refine x_tr ?_
      refine at_wkO 8 rfl (.cons (.eq rfl) (.cons .nl (.cons .nl .nil))) ?_
      refine at_result (rs := [.cell 8 28, .tmp 9]) rfl (r_cellA ti28 rfl rfl rfl rfl (r_tmp rfl r_nil)) ?_
      exact (signA_no (fun h => hna h.2)).symm
    · obtain ⟨i, rfl, hi⟩ : ∃ i : Nat, a = (i : Int) ∧ i < k := ⟨a.toNat, by simp at hc23; omega, by simp at hc23; omega⟩
      refine at_skip ?_
      refine x_tn ?_
      refine at_seq ?_
      refine at_region ?_
      refine s1 (y_loadA0 ti23 rfl rfl (by first | rfl | omega | (simp; done) | (simp [*]; done) | (simp; omega) | (simp [*]; omega) | (simp [D32.len, -List.length_flatten, *]; done) | (simp [D32.len, -List.length_flatten, *]; omega))) rfl <| s1 (y_p rfl) rfl <| ?_
      refine at_op rfl (n_call false rfl (.cons (.pure pu) (.cons (.pure pu) (.nil))) (rpubs_ok x k hx h2) pu (.inl rfl) rfl ?_)
      refine s1 (y_p rfl) rfl <| ?_
      refine at_op rfl (n_call false rfl (.cons (.pure pu) (.cons (.pure pu) (.nil))) (Con.cast (rpathI_ok (kpubs x k) (i : Nat) (D32_kpubs x k) (by simp; omega)) (pathA_yes (by rw [len_kpubs]; exact hi))) pu (.inl rfl) rfl ?_)
      refine s1 (y_p rfl) rfl <| s1 (y_p rfl) rfl <| s1 (y_p rfl) rfl <| s1 (y_p rfl) rfl <| s1 (y_p rfl) rfl <| ?_
      refine at_nil ?_
      refine x_tn ?_
      refine at_seq ?_
      refine at_fs ⟨_, [], []⟩ 8 4 hmix (le_refl rfl) ?_
      refine fs_q 0 [] [] (y_p rfl) rfl rfl ?_
      refine fs_q 1 [] [(4, none)] (y_loadA0 ti23 rfl rfl (by first | rfl | omega | (simp; done) | (simp [*]; done) | (simp; omega) | (simp [*]; omega) | (simp [D32.len, -List.length_flatten, *]; done) | (simp [D32.len, -List.length_flatten, *]; omega))) rfl rfl ?_
      refine fs_q 2 [] [] (y_p rfl) rfl rfl ?_
      refine fs_call false 3 [1, 2] [] gy0 rfl (.cons (.pure pu) (.cons (.pure pu) (.nil))) (rseed_ok x (i : Nat) hx) pu (.inl rfl) rfl rfl ?_
      refine fs_q 4 [] [(7, none)] (y_loadA0 ti23 rfl rfl (by first | rfl | omega | (simp; done) | (simp [*]; done) | (simp; omega) | (simp [*]; omega) | (simp [D32.len, -List.length_flatten, *]; done) | (simp [D32.len, -List.length_flatten, *]; omega))) rfl rfl ?_
      refine fs_call false 5 [3, 4] [] gy0 rfl (.cons (.pure pu) (.cons (.pure pu) (.nil))) (rsign_ok (seedL x (i : Nat)) m (by simp) hm) pu (.inl rfl) rfl rfl ?_
      refine fs_q 6 [] [] (y_p rfl) rfl rfl ?_
      refine fs_q 7 [0, 5, 6] [] (y_bld (out := [_, _, _]) [[evC (.int .i64 0)], [evC (.slice none 0 0)], [evC (.slice none 0 0)]] ti28 rfl Tryd.underlying28 (by kernel_rfl) rfl rfl ⟨⟨by (first | rfl | omega | (simp; done) | (simp [*]; done) | (simp; omega) | (simp [*]; omega) | (simp [D32.len, -List.length_flatten, *]; done) | (simp [D32.len, -List.length_flatten, *]; omega)), rfl⟩, ⟨⟨by (first | rfl | omega | (simp; done) | (simp [*]; done) | (simp; omega) | (simp [*]; omega) | (simp [D32.len, -List.length_flatten, *]; done) | (simp [D32.len, -List.length_flatten, *]; omega)), rfl⟩, ⟨⟨by (first | rfl | omega | (simp; done) | (simp [*]; done) | (simp; omega) | (simp [*]; omega) | (simp [D32.len, -List.length_flatten, *]; done) | (simp [D32.len, -List.length_flatten, *]; omega)), rfl⟩, trivial⟩⟩⟩ rfl) rfl rfl ?_
      refine fs_end (by kernel_rfl) ?_
      refine at_op rfl (n_storeA ti28 rfl rfl rfl (by first | rfl | omega | (simp; done) | (simp [*]; done) | (simp; omega) | (simp [*]; omega) | (simp [D32.len, -List.length_flatten, *]; done) | (simp [D32.len, -List.length_flatten, *]; omega)) (by first | rfl | omega | (simp; done) | (simp [*]; done) | (simp; omega) | (simp [*]; omega) | (simp [D32.len, -List.length_flatten, *]; done) | (simp [D32.len, -List.length_flatten, *]; omega)) ?_)
      refine s1 ((y_p rfl).v (v' := .i .i64 0) rfl) rfl <| ?_
      refine at_nil ?_
      refine x_tn ?_
      refine at_ret ?_
      refine at_result (rs := [.cell 8 28, .tmp 9]) rfl (r_cellA ti28 rfl rfl rfl rfl (r_tmp rfl r_nil)) ?_
      exact (signA_yes hsz hi).symm
end Go.Abs.D2

/-! D2L1 -/
namespace Go.Abs.D2
open Go Go.Eng Go.Abs Go.Proofs 
set_option linter.unusedSimpArgs false in
set_option linter.unusedVariables false in
set_option maxHeartbeats 1000000 in
set_option maxRecDepth 10000 in
theorem same_ok (L M : List (List UInt8)) (hL : D32 L) (hM : D32 M) : Con Tryd.prog 43 [dgs L, dgs M] (Ret (.b (L == M))) := by
  refine enter Tryd.func43 rfl Tryd.ntmps43 (by kernel_rfl) (Nat.le_of_ble_eq_true rfl) fun w0 X0 hI => ?_
  refine at_seq ?_
  refine at_max 0 rfl fun hmx => ?_
  simp only [maxLen] at hmx
  refine at_region ?_
  refine s1 (y_p rfl) rfl <| ?_
  refine at_nil ?_
  refine x_tn ?_
  refine at_seq ?_
  refine at_seq ?_
  refine at_region ?_
  refine s1 (y_p rfl) rfl <| s1 (y_len Tryd.underlying26 rfl rfl rfl) rfl <| s1 (y_p rfl) rfl <| s1 (y_len Tryd.underlying26 rfl rfl rfl) rfl <| s1 (y_p rfl) rfl <| ?_
  refine at_nil ?_
  refine x_tn ?_
  refine at_cond rfl (fun hc10 => ?_) (fun hc10 => ?_)
  · have h10 : L.length ≠ M.length := by have := bne_iff_ne.1 hc10; omega
    refine at_seq ?_
    refine at_region ?_
    refine s1 (y_p rfl) rfl <| ?_
    refine at_nil ?_
    refine x_tn ?_
    refine at_ret ?_
    refine x_tr ?_
    refine at_result (rs := [.tmp 4]) rfl (r_tmp rfl r_nil) ?_
    exact congrArg A.b (by rw [eq_comm, beq_eq_false_iff_ne]; exact fun h => h10 (congrArg List.length h))
  · have h10 : L.length = M.length := by have := bne_eq_false_iff_eq.1 hc10; omega
    refine at_skip ?_
    refine x_tn ?_
    refine at_seq ?_
    refine at_seq ?_
    refine at_region ?_
    refine s1 ((y_p rfl).v (v' := .i .i64 0) rfl) rfl <| ?_
    refine at_nil ?_
    refine x_tn ?_
    refine at_block ?_
    refine at_loop (ι := Nat) (fun j => [(0, dgs L), (1, dgs M), (5, .i .i64 (j : Nat))]) (fun j => ⟨[]⟩) (fun j => j ≤ L.length ∧ L.take j = M.take j) (fun j => L.length - j) ?_ ?_
    · exact at_ex (0) (⟨Nat.zero_le _, rfl⟩) [] hI rfl rfl ⟨⟨_, rfl, .pure pu⟩, ⟨_, rfl, .pure pu⟩, ⟨_, rfl, .pure pu⟩, trivial⟩ trivial
    rintro j ⟨hj, ht⟩
    refine at_seq ?_
    refine at_seq ?_
    refine at_region ?_
    refine s1 (y_p rfl) rfl <| s1 (y_p rfl) rfl <| s1 (y_len Tryd.underlying26 rfl rfl rfl) rfl <| s1 (y_p rfl) rfl <| ?_
    refine at_nil ?_
    refine x_tn ?_
    refine at_cond rfl (fun hc14 => ?_) (fun hc14 => ?_)
    · have hj2 : j < L.length := by have := of_decide_eq_true hc14; omega
      obtain ⟨q, hq⟩ : ∃ q, L[j]? = some q := ⟨_, List.getElem?_eq_getElem hj2⟩
      obtain ⟨r, hr⟩ : ∃ r, M[j]? = some r := ⟨_, List.getElem?_eq_getElem (by omega)⟩
      have hq32 := hL q (List.mem_of_getElem? hq)
      have hr32 := hM r (List.mem_of_getElem? hr)
      refine at_skip ?_
      refine x_tn ?_
      refine at_seq ?_
      refine at_block ?_
      refine at_seq ?_
      refine at_draw_tail 8 hmix (by kernel_rfl) ?_
      refine t1 (y_p rfl) rfl <| t1 (y_p rfl) rfl <| t1 (y_ixf _ Tryd.underlying26 ti23 rfl rfl rfl (by omega) rfl) rfl <| t1 (y_loadA ti23 rfl rfl (get_d hL hq) (by simp [hq32])) rfl <| t1 (y_p rfl) rfl <| t1 (y_p rfl) rfl <| t1 (y_ixf _ Tryd.underlying26 ti23 rfl rfl rfl (by omega) rfl) rfl <| t1 (y_loadA ti23 rfl rfl (get_d hM hr) (by simp [hr32])) rfl <| ?_
      refine at_snil ?_
      refine s1 (y_aqn Tryd.underlying23 Tryd.underlying5 ti5 (by kernel_rfl) rfl rfl (by first | assumption | (simp; done) | (simp [*]; done)) (by first | assumption | (simp; done) | (simp [*]; done))) rfl <| ?_
      refine at_nil ?_
      refine x_tn ?_
      refine at_cond rfl (fun hc25 => ?_) (fun hc25 => ?_)
      · skip
        refine at_seq ?_
        refine at_region ?_
        refine s1 (y_p rfl) rfl <| ?_
        refine at_nil ?_
        refine x_tn ?_
        refine at_ret ?_
        refine x_br ?_
        refine x_tr ?_
        refine x_tr ?_
        refine x_br ?_
        refine x_tr ?_
        refine at_result (rs := [.tmp 4]) rfl (r_tmp rfl r_nil) ?_
        refine congrArg A.b ?_
        rw [eq_comm, beq_eq_false_iff_ne]
        rintro rfl
        rw [hq] at hr
        cases hr
        simp at hc25
      · have hqr : q = r := by simpa using hc25
        refine at_skip ?_
        refine x_bn ?_
        refine x_tn ?_
        refine at_region ?_
        refine s1 (y_p rfl) rfl <| s1 (addN _ 1 rfl rfl rfl rfl (by omega)) rfl <| s1 (y_p rfl) rfl <| ?_
        refine at_nil ?_
        exact at_end (j + 1) (⟨by omega, by rw [List.take_add_one, List.take_add_one, ht, hq, hr, hqr]⟩) (by omega) [] hI rfl rfl ⟨⟨_, rfl, .pure pu⟩, ⟨_, rfl, .pure pu⟩, ⟨_, rfl, .pure pu⟩, trivial⟩ trivial
    · have hj2 : j = L.length := by have := of_decide_eq_false hc14; omega
      subst hj2
      rw [List.take_length, h10, List.take_length] at ht
      refine at_exit ?_
      refine x_te ?_
      refine x_te ?_
      refine x_be ?_
      refine x_tn ?_
      refine at_seq ?_
      refine at_region ?_
      refine s1 (y_p rfl) rfl <| ?_
      refine at_nil ?_
      refine x_tn ?_
      refine at_ret ?_
      refine at_result (rs := [.tmp 4]) rfl (r_tmp rfl r_nil) ?_
      exact congrArg A.b (by rw [ht]; simp)
end Go.Abs.D2

/-! K6F -/
namespace Go.Abs.D2
open Go Go.Eng Go.Abs Go.Proofs 
set_option linter.unusedSimpArgs false in
set_option linter.unusedVariables false in
set_option maxHeartbeats 1000000 in
set_option maxRecDepth 10000 in
theorem rsigned_ok (L : List (List UInt8)) (i : Nat) (hL : D32 L) : Con Tryd.prog 54 [dgs L, nI i] (Ret (.ag ((sgnK L i).map u8))) := by
  refine enter Tryd.func54 rfl Tryd.ntmps54 (by kernel_rfl) (Nat.le_of_ble_eq_true rfl) fun w0 X0 hI => ?_
  refine at_seq ?_
  refine at_region ?_
  refine at_op rfl (n_alloc 4 rfl ti23 rfl rfl ?_)
  refine at_nil ?_
  refine x_tn ?_
  refine at_seq ?_
  refine at_seq ?_
  refine at_region ?_
  refine s1 (y_p rfl) rfl <| s1 (y_p rfl) rfl <| s1 (y_p rfl) rfl <| ?_
  refine g_or 4 rfl rfl rfl rfl (fun hb7 => .step (y_p rfl) rfl rfl <| .step (y_p rfl) rfl rfl <| .step (y_len Tryd.underlying26 rfl rfl rfl) rfl rfl <| .step (y_p rfl) rfl rfl <| .done) rfl rfl ?_
  refine at_nil ?_
  refine x_tn ?_
  refine at_cond rfl (fun hc12 => ?_) (fun hc12 => ?_)
  · have h12 : ¬ i < L.length := by simp at hc12; omega
    refine at_seq ?_
    refine at_region ?_
    refine s1 (y_bld0 ti23 rfl Tryd.underlying23 ti5 rfl) rfl <| ?_
    refine at_op rfl (n_storeA ti23 rfl rfl rfl (by first | rfl | omega | (simp; done) | (simp [*]; done) | (simp; omega) | (simp [*]; omega) | (simp [D32.len, -List.length_flatten, *]; done) | (simp [D32.len, -List.length_flatten, *]; omega)) (by first | rfl | omega | (simp; done) | (simp [*]; done) | (simp; omega) | (simp [*]; omega) | (simp [D32.len, -List.length_flatten, *]; done) | (simp [D32.len, -List.length_flatten, *]; omega)) ?_)
    refine at_nil ?_
    refine x_tn ?_
    refine at_ret ?_
    refine x_tr ?_
    refine at_result (rs := [.cell 4 23]) rfl (r_cellA ti23 rfl rfl rfl rfl r_nil) ?_
    show A.ag _ = _
    rw [sgnK_out h12]; rfl
  · have h12 : i < L.length := by simp at hc12; omega
    obtain ⟨q, hq⟩ : ∃ q, L[i]? = some q := ⟨_, List.getElem?_eq_getElem h12⟩
    have hql := hL q (List.mem_of_getElem? hq)
    refine at_skip ?_
    refine x_tn ?_
    refine at_seq ?_
    refine at_region ?_
    refine s1 (y_p rfl) rfl <| s1 (y_p rfl) rfl <| s1 (y_ixf i Tryd.underlying26 ti23 rfl rfl rfl (by omega) rfl) rfl <| s1 (y_loadA ti23 rfl rfl (get_d hL hq) (by simp [hql])) rfl <| ?_
    refine at_op rfl (n_storeA ti23 rfl rfl rfl (by simp [hql]) (by first | rfl | omega | (simp; done) | (simp [*]; done) | (simp; omega) | (simp [*]; omega) | (simp [D32.len, -List.length_flatten, *]; done) | (simp [D32.len, -List.length_flatten, *]; omega)) ?_)
    refine at_nil ?_
    refine x_tn ?_
    refine at_ret ?_
    refine at_result (rs := [.cell 4 23]) rfl (r_cellA ti23 rfl rfl (List.take_of_length_le (by simp [hql])) (by simp [hql]) r_nil) ?_
    show A.ag _ = _
    rw [sgnK_in hq]; rfl
set_option linter.unusedSimpArgs false in
set_option linter.unusedVariables false in
set_option maxHeartbeats 1000000 in
set_option maxRecDepth 10000 in
theorem rlast_ok : Con Tryd.prog 56 [] (Ret (.fz 19 ((List.replicate 19 3).map nI))) := by
  refine enter Tryd.func56 rfl Tryd.ntmps56 (by kernel_rfl) (Nat.le_of_ble_eq_true rfl) fun w0 X0 hI => ?_
  refine at_seq ?_
  refine at_region ?_
  refine s1 (y_p rfl) rfl <| ?_
  refine at_nil ?_
  refine x_tn ?_
  refine at_seq ?_
  refine at_region ?_
  refine at_op rfl (n_bs1 3 rfl Tryd.underlying42 ti3 rfl rfl rfl rfl rfl ?_)
  refine s1 (y_p rfl) rfl <| ?_
  refine at_nil ?_
  refine x_tn ?_
  refine at_seq ?_
  refine at_seq ?_
  refine at_region ?_
  refine s1 ((y_p rfl).v (v' := .i .i64 0) rfl) rfl <| ?_
  refine at_nil ?_
  refine x_tn ?_
  refine at_block ?_
  refine at_loop (ι := Nat) (fun i => [(1, .sl 3 1 0 i), (2, nI i)]) (fun i => ⟨[(3, some ((List.replicate i 3).map nI))]⟩) (fun i => i ≤ 19) (fun i => 19 - i) ?_ ?_
  · exact at_ex (0) (Nat.zero_le _) [(3, some 3)] hI rfl rfl ⟨⟨_, rfl, .sl rfl (by first | rfl | omega | (simp; done) | (simp [*]; done) | (simp; omega) | (simp [*]; omega) | (simp [D32.len, -List.length_flatten, *]; done) | (simp [D32.len, -List.length_flatten, *]; omega))⟩, ⟨_, rfl, .pure pu⟩, trivial⟩ ⟨.inr ⟨_, _, rfl, rfl, .of (by rfl) (.pure pul)⟩, trivial⟩
  rintro i hi
  refine at_seq ?_
  refine at_seq ?_
  refine at_region ?_
  refine s1 (y_p rfl) rfl <| s1 (y_p rfl) rfl <| ?_
  refine at_nil ?_
  refine x_tn ?_
  refine at_cond rfl (fun hc5 => ?_) (fun hc5 => ?_)
  · have h5 : i < 19 := by have := of_decide_eq_true hc5; omega
    refine at_skip ?_
    refine x_tn ?_
    refine at_seq ?_
    refine at_block ?_
    refine at_region ?_
    refine s1 (y_p rfl) rfl <| ?_
    refine at_op rfl (n_bs1 9 rfl Tryd.underlying42 ti3 rfl rfl rfl rfl rfl ?_)
    refine at_op rfl (n_app 10 rfl Tryd.underlying42 ti3 rfl (.sl rfl (by first | rfl | omega | (simp; done) | (simp [*]; done) | (simp; omega) | (simp [*]; omega) | (simp [D32.len, -List.length_flatten, *]; done) | (simp [D32.len, -List.length_flatten, *]; omega))) rfl (SM_full rfl (by first | rfl | omega | (simp; done) | (simp [*]; done) | (simp; omega) | (simp [*]; omega) | (simp [D32.len, -List.length_flatten, *]; done) | (simp [D32.len, -List.length_flatten, *]; omega))) (by first | rfl | omega | (simp; done) | (simp [*]; done) | (simp; omega) | (simp [*]; omega) | (simp [D32.len, -List.length_flatten, *]; done) | (simp [D32.len, -List.length_flatten, *]; omega)) (by first | omega | (simp only [maxLen]; omega) | (simp [maxLen]; done) | (simp [maxLen]; omega) | (simp [maxLen, *]; omega)) (by first | omega | (simp only [maxLen]; omega) | (simp [maxLen]; done) | (simp [maxLen]; omega) | (simp [maxLen, *]; omega)) rfl rfl rfl ?_)
    refine s1 (y_p rfl) rfl <| ?_
    refine at_nil ?_
    refine x_bn ?_
    refine x_tn ?_
    refine at_region ?_
    refine s1 (y_p rfl) rfl <| s1 (addN _ 1 rfl rfl rfl rfl (by omega)) rfl <| s1 (y_p rfl) rfl <| ?_
    refine at_nil ?_
    exact at_end (i + 1) (by omega) (by omega) [(3, some 10)] hI rfl rfl ⟨⟨_, rfl, .sl rfl (by first | rfl | omega | (simp; done) | (simp [*]; done) | (simp; omega) | (simp [*]; omega) | (simp [D32.len, -List.length_flatten, *]; done) | (simp [D32.len, -List.length_flatten, *]; omega))⟩, ⟨_, rfl, .pure pu⟩, trivial⟩ ⟨.inr ⟨_, _, rfl, rfl, .of (by rw [List.replicate_succ']; simp) (.pure pul)⟩, trivial⟩
  · have h5 : i = 19 := by have := of_decide_eq_false hc5; omega
    subst h5
    refine at_exit ?_
    refine x_te ?_
    refine x_te ?_
    refine x_be ?_
    refine x_tn ?_
    refine at_seq ?_
    refine at_region ?_
    refine s1 (y_p rfl) rfl <| s1 (y_p rfl) rfl <| ?_
    refine at_nil ?_
    refine x_tn ?_
    refine at_ret ?_
    refine at_frz 0 rfl rfl pul (view_eq (by simp) rfl) ?_
    refine at_result (rs := [.tmp 0]) rfl (r_tmp rfl r_nil) rfl
set_option linter.unusedSimpArgs false in
set_option linter.unusedVariables false in
set_option maxHeartbeats 1000000 in
set_option maxRecDepth 10000 in
theorem relem_ok (x : List UInt8) (c n : Nat) (hx : x.length = 32) (hn : n ≤ 1000) : Con Tryd.prog 58 [.ag (x.map u8), nI c, nI n] (Ret (.ag ((iterD n (firstD x c)).map u8))) := by
  refine enter Tryd.func58 rfl Tryd.ntmps58 (by kernel_rfl) (Nat.le_of_ble_eq_true rfl) fun w0 X0 hI => ?_
  refine at_seq ?_
  refine at_region ?_
  refine at_op rfl (n_boxA 3 rfl rfl rfl ?_)
  refine at_op rfl (n_alloc 6 rfl ti23 rfl rfl ?_)
  refine at_nil ?_
  refine x_tn ?_
  refine at_seq ?_
  refine at_region ?_
  refine at_op rfl (n_bs1 9 rfl Tryd.underlying65 ti5 rfl rfl rfl rfl rfl ?_)
  refine s1 (y_cuta0 Tryd.underlying23 ti5 rfl rfl (by simp [hx]) (by simp [maxLen])) rfl <| ?_
  refine at_op rfl (n_app 11 rfl Tryd.underlying65 ti5 rfl (.sl rfl (by first | rfl | omega | (simp; done) | (simp [*]; done) | (simp; omega) | (simp [*]; omega) | (simp [D32.len, -List.length_flatten, *]; done) | (simp [D32.len, -List.length_flatten, *]; omega))) rfl (SM_full rfl (by simp [hx])) (by simp [hx]) (by simp [maxLen]) (by simp) rfl rfl rfl ?_)
  refine s1 (y_p rfl) rfl <| s1 (ofN_u8 c Tryd.underlying3 Tryd.underlying5 rfl rfl) rfl <| ?_
  refine at_op rfl (n_bs1 14 rfl Tryd.underlying65 ti5 rfl rfl rfl rfl rfl ?_)
  refine at_op rfl (n_app 15 rfl Tryd.underlying65 ti5 rfl (.sl rfl (by simp [hx])) rfl (SM_full rfl (by rfl)) (by first | rfl | omega | (simp; done) | (simp [*]; done) | (simp; omega) | (simp [*]; omega) | (simp [D32.len, -List.length_flatten, *]; done) | (simp [D32.len, -List.length_flatten, *]; omega)) (by simp [maxLen]) (by simp) rfl rfl rfl ?_)
  refine at_op rfl (n_call true rfl (.cons (.pure pu) (.cons (.sl rfl rfl rfl (view_eq (by simp [hx]) (by simp)) (VwL.pure pul) pul) .nil)) (rtag_first x c hx) pu (.inr fu) rfl ?_)
  refine at_op rfl (n_alloc 7 rfl ti23 rfl rfl ?_)
  refine at_op rfl (n_storeA ti23 rfl rfl rfl (by first | rfl | omega | (simp; done) | (simp [*]; done) | (simp; omega) | (simp [*]; omega) | (simp [D32.len, -List.length_flatten, *]; done) | (simp [D32.len, -List.length_flatten, *]; omega)) (by first | rfl | omega | (simp; done) | (simp [*]; done) | (simp; omega) | (simp [*]; omega) | (simp [D32.len, -List.length_flatten, *]; done) | (simp [D32.len, -List.length_flatten, *]; omega)) ?_)
  refine at_nil ?_
  refine x_tn ?_
  refine at_seq ?_
  refine at_seq ?_
  refine at_region ?_
  refine s1 ((y_p rfl).v (v' := .i .i64 0) rfl) rfl <| ?_
  refine at_nil ?_
  refine x_tn ?_
  refine at_block ?_
  refine at_loop (ι := Nat) (fun i => [(2, nI n), (6, .p 6 0), (7, .p 7 0), (8, nI i)]) (fun i => ⟨[(6, some (zD.map u8)), (7, some ((iterD i (firstD x c)).map u8))]⟩) (fun i => i ≤ n) (fun i => n - i) ?_ ?_
  · exact at_ex (0) (Nat.zero_le _) [(6, some 6), (7, some 7)] hI rfl rfl ⟨⟨_, rfl, .pure pu⟩, ⟨_, rfl, .p rfl⟩, ⟨_, rfl, .p rfl⟩, ⟨_, rfl, .pure pu⟩, trivial⟩ ⟨.inr ⟨_, _, rfl, rfl, .pure pul⟩, .inr ⟨_, _, rfl, rfl, .of (by rfl) (.pure pul)⟩, trivial⟩
  rintro i hi
  have hlx := len_iterD (len_firstD x c) i
  refine at_seq ?_
  refine at_seq ?_
  refine at_region ?_
  refine s1 (y_p rfl) rfl <| s1 (y_p rfl) rfl <| s1 (y_p rfl) rfl <| ?_
  refine at_nil ?_
  refine x_tn ?_
  refine at_cond rfl (fun hc19 => ?_) (fun hc19 => ?_)
  · have h1 : i < n := by have := of_decide_eq_true hc19; omega
    refine at_skip ?_
    refine x_tn ?_
    refine at_seq ?_
    refine at_block ?_
    refine at_region ?_
    refine s1 (y_cuta0 Tryd.underlying23 ti5 rfl rfl (by rw [List.length_map]; omega) (by simp [maxLen])) rfl <| ?_
    refine at_op rfl (n_call true rfl (.cons (.pure pu) (.cons (.sl rfl rfl rfl (view_eq (by rw [List.length_map]; exact hlx) rfl) (VwL.pure pul) pul) .nil)) (rtag_step (iterD i (firstD x c)) hlx) pu (.inr fu) rfl ?_)
    refine at_op rfl (n_storeA ti23 rfl rfl rfl (by simp) (by rw [List.length_map]; exact hlx) ?_)
    refine at_nil ?_
    refine x_bn ?_
    refine x_tn ?_
    refine at_region ?_
    refine s1 (y_p rfl) rfl <| s1 (addN _ 1 rfl rfl rfl rfl (by omega)) rfl <| s1 (y_p rfl) rfl <| ?_
    refine at_nil ?_
    exact at_end (i + 1) (by omega) (by omega) [(6, some 6), (7, some 7)] hI rfl rfl ⟨⟨_, rfl, .pure pu⟩, ⟨_, rfl, .p rfl⟩, ⟨_, rfl, .p rfl⟩, ⟨_, rfl, .pure pu⟩, trivial⟩ ⟨.inr ⟨_, _, rfl, rfl, .pure pul⟩, .inr ⟨_, _, rfl, rfl, .of (by rfl) (.pure pul)⟩, trivial⟩
  · have h1 : i = n := by have := of_decide_eq_false hc19; omega
    subst h1
    refine at_exit ?_
    refine x_te ?_
    refine x_te ?_
    refine x_be ?_
    refine x_tn ?_
    refine at_seq ?_
    refine at_region ?_
    refine s1 (y_loadA0 ti23 rfl rfl (by rw [List.length_map]; exact hlx)) rfl <| ?_
    refine at_op rfl (n_storeA ti23 rfl rfl rfl (by rw [List.length_map]; exact hlx) (by rfl) ?_)
    refine at_nil ?_
    refine x_tn ?_
    refine at_ret ?_
    refine at_result (rs := [.cell 6 23]) rfl (r_cellA ti23 rfl rfl (List.take_of_length_le (by simp [hlx])) (by simp [hlx]) r_nil) rfl
set_option linter.unusedSimpArgs false in
set_option linter.unusedVariables false in
set_option maxHeartbeats 1000000 in
set_option maxRecDepth 10000 in
theorem rkforg_ok (x : List UInt8) (n : Int) (L : List (List UInt8)) (m : List UInt8) (a : Int) (S P : List (List UInt8)) (hx : x.length = 32) (hL : D32 L) (hl : L.length ≤ 1000) (hm : m.length = 32) (hS : D32 S) (hP : D32 P) : Con Tryd.prog 22 [.ag (x.map u8), .i .i64 n, dgs L, .ag (m.map u8), .ag [.i .i64 a, dgs S, dgs P]] (Ret (forgA x n L m a S P)) := by
  refine enter Tryd.func22 rfl Tryd.ntmps22 (by kernel_rfl) (Nat.le_of_ble_eq_true rfl) fun w0 X0 hI => ?_
  refine at_seq ?_
  refine at_region ?_
  refine at_op rfl (n_boxA 5 rfl rfl rfl ?_)
  refine at_op rfl (n_boxA 8 rfl rfl rfl ?_)
  refine at_op rfl (n_boxA 9 rfl rfl rfl ?_)
  refine s1 ((y_p rfl).v (v' := .i .i64 0) rfl) rfl <| s1 ((y_p rfl).v (v' := .i .i64 0) rfl) rfl <| ?_
  refine at_nil ?_
  refine x_tn ?_
  refine at_seq ?_
  rcases (Decidable.em (sizeK n)).symm with hcs | hcs
  · skip
    refine at_region ?_
    refine s1 (y_loadA0 ti23 rfl rfl (by first | rfl | omega | (simp; done) | (simp [*]; done) | (simp; omega) | (simp [*]; omega) | (simp [D32.len, -List.length_flatten, *]; done) | (simp [D32.len, -List.length_flatten, *]; omega))) rfl <| s1 (y_p rfl) rfl <| ?_
    refine at_op rfl (n_call false rfl (.cons (.pure pu) (.cons (.pure pu) (.nil))) (Con.cast (rroot_ok x n hx) (rootA_no hcs)) pu (.inl rfl) rfl ?_)
    refine s1 (y_p rfl) rfl <| s1 (y_p rfl) rfl <| s1 (y_p rfl) rfl <| ?_
    refine at_op rfl (n_alloc 12 rfl ti23 rfl rfl ?_)
    refine at_op rfl (n_storeA ti23 rfl rfl rfl (by first | rfl | omega | (simp; done) | (simp [*]; done) | (simp; omega) | (simp [*]; omega) | (simp [D32.len, -List.length_flatten, *]; done) | (simp [D32.len, -List.length_flatten, *]; omega)) (by first | rfl | omega | (simp; done) | (simp [*]; done) | (simp; omega) | (simp [*]; omega) | (simp [D32.len, -List.length_flatten, *]; done) | (simp [D32.len, -List.length_flatten, *]; omega)) ?_)
    refine s1 (y_p rfl) rfl <| ?_
    refine at_nil ?_
    refine x_tn ?_
    refine at_seq ?_
    refine at_seq ?_
    refine at_region ?_
    refine s1 (y_p rfl) rfl <| s1 ((y_p rfl).v (v' := .b true) (rfl)) rfl <| s1 (y_p rfl) rfl <| g0 rfl rfl rfl rfl <| g0 rfl rfl rfl rfl <| g0 rfl rfl rfl rfl <| g0 rfl rfl rfl rfl <| g0 rfl rfl rfl rfl <| g0 rfl rfl rfl rfl <| s1 (y_p rfl) rfl <| ?_
    refine at_nil ?_
    refine x_tn ?_
    refine at_then rfl ?_
    refine at_seq ?_
    refine at_region ?_
    refine s1 ((y_p rfl).v (v' := .i .i64 0) rfl) rfl <| s1 ((y_p rfl).v (v' := .i .i64 0) rfl) rfl <| ?_
    refine at_nil ?_
    refine x_tn ?_
    refine at_ret ?_
    refine x_tr ?_
    refine at_result (rs := [.tmp 10, .tmp 11]) rfl (r_tmp rfl (r_tmp rfl r_nil)) ?_
    exact forg_ret (forg_no (ver_k1 hcs))
  · have hsz := hcs
    obtain ⟨k, rfl, h1, h2⟩ := sizeK_nat hcs
    refine at_region ?_
    refine s1 (y_loadA0 ti23 rfl rfl (by first | rfl | omega | (simp; done) | (simp [*]; done) | (simp; omega) | (simp [*]; omega) | (simp [D32.len, -List.length_flatten, *]; done) | (simp [D32.len, -List.length_flatten, *]; omega))) rfl <| s1 (y_p rfl) rfl <| ?_
    refine at_op rfl (n_call false rfl (.cons (.pure pu) (.cons (.pure pu) (.nil))) (Con.cast (rroot_ok x k hx) ((rootA_eq ..).trans (by rw [decide_eq_true hsz]; rfl : _ = .tu [.ag ((rootD x (k : Int)).map u8), .i .i64 0]))) pu (.inl rfl) rfl ?_)
    refine s1 (y_p rfl) rfl <| s1 (y_p rfl) rfl <| s1 (y_p rfl) rfl <| ?_
    refine at_op rfl (n_alloc 12 rfl ti23 rfl rfl ?_)
    refine at_op rfl (n_storeA ti23 rfl rfl rfl (by first | rfl | omega | (simp; done) | (simp [*]; done) | (simp; omega) | (simp [*]; omega) | (simp [D32.len, -List.length_flatten, *]; done) | (simp [D32.len, -List.length_flatten, *]; omega)) (by first | rfl | omega | (simp; done) | (simp [*]; done) | (simp; omega) | (simp [*]; omega) | (simp [D32.len, -List.length_flatten, *]; done) | (simp [D32.len, -List.length_flatten, *]; omega)) ?_)
    refine s1 (y_p rfl) rfl <| ?_
    refine at_nil ?_
    refine x_tn ?_
    refine at_seq ?_
    refine at_seq ?_
    rcases tfK (verK (rootD x (k : Int)) (k : Int) m a S P) with hcs | hcs
    · skip
      refine at_region ?_
      refine s1 (y_p rfl) rfl <| s1 ((y_p rfl).v (v' := .b false) (rfl)) rfl <| s1 (y_p rfl) rfl <| g1 rfl rfl (y_loadA0 ti23 rfl rfl (by first | rfl | omega | (simp; done) | (simp [*]; done) | (simp; omega) | (simp [*]; omega) | (simp [D32.len, -List.length_flatten, *]; done) | (simp [D32.len, -List.length_flatten, *]; omega))) rfl <| g1 rfl rfl (y_p rfl) rfl <| g1 rfl rfl (y_loadA0 ti23 rfl rfl (by first | rfl | omega | (simp; done) | (simp [*]; done) | (simp; omega) | (simp [*]; omega) | (simp [D32.len, -List.length_flatten, *]; done) | (simp [D32.len, -List.length_flatten, *]; omega))) rfl <| g1 rfl rfl (y_loadA0 ti28 rfl rfl (by first | rfl | omega | (simp; done) | (simp [*]; done) | (simp; omega) | (simp [*]; omega) | (simp [D32.len, -List.length_flatten, *]; done) | (simp [D32.len, -List.length_flatten, *]; omega))) rfl <| ?_
      refine at_opg rfl rfl rfl (n_call false rfl (.cons (.pure pu) (.cons (.pure pu) (.cons (.pure pu) (.cons (.pure pu) (.nil))))) (Con.cast (rkver_ok (rootD x (k : Int)) m k a S P (by simp) hm hS hP) (congrArg (A.i .i64) (by rw [hcs]; rfl : errK (verK (rootD x (k : Int)) (k : Int) m a S P) = 60))) pu (.inl rfl) rfl ?_)
      refine g1 rfl rfl ((y_p rfl).v (v' := .b true) (rfl)) rfl <| s1 (y_p rfl) rfl <| ?_
      refine at_nil ?_
      refine x_tn ?_
      refine at_then rfl ?_
      refine at_seq ?_
      refine at_region ?_
      refine s1 ((y_p rfl).v (v' := .i .i64 0) rfl) rfl <| s1 ((y_p rfl).v (v' := .i .i64 0) rfl) rfl <| ?_
      refine at_nil ?_
      refine x_tn ?_
      refine at_ret ?_
      refine x_tr ?_
      refine at_result (rs := [.tmp 10, .tmp 11]) rfl (r_tmp rfl (r_tmp rfl r_nil)) ?_
      exact forg_ret (forg_no hcs)
    · have hver := hcs
      obtain ⟨_, hat, hrec, _, _⟩ := ver_spec hcs
      have hS19 := recE_len hrec
      obtain ⟨i, rfl⟩ : ∃ i : Nat, a = (i : Int) := ⟨a.toNat, by unfold atK at hat; omega⟩
      have hq32 := len_sgnK hL i
      refine at_region ?_
      refine s1 (y_p rfl) rfl <| s1 ((y_p rfl).v (v' := .b false) (rfl)) rfl <| s1 (y_p rfl) rfl <| g1 rfl rfl (y_loadA0 ti23 rfl rfl (by first | rfl | omega | (simp; done) | (simp [*]; done) | (simp; omega) | (simp [*]; omega) | (simp [D32.len, -List.length_flatten, *]; done) | (simp [D32.len, -List.length_flatten, *]; omega))) rfl <| g1 rfl rfl (y_p rfl) rfl <| g1 rfl rfl (y_loadA0 ti23 rfl rfl (by first | rfl | omega | (simp; done) | (simp [*]; done) | (simp; omega) | (simp [*]; omega) | (simp [D32.len, -List.length_flatten, *]; done) | (simp [D32.len, -List.length_flatten, *]; omega))) rfl <| g1 rfl rfl (y_loadA0 ti28 rfl rfl (by first | rfl | omega | (simp; done) | (simp [*]; done) | (simp; omega) | (simp [*]; omega) | (simp [D32.len, -List.length_flatten, *]; done) | (simp [D32.len, -List.length_flatten, *]; omega))) rfl <| ?_
      refine at_opg rfl rfl rfl (n_call false rfl (.cons (.pure pu) (.cons (.pure pu) (.cons (.pure pu) (.cons (.pure pu) (.nil))))) (Con.cast (rkver_ok (rootD x (k : Int)) m k (i : Nat) S P (by simp) hm hS hP) (congrArg (A.i .i64) (by rw [hcs]; rfl : errK (verK (rootD x (k : Int)) (k : Int) m (i : Nat) S P) = 0))) pu (.inl rfl) rfl ?_)
      refine g1 rfl rfl ((y_p rfl).v (v' := .b false) (rfl)) rfl <| s1 (y_p rfl) rfl <| ?_
      refine at_nil ?_
      refine x_tn ?_
      refine at_else rfl ?_
      refine at_skip ?_
      refine x_tn ?_
      refine at_seq ?_
      refine at_region ?_
      refine s1 (y_p rfl) rfl <| s1 (y_fld Tryd.underlying28 rfl ti3 (by decide) rfl rfl) rfl <| s1 (y_load ti3 rfl rfl rfl) rfl <| ?_
      refine at_op rfl (n_call false rfl (.cons (.pure pu) (.cons (.pure pu) (.nil))) (rsigned_ok L i hL) pu (.inl rfl) rfl ?_)
      refine at_op rfl (n_alloc 14 rfl ti23 rfl rfl ?_)
      refine at_op rfl (n_storeA ti23 rfl rfl rfl (by simp [hq32]) (by first | rfl | omega | (simp; done) | (simp [*]; done) | (simp; omega) | (simp [*]; omega) | (simp [D32.len, -List.length_flatten, *]; done) | (simp [D32.len, -List.length_flatten, *]; omega)) ?_)
      refine at_nil ?_
      refine x_tn ?_
      refine at_seq ?_
      rcases tfK (sgnK L i == zD) with hcs | hcs
      · have h5 := hcs
        refine at_region ?_
        refine s1 (y_loadA0 ti23 rfl rfl (by first | rfl | omega | (simp; done) | (simp [*]; done) | (simp; omega) | (simp [*]; omega) | (simp [D32.len, -List.length_flatten, *]; done) | (simp [D32.len, -List.length_flatten, *]; omega))) rfl <| s1 ((y_bld0 ti23 rfl Tryd.underlying23 ti5 rfl).v (v' := .ag (zD.map u8)) (congrArg A.ag zD_cells)) rfl <| s1 ((y_aq Tryd.underlying23 Tryd.underlying5 ti5 (by kernel_rfl) rfl rfl (by first | assumption | (simp; done) | (simp [*]; done)) (by first | assumption | (simp; done) | (simp [*]; done))).v (v' := .b false) (congrArg A.b hcs)) rfl <| s1 (y_p rfl) rfl <| ?_
        refine at_nil ?_
        refine x_tn ?_
        refine at_seq ?_
        refine at_seq ?_
        refine at_region ?_
        refine s1 (y_loadA0 ti23 rfl rfl (by first | rfl | omega | (simp; done) | (simp [*]; done) | (simp; omega) | (simp [*]; omega) | (simp [D32.len, -List.length_flatten, *]; done) | (simp [D32.len, -List.length_flatten, *]; omega))) rfl <| s1 (y_loadA0 ti23 rfl rfl (by first | rfl | omega | (simp; done) | (simp [*]; done) | (simp; omega) | (simp [*]; omega) | (simp [D32.len, -List.length_flatten, *]; done) | (simp [D32.len, -List.length_flatten, *]; omega))) rfl <| s1 (y_aq Tryd.underlying23 Tryd.underlying5 ti5 (by kernel_rfl) rfl rfl (by first | assumption | (simp; done) | (simp [*]; done)) (by first | assumption | (simp; done) | (simp [*]; done))) rfl <| s1 (y_p rfl) rfl <| ?_
        refine g_and 2 rfl rfl rfl rfl (fun hb46 => .step (y_p rfl) rfl rfl <| .step (y_p rfl) rfl rfl <| .done) rfl rfl ?_
        refine at_nil ?_
        refine x_tn ?_
        refine at_cond rfl (fun hc49 => ?_) (fun hc49 => ?_)
        · have h54 : (!(sgnK L i == zD) && sgnK L i == m) = true := by rw [h5]; simpa using hc49
          refine at_seq ?_
          refine at_region ?_
          refine s1 ((y_p rfl).v (v' := .i .i64 0) rfl) rfl <| s1 ((y_p rfl).v (v' := .i .i64 0) rfl) rfl <| ?_
          refine at_nil ?_
          refine x_tn ?_
          refine at_ret ?_
          refine x_tr ?_
          refine at_result (rs := [.tmp 10, .tmp 11]) rfl (r_tmp rfl (r_tmp rfl r_nil)) ?_
          exact forg_ret (forg_own h54)
        · have h54 : (!(sgnK L i == zD) && sgnK L i == m) = false := by rw [h5]; simpa using hc49
          refine at_skip ?_
          refine x_tn ?_
          refine at_seq ?_
          refine at_region ?_
          refine s1 (y_loadA0 ti23 rfl rfl (by first | rfl | omega | (simp; done) | (simp [*]; done) | (simp; omega) | (simp [*]; omega) | (simp [D32.len, -List.length_flatten, *]; done) | (simp [D32.len, -List.length_flatten, *]; omega))) rfl <| ?_
          refine at_op rfl (n_call false rfl (.cons (.pure pu) (.nil)) (rdigits_ok m hm) pu (.inl rfl) rfl ?_)
          refine s1 (y_p rfl) rfl <| ?_
          refine at_nil ?_
          refine x_tn ?_
          refine at_seq ?_
          refine at_region ?_
          refine s1 (y_loadA0 ti23 rfl rfl (by first | rfl | omega | (simp; done) | (simp [*]; done) | (simp; omega) | (simp [*]; omega) | (simp [D32.len, -List.length_flatten, *]; done) | (simp [D32.len, -List.length_flatten, *]; omega))) rfl <| ?_
          refine at_op rfl (n_call false rfl (.cons (.pure pu) (.nil)) (rdigits_ok (sgnK L i) hq32) pu (.inl rfl) rfl ?_)
          refine s1 (y_p rfl) rfl <| ?_
          refine at_nil ?_
          refine x_tn ?_
          refine at_seq ?_
          refine at_seq ?_
          refine at_region ?_
          refine s1 (y_p rfl) rfl <| ?_
          refine at_nil ?_
          refine x_tn ?_
          refine at_else rfl ?_
          refine at_skip ?_
          refine x_tn ?_
          refine at_seq ?_
          refine at_seq ?_
          refine at_region ?_
          refine s1 (y_p rfl) rfl <| s1 (y_p rfl) rfl <| s1 (y_p rfl) rfl <| g1 rfl rfl (y_p rfl) rfl <| g1 rfl rfl (y_p rfl) rfl <| ?_
          refine at_opg rfl rfl rfl (n_call false rfl (.cons (.pure pu) (.cons (.pure pu) (.nil))) (sameD_ok m (sgnK L i)) pu (.inl rfl) rfl ?_)
          refine s1 (y_p rfl) rfl <| ?_
          refine at_nil ?_
          refine x_tn ?_
          refine at_cond rfl (fun hc62 => ?_) (fun hc62 => ?_)
          · have h62 : (!(sgnK L i == zD) && digits m == digits (sgnK L i)) = true := by rw [h5, hc62]; rfl
            refine at_seq ?_
            refine at_region ?_
            refine s1 ((y_p rfl).v (v' := .i .i64 1) rfl) rfl <| s1 ((y_p rfl).v (v' := .i .i64 0) rfl) rfl <| ?_
            refine at_nil ?_
            refine x_tn ?_
            refine at_ret ?_
            refine x_tr ?_
            refine at_result (rs := [.tmp 10, .tmp 11]) rfl (r_tmp rfl (r_tmp rfl r_nil)) ?_
            exact forg_ret (forg_same hver h54 h62)
          · have h62 : (!(sgnK L i == zD) && digits m == digits (sgnK L i)) = false := by rw [h5, hc62]; rfl
            refine at_skip ?_
            refine x_tn ?_
            refine at_seq ?_
            refine at_say 17 rfl (v' := .fz 19 ((knwK (sgnK L i)).map nI)) (by rw [knw_no h5]) ?_
            refine at_region ?_
            refine s1 (y_loadA0 ti23 rfl rfl (by first | rfl | omega | (simp; done) | (simp [*]; done) | (simp; omega) | (simp [*]; omega) | (simp [D32.len, -List.length_flatten, *]; done) | (simp [D32.len, -List.length_flatten, *]; omega))) rfl <| s1 (y_fld Tryd.underlying28 rfl ti3 (by decide) rfl rfl) rfl <| s1 (y_load ti3 rfl rfl rfl) rfl <| ?_
            refine at_op rfl (n_call false rfl (.cons (.pure pu) (.cons (.pure pu) (.nil))) (rseed_ok x (i : Nat) hx) pu (.inl rfl) rfl ?_)
            refine at_op rfl (n_alloc 18 rfl ti23 rfl rfl ?_)
            refine at_op rfl (n_storeA ti23 rfl rfl rfl (by first | rfl | omega | (simp; done) | (simp [*]; done) | (simp; omega) | (simp [*]; omega) | (simp [D32.len, -List.length_flatten, *]; done) | (simp [D32.len, -List.length_flatten, *]; omega)) (by first | rfl | omega | (simp; done) | (simp [*]; done) | (simp; omega) | (simp [*]; omega) | (simp [D32.len, -List.length_flatten, *]; done) | (simp [D32.len, -List.length_flatten, *]; omega)) ?_)
            refine at_nil ?_
            refine x_tn ?_
            refine at_seq ?_
            refine at_seq ?_
            refine at_region ?_
            refine s1 ((y_p rfl).v (v' := .i .i64 0) rfl) rfl <| ?_
            refine at_nil ?_
            refine x_tn ?_
            refine at_block ?_
            refine at_loop (ι := Nat) (fun j => [(9, .p 9 0), (16, .fz 19 ((digits m).map nI)), (17, .fz 19 ((knwK (sgnK L i)).map nI)), (18, .p 18 0), (19, nI j)]) (fun j => ⟨[(9, some ([nI i, dgs S, dgs P])), (18, some ((seedL x (i : Nat)).map u8))]⟩) (fun j => j ≤ 19 ∧ ∀ t, t < j → badK (seedL x (i : Nat)) m (sgnK L i) S t = false) (fun j => 19 - j) ?_ ?_
            · exact at_ex (0) (⟨by omega, fun t ht => absurd ht (by omega)⟩) [(9, some 9), (18, some 18)] hI rfl rfl ⟨⟨_, rfl, .p rfl⟩, ⟨_, rfl, .pure pu⟩, ⟨_, rfl, .pure pu⟩, ⟨_, rfl, .p rfl⟩, ⟨_, rfl, .pure pu⟩, trivial⟩ ⟨.inr ⟨_, _, rfl, rfl, .pure pul⟩, .inr ⟨_, _, rfl, rfl, .pure pul⟩, trivial⟩
            rintro j ⟨hj, hall⟩
            refine at_seq ?_
            refine at_seq ?_
            refine at_region ?_
            refine s1 (y_p rfl) rfl <| s1 (y_p rfl) rfl <| ?_
            refine at_nil ?_
            refine x_tn ?_
            refine at_cond rfl (fun hc68 => ?_) (fun hc68 => ?_)
            · have h68b : j < 19 := by have := of_decide_eq_true hc68; omega
              obtain ⟨s, hs⟩ : ∃ s, S[j]? = some s := ⟨_, List.getElem?_eq_getElem (by omega)⟩
              have hs32 := hS s (List.mem_of_getElem? hs)
              have ho32 := len_iterD (len_firstD (seedL x (i : Nat)) j) (dg m j)
              have hkn := kdg_le (sgnK L i) j
              have hdm := dg_lt m j
              refine at_skip ?_
              refine x_tn ?_
              refine at_seq ?_
              refine at_block ?_
              refine at_seq ?_
              rcases Decidable.em (dg m j < kdg (sgnK L i) j) with hcs | hcs
              · skip
                refine at_fs ⟨_, [], []⟩ 23 4 hmix (le_refl rfl) ?_
                refine fs_q 0 [] [] (y_p rfl) rfl rfl ?_
                refine fs_q 1 [] [] (y_p rfl) rfl rfl ?_
                refine fs_q 2 [0, 1] [] (y_ixf j Tryd.underlying42 ti3 rfl rfl rfl (by omega) rfl) rfl rfl ?_
                refine fs_q 3 [2] [] (y_load ti3 rfl rfl (get_dig3 m j h68b)) rfl rfl ?_
                refine fs_q 4 [] [] (y_p rfl) rfl rfl ?_
                refine fs_q 5 [] [] (y_p rfl) rfl rfl ?_
                refine fs_q 6 [4, 5] [] (y_ixf j Tryd.underlying42 ti3 rfl rfl rfl (by omega) rfl) rfl rfl ?_
                refine fs_q 7 [6] [] (y_load ti3 rfl rfl (get_knw _ j h68b)) rfl rfl ?_
                refine fs_q 8 [3, 7] [] ((y_p rfl).v (v' := .b true) (congrArg A.b (decide_eq_true (by omega)))) rfl rfl ?_
                refine fs_q 9 [8] [] (y_p rfl) rfl rfl ?_
                refine fs_qg 10 [9] [(9, none)] rfl rfl (y_fld Tryd.underlying28 rfl ti26 (by decide) rfl rfl) rfl rfl ?_
                refine fs_qg 11 [9, 10] [(9, none)] rfl rfl (y_load ti26 rfl rfl rfl) rfl rfl ?_
                refine fs_qg 12 [9] [] rfl rfl (y_p rfl) rfl rfl ?_
                refine fs_qg 13 [9, 11, 12] [] rfl rfl (y_ixf j Tryd.underlying26 ti23 rfl rfl rfl (by omega) rfl) rfl rfl ?_
                refine fs_qg 14 [9, 13] [] rfl rfl (y_loadA ti23 rfl rfl (get_d hS hs) (by rw [List.length_map]; exact hs32)) rfl rfl ?_
                refine fs_qg 15 [9] [(18, none)] rfl rfl (y_loadA0 ti23 rfl rfl (by first | rfl | omega | (simp; done) | (simp [*]; done) | (simp; omega) | (simp [*]; omega) | (simp [D32.len, -List.length_flatten, *]; done) | (simp [D32.len, -List.length_flatten, *]; omega))) rfl rfl ?_
                refine fs_qg 16 [9] [] rfl rfl (y_p rfl) rfl rfl ?_
                refine fs_qg 17 [9] [] rfl rfl (y_p rfl) rfl rfl ?_
                refine fs_qg 18 [9] [] rfl rfl (y_p rfl) rfl rfl ?_
                refine fs_qg 19 [9, 17, 18] [] rfl rfl (y_ixf j Tryd.underlying42 ti3 rfl rfl rfl (by omega) rfl) rfl rfl ?_
                refine fs_qg 20 [9, 19] [] rfl rfl (y_load ti3 rfl rfl (get_dig3 m j h68b)) rfl rfl ?_
                refine fs_call false 21 [9, 15, 16, 20] [] (gy1 rfl rfl) rfl (.cons (.pure pu) (.cons (.pure pu) (.cons (.pure pu) (.nil)))) (relem_ok (seedL x (i : Nat)) j (dg m j) (by simp) (by omega)) pu (.inl rfl) rfl rfl ?_
                refine fs_qg 22 [9, 14, 21] [] rfl rfl (y_aq Tryd.underlying23 Tryd.underlying5 ti5 (by kernel_rfl) rfl rfl hs32 ho32) rfl rfl ?_
                refine fs_end (by kernel_rfl) ?_
                refine s1 (y_p rfl) rfl <| ?_
                refine at_nil ?_
                refine x_tn ?_
                refine at_cond rfl (fun hc94 => ?_) (fun hc94 => ?_)
                · have hb := hc94
                  refine at_seq ?_
                  refine at_region ?_
                  refine s1 (y_p rfl) rfl <| s1 ((y_p rfl).v (v' := .i .i64 2) rfl) rfl <| s1 (y_p rfl) rfl <| ?_
                  refine at_nil ?_
                  refine x_tn ?_
                  refine at_ret ?_
                  refine x_br ?_
                  refine x_tr ?_
                  refine x_tr ?_
                  refine x_br ?_
                  refine x_tr ?_
                  refine at_result (rs := [.tmp 10, .tmp 11]) rfl (r_tmp rfl (r_tmp rfl r_nil)) ?_
                  exact forg_ret (forg_hit hver h54 h62 h68b ((bad_is hcs hs).trans hb) hall)
                · have hb := hc94
                  refine at_skip ?_
                  refine x_bn ?_
                  refine x_tn ?_
                  refine at_region ?_
                  refine s1 (y_p rfl) rfl <| s1 (addN _ 1 rfl rfl rfl rfl (by omega)) rfl <| s1 (y_p rfl) rfl <| ?_
                  refine at_nil ?_
                  exact at_end (j + 1) (⟨by omega, next_all hall ((bad_is hcs hs).trans hb)⟩) (by omega) [(9, some 9), (18, some 18)] hI rfl rfl ⟨⟨_, rfl, .p rfl⟩, ⟨_, rfl, .pure pu⟩, ⟨_, rfl, .pure pu⟩, ⟨_, rfl, .p rfl⟩, ⟨_, rfl, .pure pu⟩, trivial⟩ ⟨.inr ⟨_, _, rfl, rfl, .pure pul⟩, .inr ⟨_, _, rfl, rfl, .pure pul⟩, trivial⟩
              · skip
                refine at_fs ⟨_, [], []⟩ 23 4 hmix (le_refl rfl) ?_
                refine fs_q 0 [] [] (y_p rfl) rfl rfl ?_
                refine fs_q 1 [] [] (y_p rfl) rfl rfl ?_
                refine fs_q 2 [0, 1] [] (y_ixf j Tryd.underlying42 ti3 rfl rfl rfl (by omega) rfl) rfl rfl ?_
                refine fs_q 3 [2] [] (y_load ti3 rfl rfl (get_dig3 m j h68b)) rfl rfl ?_
                refine fs_q 4 [] [] (y_p rfl) rfl rfl ?_
                refine fs_q 5 [] [] (y_p rfl) rfl rfl ?_
                refine fs_q 6 [4, 5] [] (y_ixf j Tryd.underlying42 ti3 rfl rfl rfl (by omega) rfl) rfl rfl ?_
                refine fs_q 7 [6] [] (y_load ti3 rfl rfl (get_knw _ j h68b)) rfl rfl ?_
                refine fs_q 8 [3, 7] [] ((y_p rfl).v (v' := .b false) (congrArg A.b (decide_eq_false (by omega)))) rfl rfl ?_
                refine fs_q 9 [8] [] (y_p rfl) rfl rfl ?_
                refine fs_q0 10 [9] rfl rfl rfl rfl rfl ?_
                refine fs_q0 11 [9, 10] rfl rfl rfl rfl rfl ?_
                refine fs_q0 12 [9] rfl rfl rfl rfl rfl ?_
                refine fs_q0 13 [9, 11, 12] rfl rfl rfl rfl rfl ?_
                refine fs_q0 14 [9, 13] rfl rfl rfl rfl rfl ?_
                refine fs_q0 15 [9] rfl rfl rfl rfl rfl ?_
                refine fs_q0 16 [9] rfl rfl rfl rfl rfl ?_
                refine fs_q0 17 [9] rfl rfl rfl rfl rfl ?_
                refine fs_q0 18 [9] rfl rfl rfl rfl rfl ?_
                refine fs_q0 19 [9, 17, 18] rfl rfl rfl rfl rfl ?_
                refine fs_q0 20 [9, 19] rfl rfl rfl rfl rfl ?_
                refine fs_q0 21 [9, 15, 16, 20] rfl rfl rfl rfl rfl ?_
                refine fs_q0 22 [9, 14, 21] rfl rfl rfl rfl rfl ?_
                refine fs_end (by kernel_rfl) ?_
                refine s1 (y_p rfl) rfl <| ?_
                refine at_nil ?_
                refine x_tn ?_
                refine at_else rfl ?_
                refine at_skip ?_
                refine x_bn ?_
                refine x_tn ?_
                refine at_region ?_
                refine s1 (y_p rfl) rfl <| s1 (addN _ 1 rfl rfl rfl rfl (by omega)) rfl <| s1 (y_p rfl) rfl <| ?_
                refine at_nil ?_
                exact at_end (j + 1) (⟨by omega, next_all hall (bad_no hcs)⟩) (by omega) [(9, some 9), (18, some 18)] hI rfl rfl ⟨⟨_, rfl, .p rfl⟩, ⟨_, rfl, .pure pu⟩, ⟨_, rfl, .pure pu⟩, ⟨_, rfl, .p rfl⟩, ⟨_, rfl, .pure pu⟩, trivial⟩ ⟨.inr ⟨_, _, rfl, rfl, .pure pul⟩, .inr ⟨_, _, rfl, rfl, .pure pul⟩, trivial⟩
            · have h68b : j = 19 := by have := of_decide_eq_false hc68; omega
              subst h68b
              refine at_exit ?_
              refine x_te ?_
              refine x_te ?_
              refine x_be ?_
              refine x_tn ?_
              refine at_seq ?_
              refine at_region ?_
              refine s1 ((y_p rfl).v (v' := .i .i64 3) rfl) rfl <| s1 ((y_p rfl).v (v' := .i .i64 0) rfl) rfl <| ?_
              refine at_nil ?_
              refine x_tn ?_
              refine at_ret ?_
              refine at_result (rs := [.tmp 10, .tmp 11]) rfl (r_tmp rfl (r_tmp rfl r_nil)) ?_
              exact forg_ret (forg_else hver h54 h62 hall)
      · have h5 := hcs
        refine at_region ?_
        refine s1 (y_loadA0 ti23 rfl rfl (by first | rfl | omega | (simp; done) | (simp [*]; done) | (simp; omega) | (simp [*]; omega) | (simp [D32.len, -List.length_flatten, *]; done) | (simp [D32.len, -List.length_flatten, *]; omega))) rfl <| s1 ((y_bld0 ti23 rfl Tryd.underlying23 ti5 rfl).v (v' := .ag (zD.map u8)) (congrArg A.ag zD_cells)) rfl <| s1 ((y_aq Tryd.underlying23 Tryd.underlying5 ti5 (by kernel_rfl) rfl rfl (by first | assumption | (simp; done) | (simp [*]; done)) (by first | assumption | (simp; done) | (simp [*]; done))).v (v' := .b true) (congrArg A.b hcs)) rfl <| s1 (y_p rfl) rfl <| ?_
        refine at_nil ?_
        refine x_tn ?_
        refine at_seq ?_
        refine at_seq ?_
        refine at_region ?_
        refine s1 (y_loadA0 ti23 rfl rfl (by first | rfl | omega | (simp; done) | (simp [*]; done) | (simp; omega) | (simp [*]; omega) | (simp [D32.len, -List.length_flatten, *]; done) | (simp [D32.len, -List.length_flatten, *]; omega))) rfl <| s1 (y_loadA0 ti23 rfl rfl (by first | rfl | omega | (simp; done) | (simp [*]; done) | (simp; omega) | (simp [*]; omega) | (simp [D32.len, -List.length_flatten, *]; done) | (simp [D32.len, -List.length_flatten, *]; omega))) rfl <| s1 (y_aq Tryd.underlying23 Tryd.underlying5 ti5 (by kernel_rfl) rfl rfl (by first | assumption | (simp; done) | (simp [*]; done)) (by first | assumption | (simp; done) | (simp [*]; done))) rfl <| s1 (y_p rfl) rfl <| ?_
        refine g_and 2 rfl rfl rfl rfl (fun hb46 => .step (y_p rfl) rfl rfl <| .step (y_p rfl) rfl rfl <| .done) rfl rfl ?_
        refine at_say 49 rfl (v' := .b false) (congrArg A.b (by simp)) ?_
        refine at_nil ?_
        refine x_tn ?_
        refine at_else rfl ?_
        refine at_skip ?_
        refine x_tn ?_
        refine at_seq ?_
        refine at_region ?_
        refine s1 (y_loadA0 ti23 rfl rfl (by first | rfl | omega | (simp; done) | (simp [*]; done) | (simp; omega) | (simp [*]; omega) | (simp [D32.len, -List.length_flatten, *]; done) | (simp [D32.len, -List.length_flatten, *]; omega))) rfl <| ?_
        refine at_op rfl (n_call false rfl (.cons (.pure pu) (.nil)) (rdigits_ok m hm) pu (.inl rfl) rfl ?_)
        refine s1 (y_p rfl) rfl <| ?_
        refine at_nil ?_
        refine x_tn ?_
        refine at_seq ?_
        refine at_region ?_
        refine s1 (y_loadA0 ti23 rfl rfl (by first | rfl | omega | (simp; done) | (simp [*]; done) | (simp; omega) | (simp [*]; omega) | (simp [D32.len, -List.length_flatten, *]; done) | (simp [D32.len, -List.length_flatten, *]; omega))) rfl <| ?_
        refine at_op rfl (n_call false rfl (.cons (.pure pu) (.nil)) (rdigits_ok (sgnK L i) hq32) pu (.inl rfl) rfl ?_)
        refine s1 (y_p rfl) rfl <| ?_
        refine at_nil ?_
        refine x_tn ?_
        refine at_seq ?_
        refine at_seq ?_
        refine at_region ?_
        refine s1 (y_p rfl) rfl <| ?_
        refine at_nil ?_
        refine x_tn ?_
        refine at_then rfl ?_
        refine at_region ?_
        refine at_op rfl (n_call false rfl (.nil) (rlast_ok) pu (.inl rfl) rfl ?_)
        refine s1 (y_p rfl) rfl <| ?_
        refine at_nil ?_
        refine x_tn ?_
        refine at_seq ?_
        refine at_seq ?_
        refine at_region ?_
        refine s1 (y_p rfl) rfl <| s1 (y_p rfl) rfl <| s1 (y_p rfl) rfl <| g0 rfl rfl rfl rfl <| g0 rfl rfl rfl rfl <| g0 rfl rfl rfl rfl <| s1 (y_p rfl) rfl <| ?_
        refine at_nil ?_
        refine x_tn ?_
        refine at_else rfl ?_
        refine at_skip ?_
        refine x_tn ?_
        refine at_seq ?_
        have h54 : (!(sgnK L i == zD) && sgnK L i == m) = false := by rw [h5]; rfl
        have h62 : (!(sgnK L i == zD) && digits m == digits (sgnK L i)) = false := by rw [h5]; rfl
        refine at_say 17 rfl (v' := .fz 19 ((knwK (sgnK L i)).map nI)) (by rw [knw_yes h5]) ?_
        refine at_region ?_
        refine s1 (y_loadA0 ti23 rfl rfl (by first | rfl | omega | (simp; done) | (simp [*]; done) | (simp; omega) | (simp [*]; omega) | (simp [D32.len, -List.length_flatten, *]; done) | (simp [D32.len, -List.length_flatten, *]; omega))) rfl <| s1 (y_fld Tryd.underlying28 rfl ti3 (by decide) rfl rfl) rfl <| s1 (y_load ti3 rfl rfl rfl) rfl <| ?_
        refine at_op rfl (n_call false rfl (.cons (.pure pu) (.cons (.pure pu) (.nil))) (rseed_ok x (i : Nat) hx) pu (.inl rfl) rfl ?_)
        refine at_op rfl (n_alloc 18 rfl ti23 rfl rfl ?_)
        refine at_op rfl (n_storeA ti23 rfl rfl rfl (by first | rfl | omega | (simp; done) | (simp [*]; done) | (simp; omega) | (simp [*]; omega) | (simp [D32.len, -List.length_flatten, *]; done) | (simp [D32.len, -List.length_flatten, *]; omega)) (by first | rfl | omega | (simp; done) | (simp [*]; done) | (simp; omega) | (simp [*]; omega) | (simp [D32.len, -List.length_flatten, *]; done) | (simp [D32.len, -List.length_flatten, *]; omega)) ?_)
        refine at_nil ?_
        refine x_tn ?_
        refine at_seq ?_
        refine at_seq ?_
        refine at_region ?_
        refine s1 ((y_p rfl).v (v' := .i .i64 0) rfl) rfl <| ?_
        refine at_nil ?_
        refine x_tn ?_
        refine at_block ?_
        refine at_loop (ι := Nat) (fun j => [(9, .p 9 0), (16, .fz 19 ((digits m).map nI)), (17, .fz 19 ((knwK (sgnK L i)).map nI)), (18, .p 18 0), (19, nI j)]) (fun j => ⟨[(9, some ([nI i, dgs S, dgs P])), (18, some ((seedL x (i : Nat)).map u8))]⟩) (fun j => j ≤ 19 ∧ ∀ t, t < j → badK (seedL x (i : Nat)) m (sgnK L i) S t = false) (fun j => 19 - j) ?_ ?_
        · exact at_ex (0) (⟨by omega, fun t ht => absurd ht (by omega)⟩) [(9, some 9), (18, some 18)] hI rfl rfl ⟨⟨_, rfl, .p rfl⟩, ⟨_, rfl, .pure pu⟩, ⟨_, rfl, .pure pu⟩, ⟨_, rfl, .p rfl⟩, ⟨_, rfl, .pure pu⟩, trivial⟩ ⟨.inr ⟨_, _, rfl, rfl, .pure pul⟩, .inr ⟨_, _, rfl, rfl, .pure pul⟩, trivial⟩
        rintro j ⟨hj, hall⟩
        refine at_seq ?_
        refine at_seq ?_
        refine at_region ?_
        refine s1 (y_p rfl) rfl <| s1 (y_p rfl) rfl <| ?_
        refine at_nil ?_
        refine x_tn ?_
        refine at_cond rfl (fun hc68 => ?_) (fun hc68 => ?_)
        · have h68b : j < 19 := by have := of_decide_eq_true hc68; omega
          obtain ⟨s, hs⟩ : ∃ s, S[j]? = some s := ⟨_, List.getElem?_eq_getElem (by omega)⟩
          have hs32 := hS s (List.mem_of_getElem? hs)
          have ho32 := len_iterD (len_firstD (seedL x (i : Nat)) j) (dg m j)
          have hkn := kdg_le (sgnK L i) j
          have hdm := dg_lt m j
          refine at_skip ?_
          refine x_tn ?_
          refine at_seq ?_
          refine at_block ?_
          refine at_seq ?_
          rcases Decidable.em (dg m j < kdg (sgnK L i) j) with hcs | hcs
          · skip
            refine at_fs ⟨_, [], []⟩ 23 4 hmix (le_refl rfl) ?_
            refine fs_q 0 [] [] (y_p rfl) rfl rfl ?_
            refine fs_q 1 [] [] (y_p rfl) rfl rfl ?_
            refine fs_q 2 [0, 1] [] (y_ixf j Tryd.underlying42 ti3 rfl rfl rfl (by omega) rfl) rfl rfl ?_
            refine fs_q 3 [2] [] (y_load ti3 rfl rfl (get_dig3 m j h68b)) rfl rfl ?_
            refine fs_q 4 [] [] (y_p rfl) rfl rfl ?_
            refine fs_q 5 [] [] (y_p rfl) rfl rfl ?_
            refine fs_q 6 [4, 5] [] (y_ixf j Tryd.underlying42 ti3 rfl rfl rfl (by omega) rfl) rfl rfl ?_
            refine fs_q 7 [6] [] (y_load ti3 rfl rfl (get_knw _ j h68b)) rfl rfl ?_
            refine fs_q 8 [3, 7] [] ((y_p rfl).v (v' := .b true) (congrArg A.b (decide_eq_true (by omega)))) rfl rfl ?_
            refine fs_q 9 [8] [] (y_p rfl) rfl rfl ?_
            refine fs_qg 10 [9] [(9, none)] rfl rfl (y_fld Tryd.underlying28 rfl ti26 (by decide) rfl rfl) rfl rfl ?_
            refine fs_qg 11 [9, 10] [(9, none)] rfl rfl (y_load ti26 rfl rfl rfl) rfl rfl ?_
            refine fs_qg 12 [9] [] rfl rfl (y_p rfl) rfl rfl ?_
            refine fs_qg 13 [9, 11, 12] [] rfl rfl (y_ixf j Tryd.underlying26 ti23 rfl rfl rfl (by omega) rfl) rfl rfl ?_
            refine fs_qg 14 [9, 13] [] rfl rfl (y_loadA ti23 rfl rfl (get_d hS hs) (by rw [List.length_map]; exact hs32)) rfl rfl ?_
            refine fs_qg 15 [9] [(18, none)] rfl rfl (y_loadA0 ti23 rfl rfl (by first | rfl | omega | (simp; done) | (simp [*]; done) | (simp; omega) | (simp [*]; omega) | (simp [D32.len, -List.length_flatten, *]; done) | (simp [D32.len, -List.length_flatten, *]; omega))) rfl rfl ?_
            refine fs_qg 16 [9] [] rfl rfl (y_p rfl) rfl rfl ?_
            refine fs_qg 17 [9] [] rfl rfl (y_p rfl) rfl rfl ?_
            refine fs_qg 18 [9] [] rfl rfl (y_p rfl) rfl rfl ?_
            refine fs_qg 19 [9, 17, 18] [] rfl rfl (y_ixf j Tryd.underlying42 ti3 rfl rfl rfl (by omega) rfl) rfl rfl ?_
            refine fs_qg 20 [9, 19] [] rfl rfl (y_load ti3 rfl rfl (get_dig3 m j h68b)) rfl rfl ?_
            refine fs_call false 21 [9, 15, 16, 20] [] (gy1 rfl rfl) rfl (.cons (.pure pu) (.cons (.pure pu) (.cons (.pure pu) (.nil)))) (relem_ok (seedL x (i : Nat)) j (dg m j) (by simp) (by omega)) pu (.inl rfl) rfl rfl ?_
            refine fs_qg 22 [9, 14, 21] [] rfl rfl (y_aq Tryd.underlying23 Tryd.underlying5 ti5 (by kernel_rfl) rfl rfl hs32 ho32) rfl rfl ?_
            refine fs_end (by kernel_rfl) ?_
            refine s1 (y_p rfl) rfl <| ?_
            refine at_nil ?_
            refine x_tn ?_
            refine at_cond rfl (fun hc94 => ?_) (fun hc94 => ?_)
            · have hb := hc94
              refine at_seq ?_
              refine at_region ?_
              refine s1 (y_p rfl) rfl <| s1 ((y_p rfl).v (v' := .i .i64 2) rfl) rfl <| s1 (y_p rfl) rfl <| ?_
              refine at_nil ?_
              refine x_tn ?_
              refine at_ret ?_
              refine x_br ?_
              refine x_tr ?_
              refine x_tr ?_
              refine x_br ?_
              refine x_tr ?_
              refine at_result (rs := [.tmp 10, .tmp 11]) rfl (r_tmp rfl (r_tmp rfl r_nil)) ?_
              exact forg_ret (forg_hit hver h54 h62 h68b ((bad_is hcs hs).trans hb) hall)
            · have hb := hc94
              refine at_skip ?_
              refine x_bn ?_
              refine x_tn ?_
              refine at_region ?_
              refine s1 (y_p rfl) rfl <| s1 (addN _ 1 rfl rfl rfl rfl (by omega)) rfl <| s1 (y_p rfl) rfl <| ?_
              refine at_nil ?_
              exact at_end (j + 1) (⟨by omega, next_all hall ((bad_is hcs hs).trans hb)⟩) (by omega) [(9, some 9), (18, some 18)] hI rfl rfl ⟨⟨_, rfl, .p rfl⟩, ⟨_, rfl, .pure pu⟩, ⟨_, rfl, .pure pu⟩, ⟨_, rfl, .p rfl⟩, ⟨_, rfl, .pure pu⟩, trivial⟩ ⟨.inr ⟨_, _, rfl, rfl, .pure pul⟩, .inr ⟨_, _, rfl, rfl, .pure pul⟩, trivial⟩
          · skip
            refine at_fs ⟨_, [], []⟩ 23 4 hmix (le_refl rfl) ?_
            refine fs_q 0 [] [] (y_p rfl) rfl rfl ?_
            refine fs_q 1 [] [] (y_p rfl) rfl rfl ?_
            refine fs_q 2 [0, 1] [] (y_ixf j Tryd.underlying42 ti3 rfl rfl rfl (by omega) rfl) rfl rfl ?_
            refine fs_q 3 [2] [] (y_load ti3 rfl rfl (get_dig3 m j h68b)) rfl rfl ?_
            refine fs_q 4 [] [] (y_p rfl) rfl rfl ?_
            refine fs_q 5 [] [] (y_p rfl) rfl rfl ?_
            refine fs_q 6 [4, 5] [] (y_ixf j Tryd.underlying42 ti3 rfl rfl rfl (by omega) rfl) rfl rfl ?_
            refine fs_q 7 [6] [] (y_load ti3 rfl rfl (get_knw _ j h68b)) rfl rfl ?_
            refine fs_q 8 [3, 7] [] ((y_p rfl).v (v' := .b false) (congrArg A.b (decide_eq_false (by omega)))) rfl rfl ?_
            refine fs_q 9 [8] [] (y_p rfl) rfl rfl ?_
            refine fs_q0 10 [9] rfl rfl rfl rfl rfl ?_
            refine fs_q0 11 [9, 10] rfl rfl rfl rfl rfl ?_
            refine fs_q0 12 [9] rfl rfl rfl rfl rfl ?_
            refine fs_q0 13 [9, 11, 12] rfl rfl rfl rfl rfl ?_
            refine fs_q0 14 [9, 13] rfl rfl rfl rfl rfl ?_
            refine fs_q0 15 [9] rfl rfl rfl rfl rfl ?_
            refine fs_q0 16 [9] rfl rfl rfl rfl rfl ?_
            refine fs_q0 17 [9] rfl rfl rfl rfl rfl ?_
            refine fs_q0 18 [9] rfl rfl rfl rfl rfl ?_
            refine fs_q0 19 [9, 17, 18] rfl rfl rfl rfl rfl ?_
            refine fs_q0 20 [9, 19] rfl rfl rfl rfl rfl ?_
            refine fs_q0 21 [9, 15, 16, 20] rfl rfl rfl rfl rfl ?_
            refine fs_q0 22 [9, 14, 21] rfl rfl rfl rfl rfl ?_
            refine fs_end (by kernel_rfl) ?_
            refine s1 (y_p rfl) rfl <| ?_
            refine at_nil ?_
            refine x_tn ?_
            refine at_else rfl ?_
            refine at_skip ?_
            refine x_bn ?_
            refine x_tn ?_
            refine at_region ?_
            refine s1 (y_p rfl) rfl <| s1 (addN _ 1 rfl rfl rfl rfl (by omega)) rfl <| s1 (y_p rfl) rfl <| ?_
            refine at_nil ?_
            exact at_end (j + 1) (⟨by omega, next_all hall (bad_no hcs)⟩) (by omega) [(9, some 9), (18, some 18)] hI rfl rfl ⟨⟨_, rfl, .p rfl⟩, ⟨_, rfl, .pure pu⟩, ⟨_, rfl, .pure pu⟩, ⟨_, rfl, .p rfl⟩, ⟨_, rfl, .pure pu⟩, trivial⟩ ⟨.inr ⟨_, _, rfl, rfl, .pure pul⟩, .inr ⟨_, _, rfl, rfl, .pure pul⟩, trivial⟩
        · have h68b : j = 19 := by have := of_decide_eq_false hc68; omega
          subst h68b
          refine at_exit ?_
          refine x_te ?_
          refine x_te ?_
          refine x_be ?_
          refine x_tn ?_
          refine at_seq ?_
          refine at_region ?_
          refine s1 ((y_p rfl).v (v' := .i .i64 3) rfl) rfl <| s1 ((y_p rfl).v (v' := .i .i64 0) rfl) rfl <| ?_
          refine at_nil ?_
          refine x_tn ?_
          refine at_ret ?_
          refine at_result (rs := [.tmp 10, .tmp 11]) rfl (r_tmp rfl (r_tmp rfl r_nil)) ?_
          exact forg_ret (forg_else hver h54 h62 hall)
set_option linter.unusedSimpArgs false in
set_option linter.unusedVariables false in
set_option maxHeartbeats 1000000 in
set_option maxRecDepth 10000 in
theorem few_ok (n a : Int) (S P : List (List UInt8)) : Con Tryd.prog 11 [.i .i64 n, .ag [.i .i64 a, dgs S, dgs P]] (Ret (.b (fewK n S.length P.length))) := by
  refine enter Tryd.func11 rfl Tryd.ntmps11 (by kernel_rfl) (Nat.le_of_ble_eq_true rfl) fun w0 X0 hI => ?_
  refine at_seq ?_
  refine at_region ?_
  refine at_op rfl (n_boxA 3 rfl rfl rfl ?_)
  refine s1 (y_p rfl) rfl <| ?_
  refine at_nil ?_
  refine x_tn ?_
  refine at_seq ?_
  refine at_region ?_
  refine s1 (y_p rfl) rfl <| s1 (y_p rfl) rfl <| s1 (y_p rfl) rfl <| ?_
  refine g_or 2 rfl rfl rfl rfl (fun hb7 => .step (y_p rfl) rfl rfl <| .step (y_p rfl) rfl rfl <| .done) rfl rfl ?_
  refine s1 (y_p rfl) rfl <| ?_
  refine g_and 4 rfl rfl rfl rfl (fun hb11 => .step (y_fld Tryd.underlying28 rfl ti26 (by decide) rfl rfl) rfl rfl <| .step (y_load ti26 rfl rfl rfl) rfl rfl <| .step (y_len Tryd.underlying26 rfl rfl rfl) rfl rfl <| .step (y_p rfl) rfl rfl <| .done) rfl rfl ?_
  refine s1 (y_p rfl) rfl <| ?_
  refine g_and 4 rfl rfl rfl rfl (fun hb17 => .step (y_fld Tryd.underlying28 rfl ti26 (by decide) rfl rfl) rfl rfl <| .step (y_load ti26 rfl rfl rfl) rfl rfl <| .step (y_len Tryd.underlying26 rfl rfl rfl) rfl rfl <| .step (y_p rfl) rfl rfl <| .done) rfl rfl ?_
  refine s1 (y_p rfl) rfl <| ?_
  refine at_nil ?_
  refine x_tn ?_
  refine at_ret ?_
  refine at_result (rs := [.tmp 4]) rfl (r_tmp rfl r_nil) rfl
set_option linter.unusedSimpArgs false in
set_option linter.unusedVariables false in
set_option maxHeartbeats 1000000 in
set_option maxRecDepth 10000 in
theorem sameL_ok (a : Int) (S P : List (List UInt8)) (hS : D32 S) (hP : D32 P) : Con Tryd.prog 18 [.ag [.i .i64 a, dgs S, dgs P], .ag [.i .i64 a, dgs S, dgs P]] (Ret (.b true)) := by
  refine enter Tryd.func18 rfl Tryd.ntmps18 (by kernel_rfl) (Nat.le_of_ble_eq_true rfl) fun w0 X0 hI => ?_
  refine at_seq ?_
  refine at_region ?_
  refine at_op rfl (n_boxA 2 rfl rfl rfl ?_)
  refine at_op rfl (n_boxA 3 rfl rfl rfl ?_)
  refine s1 (y_p rfl) rfl <| ?_
  refine at_nil ?_
  refine x_tn ?_
  refine at_seq ?_
  refine at_region ?_
  refine s1 (y_fld Tryd.underlying28 rfl ti3 (by decide) rfl rfl) rfl <| s1 (y_load ti3 rfl rfl rfl) rfl <| s1 (y_fld Tryd.underlying28 rfl ti3 (by decide) rfl rfl) rfl <| s1 (y_load ti3 rfl rfl rfl) rfl <| s1 ((y_p rfl).v (v' := .b true) (congrArg A.b (by simp))) rfl <| s1 (y_p rfl) rfl <| g1 rfl rfl (y_fld Tryd.underlying28 rfl ti26 (by decide) rfl rfl) rfl <| g1 rfl rfl (y_load ti26 rfl rfl rfl) rfl <| g1 rfl rfl (y_fld Tryd.underlying28 rfl ti26 (by decide) rfl rfl) rfl <| g1 rfl rfl (y_load ti26 rfl rfl rfl) rfl <| ?_
  refine at_opg rfl rfl rfl (n_call false rfl (.cons (.pure pu) (.cons (.pure pu) (.nil))) (Con.cast (same_ok S S hS hS) (congrArg A.b (by simp : _ = true))) pu (.inl rfl) rfl ?_)
  refine s1 (y_p rfl) rfl <| s1 (y_p rfl) rfl <| g1 rfl rfl (y_fld Tryd.underlying28 rfl ti26 (by decide) rfl rfl) rfl <| g1 rfl rfl (y_load ti26 rfl rfl rfl) rfl <| g1 rfl rfl (y_fld Tryd.underlying28 rfl ti26 (by decide) rfl rfl) rfl <| g1 rfl rfl (y_load ti26 rfl rfl rfl) rfl <| ?_
  refine at_opg rfl rfl rfl (n_call false rfl (.cons (.pure pu) (.cons (.pure pu) (.nil))) (Con.cast (same_ok P P hP hP) (congrArg A.b (by simp : _ = true))) pu (.inl rfl) rfl ?_)
  refine s1 (y_p rfl) rfl <| s1 (y_p rfl) rfl <| ?_
  refine at_nil ?_
  refine x_tn ?_
  refine at_ret ?_
  refine at_result (rs := [.tmp 4]) rfl (r_tmp rfl r_nil) rfl
end Go.Abs.D2
