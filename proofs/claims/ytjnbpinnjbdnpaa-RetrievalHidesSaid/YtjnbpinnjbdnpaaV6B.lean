/-
  Layer 2: walks of the digest functions. Conditions: each theorem says its own.
-/
import Derived.Test.YtjnbpinnjbdnpaaTy
import Derived.Test.YtjnbpinnjbdnpaaV6Q
namespace Go.Abs.D2
open Go Go.Eng Go.Abs Go.Proofs 

set_option linter.unusedSimpArgs false in
set_option linter.unusedVariables false in
set_option maxHeartbeats 1000000 in
set_option maxRecDepth 10000 in
theorem cloneB_ok (D : List UInt8) (h : 0 < D.length) (hD : D.length ≤ 1000000) : Con Try.prog 39 [.fz D.length (D.map u8)] (RetO 1 D.length (D.map u8)) := by
  refine enter Try.func39 rfl Try.ntmps39 (by kernel_rfl) (Nat.le_of_ble_eq_true rfl) fun w0 X0 hI => ?_
  refine at_seq ?_
  refine at_region ?_
  refine s1 (y_p rfl) rfl <| ?_
  refine at_nil ?_
  refine x_tn ?_
  refine at_seq ?_
  refine at_seq ?_
  refine at_region ?_
  refine s1 (y_p rfl) rfl <| s1 (y_fznil Try.underlying22 rfl rfl h) rfl <| ?_
  refine at_nil ?_
  refine x_tn ?_
  refine at_else rfl ?_
  refine at_skip ?_
  refine x_tn ?_
  refine at_seq ?_
  refine at_region ?_
  refine at_op rfl (n_bs1 5 rfl Try.underlying22 ti5 rfl rfl rfl rfl rfl ?_)
  refine s1 (y_p rfl) rfl <| ?_
  refine at_op rfl (n_app 7 rfl Try.underlying22 ti5 rfl (.sl rfl (by first | rfl | omega | (simp; done) | (simp [*]; done) | (simp; omega) | (simp [*]; omega) | (simp [D32.len, -List.length_flatten, *]; done) | (simp [D32.len, -List.length_flatten, *]; omega))) rfl rfl (by first | rfl | omega | (simp; done) | (simp [*]; done) | (simp; omega) | (simp [*]; omega) | (simp [D32.len, -List.length_flatten, *]; done) | (simp [D32.len, -List.length_flatten, *]; omega)) (by first | omega | (simp only [maxLen]; omega) | (simp [maxLen]; done) | (simp [maxLen]; omega) | (simp [maxLen, *]; omega)) (by first | omega | (simp only [maxLen]; omega) | (simp [maxLen]; done) | (simp [maxLen]; omega) | (simp [maxLen, *]; omega)) rfl rfl rfl ?_)
  refine s1 (y_p rfl) rfl <| ?_
  refine at_nil ?_
  refine x_tn ?_
  refine at_ret ?_
  refine at_result (rs := [.tmp 2]) rfl (r_tmp rfl r_nil) ⟨7, congrArg (A.sl 7 1 0) (Nat.zero_add _), rfl⟩

set_option linter.unusedSimpArgs false in
set_option linter.unusedVariables false in
set_option maxHeartbeats 1000000 in
set_option maxRecDepth 10000 in
theorem vsized_ok (many : Int) (l : List UInt8) : Con Try.prog 24 [.i .i64 many, .fz l.length (l.map u8)] (Ret (.b (V6.sized many l.length))) := by
  refine enter Try.func24 rfl Try.ntmps24 (by kernel_rfl) (Nat.le_of_ble_eq_true rfl) fun w0 X0 hI => ?_
  refine at_seq ?_
  refine at_region ?_
  refine s1 (y_p rfl) rfl <| ?_
  refine at_nil ?_
  refine x_tn ?_
  refine at_seq ?_
  rcases Decidable.em (1 ≤ many ∧ many ≤ 1024) with hcs | hcs
  · obtain ⟨m, rfl⟩ : ∃ m : Nat, many = (m : Int) := ⟨many.toNat, by omega⟩
    refine at_region ?_
    refine s1 (y_p rfl) rfl <| s1 (y_p rfl) rfl <| s1 (y_p rfl) rfl <| ?_
    refine g_and 2 rfl rfl rfl rfl (fun hb7 => .step (y_p rfl) rfl rfl <| .step (y_p rfl) rfl rfl <| .done) rfl rfl ?_
    refine at_say 10 rfl (v' := .b true) (congrArg A.b (by simp; omega)) ?_
    refine s1 (y_p rfl) rfl <| g1 rfl rfl (y_p rfl) rfl <| g1 rfl rfl (y_len Try.underlying22 rfl rfl rfl) rfl <| g1 rfl rfl (y_p rfl) rfl <| g1 rfl rfl (addN m 7 rfl rfl rfl rfl (by omega)) rfl <| g1 rfl rfl (quoN (m + 7) 8 rfl rfl rfl rfl (by omega) (by omega)) rfl <| g1 rfl rfl (y_p rfl) rfl <| s1 (y_p rfl) rfl <| s1 (y_p rfl) rfl <| ?_
    refine at_nil ?_
    refine x_tn ?_
    refine at_ret ?_
    refine at_result (rs := [.tmp 4]) rfl (r_tmp rfl r_nil) ?_
    exact congrArg A.b ((V6.sized_yes hcs.1 hcs.2).trans rfl).symm
  · skip
    refine at_region ?_
    refine s1 (y_p rfl) rfl <| s1 (y_p rfl) rfl <| s1 (y_p rfl) rfl <| ?_
    refine g_and 2 rfl rfl rfl rfl (fun hb7 => .step (y_p rfl) rfl rfl <| .step (y_p rfl) rfl rfl <| .done) rfl rfl ?_
    refine at_say 10 rfl (v' := .b false) (congrArg A.b (by simp; omega)) ?_
    refine s1 (y_p rfl) rfl <| g0 rfl rfl rfl rfl <| g0 rfl rfl rfl rfl <| g0 rfl rfl rfl rfl <| g0 rfl rfl rfl rfl <| g0 rfl rfl rfl rfl <| g0 rfl rfl rfl rfl <| s1 (y_p rfl) rfl <| s1 (y_p rfl) rfl <| ?_
    refine at_nil ?_
    refine x_tn ?_
    refine at_ret ?_
    refine at_result (rs := [.tmp 4]) rfl (r_tmp rfl r_nil) ?_
    exact congrArg A.b (V6.sized_no hcs).symm

set_option linter.unusedSimpArgs false in
set_option linter.unusedVariables false in
set_option maxHeartbeats 1000000 in
set_option maxRecDepth 10000 in
theorem vcut_5_7 (l : List UInt8) (n m : Nat) (hl : l.length = n) (hm : n = (m + 7) / 8) (hm2 : m ≤ 1024) : ConS Try.prog 40 [.p 5 0, .i .i64 (m : Nat)] ⟨[(5, some [.sl 7 1 0 n]), (7, some (l.map u8))]⟩ (RetS (.tu []) [(5, [.sl 7 1 0 n]), (7, (V6.cut m l).map u8)]) := by
  refine enterS Try.func40 rfl Try.ntmps40 (by kernel_rfl) (Nat.le_of_ble_eq_true rfl) fun w0 X0 hI => ?_
  refine at_seq ?_
  refine at_region ?_
  refine s1 (y_p rfl) rfl <| s1 (remN m 8 rfl rfl rfl rfl (by omega)) rfl <| s1 (y_p rfl) rfl <| ?_
  refine at_nil ?_
  refine x_tn ?_
  refine at_seq ?_
  refine at_region ?_
  refine s1 (y_p rfl) rfl <| s1 (y_p rfl) rfl <| ?_
  refine at_nil ?_
  refine x_tn ?_
  refine at_cond rfl (fun hc8 => ?_) (fun hc8 => ?_)
  · have h8 : m % 8 ≠ 0 := by simp at hc8; omega
    refine at_draw_tail 12 hmix (by kernel_rfl) ?_
    refine t1 (y_p rfl) rfl <| t1 (y_nilc rfl rfl) rfl <| t1 (y_load ti51 rfl rfl rfl) rfl <| t1 (y_p rfl) rfl <| t1 (quoN m 8 rfl rfl rfl rfl (by omega) (by omega)) rfl <| t1 (y_ixs (m / 8) Try.underlying51 ti5 rfl rfl rfl rfl (by omega) rfl) rfl <| t1 (y_load ti5 rfl rfl (V6.getO (by omega))) rfl <| t1 (y_p rfl) rfl <| t1 (shl1B (m % 8) rfl rfl rfl (by omega)) rfl <| t1 ((y_p rfl).v (congrArg (A.i .u8) (V6.subB _ (by omega)))) rfl <| ?_
    refine t1 (andB _ _ rfl rfl) rfl <| t1 (y_ixs (m / 8) Try.underlying51 ti5 rfl rfl rfl rfl (by omega) rfl) rfl <| ?_
    refine at_snil ?_
    refine at_op rfl (n_store1 ti5 rfl rfl rfl rfl (by simp; omega) (V6.cutC h8) ?_)
    refine at_nil ?_
    refine at_result' (rs := []) rfl r_nil ?_
    exact retS_2 rfl rfl
  · have h8 : m % 8 = 0 := by simp at hc8; omega
    refine at_skip ?_
    refine at_result' (rs := []) rfl r_nil ?_
    exact retS_2 rfl (by rw [V6.cut_0 h8]; rfl)

set_option linter.unusedSimpArgs false in
set_option linter.unusedVariables false in
set_option maxHeartbeats 1000000 in
set_option maxRecDepth 10000 in
theorem vchange_9_23 (l : List UInt8) (n m : Nat) (hl : l.length = n) (hm : m / 8 < n) (hm2 : m ≤ 1024) : ConS Try.prog 26 [.p 9 0, .i .i64 (m : Nat)] ⟨[(9, some [.sl 23 1 0 n]), (23, some (l.map u8))]⟩ (RetS (.tu []) [(9, [.sl 23 1 0 n]), (23, (V6.change l m).map u8)]) := by
  refine enterS Try.func26 rfl Try.ntmps26 (by kernel_rfl) (Nat.le_of_ble_eq_true rfl) fun w0 X0 hI => ?_
  refine at_draw_tail 12 hmix (by kernel_rfl) ?_
  refine t1 (y_p rfl) rfl <| t1 (y_nilc rfl rfl) rfl <| t1 (y_load ti51 rfl rfl rfl) rfl <| t1 (y_p rfl) rfl <| t1 (quoN m 8 rfl rfl rfl rfl (by omega) (by omega)) rfl <| t1 (y_ixs (m / 8) Try.underlying51 ti5 rfl rfl rfl rfl (by omega) rfl) rfl <| t1 (y_load ti5 rfl rfl (V6.getO (by omega))) rfl <| t1 (y_p rfl) rfl <| t1 (remN m 8 rfl rfl rfl rfl (by omega)) rfl <| t1 (shl1B (m % 8) rfl rfl rfl (by omega)) rfl <| ?_
  refine t1 (xorB _ _ rfl rfl) rfl <| t1 (y_ixs (m / 8) Try.underlying51 ti5 rfl rfl rfl rfl (by omega) rfl) rfl <| ?_
  refine at_snil ?_
  refine at_op rfl (n_store1 ti5 rfl rfl rfl rfl (by simp; omega) (V6.changeC _ _) ?_)
  refine at_nil ?_
  refine at_result' (rs := []) rfl r_nil ?_
  exact retS_2 rfl rfl

set_option linter.unusedSimpArgs false in
set_option linter.unusedVariables false in
set_option maxHeartbeats 1000000 in
set_option maxRecDepth 10000 in
theorem vchange_15_38 (l : List UInt8) (n m : Nat) (hl : l.length = n) (hm : m / 8 < n) (hm2 : m ≤ 1024) : ConS Try.prog 26 [.p 15 0, .i .i64 (m : Nat)] ⟨[(15, some [.sl 38 1 0 n]), (38, some (l.map u8))]⟩ (RetS (.tu []) [(15, [.sl 38 1 0 n]), (38, (V6.change l m).map u8)]) := by
  refine enterS Try.func26 rfl Try.ntmps26 (by kernel_rfl) (Nat.le_of_ble_eq_true rfl) fun w0 X0 hI => ?_
  refine at_draw_tail 12 hmix (by kernel_rfl) ?_
  refine t1 (y_p rfl) rfl <| t1 (y_nilc rfl rfl) rfl <| t1 (y_load ti51 rfl rfl rfl) rfl <| t1 (y_p rfl) rfl <| t1 (quoN m 8 rfl rfl rfl rfl (by omega) (by omega)) rfl <| t1 (y_ixs (m / 8) Try.underlying51 ti5 rfl rfl rfl rfl (by omega) rfl) rfl <| t1 (y_load ti5 rfl rfl (V6.getO (by omega))) rfl <| t1 (y_p rfl) rfl <| t1 (remN m 8 rfl rfl rfl rfl (by omega)) rfl <| t1 (shl1B (m % 8) rfl rfl rfl (by omega)) rfl <| ?_
  refine t1 (xorB _ _ rfl rfl) rfl <| t1 (y_ixs (m / 8) Try.underlying51 ti5 rfl rfl rfl rfl (by omega) rfl) rfl <| ?_
  refine at_snil ?_
  refine at_op rfl (n_store1 ti5 rfl rfl rfl rfl (by simp; omega) (V6.changeC _ _) ?_)
  refine at_nil ?_
  refine at_result' (rs := []) rfl r_nil ?_
  exact retS_2 rfl rfl

set_option linter.unusedSimpArgs false in
set_option linter.unusedVariables false in
set_option maxHeartbeats 1000000 in
set_option maxRecDepth 10000 in
theorem vchooses_ok (l : List UInt8) (k : Nat) (hk : k / 8 < l.length) (hk2 : k ≤ 1024) : Con Try.prog 34 [.fp [.fz l.length (l.map u8)], nV k] (Ret (.b (V6.chooses l k))) := by
  refine enter Try.func34 rfl Try.ntmps34 (by kernel_rfl) (Nat.le_of_ble_eq_true rfl) fun w0 X0 hI => ?_
  refine at_seq ?_
  refine at_region ?_
  refine s1 (y_p rfl) rfl <| ?_
  refine at_nil ?_
  refine x_tn ?_
  refine at_seq ?_
  refine at_region ?_
  refine s1 (y_p rfl) rfl <| s1 (y_nilc rfl rfl) rfl <| s1 (y_load ti51 rfl rfl rfl) rfl <| s1 (y_p rfl) rfl <| s1 (quoN _ 8 rfl rfl rfl rfl (by omega) (by omega)) rfl <| s1 (y_ixf (k / 8) Try.underlying51 ti5 rfl rfl rfl hk rfl) rfl <| s1 (y_load ti5 rfl rfl (V6.getF hk)) rfl <| s1 (y_p rfl) rfl <| s1 (remN _ 8 rfl rfl rfl rfl (by omega)) rfl <| s1 (shrB (l.getD (k / 8) 0) (k % 8) rfl rfl rfl (by omega)) rfl <| ?_
  refine s1 (andB _ _ rfl rfl) rfl <| s1 ((y_p rfl).v (v' := .b (V6.chooses l k)) (congrArg A.b (V6.choosesC _ _))) rfl <| s1 (y_p rfl) rfl <| ?_
  refine at_nil ?_
  refine x_tn ?_
  refine at_ret ?_
  refine at_result (rs := [.tmp 4]) rfl (r_tmp rfl (r_nil)) rfl

set_option linter.unusedSimpArgs false in
set_option linter.unusedVariables false in
set_option maxHeartbeats 1000000 in
set_option maxRecDepth 10000 in
theorem vmaskOf_ok (l : List UInt8) (m : Nat) (hm : l.length = (m + 7) / 8) (hm1 : 1 ≤ m) (hm2 : m ≤ 1024) : Con Try.prog 25 [nV m, .fz l.length (l.map u8)] (RetO 1 l.length ((V6.cut m l).map u8)) := by
  refine enter Try.func25 rfl Try.ntmps25 (by kernel_rfl) (Nat.le_of_ble_eq_true rfl) fun w0 X0 hI => ?_
  refine at_seq ?_
  refine at_region ?_
  refine s1 (y_p rfl) rfl <| ?_
  refine at_nil ?_
  refine x_tn ?_
  refine at_seq ?_
  refine at_region ?_
  refine s1 (y_p rfl) rfl <| ?_
  refine at_op rfl (n_callO 7 rfl false rfl (.cons (.pure pu) (.nil)) (cloneB_ok l (by omega) (by omega)) pul (.inl rfl) rfl ?_)
  refine at_op rfl (n_alloc 5 rfl ti51 rfl rfl ?_)
  refine at_op rfl (n_store1 ti51 rfl rfl rfl rfl (by first | rfl | omega | (simp; done) | (simp [*]; done) | (simp; omega) | (simp [*]; omega) | (simp [D32.len, -List.length_flatten, *]; done) | (simp [D32.len, -List.length_flatten, *]; omega)) rfl ?_)
  refine at_nil ?_
  refine x_tn ?_
  refine at_seq ?_
  refine at_region ?_
  refine s1 (y_p rfl) rfl <| ?_
  refine at_op rfl (n_callK ⟨[(5, some [.sl 7 1 0 l.length]), (7, some (l.map u8))]⟩ [(5, [.sl 7 1 0 l.length]), (7, (V6.cut m l).map u8)] true rfl ⟨⟨rfl, .cons (.ksl rfl) .nil⟩, ⟨rfl, VwL.pure pul⟩, trivial⟩ (.cons (.kp rfl) (.cons (.pure pu) .nil)) (vcut_5_7 l l.length m rfl hm hm2) trivial (.inr trivial) (upd_K2 rfl rfl (KpL_sl rfl) (KpL_pure pul (.inr ful))) rfl ?_)
  refine at_nil ?_
  refine x_tn ?_
  refine at_seq ?_
  refine at_region ?_
  refine s1 (y_load ti51 rfl rfl rfl) rfl <| s1 (y_p rfl) rfl <| ?_
  refine at_nil ?_
  refine x_tn ?_
  refine at_ret ?_
  refine at_result (rs := [.tmp 4]) rfl (r_tmp rfl r_nil) ⟨7, rfl, rfl⟩

set_option linter.unusedSimpArgs false in
set_option linter.unusedVariables false in
set_option maxHeartbeats 1000000 in
set_option maxRecDepth 10000 in
theorem vmasks_ok (many a : Int) (l : List UInt8) : Con Try.prog 10 [.i .i64 many, .i .i64 a, .fz l.length (l.map u8)] (Ret (masksA many a l)) := by
  refine enter Try.func10 rfl Try.ntmps10 (by kernel_rfl) (Nat.le_of_ble_eq_true rfl) fun w0 X0 hI => ?_
  refine at_seq ?_
  refine at_region ?_
  refine s1 (y_p rfl) rfl <| s1 (y_p rfl) rfl <| s1 ((y_p rfl).v (v' := .i .i64 0) rfl) rfl <| ?_
  refine at_nil ?_
  refine x_tn ?_
  refine at_seq ?_
  refine at_seq ?_
  rcases tfV (V6.sized many l.length) with hcs | hcs
  · skip
    refine at_region ?_
    refine s1 (y_p rfl) rfl <| s1 (y_p rfl) rfl <| ?_
    refine at_op rfl (n_call false rfl (.cons (.pure pu) (.cons (.pure pu) (.nil))) (Con.cast (vsized_ok many l) (congrArg A.b hcs)) pu (.inl rfl) rfl ?_)
    refine s1 (y_p rfl) rfl <| ?_
    refine at_nil ?_
    refine x_tn ?_
    refine at_then rfl ?_
    refine at_seq ?_
    refine at_region ?_
    refine s1 (y_p rfl) rfl <| s1 (y_p rfl) rfl <| s1 ((y_p rfl).v (v' := .i .i64 360) rfl) rfl <| ?_
    refine at_nil ?_
    refine x_tn ?_
    refine at_ret ?_
    refine x_tr ?_
    refine at_result (rs := [.tmp 6, .tmp 7, .tmp 8]) rfl (r_tmp rfl (r_tmp rfl (r_tmp rfl r_nil))) ?_
    exact (masksA_no hcs).symm
  · obtain ⟨m, rfl, h1, h2, h3⟩ := V6.sized_spec hcs
    have hsz := hcs
    refine at_region ?_
    refine s1 (y_p rfl) rfl <| s1 (y_p rfl) rfl <| ?_
    refine at_op rfl (n_call false rfl (.cons (.pure pu) (.cons (.pure pu) (.nil))) (Con.cast (vsized_ok m l) (congrArg A.b hcs)) pu (.inl rfl) rfl ?_)
    refine s1 (y_p rfl) rfl <| ?_
    refine at_nil ?_
    refine x_tn ?_
    refine at_else rfl ?_
    refine at_skip ?_
    refine x_tn ?_
    refine at_seq ?_
    refine at_seq ?_
    refine at_region ?_
    refine s1 (y_p rfl) rfl <| s1 (y_p rfl) rfl <| s1 (y_p rfl) rfl <| ?_
    refine g_or 3 rfl rfl rfl rfl (fun hb16 => .step (y_p rfl) rfl rfl <| .step (y_p rfl) rfl rfl <| .step (y_p rfl) rfl rfl <| .done) rfl rfl ?_
    refine at_nil ?_
    refine x_tn ?_
    refine at_cond rfl (fun hc20 => ?_) (fun hc20 => ?_)
    · have h20 : ¬ (0 ≤ a ∧ a < (m : Int)) := by simp at hc20; omega
      refine at_seq ?_
      refine at_region ?_
      refine s1 (y_p rfl) rfl <| s1 (y_p rfl) rfl <| s1 ((y_p rfl).v (v' := .i .i64 1) rfl) rfl <| ?_
      refine at_nil ?_
      refine x_tn ?_
      refine at_ret ?_
      refine x_tr ?_
      refine at_result (rs := [.tmp 6, .tmp 7, .tmp 8]) rfl (r_tmp rfl (r_tmp rfl (r_tmp rfl r_nil))) ?_
      exact (masksA_arg hsz h20).symm
    · obtain ⟨k, rfl, hk⟩ : ∃ k : Nat, a = (k : Int) ∧ k < m := ⟨a.toNat, by simp at hc20; omega, by simp at hc20; omega⟩
      refine at_skip ?_
      refine x_tn ?_
      refine at_seq ?_
      refine at_region ?_
      refine s1 (y_p rfl) rfl <| s1 (y_p rfl) rfl <| ?_
      refine at_op rfl (n_callO 23 rfl false rfl (.cons (.pure pu) (.cons (.pure pu) (.nil))) (vmaskOf_ok l m h3 h1 h2) pul (.inl rfl) rfl ?_)
      refine at_op rfl (n_alloc 9 rfl ti51 rfl rfl ?_)
      refine at_op rfl (n_store1 ti51 rfl rfl rfl rfl (by first | rfl | omega | (simp; done) | (simp [*]; done) | (simp; omega) | (simp [*]; omega) | (simp [D32.len, -List.length_flatten, *]; done) | (simp [D32.len, -List.length_flatten, *]; omega)) rfl ?_)
      refine at_nil ?_
      refine x_tn ?_
      refine at_seq ?_
      refine at_region ?_
      refine s1 (y_p rfl) rfl <| ?_
      refine at_op rfl (n_callK ⟨[(9, some [.sl 23 1 0 l.length]), (23, some ((V6.cut m l).map u8))]⟩ [(9, [.sl 23 1 0 l.length]), (23, (V6.change (V6.cut m l) k).map u8)] true rfl ⟨⟨rfl, .cons (.ksl rfl) .nil⟩, ⟨rfl, VwL.pure pul⟩, trivial⟩ (.cons (.kp rfl) (.cons (.pure pu) .nil)) (vchange_9_23 (V6.cut m l) l.length k (V6.len_cut m l) (by omega) (by omega)) trivial (.inr trivial) (upd_K2 rfl rfl (KpL_sl rfl) (KpL_pure pul (.inr ful))) rfl ?_)
      refine at_nil ?_
      refine x_tn ?_
      refine at_seq ?_
      refine at_fs ⟨_, [6], []⟩ 5 4 hmix (le_refl rfl) ?_
      refine fs_q 0 [] [] (y_p rfl) rfl rfl ?_
      refine fs_q 1 [] [] (y_p rfl) rfl rfl ?_
      refine fs_callO 28 false 2 [0, 1] [] gy0 rfl (.cons (.pure pu) (.cons (.pure pu) (.nil))) (vmaskOf_ok l m h3 h1 h2) pul (.inl rfl) rfl rfl ?_
      refine fs_q 3 [] [(9, none)] (y_load ti51 rfl rfl rfl) rfl rfl ?_
      refine fs_q 4 [2] [(28, some 2)] (y_p rfl) rfl rfl ?_
      refine fs_end (by kernel_rfl) ?_
      refine s1 (y_p rfl) rfl <| s1 ((y_p rfl).v (v' := .i .i64 0) rfl) rfl <| ?_
      refine at_nil ?_
      refine x_tn ?_
      refine at_ret ?_
      refine at_frz 6 rfl rfl pul (view_eq (by rw [List.length_map, V6.len_cut, Nat.mul_one]) rfl) ?_
      refine at_frz 7 rfl rfl pul (view_eq (by rw [List.length_map, V6.len_change, V6.len_cut, Nat.mul_one]) rfl) ?_
      refine at_result (rs := [.tmp 6, .tmp 7, .tmp 8]) rfl (r_tmp rfl (r_tmp rfl (r_tmp rfl r_nil))) ?_
      show A.tu _ = _
      rw [masksA_yes hsz hk, V6.slV, V6.slV, V6.len_change, V6.len_cut]

set_option linter.unusedSimpArgs false in
set_option linter.unusedVariables false in
set_option maxHeartbeats 1000000 in
set_option maxRecDepth 10000 in
theorem vadd_14 (s : List UInt8) (ls : List (List UInt8)) (hs : s.length = 16) (hls : ∀ q ∈ ls, q.length = 16) (hn : ls.length ≤ 1000) : ConS Try.prog 35 [.sl 14 1 0 16, .fz ls.length (ls.map V6.slV)] ⟨[(14, some (s.map u8))]⟩ (RetS (.tu []) [(14, (ls.foldl V6.xorL s).map u8)]) := by
  refine enterS Try.func35 rfl Try.ntmps35 (by kernel_rfl) (Nat.le_of_ble_eq_true rfl) fun w0 X0 hI => ?_
  refine at_seq ?_
  refine at_region ?_
  refine s1 (y_p rfl) rfl <| s1 (y_len Try.underlying30 rfl rfl rfl) rfl <| s1 ((y_p rfl).v (v' := .i .i64 0) rfl) rfl <| ?_
  refine at_nil ?_
  refine x_tn ?_
  refine at_block ?_
  refine at_loop (ι := Nat) (fun j => [(0, .sl 14 1 0 16), (7, .fz ls.length (ls.map V6.slV)), (8, nV ls.length), (9, nV j)]) (fun j => ⟨[(14, some ((V6.foldTo s ls j).map u8))]⟩) (fun j => j ≤ ls.length) (fun j => ls.length - j) ?_ ?_
  · exact at_ex (0) (Nat.zero_le _) [(14, some 14)] hI rfl rfl ⟨⟨_, rfl, .sl rfl (by first | rfl | omega | (simp; done) | (simp [*]; done) | (simp; omega) | (simp [*]; omega) | (simp [D32.len, -List.length_flatten, *]; done) | (simp [D32.len, -List.length_flatten, *]; omega))⟩, ⟨_, rfl, .pure pu⟩, ⟨_, rfl, .pure pu⟩, ⟨_, rfl, .pure pu⟩, trivial⟩ ⟨.inr ⟨_, _, rfl, rfl, .of (by rfl) (.pure pul)⟩, trivial⟩
  rintro j hj
  have hfl : (V6.foldTo s ls j).length = 16 := (V6.len_foldTo (fun b hb => by rw [hs, hls b hb]; exact Nat.le_refl _) j hj).trans hs
  refine at_seq ?_
  refine at_region ?_
  refine s1 (y_p rfl) rfl <| ?_
  refine at_nil ?_
  refine x_tn ?_
  refine at_seq ?_
  refine at_cond rfl (fun hc10 => ?_) (fun hc10 => ?_)
  · have h10 : j < ls.length := by have := of_decide_eq_true hc10; omega
    obtain ⟨q, hq⟩ : ∃ q, ls[j]? = some q := ⟨_, List.getElem?_eq_getElem h10⟩
    have hq16 := hls q (List.mem_of_getElem? hq)
    refine at_skip ?_
    refine x_tn ?_
    refine at_seq ?_
    refine at_block ?_
    refine at_seq ?_
    refine at_region ?_
    refine s1 (y_ixf j Try.underlying30 ti22 rfl rfl rfl (by omega) rfl) rfl <| s1 (y_load ti22 rfl rfl (V6.getR hq)) rfl <| s1 (y_p rfl) rfl <| ?_
    refine at_nil ?_
    refine x_tn ?_
    refine at_seq ?_
    refine at_region ?_
    refine s1 (y_p rfl) rfl <| s1 (y_len Try.underlying22 rfl rfl rfl) rfl <| s1 ((y_p rfl).v (v' := .i .i64 0) rfl) rfl <| ?_
    refine at_nil ?_
    refine x_tn ?_
    refine at_block ?_
    refine at_loop (ι := Nat) (fun i => [(0, .sl 14 1 0 16), (5, V6.slV q), (7, .fz ls.length (ls.map V6.slV)), (8, nV ls.length), (9, nV j), (13, .sl 14 1 0 16), (14, nV 16), (15, nV i)]) (fun i => ⟨[(14, some ((V6.xorTo (V6.foldTo s ls j) q i).map u8))]⟩) (fun i => i ≤ 16) (fun i => 16 - i) ?_ ?_
    · exact at_ex (0) (Nat.zero_le _) [(14, some 14)] hI rfl rfl ⟨⟨_, rfl, .sl rfl (by first | rfl | omega | (simp; done) | (simp [*]; done) | (simp; omega) | (simp [*]; omega) | (simp [D32.len, -List.length_flatten, *]; done) | (simp [D32.len, -List.length_flatten, *]; omega))⟩, ⟨_, rfl, .pure pu⟩, ⟨_, rfl, .pure pu⟩, ⟨_, rfl, .pure pu⟩, ⟨_, rfl, .pure pu⟩, ⟨_, rfl, .sl rfl (by first | rfl | omega | (simp; done) | (simp [*]; done) | (simp; omega) | (simp [*]; omega) | (simp [D32.len, -List.length_flatten, *]; done) | (simp [D32.len, -List.length_flatten, *]; omega))⟩, ⟨_, rfl, .pure pu⟩, ⟨_, rfl, .pure pu⟩, trivial⟩ ⟨.inr ⟨_, _, rfl, rfl, .of (by rw [V6.xorTo_zero]) (.pure pul)⟩, trivial⟩
    rintro i hi
    have hxl : (V6.xorTo (V6.foldTo s ls j) q i).length = 16 := (V6.len_xorTo (by omega) i (by omega)).trans hfl
    refine at_seq ?_
    refine at_region ?_
    refine s1 (y_p rfl) rfl <| ?_
    refine at_nil ?_
    refine x_tn ?_
    refine at_seq ?_
    refine at_cond rfl (fun hc16 => ?_) (fun hc16 => ?_)
    · have h16 : i < (V6.foldTo s ls j).length := by have := of_decide_eq_true hc16; omega
      refine at_skip ?_
      refine x_tn ?_
      refine at_seq ?_
      refine at_block ?_
      refine at_seq ?_
      refine at_region ?_
      refine s1 (y_p rfl) rfl <| s1 (y_p rfl) rfl <| ?_
      refine at_nil ?_
      refine x_tn ?_
      refine at_draw_tail 10 hmix (by kernel_rfl) ?_
      refine t1 (y_p rfl) rfl <| t1 (y_p rfl) rfl <| t1 (y_ixs i Try.underlying22 ti5 rfl rfl rfl rfl (by omega) rfl) rfl <| t1 (y_load ti5 rfl rfl (V6.getX (by omega) h16)) rfl <| t1 (y_p rfl) rfl <| t1 (y_p rfl) rfl <| t1 (y_ixf i Try.underlying22 ti5 rfl rfl rfl (by omega) rfl) rfl <| t1 (y_load ti5 rfl rfl (V6.getF (by omega))) rfl <| t1 (xorB _ _ rfl rfl) rfl <| t1 (y_ixs i Try.underlying22 ti5 rfl rfl rfl rfl (by omega) rfl) rfl <| ?_
      refine at_snil ?_
      refine at_op rfl (n_store1 ti5 rfl rfl rfl rfl (by rw [List.length_map]; omega) rfl ?_)
      refine at_nil ?_
      refine x_bn ?_
      refine x_tn ?_
      refine at_region ?_
      refine s1 (addN _ 1 rfl rfl rfl rfl (by omega)) rfl <| s1 (y_p rfl) rfl <| ?_
      refine at_nil ?_
      exact at_end (i + 1) (by omega) (by omega) [(14, some 14)] hI rfl rfl ⟨⟨_, rfl, .sl rfl (by first | rfl | omega | (simp; done) | (simp [*]; done) | (simp; omega) | (simp [*]; omega) | (simp [D32.len, -List.length_flatten, *]; done) | (simp [D32.len, -List.length_flatten, *]; omega))⟩, ⟨_, rfl, .pure pu⟩, ⟨_, rfl, .pure pu⟩, ⟨_, rfl, .pure pu⟩, ⟨_, rfl, .pure pu⟩, ⟨_, rfl, .sl rfl (by first | rfl | omega | (simp; done) | (simp [*]; done) | (simp; omega) | (simp [*]; omega) | (simp [D32.len, -List.length_flatten, *]; done) | (simp [D32.len, -List.length_flatten, *]; omega))⟩, ⟨_, rfl, .pure pu⟩, ⟨_, rfl, .pure pu⟩, trivial⟩ ⟨.inr ⟨_, _, rfl, rfl, .of (V6.xorToC (by omega) h16) (.pure pul)⟩, trivial⟩
    · have h16 : i = 16 := by have := of_decide_eq_false hc16; omega
      subst h16
      refine at_exit ?_
      refine x_te ?_
      refine x_te ?_
      refine x_be ?_
      refine x_bn ?_
      refine x_tn ?_
      refine at_region ?_
      refine s1 (addN _ 1 rfl rfl rfl rfl (by omega)) rfl <| s1 (y_p rfl) rfl <| ?_
      refine at_nil ?_
      exact at_end (j + 1) (by omega) (by omega) [(14, some 14)] hI rfl rfl ⟨⟨_, rfl, .sl rfl (by first | rfl | omega | (simp; done) | (simp [*]; done) | (simp; omega) | (simp [*]; omega) | (simp [D32.len, -List.length_flatten, *]; done) | (simp [D32.len, -List.length_flatten, *]; omega))⟩, ⟨_, rfl, .pure pu⟩, ⟨_, rfl, .pure pu⟩, ⟨_, rfl, .pure pu⟩, trivial⟩ ⟨.inr ⟨_, _, rfl, rfl, .of (by rw [V6.addTo_16 hs hls hq]) (.pure pul)⟩, trivial⟩
  · have h10 : j = ls.length := by have := of_decide_eq_false hc10; omega
    subst h10
    refine at_exit ?_
    refine x_te ?_
    refine x_te ?_
    refine x_be ?_
    refine at_result' (rs := []) rfl r_nil ?_
    refine retS_1 ?_
    rw [← V6.foldTo_all]; rfl

set_option linter.unusedSimpArgs false in
set_option linter.unusedVariables false in
set_option maxHeartbeats 1000000 in
set_option maxRecDepth 10000 in
theorem vadd_44 (s : List UInt8) (ls : List (List UInt8)) (hs : s.length = 16) (hls : ∀ q ∈ ls, q.length = 16) (hn : ls.length ≤ 1000) : ConS Try.prog 35 [.sl 44 1 0 16, .fz ls.length (ls.map V6.slV)] ⟨[(44, some (s.map u8))]⟩ (RetS (.tu []) [(44, (ls.foldl V6.xorL s).map u8)]) := by
  refine enterS Try.func35 rfl Try.ntmps35 (by kernel_rfl) (Nat.le_of_ble_eq_true rfl) fun w0 X0 hI => ?_
  refine at_seq ?_
  refine at_region ?_
  refine s1 (y_p rfl) rfl <| s1 (y_len Try.underlying30 rfl rfl rfl) rfl <| s1 ((y_p rfl).v (v' := .i .i64 0) rfl) rfl <| ?_
  refine at_nil ?_
  refine x_tn ?_
  refine at_block ?_
  refine at_loop (ι := Nat) (fun j => [(0, .sl 44 1 0 16), (7, .fz ls.length (ls.map V6.slV)), (8, nV ls.length), (9, nV j)]) (fun j => ⟨[(44, some ((V6.foldTo s ls j).map u8))]⟩) (fun j => j ≤ ls.length) (fun j => ls.length - j) ?_ ?_
  · exact at_ex (0) (Nat.zero_le _) [(44, some 44)] hI rfl rfl ⟨⟨_, rfl, .sl rfl (by first | rfl | omega | (simp; done) | (simp [*]; done) | (simp; omega) | (simp [*]; omega) | (simp [D32.len, -List.length_flatten, *]; done) | (simp [D32.len, -List.length_flatten, *]; omega))⟩, ⟨_, rfl, .pure pu⟩, ⟨_, rfl, .pure pu⟩, ⟨_, rfl, .pure pu⟩, trivial⟩ ⟨.inr ⟨_, _, rfl, rfl, .of (by rfl) (.pure pul)⟩, trivial⟩
  rintro j hj
  have hfl : (V6.foldTo s ls j).length = 16 := (V6.len_foldTo (fun b hb => by rw [hs, hls b hb]; exact Nat.le_refl _) j hj).trans hs
  refine at_seq ?_
  refine at_region ?_
  refine s1 (y_p rfl) rfl <| ?_
  refine at_nil ?_
  refine x_tn ?_
  refine at_seq ?_
  refine at_cond rfl (fun hc10 => ?_) (fun hc10 => ?_)
  · have h10 : j < ls.length := by have := of_decide_eq_true hc10; omega
    obtain ⟨q, hq⟩ : ∃ q, ls[j]? = some q := ⟨_, List.getElem?_eq_getElem h10⟩
    have hq16 := hls q (List.mem_of_getElem? hq)
    refine at_skip ?_
    refine x_tn ?_
    refine at_seq ?_
    refine at_block ?_
    refine at_seq ?_
    refine at_region ?_
    refine s1 (y_ixf j Try.underlying30 ti22 rfl rfl rfl (by omega) rfl) rfl <| s1 (y_load ti22 rfl rfl (V6.getR hq)) rfl <| s1 (y_p rfl) rfl <| ?_
    refine at_nil ?_
    refine x_tn ?_
    refine at_seq ?_
    refine at_region ?_
    refine s1 (y_p rfl) rfl <| s1 (y_len Try.underlying22 rfl rfl rfl) rfl <| s1 ((y_p rfl).v (v' := .i .i64 0) rfl) rfl <| ?_
    refine at_nil ?_
    refine x_tn ?_
    refine at_block ?_
    refine at_loop (ι := Nat) (fun i => [(0, .sl 44 1 0 16), (5, V6.slV q), (7, .fz ls.length (ls.map V6.slV)), (8, nV ls.length), (9, nV j), (13, .sl 44 1 0 16), (14, nV 16), (15, nV i)]) (fun i => ⟨[(44, some ((V6.xorTo (V6.foldTo s ls j) q i).map u8))]⟩) (fun i => i ≤ 16) (fun i => 16 - i) ?_ ?_
    · exact at_ex (0) (Nat.zero_le _) [(44, some 44)] hI rfl rfl ⟨⟨_, rfl, .sl rfl (by first | rfl | omega | (simp; done) | (simp [*]; done) | (simp; omega) | (simp [*]; omega) | (simp [D32.len, -List.length_flatten, *]; done) | (simp [D32.len, -List.length_flatten, *]; omega))⟩, ⟨_, rfl, .pure pu⟩, ⟨_, rfl, .pure pu⟩, ⟨_, rfl, .pure pu⟩, ⟨_, rfl, .pure pu⟩, ⟨_, rfl, .sl rfl (by first | rfl | omega | (simp; done) | (simp [*]; done) | (simp; omega) | (simp [*]; omega) | (simp [D32.len, -List.length_flatten, *]; done) | (simp [D32.len, -List.length_flatten, *]; omega))⟩, ⟨_, rfl, .pure pu⟩, ⟨_, rfl, .pure pu⟩, trivial⟩ ⟨.inr ⟨_, _, rfl, rfl, .of (by rw [V6.xorTo_zero]) (.pure pul)⟩, trivial⟩
    rintro i hi
    have hxl : (V6.xorTo (V6.foldTo s ls j) q i).length = 16 := (V6.len_xorTo (by omega) i (by omega)).trans hfl
    refine at_seq ?_
    refine at_region ?_
    refine s1 (y_p rfl) rfl <| ?_
    refine at_nil ?_
    refine x_tn ?_
    refine at_seq ?_
    refine at_cond rfl (fun hc16 => ?_) (fun hc16 => ?_)
    · have h16 : i < (V6.foldTo s ls j).length := by have := of_decide_eq_true hc16; omega
      refine at_skip ?_
      refine x_tn ?_
      refine at_seq ?_
      refine at_block ?_
      refine at_seq ?_
      refine at_region ?_
      refine s1 (y_p rfl) rfl <| s1 (y_p rfl) rfl <| ?_
      refine at_nil ?_
      refine x_tn ?_
      refine at_draw_tail 10 hmix (by kernel_rfl) ?_
      refine t1 (y_p rfl) rfl <| t1 (y_p rfl) rfl <| t1 (y_ixs i Try.underlying22 ti5 rfl rfl rfl rfl (by omega) rfl) rfl <| t1 (y_load ti5 rfl rfl (V6.getX (by omega) h16)) rfl <| t1 (y_p rfl) rfl <| t1 (y_p rfl) rfl <| t1 (y_ixf i Try.underlying22 ti5 rfl rfl rfl (by omega) rfl) rfl <| t1 (y_load ti5 rfl rfl (V6.getF (by omega))) rfl <| t1 (xorB _ _ rfl rfl) rfl <| t1 (y_ixs i Try.underlying22 ti5 rfl rfl rfl rfl (by omega) rfl) rfl <| ?_
      refine at_snil ?_
      refine at_op rfl (n_store1 ti5 rfl rfl rfl rfl (by rw [List.length_map]; omega) rfl ?_)
      refine at_nil ?_
      refine x_bn ?_
      refine x_tn ?_
      refine at_region ?_
      refine s1 (addN _ 1 rfl rfl rfl rfl (by omega)) rfl <| s1 (y_p rfl) rfl <| ?_
      refine at_nil ?_
      exact at_end (i + 1) (by omega) (by omega) [(44, some 44)] hI rfl rfl ⟨⟨_, rfl, .sl rfl (by first | rfl | omega | (simp; done) | (simp [*]; done) | (simp; omega) | (simp [*]; omega) | (simp [D32.len, -List.length_flatten, *]; done) | (simp [D32.len, -List.length_flatten, *]; omega))⟩, ⟨_, rfl, .pure pu⟩, ⟨_, rfl, .pure pu⟩, ⟨_, rfl, .pure pu⟩, ⟨_, rfl, .pure pu⟩, ⟨_, rfl, .sl rfl (by first | rfl | omega | (simp; done) | (simp [*]; done) | (simp; omega) | (simp [*]; omega) | (simp [D32.len, -List.length_flatten, *]; done) | (simp [D32.len, -List.length_flatten, *]; omega))⟩, ⟨_, rfl, .pure pu⟩, ⟨_, rfl, .pure pu⟩, trivial⟩ ⟨.inr ⟨_, _, rfl, rfl, .of (V6.xorToC (by omega) h16) (.pure pul)⟩, trivial⟩
    · have h16 : i = 16 := by have := of_decide_eq_false hc16; omega
      subst h16
      refine at_exit ?_
      refine x_te ?_
      refine x_te ?_
      refine x_be ?_
      refine x_bn ?_
      refine x_tn ?_
      refine at_region ?_
      refine s1 (addN _ 1 rfl rfl rfl rfl (by omega)) rfl <| s1 (y_p rfl) rfl <| ?_
      refine at_nil ?_
      exact at_end (j + 1) (by omega) (by omega) [(44, some 44)] hI rfl rfl ⟨⟨_, rfl, .sl rfl (by first | rfl | omega | (simp; done) | (simp [*]; done) | (simp; omega) | (simp [*]; omega) | (simp [D32.len, -List.length_flatten, *]; done) | (simp [D32.len, -List.length_flatten, *]; omega))⟩, ⟨_, rfl, .pure pu⟩, ⟨_, rfl, .pure pu⟩, ⟨_, rfl, .pure pu⟩, trivial⟩ ⟨.inr ⟨_, _, rfl, rfl, .of (by rw [V6.addTo_16 hs hls hq]) (.pure pul)⟩, trivial⟩
  · have h10 : j = ls.length := by have := of_decide_eq_false hc10; omega
    subst h10
    refine at_exit ?_
    refine x_te ?_
    refine x_te ?_
    refine x_be ?_
    refine at_result' (rs := []) rfl r_nil ?_
    refine retS_1 ?_
    rw [← V6.foldTo_all]; rfl

set_option linter.unusedSimpArgs false in
set_option linter.unusedVariables false in
set_option maxHeartbeats 1000000 in
set_option maxRecDepth 10000 in
theorem vjoin_ok (p q : List UInt8) : Con Try.prog 17 [.fz p.length (p.map u8), .fz q.length (q.map u8)] (Ret (joinA p q)) := by
  refine enter Try.func17 rfl Try.ntmps17 (by kernel_rfl) (Nat.le_of_ble_eq_true rfl) fun w0 X0 hI => ?_
  refine at_seq ?_
  refine at_region ?_
  refine s1 (y_p rfl) rfl <| s1 ((y_p rfl).v (v' := .i .i64 0) rfl) rfl <| ?_
  refine at_nil ?_
  refine x_tn ?_
  refine at_seq ?_
  refine at_seq ?_
  refine at_region ?_
  refine s1 (y_p rfl) rfl <| s1 (y_len Try.underlying22 rfl rfl rfl) rfl <| s1 (y_p rfl) rfl <| s1 (y_p rfl) rfl <| ?_
  refine g_or 3 rfl rfl rfl rfl (fun hb9 => .step (y_p rfl) rfl rfl <| .step (y_len Try.underlying22 rfl rfl rfl) rfl rfl <| .step (y_p rfl) rfl rfl <| .done) rfl rfl ?_
  refine at_nil ?_
  refine x_tn ?_
  refine at_cond rfl (fun hc13 => ?_) (fun hc13 => ?_)
  · have hcs : ¬ (p.length = 16 ∧ q.length = 16) := by intro h; simp [h.1, h.2] at hc13
    refine at_seq ?_
    refine at_region ?_
    refine s1 (y_p rfl) rfl <| s1 ((y_p rfl).v (v' := .i .i64 360) rfl) rfl <| ?_
    refine at_nil ?_
    refine x_tn ?_
    refine at_ret ?_
    refine x_tr ?_
    refine at_result (rs := [.tmp 4, .tmp 5]) rfl (r_tmp rfl (r_tmp rfl r_nil)) ?_
    exact (joinA_no hcs).symm
  · have hp : p.length = 16 := by simp at hc13; omega
    have hq : q.length = 16 := by simp at hc13; omega
    have hpq : ∀ b ∈ [p, q], b.length = 16 := by simp [hp, hq]
    refine at_skip ?_
    refine x_tn ?_
    refine at_seq ?_
    refine at_region ?_
    refine at_op rfl (n_make 14 rfl 16 16 Try.underlying22 ti5 rfl rfl rfl rfl rfl (by first | omega | (simp only [maxLen]; omega) | (simp [maxLen]; done) | (simp [maxLen]; omega) | (simp [maxLen, *]; omega)) (by first | omega | (simp only [maxLen]; omega) | (simp [maxLen]; done) | (simp [maxLen]; omega) | (simp [maxLen, *]; omega)) (by first | omega | (simp only [maxLen]; omega) | (simp [maxLen]; done) | (simp [maxLen]; omega) | (simp [maxLen, *]; omega)) rfl ?_)
    refine s1 (y_p rfl) rfl <| ?_
    refine at_nil ?_
    refine x_tn ?_
    refine at_seq ?_
    refine at_region ?_
    refine s1 (y_p rfl) rfl <| s1 (y_p rfl) rfl <| s1 (y_p rfl) rfl <| ?_
    refine at_op rfl (n_bs1 18 rfl Try.underlying30 ti22 rfl rfl rfl rfl rfl ?_)
    refine at_sayO 14 rfl (cs' := V6.zero16.map u8) (by rfl) ?_
    refine at_op rfl (n_callGd ⟨[(14, some ((V6.zero16).map u8))]⟩ [(14, (([p, q]).foldl V6.xorL V6.zero16).map u8)] true rfl ⟨⟨rfl, VwL.pure pul⟩, trivial⟩ (.cons (.ksl rfl) (.cons (.sl rfl rfl rfl rfl (VwL.pure pul) pul) .nil)) (vadd_14 V6.zero16 [p, q] rfl hpq (by simp)) trivial (.inr trivial) (upd_1 (c0 := (V6.zero16).map u8) rfl pul ful) rfl ?_)
    refine at_nil ?_
    refine x_tn ?_
    refine at_seq ?_
    refine at_region ?_
    refine s1 (y_p rfl) rfl <| s1 (y_p rfl) rfl <| s1 ((y_p rfl).v (v' := .i .i64 0) rfl) rfl <| ?_
    refine at_nil ?_
    refine x_tn ?_
    refine at_ret ?_
    refine at_frz 4 rfl rfl pul (view_eq (V6.sum_len hp hq) rfl) ?_
    refine at_result (rs := [.tmp 4, .tmp 5]) rfl (r_tmp rfl (r_tmp rfl r_nil)) ?_
    exact (joinA_yes hp hq).symm

end Go.Abs.D2
