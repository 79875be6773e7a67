/-
  Layer 2: walks of the digest functions. Conditions: each theorem says its own.
-/
import Derived.Test.YtapmhjkfnedbmaaDoorC5B
import Derived.Test.YtapmhjkfnedbmaaDoorC5P
namespace Go.Abs.D2
open Go Go.Eng Go.Abs Go.Proofs 

set_option linter.unusedSimpArgs false in
set_option linter.unusedVariables false in
set_option maxHeartbeats 1000000 in
theorem split_ok (m : List UInt8) (hm : m.length = 32) : Con Tryd.prog 29 [.ag (m.map u8)] (Ret (.ag ((digits m).map nI))) := by
  refine enter Tryd.func29 rfl Tryd.ntmps29 (by kernel_rfl) (Nat.le_of_ble_eq_true rfl) fun w0 X0 hI => ?_
  refine at_seq ?_
  refine at_region ?_
  refine at_op rfl (n_boxA 1 rfl rfl rfl ?_)
  refine at_op rfl (n_alloc 2 rfl ti46 rfl rfl ?_)
  refine at_nil ?_
  refine x_tn ?_
  refine at_seq ?_
  refine at_region ?_
  refine s1 ((y_p rfl).v (v' := .i .i64 0) rfl) rfl <| ?_
  refine at_nil ?_
  refine x_tn ?_
  refine at_seq ?_
  refine at_seq ?_
  refine at_region ?_
  refine s1 ((y_p rfl).v (v' := .i .i64 0) rfl) rfl <| ?_
  refine at_nil ?_
  refine x_tn ?_
  refine at_block ?_
  refine at_loop (ι := Nat) (fun k => [(1, .p 1 0), (2, .p 2 0), (3, nI (sumK m k)), (6, nI k)]) (fun k => ⟨[(1, some (m.map u8)), (2, some ((dl m k).map nI ++ List.replicate (19 - k) (nI 0)))]⟩) (fun k => k ≤ 16) (fun k => 16 - k) ?_ ?_
  · exact at_ex (0) (Nat.zero_le _) [(1, some 1), (2, some 2)] hI rfl rfl ⟨⟨_, rfl, .p rfl⟩, ⟨_, rfl, .p rfl⟩, ⟨_, rfl, .of (by rw [sumK_0]; rfl) (.pure pu)⟩, ⟨_, rfl, .pure pu⟩, trivial⟩ ⟨.inr ⟨_, _, rfl, rfl, .pure pul⟩, .inr ⟨_, _, rfl, rfl, .of (by rw [dl_0]; rfl) (.pure pul)⟩, trivial⟩
  rintro k hk
  have hsk := sumK_le m k
  have hdk := dgt_lt m k
  refine at_seq ?_
  refine at_region ?_
  refine s1 (y_p rfl) rfl <| ?_
  refine at_nil ?_
  refine x_tn ?_
  refine at_seq ?_
  refine at_cond rfl (fun hc7 => ?_) (fun hc7 => ?_)
  · have h7 : k < 16 := by have := of_decide_eq_true hc7; omega
    refine at_skip ?_
    refine x_tn ?_
    refine at_seq ?_
    refine at_block ?_
    refine at_seq ?_
    refine at_region ?_
    refine s1 (y_p rfl) rfl <| s1 (y_p rfl) rfl <| ?_
    refine at_nil ?_
    refine x_tn ?_
    refine at_seq ?_
    refine at_region ?_
    refine s1 (y_p rfl) rfl <| s1 (y_p rfl) rfl <| s1 (quoN k 4 rfl rfl rfl rfl (by decide) (by omega)) rfl <| s1 (y_ixa (k / 4) Tryd.underlying23 ti5 rfl rfl rfl (by omega) rfl) rfl <| s1 (y_load ti5 rfl rfl (getO (k / 4) (by omega))) rfl <| s1 (y_p rfl) rfl <| s1 (remN k 4 rfl rfl rfl rfl (by decide)) rfl <| s1 (mulN 2 (k % 4) rfl rfl rfl rfl (by omega)) rfl <| s1 (subN 6 (2 * (k % 4)) rfl rfl rfl rfl (by omega) (by omega)) rfl <| s1 (shrB _ (6 - 2 * (k % 4)) rfl rfl rfl (by omega)) rfl <| ?_
    refine s1 (y_conv Tryd.underlying5 Tryd.underlying3 rfl) rfl <| s1 ((y_bits rfl rfl (.inl rfl)).v (dgt_and m k)) rfl <| s1 (y_ixa k Tryd.underlying46 ti3 rfl rfl rfl (by omega) rfl) rfl <| ?_
    refine at_op rfl (n_store1 ti3 rfl rfl rfl rfl (by simp; omega) (set_dl m k h7) ?_)
    refine at_nil ?_
    refine x_tn ?_
    refine at_region ?_
    refine s1 (y_p rfl) rfl <| s1 (y_p rfl) rfl <| s1 (y_ixa k Tryd.underlying46 ti3 rfl rfl rfl (by omega) rfl) rfl <| s1 (y_load ti3 rfl rfl (get_dl m k rfl)) rfl <| s1 (subN 3 (dgt m k) rfl rfl rfl rfl (by omega) (by omega)) rfl <| s1 (addN (sumK m k) (3 - dgt m k) rfl rfl rfl rfl (by omega)) rfl <| s1 (y_p rfl) rfl <| ?_
    refine at_nil ?_
    refine x_bn ?_
    refine x_tn ?_
    refine at_region ?_
    refine s1 (addN _ 1 rfl rfl rfl rfl (by omega)) rfl <| s1 (y_p rfl) rfl <| ?_
    refine at_nil ?_
    exact at_end (k + 1) (by omega) (by omega) [(1, some 1), (2, some 2)] hI rfl rfl ⟨⟨_, rfl, .p rfl⟩, ⟨_, rfl, .p rfl⟩, ⟨_, rfl, .of (by rw [sumK_succ]) (.pure pu)⟩, ⟨_, rfl, .pure pu⟩, trivial⟩ ⟨.inr ⟨_, _, rfl, rfl, .pure pul⟩, .inr ⟨_, _, rfl, rfl, .pure pul⟩, trivial⟩
  · have h7 : k = 16 := by have := of_decide_eq_false hc7; omega
    subst h7
    refine at_exit ?_
    refine x_te ?_
    refine x_te ?_
    refine x_be ?_
    refine x_tn ?_
    refine at_seq ?_
    refine at_seq ?_
    refine at_region ?_
    refine s1 ((y_p rfl).v (v' := .i .i64 18) rfl) rfl <| ?_
    refine at_nil ?_
    refine x_tn ?_
    refine at_block ?_
    refine at_loop (ι := Nat) (fun j => [(1, .p 1 0), (2, .p 2 0), (3, nI (sumK m 16 / 4 ^ j)), (5, nI (18 - j))]) (fun j => ⟨[(1, some (m.map u8)), (2, some (tailC m j))]⟩) (fun j => j ≤ 3) (fun j => 3 - j) ?_ ?_
    · exact at_ex (0) (Nat.zero_le _) [(1, some 1), (2, some 2)] hI rfl rfl ⟨⟨_, rfl, .p rfl⟩, ⟨_, rfl, .p rfl⟩, ⟨_, rfl, .of (by simp) (.pure pu)⟩, ⟨_, rfl, .pure pu⟩, trivial⟩ ⟨.inr ⟨_, _, rfl, rfl, .pure pul⟩, .inr ⟨_, _, rfl, rfl, .of (tail_0 m) (.pure pul)⟩, trivial⟩
    rintro j hj
    have hs16 := sumK_le m 16
    have hsj : sumK m 16 / 4 ^ j ≤ 48 := Nat.le_trans (Nat.div_le_self _ _) (by omega)
    refine at_seq ?_
    refine at_seq ?_
    refine at_region ?_
    refine s1 (y_p rfl) rfl <| s1 (y_p rfl) rfl <| ?_
    refine at_nil ?_
    refine x_tn ?_
    refine at_cond rfl (fun hc30 => ?_) (fun hc30 => ?_)
    · have h30 : j < 3 := by have := of_decide_eq_true hc30; omega
      refine at_skip ?_
      refine x_tn ?_
      refine at_seq ?_
      refine at_block ?_
      refine at_seq ?_
      refine at_region ?_
      refine s1 (y_p rfl) rfl <| s1 (y_p rfl) rfl <| s1 (remN (sumK m 16 / 4 ^ j) 4 rfl rfl rfl rfl (by decide)) rfl <| s1 (y_ixa (18 - j) Tryd.underlying46 ti3 rfl rfl rfl (by omega) rfl) rfl <| ?_
      refine at_op rfl (n_store1 ti3 rfl rfl rfl rfl (by simp [len_tl4]; omega) rfl ?_)
      refine at_nil ?_
      refine x_tn ?_
      refine at_region ?_
      refine s1 (y_p rfl) rfl <| s1 (quoN (sumK m 16 / 4 ^ j) 4 rfl rfl rfl rfl (by decide) (by omega)) rfl <| s1 (y_p rfl) rfl <| ?_
      refine at_nil ?_
      refine x_bn ?_
      refine x_tn ?_
      refine at_region ?_
      refine s1 (y_p rfl) rfl <| s1 (subN (18 - j) 1 rfl rfl rfl rfl (by omega) (by omega)) rfl <| s1 (y_p rfl) rfl <| ?_
      refine at_nil ?_
      exact at_end (j + 1) (by omega) (by omega) [(1, some 1), (2, some 2)] hI rfl rfl ⟨⟨_, rfl, .p rfl⟩, ⟨_, rfl, .p rfl⟩, ⟨_, rfl, .of (by rw [Nat.div_div_eq_div_mul, ← Nat.pow_succ]) (.pure pu)⟩, ⟨_, rfl, .of (congrArg nI (by omega)) (.pure pu)⟩, trivial⟩ ⟨.inr ⟨_, _, rfl, rfl, .pure pul⟩, .inr ⟨_, _, rfl, rfl, .of (set_tl m j h30) (.pure pul)⟩, trivial⟩
    · have h30 : j = 3 := by have := of_decide_eq_false hc30; omega
      subst h30
      refine at_sayO 2 rfl (tail_3 m) ?_
      refine at_exit ?_
      refine x_te ?_
      refine x_te ?_
      refine x_be ?_
      refine x_tn ?_
      refine at_seq ?_
      refine at_region ?_
      refine s1 (y_loadA0 ti46 rfl rfl (by first | rfl | omega | (simp; done) | (simp [*]; done) | (simp; omega) | (simp [*]; omega) | (simp [D32.len, -List.length_flatten, *]; done) | (simp [D32.len, -List.length_flatten, *]; omega))) rfl <| ?_
      refine at_op rfl (n_storeA ti46 rfl rfl rfl (by first | rfl | omega | (simp; done) | (simp [*]; done) | (simp; omega) | (simp [*]; omega) | (simp [D32.len, -List.length_flatten, *]; done) | (simp [D32.len, -List.length_flatten, *]; omega)) (by first | rfl | omega | (simp; done) | (simp [*]; done) | (simp; omega) | (simp [*]; omega) | (simp [D32.len, -List.length_flatten, *]; done) | (simp [D32.len, -List.length_flatten, *]; omega)) ?_)
      refine at_nil ?_
      refine x_tn ?_
      refine at_ret ?_
      refine at_result (rs := [.cell 2 46]) rfl (r_cellA ti46 rfl rfl (List.take_of_length_le (by simp)) (by simp) r_nil) rfl

set_option linter.unusedSimpArgs false in
set_option linter.unusedVariables false in
set_option maxHeartbeats 1000000 in
theorem clone_ok (l : List Nat) (h0 : 0 < l.length) (hl : l.length ≤ 1000) : Con Tryd.prog 30 [.fz l.length (l.map nI)] (RetO 1 l.length (l.map nI)) := by
  refine enter Tryd.func30 rfl Tryd.ntmps30 (by kernel_rfl) (Nat.le_of_ble_eq_true rfl) fun w0 X0 hI => ?_
  refine at_seq ?_
  refine at_region ?_
  refine s1 (y_p rfl) rfl <| ?_
  refine at_nil ?_
  refine x_tn ?_
  refine at_seq ?_
  refine at_seq ?_
  refine at_region ?_
  refine s1 (y_p rfl) rfl <| s1 ((y_fznil Tryd.underlying29 rfl rfl h0).v (v' := .b false) (rfl)) rfl <| ?_
  refine at_nil ?_
  refine x_tn ?_
  refine at_else rfl ?_
  refine at_skip ?_
  refine x_tn ?_
  refine at_seq ?_
  refine at_region ?_
  refine at_op rfl (n_bs1 5 rfl Tryd.underlying29 ti3 rfl rfl rfl rfl rfl ?_)
  refine s1 (y_p rfl) rfl <| ?_
  refine at_op rfl (n_app 7 rfl Tryd.underlying29 ti3 rfl (.sl rfl (by first | rfl | omega | (simp; done) | (simp [*]; done) | (simp; omega) | (simp [*]; omega) | (simp [D32.len, -List.length_flatten, *]; done) | (simp [D32.len, -List.length_flatten, *]; omega))) rfl rfl (by simp) (by first | omega | (simp only [maxLen]; omega) | (simp [maxLen]; done) | (simp [maxLen]; omega) | (simp [maxLen, *]; omega)) (by first | omega | (simp only [maxLen]; omega) | (simp [maxLen]; done) | (simp [maxLen]; omega) | (simp [maxLen, *]; omega)) rfl rfl rfl ?_)
  refine s1 (y_p rfl) rfl <| ?_
  refine at_nil ?_
  refine x_tn ?_
  refine at_ret ?_
  refine at_result (rs := [.tmp 2]) rfl (r_tmp rfl r_nil) ⟨7, by simp [retA], by rfl⟩

set_option linter.unusedSimpArgs false in
set_option linter.unusedVariables false in
set_option maxHeartbeats 1000000 in
theorem digits_ok (m : List UInt8) (hm : m.length = 32) : Con Tryd.prog 14 [.ag (m.map u8)] (Ret (.fz 19 ((digits m).map nI))) := by
  refine enter Tryd.func14 rfl Tryd.ntmps14 (by kernel_rfl) (Nat.le_of_ble_eq_true rfl) fun w0 X0 hI => ?_
  refine at_seq ?_
  refine at_region ?_
  refine at_op rfl (n_boxA 1 rfl rfl rfl ?_)
  refine s1 (y_p rfl) rfl <| ?_
  refine at_nil ?_
  refine x_tn ?_
  refine at_seq ?_
  refine at_region ?_
  refine s1 (y_loadA0 ti23 rfl rfl (by first | rfl | omega | (simp; done) | (simp [*]; done) | (simp; omega) | (simp [*]; omega) | (simp [D32.len, -List.length_flatten, *]; done) | (simp [D32.len, -List.length_flatten, *]; omega))) rfl <| ?_
  refine at_op rfl (n_call false rfl (.cons (.pure pu) (.nil)) (split_ok m hm) pu (.inl rfl) rfl ?_)
  refine at_op rfl (n_alloc 3 rfl ti46 rfl rfl ?_)
  refine at_op rfl (n_storeA ti46 rfl rfl rfl (by first | rfl | omega | (simp; done) | (simp [*]; done) | (simp; omega) | (simp [*]; omega) | (simp [D32.len, -List.length_flatten, *]; done) | (simp [D32.len, -List.length_flatten, *]; omega)) (by first | rfl | omega | (simp; done) | (simp [*]; done) | (simp; omega) | (simp [*]; omega) | (simp [D32.len, -List.length_flatten, *]; done) | (simp [D32.len, -List.length_flatten, *]; omega)) ?_)
  refine at_nil ?_
  refine x_tn ?_
  refine at_seq ?_
  refine at_region ?_
  refine s1 (y_cuta0 Tryd.underlying46 ti3 rfl rfl (by first | rfl | omega | (simp; done) | (simp [*]; done) | (simp; omega) | (simp [*]; omega) | (simp [D32.len, -List.length_flatten, *]; done) | (simp [D32.len, -List.length_flatten, *]; omega)) (by simp [maxLen])) rfl <| ?_
  refine at_op rfl (n_callO 7 rfl true rfl (.cons (.sl rfl rfl (by first | rfl | omega | (simp; done) | (simp [*]; done) | (simp; omega) | (simp [*]; omega) | (simp [D32.len, -List.length_flatten, *]; done) | (simp [D32.len, -List.length_flatten, *]; omega)) (view_eq (by first | rfl | omega | (simp; done) | (simp [*]; done) | (simp; omega) | (simp [*]; omega) | (simp [D32.len, -List.length_flatten, *]; done) | (simp [D32.len, -List.length_flatten, *]; omega)) (by first | rfl | (simp; done) | (simp [*]; done))) (VwL.pure pul) pul) (.nil)) (by simpa using clone_ok (digits m) (by simp) (by simp)) pul (.inr ful) rfl ?_)
  refine s1 (y_p rfl) rfl <| ?_
  refine at_nil ?_
  refine x_tn ?_
  refine at_ret ?_
  refine at_frz 2 rfl rfl pul (view_eq (by simp) rfl) ?_
  refine at_result (rs := [.tmp 2]) rfl (r_tmp rfl r_nil) rfl

set_option linter.unusedSimpArgs false in
set_option linter.unusedVariables false in
set_option maxHeartbeats 1000000 in
theorem join_ok (parts : List (List UInt8)) (hk : parts.length ≤ 1048576) (ht : parts.flatten.length ≤ 140737488300000) : Con Tryd.prog 39 [.fz parts.length (parts.map slA)] (RetO 1 parts.flatten.length (parts.flatten.map u8)) := by
  refine enter Tryd.func39 rfl Tryd.ntmps39 (by kernel_rfl) (Nat.le_of_ble_eq_true rfl) fun w0 X0 hI => ?_
  refine at_seq ?_
  refine at_region ?_
  refine s1 (y_p rfl) rfl <| ?_
  refine at_nil ?_
  refine x_tn ?_
  refine at_seq ?_
  refine at_seq ?_
  refine at_region ?_
  refine s1 (y_p rfl) rfl <| s1 (y_len Tryd.underlying57 rfl rfl rfl) rfl <| s1 ((y_p rfl).v (v' := .i .i64 0) rfl) rfl <| ?_
  refine at_nil ?_
  refine x_tn ?_
  refine at_block ?_
  refine at_loop (ι := Nat) (fun i => [(2, .sl 2 1 0 (parts.take i).flatten.length), (5, .fz parts.length (parts.map slA)), (6, nI parts.length), (7, nI i)]) (fun i => ⟨[(2, some ((parts.take i).flatten.map u8))]⟩) (fun i => i ≤ parts.length) (fun i => parts.length - i) ?_ ?_
  · exact at_ex (0) (Nat.zero_le _) [(2, none)] hI rfl rfl ⟨⟨_, rfl, .nl rfl⟩, ⟨_, rfl, .pure pu⟩, ⟨_, rfl, .pure pu⟩, ⟨_, rfl, .pure pu⟩, trivial⟩ ⟨.inl ⟨rfl, rfl⟩, trivial⟩
  rintro i hi
  refine at_seq ?_
  refine at_region ?_
  refine s1 (y_p rfl) rfl <| ?_
  refine at_nil ?_
  refine x_tn ?_
  refine at_seq ?_
  refine at_cond rfl (fun hc8 => ?_) (fun hc8 => ?_)
  · have hi2 : i < parts.length := by have := of_decide_eq_true hc8; omega
    obtain ⟨p, hp⟩ : ∃ p, parts[i]? = some p := ⟨_, List.getElem?_eq_getElem hi2⟩
    have hpl := len_next hp
    refine at_skip ?_
    refine x_tn ?_
    refine at_seq ?_
    refine at_block ?_
    refine at_seq ?_
    refine at_region ?_
    refine s1 (y_ixf i Tryd.underlying57 ti41 rfl rfl rfl (by omega) rfl) rfl <| s1 (y_load ti41 rfl rfl (getP hp)) rfl <| s1 (y_p rfl) rfl <| ?_
    refine at_nil ?_
    refine x_tn ?_
    refine at_region ?_
    refine s1 (y_p rfl) rfl <| s1 (y_p rfl) rfl <| ?_
    refine at_op rfl (n_app 13 rfl Tryd.underlying41 ti5 rfl (.sl rfl (by rw [List.length_map, Nat.mul_one])) rfl rfl (by simp) (by simp only [maxLen]; omega) (by omega) rfl rfl rfl ?_)
    refine s1 (y_p rfl) rfl <| ?_
    refine at_nil ?_
    refine x_bn ?_
    refine x_tn ?_
    refine at_region ?_
    refine s1 (addN _ 1 rfl rfl rfl rfl (by omega)) rfl <| s1 (y_p rfl) rfl <| ?_
    refine at_nil ?_
    exact at_end (i + 1) (by omega) (by omega) [(2, some 13)] hI rfl rfl ⟨⟨_, rfl, .sl rfl (by first | rfl | omega | (simp; done) | (simp [*]; done) | (simp; omega) | (simp [*]; omega) | (simp [D32.len, -List.length_flatten, *]; done) | (simp [D32.len, -List.length_flatten, *]; omega))⟩, ⟨_, rfl, .pure pu⟩, ⟨_, rfl, .pure pu⟩, ⟨_, rfl, .pure pu⟩, trivial⟩ ⟨.inr ⟨_, _, rfl, rfl, .of (by rw [← List.map_append, take_next hp]) (.pure pul)⟩, trivial⟩
  · have hi2 : i = parts.length := by have := of_decide_eq_false hc8; omega
    subst hi2
    refine at_exit ?_
    refine x_te ?_
    refine x_te ?_
    refine x_be ?_
    refine x_tn ?_
    refine at_seq ?_
    refine at_region ?_
    refine s1 (y_p rfl) rfl <| s1 (y_p rfl) rfl <| ?_
    refine at_nil ?_
    refine x_tn ?_
    refine at_ret ?_
    refine at_result (rs := [.tmp 2]) rfl (r_tmp rfl r_nil) ⟨2, ?_, ?_⟩
    · rw [List.take_length]; rfl
    · rw [List.take_length]; rfl

theorem tag_first (x : List UInt8) (i : Nat) (hx : x.length = 32) : Con Tryd.prog 27 [.s [99, 104, 97, 105, 110], .fz 33 (x.map u8 ++ [u8 (UInt8.ofNat i)])] (Ret (.ag ((firstD x i).map u8))) := by
  rw [firstD_eq]; simpa [hx] using tagged_ok [99, 104, 97, 105, 110] (x ++ [UInt8.ofNat i]) (by simp [hx]) (by simp)

set_option linter.unusedSimpArgs false in
set_option linter.unusedVariables false in
set_option maxHeartbeats 1000000 in
theorem begin_ok (x : List UInt8) (i : Nat) (hx : x.length = 32) : Con Tryd.prog 35 [.ag (x.map u8), nI i] (Ret (.ag ((firstD x i).map u8))) := by
  refine enter Tryd.func35 rfl Tryd.ntmps35 (by kernel_rfl) (Nat.le_of_ble_eq_true rfl) fun w0 X0 hI => ?_
  refine at_seq ?_
  refine at_region ?_
  refine at_op rfl (n_boxA 2 rfl rfl rfl ?_)
  refine at_op rfl (n_alloc 4 rfl ti23 rfl rfl ?_)
  refine at_nil ?_
  refine x_tn ?_
  refine at_seq ?_
  refine at_region ?_
  refine s1 (y_cuta0 Tryd.underlying23 ti5 rfl rfl (by first | rfl | omega | (simp; done) | (simp [*]; done) | (simp; omega) | (simp [*]; omega) | (simp [D32.len, -List.length_flatten, *]; done) | (simp [D32.len, -List.length_flatten, *]; omega)) (by simp [maxLen])) rfl <| s1 (y_p rfl) rfl <| s1 (ofN_u8 i Tryd.underlying3 Tryd.underlying5 rfl rfl) rfl <| ?_
  refine at_op rfl (n_bs1 8 rfl Tryd.underlying41 ti5 rfl rfl rfl rfl rfl ?_)
  refine at_op rfl (n_bs1 9 rfl Tryd.underlying57 ti41 rfl rfl rfl rfl rfl ?_)
  refine at_op rfl (n_callO 10 rfl true rfl (.cons (.sl rfl rfl rfl rfl (.cons (.sl rfl rfl (by first | rfl | omega | (simp; done) | (simp [*]; done) | (simp; omega) | (simp [*]; omega) | (simp [D32.len, -List.length_flatten, *]; done) | (simp [D32.len, -List.length_flatten, *]; omega)) (view_eq (by simp [hx]) rfl) (VwL.pure pul) pul) (.cons (.sl rfl rfl rfl (view_eq rfl rfl) (VwL.pure pul) pul) .nil)) pul) .nil) (by simpa [slA, hx] using join_ok [x, [UInt8.ofNat i]] (by simp) (by simp [hx])) pul (.inr ful) rfl ?_)
  refine at_op rfl (n_call true rfl (.cons (.pure pu) (.cons (.sl rfl rfl (by first | rfl | omega | (simp; done) | (simp [*]; done) | (simp; omega) | (simp [*]; omega) | (simp [D32.len, -List.length_flatten, *]; done) | (simp [D32.len, -List.length_flatten, *]; omega)) (view_eq (by first | rfl | omega | (simp; done) | (simp [*]; done) | (simp; omega) | (simp [*]; omega) | (simp [D32.len, -List.length_flatten, *]; done) | (simp [D32.len, -List.length_flatten, *]; omega)) (by first | rfl | (simp; done) | (simp [*]; done))) (VwL.pure pul) pul) (.nil))) (tag_first x i hx) pu (.inr fu) rfl ?_)
  refine at_op rfl (n_storeA ti23 rfl rfl rfl (by first | rfl | omega | (simp; done) | (simp [*]; done) | (simp; omega) | (simp [*]; omega) | (simp [D32.len, -List.length_flatten, *]; done) | (simp [D32.len, -List.length_flatten, *]; omega)) (by first | rfl | omega | (simp; done) | (simp [*]; done) | (simp; omega) | (simp [*]; omega) | (simp [D32.len, -List.length_flatten, *]; done) | (simp [D32.len, -List.length_flatten, *]; omega)) ?_)
  refine at_nil ?_
  refine x_tn ?_
  refine at_ret ?_
  refine at_result (rs := [.cell 4 23]) rfl (r_cellA ti23 rfl rfl (List.take_of_length_le (by simp)) (by simp) r_nil) rfl

end Go.Abs.D2
