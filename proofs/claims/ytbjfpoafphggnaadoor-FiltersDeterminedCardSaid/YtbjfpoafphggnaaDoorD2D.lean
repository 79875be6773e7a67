/-
  Layer 2: walks of the digest functions. Conditions: each theorem says its own.
-/
import Derived.Test.YtbjfpoafphggnaaDoorD2C
namespace Go.Abs.D2
open Go Go.Eng Go.Abs Go.Proofs 

set_option linter.unusedSimpArgs false in
set_option linter.unusedVariables false in
set_option maxHeartbeats 1000000 in
theorem padded_ok (b : List UInt8) (hb : b.length ≤ 140737488300000) : Con Tryd.prog 40 [.fz b.length (b.map u8)] (Ret (.fz (pad b).length ((pad b).map u8))) := by
  refine enter Tryd.func40 rfl Tryd.ntmps40 (by kernel_rfl) (Nat.le_of_ble_eq_true rfl) fun w0 X0 hI => ?_
  refine at_seq ?_
  refine at_region ?_
  refine s1 (y_p rfl) rfl <| ?_
  refine at_nil ?_
  refine x_tn ?_
  refine at_seq ?_
  refine at_region ?_
  refine at_op rfl (n_bs1 6 rfl Tryd.underlying24 ti5 rfl rfl rfl rfl rfl ?_)
  refine s1 (y_p rfl) rfl <| ?_
  refine at_op rfl (n_app 8 rfl Tryd.underlying24 ti5 rfl (.sl rfl (by first | rfl | omega | (simp; done) | (simp [*]; done) | (simp; omega) | (simp [*]; omega) | (simp [D32.len, -List.length_flatten, *]; done) | (simp [D32.len, -List.length_flatten, *]; omega))) rfl rfl (by first | rfl | omega | (simp; done) | (simp [*]; done) | (simp; omega) | (simp [*]; omega) | (simp [D32.len, -List.length_flatten, *]; done) | (simp [D32.len, -List.length_flatten, *]; omega)) (by first | omega | (simp only [maxLen]; omega) | (simp [maxLen]; done) | (simp [maxLen]; omega) | (simp [maxLen, *]; omega)) (by first | omega | (simp only [maxLen]; omega) | (simp [maxLen]; done) | (simp [maxLen]; omega) | (simp [maxLen, *]; omega)) rfl rfl rfl ?_)
  refine at_op rfl (n_bs1 9 rfl Tryd.underlying24 ti5 rfl rfl rfl rfl rfl ?_)
  refine at_op rfl (n_app 10 rfl Tryd.underlying24 ti5 rfl (.sl rfl (by first | rfl | omega | (simp; done) | (simp [*]; done) | (simp; omega) | (simp [*]; omega) | (simp [D32.len, -List.length_flatten, *]; done) | (simp [D32.len, -List.length_flatten, *]; omega))) rfl (SM_full rfl (by first | rfl | omega | (simp; done) | (simp [*]; done) | (simp; omega) | (simp [*]; omega) | (simp [D32.len, -List.length_flatten, *]; done) | (simp [D32.len, -List.length_flatten, *]; omega))) (by first | rfl | omega | (simp; done) | (simp [*]; done) | (simp; omega) | (simp [*]; omega) | (simp [D32.len, -List.length_flatten, *]; done) | (simp [D32.len, -List.length_flatten, *]; omega)) (by first | omega | (simp only [maxLen]; omega) | (simp [maxLen]; done) | (simp [maxLen]; omega) | (simp [maxLen, *]; omega)) (by first | omega | (simp only [maxLen]; omega) | (simp [maxLen]; done) | (simp [maxLen]; omega) | (simp [maxLen, *]; omega)) rfl rfl rfl ?_)
  refine s1 (y_p rfl) rfl <| ?_
  refine at_nil ?_
  refine x_tn ?_
  refine at_seq ?_
  refine at_block ?_
  refine at_loop (ι := Nat) (fun i => [(0, .fz b.length (b.map u8)), (3, .sl 3 1 0 (b.length + 1 + i))]) (fun i => ⟨[(3, some ((b ++ [128] ++ List.replicate i 0).map u8))]⟩) (fun i => i ≤ zeros b.length) (fun i => zeros b.length - i) ?_ ?_
  · exact at_ex (0) (Nat.zero_le _) [(3, some 10)] hI rfl rfl ⟨⟨_, rfl, .pure pu⟩, ⟨_, rfl, .sl rfl (by first | rfl | omega | (simp; done) | (simp [*]; done) | (simp; omega) | (simp [*]; omega) | (simp [D32.len, -List.length_flatten, *]; done) | (simp [D32.len, -List.length_flatten, *]; omega))⟩, trivial⟩ ⟨.inr ⟨_, _, rfl, rfl, .of (by simp) (.pure pul)⟩, trivial⟩
  rintro i hi
  refine at_seq ?_
  refine at_seq ?_
  refine at_region ?_
  refine s1 (y_p rfl) rfl <| s1 (y_len Tryd.underlying24 rfl (SM_full rfl (by simp; omega)) rfl) rfl <| s1 (remN (b.length + 1 + i) 64 rfl rfl rfl rfl (by decide)) rfl <| s1 (y_p rfl) rfl <| ?_
  refine at_nil ?_
  refine x_tn ?_
  refine at_cond rfl (fun hc14 => ?_) (fun hc14 => ?_)
  · have hz := zeros_spec b.length
    have hi2 : i < zeros b.length := by
      have := bne_iff_ne.1 hc14
      rcases Nat.lt_or_ge i (zeros b.length) with h | h
      · exact h
      · exfalso; have : i = zeros b.length := by omega
        subst this; omega
    refine at_skip ?_
    refine x_tn ?_
    refine at_block ?_
    refine at_region ?_
    refine s1 (y_p rfl) rfl <| ?_
    refine at_op rfl (n_bs1 16 rfl Tryd.underlying24 ti5 rfl rfl rfl rfl rfl ?_)
    refine at_op rfl (n_app 17 rfl Tryd.underlying24 ti5 rfl (.sl rfl (by first | rfl | omega | (simp; done) | (simp [*]; done) | (simp; omega) | (simp [*]; omega) | (simp [D32.len, -List.length_flatten, *]; done) | (simp [D32.len, -List.length_flatten, *]; omega))) rfl (SM_full rfl (by first | rfl | omega | (simp; done) | (simp [*]; done) | (simp; omega) | (simp [*]; omega) | (simp [D32.len, -List.length_flatten, *]; done) | (simp [D32.len, -List.length_flatten, *]; omega))) (by first | rfl | omega | (simp; done) | (simp [*]; done) | (simp; omega) | (simp [*]; omega) | (simp [D32.len, -List.length_flatten, *]; done) | (simp [D32.len, -List.length_flatten, *]; omega)) (by first | omega | (simp only [maxLen]; omega) | (simp [maxLen]; done) | (simp [maxLen]; omega) | (simp [maxLen, *]; omega)) (by first | omega | (simp only [maxLen]; omega) | (simp [maxLen]; done) | (simp [maxLen]; omega) | (simp [maxLen, *]; omega)) rfl rfl rfl ?_)
    refine s1 (y_p rfl) rfl <| ?_
    refine at_nil ?_
    refine x_bn ?_
    exact at_end (i + 1) (by omega) (by omega) [(3, some 17)] hI rfl rfl ⟨⟨_, rfl, .pure pu⟩, ⟨_, rfl, .sl rfl (by first | rfl | omega | (simp; done) | (simp [*]; done) | (simp; omega) | (simp [*]; omega) | (simp [D32.len, -List.length_flatten, *]; done) | (simp [D32.len, -List.length_flatten, *]; omega))⟩, trivial⟩ ⟨.inr ⟨_, _, rfl, rfl, .of (by simp [List.replicate_succ', ← List.append_assoc]) (.pure pul)⟩, trivial⟩
  · have hz := zeros_spec b.length
    have hi2 : i = zeros b.length := by
      have := bne_eq_false_iff_eq.1 hc14
      omega
    subst hi2
    refine at_exit ?_
    refine x_te ?_
    refine x_te ?_
    refine x_be ?_
    refine x_tn ?_
    refine at_seq ?_
    refine at_region ?_
    refine s1 (y_p rfl) rfl <| s1 (y_len Tryd.underlying24 rfl rfl rfl) rfl <| s1 (ofN_64 _ Tryd.underlying3 Tryd.underlying75 rfl rfl) rfl <| s1 ((mul64 _ (c64 8) rfl rfl).v (v' := w64 (c64 (8 * b.length))) (congrArg w64 (by rw [← BitVec.ofNat_mul, Nat.mul_comm]))) rfl <| s1 (y_p rfl) rfl <| ?_
    refine at_nil ?_
    refine x_tn ?_
    refine at_seq ?_
    refine at_seq ?_
    refine at_region ?_
    refine s1 ((y_p rfl).v (v' := .i .i64 7) rfl) rfl <| ?_
    refine at_nil ?_
    refine x_tn ?_
    refine at_block ?_
    refine at_loop (ι := Nat) (fun k => [(3, .sl 3 1 0 (b.length + 1 + zeros b.length + k)), (4, w64 (c64 (8 * b.length))), (5, .i .i64 (7 - (k : Int)))]) (fun k => ⟨[(3, some ((b ++ [128] ++ List.replicate (zeros b.length) 0 ++ (be64 (8 * b.length)).take k).map u8))]⟩) (fun k => k ≤ 8) (fun k => 8 - k) ?_ ?_
    · exact at_ex (0) (Nat.zero_le _) [(3, some 3)] hI rfl rfl ⟨⟨_, rfl, .sl rfl (by first | rfl | omega | (simp; done) | (simp [*]; done) | (simp; omega) | (simp [*]; omega) | (simp [D32.len, -List.length_flatten, *]; done) | (simp [D32.len, -List.length_flatten, *]; omega))⟩, ⟨_, rfl, .pure pu⟩, ⟨_, rfl, .pure pu⟩, trivial⟩ ⟨.inr ⟨_, _, rfl, rfl, .of (by simp) (.pure pul)⟩, trivial⟩
    rintro k hk
    refine at_seq ?_
    refine at_seq ?_
    refine at_region ?_
    refine s1 (y_p rfl) rfl <| s1 (y_p rfl) rfl <| ?_
    refine at_nil ?_
    refine x_tn ?_
    refine at_cond rfl (fun hc23 => ?_) (fun hc23 => ?_)
    · have hk8 : k < 8 := by have := of_decide_eq_true hc23; omega
      refine at_skip ?_
      refine x_tn ?_
      refine at_seq ?_
      refine at_block ?_
      refine at_region ?_
      refine s1 (y_p rfl) rfl <| s1 (y_p rfl) rfl <| s1 (y_p rfl) rfl <| s1 ((y_p rfl).v (v' := .i .i64 ((8 * (7 - k) : Nat) : Int)) (by rw [wrapI _ (by omega) (by omega)]; congr 1; omega)) rfl <| s1 (shr64 _ (8 * (7 - k)) rfl rfl rfl (by omega)) rfl <| s1 ((to8_64 _ Tryd.underlying75 Tryd.underlying5 rfl).v (v' := u8 (UInt8.ofNat (8 * b.length / 2 ^ (8 * (7 - k))))) (congrArg u8 (be_byte _ _ (by omega)))) rfl <| ?_
      refine at_op rfl (n_bs1 32 rfl Tryd.underlying24 ti5 rfl rfl rfl rfl rfl ?_)
      refine at_op rfl (n_app 33 rfl Tryd.underlying24 ti5 rfl (.sl rfl (by first | rfl | omega | (simp; done) | (simp [*]; done) | (simp; omega) | (simp [*]; omega) | (simp [D32.len, -List.length_flatten, *]; done) | (simp [D32.len, -List.length_flatten, *]; omega))) rfl (SM_full rfl (by first | rfl | omega | (simp; done) | (simp [*]; done) | (simp; omega) | (simp [*]; omega) | (simp [D32.len, -List.length_flatten, *]; done) | (simp [D32.len, -List.length_flatten, *]; omega))) (by first | rfl | omega | (simp; done) | (simp [*]; done) | (simp; omega) | (simp [*]; omega) | (simp [D32.len, -List.length_flatten, *]; done) | (simp [D32.len, -List.length_flatten, *]; omega)) (by first | omega | (simp only [maxLen]; omega) | (simp [maxLen]; done) | (simp [maxLen]; omega) | (simp [maxLen, *]; omega)) (by first | omega | (simp only [maxLen]; omega) | (simp [maxLen]; done) | (simp [maxLen]; omega) | (simp [maxLen, *]; omega)) rfl rfl rfl ?_)
      refine s1 (y_p rfl) rfl <| ?_
      refine at_nil ?_
      refine x_bn ?_
      refine x_tn ?_
      refine at_region ?_
      refine s1 (y_p rfl) rfl <| s1 ((subI rfl rfl (by omega) (by omega)).v (v' := .i .i64 (7 - ((k + 1 : Nat) : Int))) (congrArg (A.i .i64) (by omega))) rfl <| s1 (y_p rfl) rfl <| ?_
      refine at_nil ?_
      exact at_end (k + 1) (by omega) (by omega) [(3, some 33)] hI rfl rfl ⟨⟨_, rfl, .sl rfl (by first | rfl | omega | (simp; done) | (simp [*]; done) | (simp; omega) | (simp [*]; omega) | (simp [D32.len, -List.length_flatten, *]; done) | (simp [D32.len, -List.length_flatten, *]; omega))⟩, ⟨_, rfl, .pure pu⟩, ⟨_, rfl, .pure pu⟩, trivial⟩ ⟨.inr ⟨_, _, rfl, rfl, .of (by rw [take_be64 _ k (by omega)]; simp) (.pure pul)⟩, trivial⟩
    · have hk8 : k = 8 := by have := of_decide_eq_false hc23; omega
      subst hk8
      refine at_exit ?_
      refine x_te ?_
      refine x_te ?_
      refine x_be ?_
      refine x_tn ?_
      refine at_seq ?_
      refine at_region ?_
      refine s1 (y_p rfl) rfl <| s1 (y_p rfl) rfl <| ?_
      refine at_nil ?_
      refine x_tn ?_
      refine at_ret ?_
      refine at_frz 2 rfl rfl pul (view_eq (by simp [len_be64]; omega) (by rw [take_all (len_be64 _)])) ?_
      refine at_result (rs := [.tmp 2]) rfl (r_tmp rfl r_nil) ?_
      show A.fz _ _ = _
      rw [len_pad]
      rfl

set_option linter.unusedSimpArgs false in
set_option linter.unusedVariables false in
set_option maxHeartbeats 1000000 in
theorem rsum_ok (b : List UInt8) (hb : b.length ≤ 140737488300000) : Con Tryd.prog 37 [.fz b.length (b.map u8)] (Ret (.ag ((sha b).map u8))) := by
  refine enter Tryd.func37 rfl Tryd.ntmps37 (by kernel_rfl) (Nat.le_of_ble_eq_true rfl) fun w0 X0 hI => ?_
  refine at_seq ?_
  refine at_region ?_
  refine at_op rfl (n_alloc 2 rfl ti23 rfl rfl ?_)
  refine at_nil ?_
  refine x_tn ?_
  refine at_seq ?_
  refine at_region ?_
  refine s1 ((y_bldA (vs := [_, _, _, _, _, _, _, _]) ti68 rfl Tryd.underlying68 ti65 rfl rfl rfl rfl).v (v' := .ag (h0.l.map w32)) (by kernel_rfl)) rfl <| ?_
  refine at_op rfl (n_alloc 3 rfl ti68 rfl rfl ?_)
  refine at_op rfl (n_storeA ti68 rfl rfl rfl (by first | rfl | omega | (simp; done) | (simp [*]; done) | (simp; omega) | (simp [*]; omega) | (simp [D32.len, -List.length_flatten, *]; done) | (simp [D32.len, -List.length_flatten, *]; omega)) (by first | rfl | omega | (simp; done) | (simp [*]; done) | (simp; omega) | (simp [*]; omega) | (simp [D32.len, -List.length_flatten, *]; done) | (simp [D32.len, -List.length_flatten, *]; omega)) ?_)
  refine at_nil ?_
  refine x_tn ?_
  refine at_seq ?_
  refine at_region ?_
  refine s1 (y_p rfl) rfl <| ?_
  refine at_op rfl (n_call false rfl (.cons (.pure pu) (.nil)) (padded_ok b hb) pu (.inl rfl) rfl ?_)
  refine s1 (y_p rfl) rfl <| ?_
  refine at_nil ?_
  refine x_tn ?_
  refine at_seq ?_
  refine at_seq ?_
  refine at_region ?_
  refine s1 ((y_p rfl).v (v' := .i .i64 0) rfl) rfl <| ?_
  refine at_nil ?_
  refine x_tn ?_
  refine at_block ?_
  refine at_loop (ι := Nat) (fun k => [(2, .p 2 0), (3, .p 3 0), (4, .fz (pad b).length ((pad b).map u8)), (5, .i .i64 ((64 * k : Nat) : Int))]) (fun k => ⟨[(2, some (List.replicate 32 (u8 0))), (3, some ((absAll k h0 (pad b)).l.map w32))]⟩) (fun k => k ≤ (pad b).length / 64) (fun k => (pad b).length / 64 - k) ?_ ?_
  · exact at_ex (0) (Nat.zero_le _) [(2, some 2), (3, some 3)] hI rfl rfl ⟨⟨_, rfl, .p rfl⟩, ⟨_, rfl, .p rfl⟩, ⟨_, rfl, .pure pu⟩, ⟨_, rfl, .pure pu⟩, trivial⟩ ⟨.inr ⟨_, _, rfl, rfl, .of (by simp) (.pure pul)⟩, .inr ⟨_, _, rfl, rfl, .pure pul⟩, trivial⟩
  rintro k hk
  have hp := len_pad64 b
  have hpl := len_pad b
  have hz := zeros_spec b.length
  refine at_seq ?_
  refine at_seq ?_
  refine at_region ?_
  refine s1 (y_p rfl) rfl <| s1 (y_p rfl) rfl <| s1 (y_len Tryd.underlying24 rfl rfl rfl) rfl <| s1 (y_p rfl) rfl <| ?_
  refine at_nil ?_
  refine x_tn ?_
  refine at_cond rfl (fun hc14 => ?_) (fun hc14 => ?_)
  · have hk2 : k < (pad b).length / 64 := by have := of_decide_eq_true hc14; omega
    refine at_skip ?_
    refine x_tn ?_
    refine at_seq ?_
    refine at_block ?_
    refine at_fs ⟨_, [], []⟩ 7 4 hmix (le_refl rfl) ?_
    refine fs_q 0 [] [(3, none)] (y_loadA0 ti68 rfl rfl (by first | rfl | omega | (simp; done) | (simp [*]; done) | (simp; omega) | (simp [*]; omega) | (simp [D32.len, -List.length_flatten, *]; done) | (simp [D32.len, -List.length_flatten, *]; omega))) rfl rfl ?_
    refine fs_q 1 [] [] (y_p rfl) rfl rfl ?_
    refine fs_q 2 [] [] (y_p rfl) rfl rfl ?_
    refine fs_q 3 [] [] (y_p rfl) rfl rfl ?_
    refine fs_q 4 [3] [] (addN _ 64 rfl rfl rfl rfl (by omega)) rfl rfl ?_
    refine fs_q 5 [1, 2, 4] [] ((y_cutf 64 Tryd.underlying24 ti5 rfl (by simp) (bs rfl rfl) (bs rfl rfl) (by omega) (by omega) (by omega) rfl).v (congrArg (A.fz 64) (cut_map (pad b) (64 * k)))) rfl rfl ?_
    refine fs_call false 6 [0, 5] [] gy0 rfl (.cons (.pure pu) (.cons (.pure pu) (.nil))) (block_ok _ _ (by simp; omega)) pu (.inl rfl) rfl rfl ?_
    refine fs_end (by kernel_rfl) ?_
    refine at_op rfl (n_storeA ti68 rfl rfl rfl (by first | rfl | omega | (simp; done) | (simp [*]; done) | (simp; omega) | (simp [*]; omega) | (simp [D32.len, -List.length_flatten, *]; done) | (simp [D32.len, -List.length_flatten, *]; omega)) (by first | rfl | omega | (simp; done) | (simp [*]; done) | (simp; omega) | (simp [*]; omega) | (simp [D32.len, -List.length_flatten, *]; done) | (simp [D32.len, -List.length_flatten, *]; omega)) ?_)
    refine at_nil ?_
    refine x_bn ?_
    refine x_tn ?_
    refine at_region ?_
    refine s1 (y_p rfl) rfl <| s1 (addN _ 64 rfl rfl rfl rfl (by omega)) rfl <| s1 (y_p rfl) rfl <| ?_
    refine at_nil ?_
    exact at_end (k + 1) (by omega) (by omega) [(2, some 2), (3, some 3)] hI rfl rfl ⟨⟨_, rfl, .p rfl⟩, ⟨_, rfl, .p rfl⟩, ⟨_, rfl, .pure pu⟩, ⟨_, rfl, .pure pu⟩, trivial⟩ ⟨.inr ⟨_, _, rfl, rfl, .of (by simp) (.pure pul)⟩, .inr ⟨_, _, rfl, rfl, .of (by rw [absAll_snoc]) (.pure pul)⟩, trivial⟩
  · have hk2 : k = (pad b).length / 64 := by have := of_decide_eq_false hc14; omega
    subst hk2
    refine at_exit ?_
    refine x_te ?_
    refine x_te ?_
    refine x_be ?_
    refine x_tn ?_
    refine at_seq ?_
    refine at_region ?_
    refine s1 ((y_bld0 ti23 rfl Tryd.underlying23 ti5 rfl).v (v' := .ag ((outS h0 0).map u8 ++ List.replicate (32 - 0) (u8 0))) (by kernel_rfl)) rfl <| ?_
    refine at_op rfl (n_alloc 6 rfl ti23 rfl rfl ?_)
    refine at_op rfl (n_storeA ti23 rfl rfl rfl (by first | rfl | omega | (simp; done) | (simp [*]; done) | (simp; omega) | (simp [*]; omega) | (simp [D32.len, -List.length_flatten, *]; done) | (simp [D32.len, -List.length_flatten, *]; omega)) (by first | rfl | omega | (simp; done) | (simp [*]; done) | (simp; omega) | (simp [*]; omega) | (simp [D32.len, -List.length_flatten, *]; done) | (simp [D32.len, -List.length_flatten, *]; omega)) ?_)
    refine at_nil ?_
    refine x_tn ?_
    refine at_seq ?_
    refine at_seq ?_
    refine at_region ?_
    refine s1 ((y_p rfl).v (v' := .i .i64 0) rfl) rfl <| ?_
    refine at_nil ?_
    refine x_tn ?_
    refine at_block ?_
    refine at_loop (ι := Nat) (fun i => [(2, .p 2 0), (3, .p 3 0), (6, .p 6 0), (7, .i .i64 (i : Nat))]) (fun i => ⟨[(2, some (List.replicate 32 (u8 0))), (3, some ((absAll ((pad b).length / 64) h0 (pad b)).l.map w32)), (6, some ((outS (absAll ((pad b).length / 64) h0 (pad b)) i).map u8 ++ List.replicate (32 - i) (u8 0)))]⟩) (fun i => i ≤ 32) (fun i => 32 - i) ?_ ?_
    · exact at_ex (0) (Nat.zero_le _) [(2, some 2), (3, some 3), (6, some 6)] hI rfl rfl ⟨⟨_, rfl, .p rfl⟩, ⟨_, rfl, .p rfl⟩, ⟨_, rfl, .p rfl⟩, ⟨_, rfl, .pure pu⟩, trivial⟩ ⟨.inr ⟨_, _, rfl, rfl, .pure pul⟩, .inr ⟨_, _, rfl, rfl, .pure pul⟩, .inr ⟨_, _, rfl, rfl, .pure pul⟩, trivial⟩
    rintro i hi
    refine at_seq ?_
    refine at_seq ?_
    refine at_region ?_
    refine s1 (y_p rfl) rfl <| s1 (y_p rfl) rfl <| ?_
    refine at_nil ?_
    refine x_tn ?_
    refine at_cond rfl (fun hc26 => ?_) (fun hc26 => ?_)
    · have hi2 : i < 32 := by have := of_decide_eq_true hc26; omega
      refine at_skip ?_
      refine x_tn ?_
      refine at_seq ?_
      refine at_block ?_
      refine at_region ?_
      refine s1 (y_p rfl) rfl <| s1 (y_p rfl) rfl <| s1 (quoN i 4 rfl rfl rfl rfl (by decide) (by omega)) rfl <| s1 (y_ixa (i / 4) Tryd.underlying68 ti65 rfl rfl rfl (by omega) rfl) rfl <| s1 (y_load ti65 rfl rfl (getW2 (i / 4) (by simp; omega) rfl)) rfl <| s1 (y_p rfl) rfl <| s1 (remN i 4 rfl rfl rfl rfl (by decide)) rfl <| s1 (mulN 8 (i % 4) rfl rfl rfl rfl (by omega)) rfl <| s1 (subN 24 (8 * (i % 4)) rfl rfl rfl rfl (by omega) (by omega)) rfl <| s1 (shr32 _ (24 - 8 * (i % 4)) rfl rfl rfl (by omega)) rfl <| ?_
      refine s1 (to8_32 _ Tryd.underlying65 Tryd.underlying5 rfl) rfl <| s1 (y_ixa i Tryd.underlying23 ti5 rfl rfl rfl (by omega) rfl) rfl <| ?_
      refine at_op rfl (n_store1 ti5 rfl rfl rfl rfl (by simp only [List.length_append, List.length_map, List.length_replicate, len_outS]; omega) (set_out _ i _ (by omega) rfl) ?_)
      refine at_nil ?_
      refine x_bn ?_
      refine x_tn ?_
      refine at_region ?_
      refine s1 (y_p rfl) rfl <| s1 (addN _ 1 rfl rfl rfl rfl (by omega)) rfl <| s1 (y_p rfl) rfl <| ?_
      refine at_nil ?_
      exact at_end (i + 1) (by omega) (by omega) [(2, some 2), (3, some 3), (6, some 6)] hI rfl rfl ⟨⟨_, rfl, .p rfl⟩, ⟨_, rfl, .p rfl⟩, ⟨_, rfl, .p rfl⟩, ⟨_, rfl, .pure pu⟩, trivial⟩ ⟨.inr ⟨_, _, rfl, rfl, .pure pul⟩, .inr ⟨_, _, rfl, rfl, .pure pul⟩, .inr ⟨_, _, rfl, rfl, .pure pul⟩, trivial⟩
    · have hi2 : i = 32 := by have := of_decide_eq_false hc26; omega
      subst hi2
      refine at_exit ?_
      refine x_te ?_
      refine x_te ?_
      refine x_be ?_
      refine x_tn ?_
      refine at_seq ?_
      refine at_region ?_
      refine s1 (y_loadA0 ti23 rfl rfl (by first | rfl | omega | (simp; done) | (simp [*]; done) | (simp; omega) | (simp [*]; omega) | (simp [D32.len, -List.length_flatten, *]; done) | (simp [D32.len, -List.length_flatten, *]; omega))) rfl <| ?_
      refine at_op rfl (n_storeA ti23 rfl rfl rfl (by first | rfl | omega | (simp; done) | (simp [*]; done) | (simp; omega) | (simp [*]; omega) | (simp [D32.len, -List.length_flatten, *]; done) | (simp [D32.len, -List.length_flatten, *]; omega)) (by first | rfl | omega | (simp; done) | (simp [*]; done) | (simp; omega) | (simp [*]; omega) | (simp [D32.len, -List.length_flatten, *]; done) | (simp [D32.len, -List.length_flatten, *]; omega)) ?_)
      refine at_nil ?_
      refine x_tn ?_
      refine at_ret ?_
      refine at_result (rs := [.cell 2 23]) rfl (r_cellA ti23 rfl rfl (List.take_of_length_le (by simp)) (by simp) r_nil) rfl

end Go.Abs.D2
