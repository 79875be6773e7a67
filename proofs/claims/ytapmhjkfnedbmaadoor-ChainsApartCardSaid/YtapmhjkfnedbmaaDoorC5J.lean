/-
  Layer 2: walks of the digest functions. Conditions: each theorem says its own.
-/
import Derived.Test.YtapmhjkfnedbmaaDoorC5F
import Derived.Test.YtapmhjkfnedbmaaDoorAbsK
import Derived.Test.YtapmhjkfnedbmaaDoorC5S
namespace Go.Abs.D2
open Go Go.Eng Go.Abs Go.Proofs 

set_option linter.unusedSimpArgs false in
set_option linter.unusedVariables false in
set_option maxHeartbeats 1000000 in
theorem law_apart (a b : List UInt8) (S : List (List UInt8)) (ha : a.length = 32) (hb : b.length = 32) : Con Tryd.prog 6 [.ag (a.map u8), .ag (b.map u8), dgs S] (Ret (.b true)) := by
  refine enter Tryd.func6 rfl Tryd.ntmps6 (by kernel_rfl) (Nat.le_of_ble_eq_true rfl) fun w0 X0 hI => ?_
  refine at_seq ?_
  refine at_region ?_
  refine at_op rfl (n_boxA 3 rfl rfl rfl ?_)
  refine at_op rfl (n_boxA 4 rfl rfl rfl ?_)
  refine s1 (y_p rfl) rfl <| ?_
  refine at_nil ?_
  refine x_tn ?_
  refine at_seq ?_
  refine at_seq ?_
  refine at_region ?_
  refine at_op rfl (n_call false rfl (.nil) (sane_ok) pu (.inl rfl) rfl ?_)
  refine s1 (y_p rfl) rfl <| ?_
  refine at_nil ?_
  refine x_tn ?_
  refine at_else rfl ?_
  refine at_skip ?_
  refine x_tn ?_
  refine at_seq ?_
  refine at_seq ?_
  refine at_region ?_
  refine s1 (y_p rfl) rfl <| s1 (y_len Tryd.underlying24 rfl rfl rfl) rfl <| s1 (y_p rfl) rfl <| ?_
  refine at_nil ?_
  refine x_tn ?_
  refine at_cond rfl (fun hc21 => ?_) (fun hc21 => ?_)
  · skip
    refine at_seq ?_
    refine at_region ?_
    refine s1 (y_p rfl) rfl <| ?_
    refine at_nil ?_
    refine x_tn ?_
    refine at_ret ?_
    refine x_tr ?_
    refine at_result (rs := [.tmp 6]) rfl (r_tmp rfl r_nil) rfl
  · skip
    refine at_skip ?_
    refine x_tn ?_
    refine at_seq ?_
    refine at_fs ⟨_, [], []⟩ 5 4 hmix (le_refl rfl) ?_
    refine fs_q 0 [] [(3, none)] (y_loadA0 ti23 rfl rfl (by first | rfl | omega | (simp; done) | (simp [*]; done) | (simp; omega) | (simp [*]; omega) | (simp [D32.len, -List.length_flatten, *]; done) | (simp [D32.len, -List.length_flatten, *]; omega))) rfl rfl ?_
    refine fs_call false 1 [0] [] gy0 rfl (.cons (.pure pu) (.nil)) (digits_ok a ha) pu (.inl rfl) rfl rfl ?_
    refine fs_q 2 [] [(4, none)] (y_loadA0 ti23 rfl rfl (by first | rfl | omega | (simp; done) | (simp [*]; done) | (simp; omega) | (simp [*]; omega) | (simp [D32.len, -List.length_flatten, *]; done) | (simp [D32.len, -List.length_flatten, *]; omega))) rfl rfl ?_
    refine fs_call false 3 [2] [] gy0 rfl (.cons (.pure pu) (.nil)) (digits_ok b hb) pu (.inl rfl) rfl rfl ?_
    refine fs_q 4 [1] [] (y_p rfl) rfl rfl ?_
    refine fs_end (by kernel_rfl) ?_
    refine s1 (y_p rfl) rfl <| ?_
    refine at_nil ?_
    refine x_tn ?_
    refine at_seq ?_
    refine at_seq ?_
    refine at_region ?_
    refine s1 (y_p rfl) rfl <| s1 (y_len Tryd.underlying29 rfl rfl rfl) rfl <| s1 ((y_p rfl).v (v' := .b false) (congrArg A.b (by decide))) rfl <| s1 ((y_p rfl).v (v' := .b false) (rfl)) rfl <| g1 rfl rfl (y_p rfl) rfl <| g1 rfl rfl (y_len Tryd.underlying29 rfl rfl rfl) rfl <| g1 rfl rfl ((y_p rfl).v (v' := .b false) (congrArg A.b (by decide))) rfl <| s1 ((y_p rfl).v (v' := .b false) (rfl)) rfl <| ?_
    refine at_nil ?_
    refine x_tn ?_
    refine at_else rfl ?_
    refine at_skip ?_
    refine x_tn ?_
    refine at_seq ?_
    refine at_region ?_
    refine s1 ((y_p rfl).v (v' := .i .i64 0) rfl) rfl <| s1 (y_p rfl) rfl <| ?_
    refine at_nil ?_
    refine x_tn ?_
    refine at_seq ?_
    refine at_seq ?_
    refine at_region ?_
    refine s1 (y_p rfl) rfl <| s1 (y_len Tryd.underlying29 rfl rfl rfl) rfl <| s1 ((y_p rfl).v (v' := .i .i64 0) rfl) rfl <| ?_
    refine at_nil ?_
    refine x_tn ?_
    refine at_block ?_
    refine at_loop (ι := Nat) (fun i => [(2, dgs S), (3, .p 3 0), (4, .p 4 0), (7, .fz 19 ((digits a).map nI)), (8, .fz 19 ((digits b).map nI)), (9, nI (sumK a (min i 16))), (10, .b (sameK a b i)), (34, .fz 19 ((digits a).map nI)), (35, nI 19), (36, nI i)]) (fun i => ⟨[(3, some (a.map u8)), (4, some (b.map u8))]⟩) (fun i => i ≤ 19) (fun i => 19 - i) ?_ ?_
    · exact at_ex (0) (Nat.zero_le _) [(3, some 3), (4, some 4)] hI rfl rfl ⟨⟨_, rfl, .pure pu⟩, ⟨_, rfl, .p rfl⟩, ⟨_, rfl, .p rfl⟩, ⟨_, rfl, .pure pu⟩, ⟨_, rfl, .pure pu⟩, ⟨_, rfl, .of (by rw [show min 0 16 = 0 from rfl, sumK_0]; rfl) (.pure pu)⟩, ⟨_, rfl, .of (by rfl) (.pure pu)⟩, ⟨_, rfl, .pure pu⟩, ⟨_, rfl, .pure pu⟩, ⟨_, rfl, .pure pu⟩, trivial⟩ ⟨.inr ⟨_, _, rfl, rfl, .pure pul⟩, .inr ⟨_, _, rfl, rfl, .pure pul⟩, trivial⟩
    rintro i hi
    have hai := dg_lt a i
    have hbi := dg_lt b i
    have hsk := sumK_le a (min i 16)
    refine at_seq ?_
    refine at_region ?_
    refine s1 (y_p rfl) rfl <| ?_
    refine at_nil ?_
    refine x_tn ?_
    refine at_seq ?_
    refine at_cond rfl (fun hc37 => ?_) (fun hc37 => ?_)
    · have h37 : i < 19 := by have := of_decide_eq_true hc37; omega
      refine at_skip ?_
      refine x_tn ?_
      refine at_seq ?_
      refine at_block ?_
      refine at_seq ?_
      refine at_region ?_
      refine s1 (y_p rfl) rfl <| s1 (y_ixf i Tryd.underlying29 ti3 rfl rfl rfl (by omega) rfl) rfl <| s1 (y_load ti3 rfl rfl (get_dig3 a i h37)) rfl <| s1 (y_p rfl) rfl <| s1 (y_p rfl) rfl <| ?_
      refine at_nil ?_
      refine x_tn ?_
      refine at_seq ?_
      refine at_seq ?_
      refine at_region ?_
      refine s1 (y_p rfl) rfl <| s1 ((y_p rfl).v (v' := .b false) (congrArg A.b (decide_eq_false (by omega)))) rfl <| s1 ((y_p rfl).v (v' := .b false) (rfl)) rfl <| g1 rfl rfl (y_p rfl) rfl <| g1 rfl rfl ((y_p rfl).v (v' := .b false) (congrArg A.b (decide_eq_false (by omega)))) rfl <| s1 ((y_p rfl).v (v' := .b false) (rfl)) rfl <| ?_
      refine at_nil ?_
      refine x_tn ?_
      refine at_else rfl ?_
      refine at_skip ?_
      refine x_tn ?_
      refine at_seq ?_
      refine at_seq ?_
      refine at_region ?_
      refine s1 (y_p rfl) rfl <| s1 (y_p rfl) rfl <| ?_
      refine at_nil ?_
      refine x_tn ?_
      refine at_cond rfl (fun hc48 => ?_) (fun hc48 => ?_)
      · have h48 : i < 16 := by have := of_decide_eq_true hc48; omega
        refine at_region ?_
        refine s1 (y_p rfl) rfl <| s1 (y_p rfl) rfl <| s1 (subN 3 (dg a i) rfl rfl rfl rfl (by omega) (by omega)) rfl <| s1 (addN (sumK a (min i 16)) (3 - dg a i) rfl rfl rfl rfl (by omega)) rfl <| s1 (y_p rfl) rfl <| ?_
        refine at_nil ?_
        refine x_tn ?_
        refine at_region ?_
        refine s1 (y_p rfl) rfl <| s1 (y_p rfl) rfl <| ?_
        refine g_and 6 rfl rfl rfl rfl (fun hb54 => .step (y_p rfl) rfl rfl <| .step (y_p rfl) rfl rfl <| .step (y_p rfl) rfl rfl <| .step (y_ixf i Tryd.underlying29 ti3 rfl rfl rfl (by omega) rfl) rfl rfl <| .step (y_load ti3 rfl rfl (get_dig3 b i h37)) rfl rfl <| .step (y_p rfl) rfl rfl <| .done) rfl rfl ?_
        refine s1 (y_p rfl) rfl <| ?_
        refine at_nil ?_
        refine x_bn ?_
        refine x_tn ?_
        refine at_region ?_
        refine s1 (addN _ 1 rfl rfl rfl rfl (by omega)) rfl <| s1 (y_p rfl) rfl <| ?_
        refine at_nil ?_
        exact at_end (i + 1) (by omega) (by omega) [(3, some 3), (4, some 4)] hI rfl rfl ⟨⟨_, rfl, .pure pu⟩, ⟨_, rfl, .p rfl⟩, ⟨_, rfl, .p rfl⟩, ⟨_, rfl, .pure pu⟩, ⟨_, rfl, .pure pu⟩, ⟨_, rfl, .of (congrArg nI (sum_min1 h48)) (.pure pu)⟩, ⟨_, rfl, .of (by rfl) (.pure pu)⟩, ⟨_, rfl, .pure pu⟩, ⟨_, rfl, .pure pu⟩, ⟨_, rfl, .pure pu⟩, trivial⟩ ⟨.inr ⟨_, _, rfl, rfl, .pure pul⟩, .inr ⟨_, _, rfl, rfl, .pure pul⟩, trivial⟩
      · have h48 : ¬ i < 16 := by have := of_decide_eq_false hc48; omega
        refine at_skip ?_
        refine x_tn ?_
        refine at_region ?_
        refine s1 (y_p rfl) rfl <| s1 (y_p rfl) rfl <| ?_
        refine g_and 6 rfl rfl rfl rfl (fun hb54 => .step (y_p rfl) rfl rfl <| .step (y_p rfl) rfl rfl <| .step (y_p rfl) rfl rfl <| .step (y_ixf i Tryd.underlying29 ti3 rfl rfl rfl (by omega) rfl) rfl rfl <| .step (y_load ti3 rfl rfl (get_dig3 b i h37)) rfl rfl <| .step (y_p rfl) rfl rfl <| .done) rfl rfl ?_
        refine s1 (y_p rfl) rfl <| ?_
        refine at_nil ?_
        refine x_bn ?_
        refine x_tn ?_
        refine at_region ?_
        refine s1 (addN _ 1 rfl rfl rfl rfl (by omega)) rfl <| s1 (y_p rfl) rfl <| ?_
        refine at_nil ?_
        exact at_end (i + 1) (by omega) (by omega) [(3, some 3), (4, some 4)] hI rfl rfl ⟨⟨_, rfl, .pure pu⟩, ⟨_, rfl, .p rfl⟩, ⟨_, rfl, .p rfl⟩, ⟨_, rfl, .pure pu⟩, ⟨_, rfl, .pure pu⟩, ⟨_, rfl, .of (congrArg nI (by rw [show min i 16 = min (i + 1) 16 by omega])) (.pure pu)⟩, ⟨_, rfl, .of (by rfl) (.pure pu)⟩, ⟨_, rfl, .pure pu⟩, ⟨_, rfl, .pure pu⟩, ⟨_, rfl, .pure pu⟩, trivial⟩ ⟨.inr ⟨_, _, rfl, rfl, .pure pul⟩, .inr ⟨_, _, rfl, rfl, .pure pul⟩, trivial⟩
    · have h37 : i = 19 := by have := of_decide_eq_false hc37; omega
      subst h37
      have h16 := dg_lt a 16
      have h17 := dg_lt a 17
      have h18 := dg_lt a 18
      refine at_exit ?_
      refine x_te ?_
      refine x_te ?_
      refine x_be ?_
      refine x_tn ?_
      refine at_seq ?_
      refine at_seq ?_
      rcases four a b with hcs | hcs | hcs | hcs
      · skip
        refine at_draw_tail 44 hmix (by kernel_rfl) ?_
        refine t1 (y_p rfl) rfl <| t1 (y_p rfl) rfl <| t1 (y_ixf 16 Tryd.underlying29 ti3 rfl rfl rfl (by omega) rfl) rfl <| t1 (y_load ti3 rfl rfl (get_dig3 a 16 (by omega))) rfl <| t1 (mulN 16 (dg a 16) rfl rfl rfl rfl (by omega)) rfl <| t1 (y_p rfl) rfl <| t1 (y_ixf 17 Tryd.underlying29 ti3 rfl rfl rfl (by omega) rfl) rfl <| t1 (y_load ti3 rfl rfl (get_dig3 a 17 (by omega))) rfl <| t1 (mulN 4 (dg a 17) rfl rfl rfl rfl (by omega)) rfl <| t1 (addN (16 * dg a 16) (4 * dg a 17) rfl rfl rfl rfl (by omega)) rfl <| ?_
        refine t1 (y_p rfl) rfl <| t1 (y_ixf 18 Tryd.underlying29 ti3 rfl rfl rfl (by omega) rfl) rfl <| t1 (y_load ti3 rfl rfl (get_dig3 a 18 (by omega))) rfl <| t1 (addN (16 * dg a 16 + 4 * dg a 17) (dg a 18) rfl rfl rfl rfl (by omega)) rfl <| t1 ((y_p rfl).v (v' := .b false) (congrArg A.b (by rw [show min 19 16 = 16 from rfl, sum_digits]; simp))) rfl <| t1 ((y_p rfl).v (v' := .b false) (rfl)) rfl <| t1g rfl rfl (y_p rfl) rfl <| t1g rfl rfl (y_ixa 0 Tryd.underlying23 ti5 rfl rfl rfl (by omega) rfl) rfl <| t1g rfl rfl (y_load ti5 rfl rfl (getO (m := a) 0 (by omega))) rfl <| t1g rfl rfl (y_ixa 0 Tryd.underlying23 ti5 rfl rfl rfl (by omega) rfl) rfl <| ?_
        refine t1g rfl rfl (y_load ti5 rfl rfl (getO (m := b) 0 (by omega))) rfl <| t1g rfl rfl ((y_p rfl).v (v' := .b false) (congrArg A.b (by rw [u8eq]; exact decide_eq_false hcs))) rfl <| t1g rfl rfl ((y_p rfl).v (v' := .b false) (rfl)) rfl <| t0g rfl rfl rfl rfl <| t0g rfl rfl rfl rfl <| t0g rfl rfl rfl rfl <| t0g rfl rfl rfl rfl <| t0g rfl rfl rfl rfl <| t1g rfl rfl ((y_p rfl).v (v' := .b false) (rfl)) rfl <| t1g rfl rfl ((y_p rfl).v (v' := .b false) (rfl)) rfl <| ?_
        refine t0g rfl rfl rfl rfl <| t0g rfl rfl rfl rfl <| t0g rfl rfl rfl rfl <| t0g rfl rfl rfl rfl <| t0g rfl rfl rfl rfl <| t1g rfl rfl ((y_p rfl).v (v' := .b false) (rfl)) rfl <| t1g rfl rfl ((y_p rfl).v (v' := .b false) (rfl)) rfl <| t0g rfl rfl rfl rfl <| t0g rfl rfl rfl rfl <| t0g rfl rfl rfl rfl <| ?_
        refine t0g rfl rfl rfl rfl <| t0g rfl rfl rfl rfl <| t1g rfl rfl (y_p rfl) rfl <| t1g rfl rfl ((y_neb Tryd.underlying4 rfl rfl).v (v' := .b false) (congrArg A.b (by rw [four_no (j := 0) (by omega) hcs]; rfl))) rfl <| ?_
        refine at_snil ?_
        refine s1 ((y_p rfl).v (v' := .b false) (rfl)) rfl <| ?_
        refine at_nil ?_
        refine x_tn ?_
        refine at_else rfl ?_
        refine at_skip ?_
        refine x_tn ?_
        refine at_seq ?_
        refine at_region ?_
        refine s1 (y_loadA0 ti23 rfl rfl (by first | rfl | omega | (simp; done) | (simp [*]; done) | (simp; omega) | (simp [*]; omega) | (simp [D32.len, -List.length_flatten, *]; done) | (simp [D32.len, -List.length_flatten, *]; omega))) rfl <| s1 (y_p rfl) rfl <| s1 (y_loadA0 ti23 rfl rfl (by first | rfl | omega | (simp; done) | (simp [*]; done) | (simp; omega) | (simp [*]; omega) | (simp [D32.len, -List.length_flatten, *]; done) | (simp [D32.len, -List.length_flatten, *]; omega))) rfl <| ?_
        refine at_op rfl (n_call false rfl (.cons (.pure pu) (.cons (.pure pu) (.cons (.pure pu) (.nil)))) (earlier_ok a b S ha hb) pu (.inl rfl) rfl ?_)
        refine s1 (y_p rfl) rfl <| s1 (y_p rfl) rfl <| s1 (y_p rfl) rfl <| s1 (y_p rfl) rfl <| s1 (y_p rfl) rfl <| ?_
        refine at_nil ?_
        refine x_tn ?_
        refine at_seq ?_
        refine at_region ?_
        refine s1 (y_loadA0 ti23 rfl rfl (by first | rfl | omega | (simp; done) | (simp [*]; done) | (simp; omega) | (simp [*]; omega) | (simp [D32.len, -List.length_flatten, *]; done) | (simp [D32.len, -List.length_flatten, *]; omega))) rfl <| s1 (y_p rfl) rfl <| s1 (y_loadA0 ti23 rfl rfl (by first | rfl | omega | (simp; done) | (simp [*]; done) | (simp; omega) | (simp [*]; omega) | (simp [D32.len, -List.length_flatten, *]; done) | (simp [D32.len, -List.length_flatten, *]; omega))) rfl <| ?_
        refine at_op rfl (n_call false rfl (.cons (.pure pu) (.cons (.pure pu) (.cons (.pure pu) (.nil)))) (earlier_ok b a S hb ha) pu (.inl rfl) rfl ?_)
        refine s1 (y_p rfl) rfl <| s1 (y_p rfl) rfl <| s1 (y_p rfl) rfl <| s1 (y_p rfl) rfl <| s1 (y_p rfl) rfl <| ?_
        refine at_nil ?_
        refine x_tn ?_
        refine at_seq ?_
        refine at_seq ?_
        refine at_region ?_
        refine s1 (y_p rfl) rfl <| s1 (y_len Tryd.underlying24 rfl rfl rfl) rfl <| s1 (y_p rfl) rfl <| s1 (y_p rfl) rfl <| ?_
        refine at_bc 125 rfl (fun hc125 => ?_) (fun hc125 => ?_)
        · have hl : S.length ≠ 19 := by have := bne_iff_ne.1 hc125; omega
          refine g0 rfl rfl rfl rfl <| s1 ((y_p rfl).v (v' := .b true) (rfl)) rfl <| ?_
          refine at_nil ?_
          refine x_tn ?_
          refine at_then rfl ?_
          refine at_seq ?_
          refine at_region ?_
          refine s1 ((y_p rfl).v (v' := .b false) (congrArg A.b (by simp [earA, hl]))) rfl <| s1 ((y_p rfl).v (v' := .b true) (rfl)) rfl <| s1 ((y_p rfl).v (v' := .b true) (rfl)) rfl <| g1 rfl rfl ((y_p rfl).v (v' := .b false) (congrArg A.b (by simp [earA, hl]))) rfl <| g1 rfl rfl ((y_p rfl).v (v' := .b true) (rfl)) rfl <| s1 ((y_p rfl).v (v' := .b true) (rfl)) rfl <| s1 (y_p rfl) rfl <| ?_
          refine at_nil ?_
          refine x_tn ?_
          refine at_ret ?_
          refine x_tr ?_
          refine at_result (rs := [.tmp 6]) rfl (r_tmp rfl r_nil) rfl
        · have hl : S.length = 19 := by have := bne_eq_false_iff_eq.1 hc125; omega
          refine g1 rfl rfl (y_p rfl) rfl <| s1 (y_p rfl) rfl <| ?_
          refine at_bc 127 rfl (fun hc127 => ?_) (fun hc127 => ?_)
          · have hs : sameK a b 19 = true := hc127
            refine at_nil ?_
            refine x_tn ?_
            refine at_then rfl ?_
            refine at_seq ?_
            refine at_region ?_
            refine s1 ((y_p rfl).v (v' := .b false) (congrArg A.b (by simp [earA, (ear_sameK hs).1]))) rfl <| s1 ((y_p rfl).v (v' := .b true) (rfl)) rfl <| s1 ((y_p rfl).v (v' := .b true) (rfl)) rfl <| g1 rfl rfl ((y_p rfl).v (v' := .b false) (congrArg A.b (by simp [earA, (ear_sameK hs).2]))) rfl <| g1 rfl rfl ((y_p rfl).v (v' := .b true) (rfl)) rfl <| s1 ((y_p rfl).v (v' := .b true) (rfl)) rfl <| s1 (y_p rfl) rfl <| ?_
            refine at_nil ?_
            refine x_tn ?_
            refine at_ret ?_
            refine x_tr ?_
            refine at_result (rs := [.tmp 6]) rfl (r_tmp rfl r_nil) rfl
          · have hs : sameK a b 19 = false := hc127
            obtain ⟨m, hm, hm19, hmd⟩ := ear_found hs
            obtain ⟨n, hn, hn19, hnd⟩ := ear_found (sameK_symm hs)
            refine at_say 13 rfl (v' := nI m) (by simp [earA, hl, hm]) ?_
            refine at_say 14 rfl (v' := .b true) (by simp [earA, hl, hm]) ?_
            refine at_say 15 rfl (v' := nI n) (by simp [earA, hl, hn]) ?_
            refine at_say 16 rfl (v' := .b true) (by simp [earA, hl, hn]) ?_
            refine at_nil ?_
            refine x_tn ?_
            refine at_else rfl ?_
            refine at_skip ?_
            refine x_tn ?_
            refine at_seq ?_
            refine at_seq ?_
            refine at_region ?_
            refine s1 (y_p rfl) rfl <| s1 ((y_p rfl).v (v' := .b false) (rfl)) rfl <| s1 ((y_p rfl).v (v' := .b false) (rfl)) rfl <| g1 rfl rfl (y_p rfl) rfl <| g1 rfl rfl ((y_p rfl).v (v' := .b false) (rfl)) rfl <| s1 ((y_p rfl).v (v' := .b false) (rfl)) rfl <| s1 ((y_p rfl).v (v' := .b false) (rfl)) rfl <| g1 rfl rfl (y_p rfl) rfl <| g1 rfl rfl ((y_p rfl).v (v' := .b false) (congrArg A.b (decide_eq_false (by omega)))) rfl <| s1 ((y_p rfl).v (v' := .b false) (rfl)) rfl <| ?_
            refine s1 ((y_p rfl).v (v' := .b false) (rfl)) rfl <| g1 rfl rfl (y_p rfl) rfl <| g1 rfl rfl ((y_p rfl).v (v' := .b false) (congrArg A.b (decide_eq_false (by omega)))) rfl <| s1 ((y_p rfl).v (v' := .b false) (rfl)) rfl <| s1 ((y_p rfl).v (v' := .b false) (rfl)) rfl <| g1 rfl rfl (y_p rfl) rfl <| g1 rfl rfl ((y_p rfl).v (v' := .b false) (congrArg A.b (decide_eq_false (by omega)))) rfl <| s1 ((y_p rfl).v (v' := .b false) (rfl)) rfl <| s1 ((y_p rfl).v (v' := .b false) (rfl)) rfl <| g1 rfl rfl (y_p rfl) rfl <| ?_
            refine g1 rfl rfl ((y_p rfl).v (v' := .b false) (congrArg A.b (decide_eq_false (by omega)))) rfl <| s1 ((y_p rfl).v (v' := .b false) (rfl)) rfl <| ?_
            refine at_nil ?_
            refine x_tn ?_
            refine at_else rfl ?_
            refine at_skip ?_
            refine x_tn ?_
            refine at_seq ?_
            refine at_draw_tail 20 hmix (by kernel_rfl) ?_
            refine t1 (y_p rfl) rfl <| t1 (y_p rfl) rfl <| t1 (y_ixf m Tryd.underlying29 ti3 rfl rfl rfl (by omega) rfl) rfl <| t1 (y_load ti3 rfl rfl (get_dig3 b m hm19)) rfl <| t1 (y_p rfl) rfl <| t1 (y_p rfl) rfl <| t1 (y_ixf m Tryd.underlying29 ti3 rfl rfl rfl (by omega) rfl) rfl <| t1 (y_load ti3 rfl rfl (get_dig3 a m hm19)) rfl <| t1 ((y_p rfl).v (v' := .b true) (congrArg A.b (decide_eq_true (by omega)))) rfl <| t1 ((y_p rfl).v (v' := .b true) (rfl)) rfl <| ?_
            refine t1g rfl rfl (y_p rfl) rfl <| t1g rfl rfl (y_p rfl) rfl <| t1g rfl rfl (y_ixf n Tryd.underlying29 ti3 rfl rfl rfl (by omega) rfl) rfl <| t1g rfl rfl (y_load ti3 rfl rfl (get_dig3 a n hn19)) rfl <| t1g rfl rfl (y_p rfl) rfl <| t1g rfl rfl (y_p rfl) rfl <| t1g rfl rfl (y_ixf n Tryd.underlying29 ti3 rfl rfl rfl (by omega) rfl) rfl <| t1g rfl rfl (y_load ti3 rfl rfl (get_dig3 b n hn19)) rfl <| t1g rfl rfl ((y_p rfl).v (v' := .b true) (congrArg A.b (decide_eq_true (by omega)))) rfl <| t1 ((y_p rfl).v (v' := .b true) (rfl)) rfl <| ?_
            refine at_snil ?_
            refine s1 (y_p rfl) rfl <| ?_
            refine at_nil ?_
            refine x_tn ?_
            refine at_ret ?_
            refine at_result (rs := [.tmp 6]) rfl (r_tmp rfl r_nil) rfl
      · skip
        refine at_draw_tail 44 hmix (by kernel_rfl) ?_
        refine t1 (y_p rfl) rfl <| t1 (y_p rfl) rfl <| t1 (y_ixf 16 Tryd.underlying29 ti3 rfl rfl rfl (by omega) rfl) rfl <| t1 (y_load ti3 rfl rfl (get_dig3 a 16 (by omega))) rfl <| t1 (mulN 16 (dg a 16) rfl rfl rfl rfl (by omega)) rfl <| t1 (y_p rfl) rfl <| t1 (y_ixf 17 Tryd.underlying29 ti3 rfl rfl rfl (by omega) rfl) rfl <| t1 (y_load ti3 rfl rfl (get_dig3 a 17 (by omega))) rfl <| t1 (mulN 4 (dg a 17) rfl rfl rfl rfl (by omega)) rfl <| t1 (addN (16 * dg a 16) (4 * dg a 17) rfl rfl rfl rfl (by omega)) rfl <| ?_
        refine t1 (y_p rfl) rfl <| t1 (y_ixf 18 Tryd.underlying29 ti3 rfl rfl rfl (by omega) rfl) rfl <| t1 (y_load ti3 rfl rfl (get_dig3 a 18 (by omega))) rfl <| t1 (addN (16 * dg a 16 + 4 * dg a 17) (dg a 18) rfl rfl rfl rfl (by omega)) rfl <| t1 ((y_p rfl).v (v' := .b false) (congrArg A.b (by rw [show min 19 16 = 16 from rfl, sum_digits]; simp))) rfl <| t1 ((y_p rfl).v (v' := .b false) (rfl)) rfl <| t1g rfl rfl (y_p rfl) rfl <| t1g rfl rfl (y_ixa 0 Tryd.underlying23 ti5 rfl rfl rfl (by omega) rfl) rfl <| t1g rfl rfl (y_load ti5 rfl rfl (getO (m := a) 0 (by omega))) rfl <| t1g rfl rfl (y_ixa 0 Tryd.underlying23 ti5 rfl rfl rfl (by omega) rfl) rfl <| ?_
        refine t1g rfl rfl (y_load ti5 rfl rfl (getO (m := b) 0 (by omega))) rfl <| t1g rfl rfl ((y_p rfl).v (v' := .b true) (congrArg A.b (by rw [u8eq]; exact decide_eq_true hcs.1))) rfl <| t1g rfl rfl ((y_p rfl).v (v' := .b true) (rfl)) rfl <| t1g rfl rfl (y_ixa 1 Tryd.underlying23 ti5 rfl rfl rfl (by omega) rfl) rfl <| t1g rfl rfl (y_load ti5 rfl rfl (getO (m := a) 1 (by omega))) rfl <| t1g rfl rfl (y_ixa 1 Tryd.underlying23 ti5 rfl rfl rfl (by omega) rfl) rfl <| t1g rfl rfl (y_load ti5 rfl rfl (getO (m := b) 1 (by omega))) rfl <| t1g rfl rfl ((y_p rfl).v (v' := .b false) (congrArg A.b (by rw [u8eq]; exact decide_eq_false hcs.2))) rfl <| t1g rfl rfl ((y_p rfl).v (v' := .b false) (rfl)) rfl <| t1g rfl rfl ((y_p rfl).v (v' := .b false) (rfl)) rfl <| ?_
        refine t0g rfl rfl rfl rfl <| t0g rfl rfl rfl rfl <| t0g rfl rfl rfl rfl <| t0g rfl rfl rfl rfl <| t0g rfl rfl rfl rfl <| t1g rfl rfl ((y_p rfl).v (v' := .b false) (rfl)) rfl <| t1g rfl rfl ((y_p rfl).v (v' := .b false) (rfl)) rfl <| t0g rfl rfl rfl rfl <| t0g rfl rfl rfl rfl <| t0g rfl rfl rfl rfl <| ?_
        refine t0g rfl rfl rfl rfl <| t0g rfl rfl rfl rfl <| t1g rfl rfl (y_p rfl) rfl <| t1g rfl rfl ((y_neb Tryd.underlying4 rfl rfl).v (v' := .b false) (congrArg A.b (by rw [four_no (j := 1) (by omega) hcs.2]; rfl))) rfl <| ?_
        refine at_snil ?_
        refine s1 ((y_p rfl).v (v' := .b false) (rfl)) rfl <| ?_
        refine at_nil ?_
        refine x_tn ?_
        refine at_else rfl ?_
        refine at_skip ?_
        refine x_tn ?_
        refine at_seq ?_
        refine at_region ?_
        refine s1 (y_loadA0 ti23 rfl rfl (by first | rfl | omega | (simp; done) | (simp [*]; done) | (simp; omega) | (simp [*]; omega) | (simp [D32.len, -List.length_flatten, *]; done) | (simp [D32.len, -List.length_flatten, *]; omega))) rfl <| s1 (y_p rfl) rfl <| s1 (y_loadA0 ti23 rfl rfl (by first | rfl | omega | (simp; done) | (simp [*]; done) | (simp; omega) | (simp [*]; omega) | (simp [D32.len, -List.length_flatten, *]; done) | (simp [D32.len, -List.length_flatten, *]; omega))) rfl <| ?_
        refine at_op rfl (n_call false rfl (.cons (.pure pu) (.cons (.pure pu) (.cons (.pure pu) (.nil)))) (earlier_ok a b S ha hb) pu (.inl rfl) rfl ?_)
        refine s1 (y_p rfl) rfl <| s1 (y_p rfl) rfl <| s1 (y_p rfl) rfl <| s1 (y_p rfl) rfl <| s1 (y_p rfl) rfl <| ?_
        refine at_nil ?_
        refine x_tn ?_
        refine at_seq ?_
        refine at_region ?_
        refine s1 (y_loadA0 ti23 rfl rfl (by first | rfl | omega | (simp; done) | (simp [*]; done) | (simp; omega) | (simp [*]; omega) | (simp [D32.len, -List.length_flatten, *]; done) | (simp [D32.len, -List.length_flatten, *]; omega))) rfl <| s1 (y_p rfl) rfl <| s1 (y_loadA0 ti23 rfl rfl (by first | rfl | omega | (simp; done) | (simp [*]; done) | (simp; omega) | (simp [*]; omega) | (simp [D32.len, -List.length_flatten, *]; done) | (simp [D32.len, -List.length_flatten, *]; omega))) rfl <| ?_
        refine at_op rfl (n_call false rfl (.cons (.pure pu) (.cons (.pure pu) (.cons (.pure pu) (.nil)))) (earlier_ok b a S hb ha) pu (.inl rfl) rfl ?_)
        refine s1 (y_p rfl) rfl <| s1 (y_p rfl) rfl <| s1 (y_p rfl) rfl <| s1 (y_p rfl) rfl <| s1 (y_p rfl) rfl <| ?_
        refine at_nil ?_
        refine x_tn ?_
        refine at_seq ?_
        refine at_seq ?_
        refine at_region ?_
        refine s1 (y_p rfl) rfl <| s1 (y_len Tryd.underlying24 rfl rfl rfl) rfl <| s1 (y_p rfl) rfl <| s1 (y_p rfl) rfl <| ?_
        refine at_bc 125 rfl (fun hc125 => ?_) (fun hc125 => ?_)
        · have hl : S.length ≠ 19 := by have := bne_iff_ne.1 hc125; omega
          refine g0 rfl rfl rfl rfl <| s1 ((y_p rfl).v (v' := .b true) (rfl)) rfl <| ?_
          refine at_nil ?_
          refine x_tn ?_
          refine at_then rfl ?_
          refine at_seq ?_
          refine at_region ?_
          refine s1 ((y_p rfl).v (v' := .b false) (congrArg A.b (by simp [earA, hl]))) rfl <| s1 ((y_p rfl).v (v' := .b true) (rfl)) rfl <| s1 ((y_p rfl).v (v' := .b true) (rfl)) rfl <| g1 rfl rfl ((y_p rfl).v (v' := .b false) (congrArg A.b (by simp [earA, hl]))) rfl <| g1 rfl rfl ((y_p rfl).v (v' := .b true) (rfl)) rfl <| s1 ((y_p rfl).v (v' := .b true) (rfl)) rfl <| s1 (y_p rfl) rfl <| ?_
          refine at_nil ?_
          refine x_tn ?_
          refine at_ret ?_
          refine x_tr ?_
          refine at_result (rs := [.tmp 6]) rfl (r_tmp rfl r_nil) rfl
        · have hl : S.length = 19 := by have := bne_eq_false_iff_eq.1 hc125; omega
          refine g1 rfl rfl (y_p rfl) rfl <| s1 (y_p rfl) rfl <| ?_
          refine at_bc 127 rfl (fun hc127 => ?_) (fun hc127 => ?_)
          · have hs : sameK a b 19 = true := hc127
            refine at_nil ?_
            refine x_tn ?_
            refine at_then rfl ?_
            refine at_seq ?_
            refine at_region ?_
            refine s1 ((y_p rfl).v (v' := .b false) (congrArg A.b (by simp [earA, (ear_sameK hs).1]))) rfl <| s1 ((y_p rfl).v (v' := .b true) (rfl)) rfl <| s1 ((y_p rfl).v (v' := .b true) (rfl)) rfl <| g1 rfl rfl ((y_p rfl).v (v' := .b false) (congrArg A.b (by simp [earA, (ear_sameK hs).2]))) rfl <| g1 rfl rfl ((y_p rfl).v (v' := .b true) (rfl)) rfl <| s1 ((y_p rfl).v (v' := .b true) (rfl)) rfl <| s1 (y_p rfl) rfl <| ?_
            refine at_nil ?_
            refine x_tn ?_
            refine at_ret ?_
            refine x_tr ?_
            refine at_result (rs := [.tmp 6]) rfl (r_tmp rfl r_nil) rfl
          · have hs : sameK a b 19 = false := hc127
            obtain ⟨m, hm, hm19, hmd⟩ := ear_found hs
            obtain ⟨n, hn, hn19, hnd⟩ := ear_found (sameK_symm hs)
            refine at_say 13 rfl (v' := nI m) (by simp [earA, hl, hm]) ?_
            refine at_say 14 rfl (v' := .b true) (by simp [earA, hl, hm]) ?_
            refine at_say 15 rfl (v' := nI n) (by simp [earA, hl, hn]) ?_
            refine at_say 16 rfl (v' := .b true) (by simp [earA, hl, hn]) ?_
            refine at_nil ?_
            refine x_tn ?_
            refine at_else rfl ?_
            refine at_skip ?_
            refine x_tn ?_
            refine at_seq ?_
            refine at_seq ?_
            refine at_region ?_
            refine s1 (y_p rfl) rfl <| s1 ((y_p rfl).v (v' := .b false) (rfl)) rfl <| s1 ((y_p rfl).v (v' := .b false) (rfl)) rfl <| g1 rfl rfl (y_p rfl) rfl <| g1 rfl rfl ((y_p rfl).v (v' := .b false) (rfl)) rfl <| s1 ((y_p rfl).v (v' := .b false) (rfl)) rfl <| s1 ((y_p rfl).v (v' := .b false) (rfl)) rfl <| g1 rfl rfl (y_p rfl) rfl <| g1 rfl rfl ((y_p rfl).v (v' := .b false) (congrArg A.b (decide_eq_false (by omega)))) rfl <| s1 ((y_p rfl).v (v' := .b false) (rfl)) rfl <| ?_
            refine s1 ((y_p rfl).v (v' := .b false) (rfl)) rfl <| g1 rfl rfl (y_p rfl) rfl <| g1 rfl rfl ((y_p rfl).v (v' := .b false) (congrArg A.b (decide_eq_false (by omega)))) rfl <| s1 ((y_p rfl).v (v' := .b false) (rfl)) rfl <| s1 ((y_p rfl).v (v' := .b false) (rfl)) rfl <| g1 rfl rfl (y_p rfl) rfl <| g1 rfl rfl ((y_p rfl).v (v' := .b false) (congrArg A.b (decide_eq_false (by omega)))) rfl <| s1 ((y_p rfl).v (v' := .b false) (rfl)) rfl <| s1 ((y_p rfl).v (v' := .b false) (rfl)) rfl <| g1 rfl rfl (y_p rfl) rfl <| ?_
            refine g1 rfl rfl ((y_p rfl).v (v' := .b false) (congrArg A.b (decide_eq_false (by omega)))) rfl <| s1 ((y_p rfl).v (v' := .b false) (rfl)) rfl <| ?_
            refine at_nil ?_
            refine x_tn ?_
            refine at_else rfl ?_
            refine at_skip ?_
            refine x_tn ?_
            refine at_seq ?_
            refine at_draw_tail 20 hmix (by kernel_rfl) ?_
            refine t1 (y_p rfl) rfl <| t1 (y_p rfl) rfl <| t1 (y_ixf m Tryd.underlying29 ti3 rfl rfl rfl (by omega) rfl) rfl <| t1 (y_load ti3 rfl rfl (get_dig3 b m hm19)) rfl <| t1 (y_p rfl) rfl <| t1 (y_p rfl) rfl <| t1 (y_ixf m Tryd.underlying29 ti3 rfl rfl rfl (by omega) rfl) rfl <| t1 (y_load ti3 rfl rfl (get_dig3 a m hm19)) rfl <| t1 ((y_p rfl).v (v' := .b true) (congrArg A.b (decide_eq_true (by omega)))) rfl <| t1 ((y_p rfl).v (v' := .b true) (rfl)) rfl <| ?_
            refine t1g rfl rfl (y_p rfl) rfl <| t1g rfl rfl (y_p rfl) rfl <| t1g rfl rfl (y_ixf n Tryd.underlying29 ti3 rfl rfl rfl (by omega) rfl) rfl <| t1g rfl rfl (y_load ti3 rfl rfl (get_dig3 a n hn19)) rfl <| t1g rfl rfl (y_p rfl) rfl <| t1g rfl rfl (y_p rfl) rfl <| t1g rfl rfl (y_ixf n Tryd.underlying29 ti3 rfl rfl rfl (by omega) rfl) rfl <| t1g rfl rfl (y_load ti3 rfl rfl (get_dig3 b n hn19)) rfl <| t1g rfl rfl ((y_p rfl).v (v' := .b true) (congrArg A.b (decide_eq_true (by omega)))) rfl <| t1 ((y_p rfl).v (v' := .b true) (rfl)) rfl <| ?_
            refine at_snil ?_
            refine s1 (y_p rfl) rfl <| ?_
            refine at_nil ?_
            refine x_tn ?_
            refine at_ret ?_
            refine at_result (rs := [.tmp 6]) rfl (r_tmp rfl r_nil) rfl
      · skip
        refine at_draw_tail 44 hmix (by kernel_rfl) ?_
        refine t1 (y_p rfl) rfl <| t1 (y_p rfl) rfl <| t1 (y_ixf 16 Tryd.underlying29 ti3 rfl rfl rfl (by omega) rfl) rfl <| t1 (y_load ti3 rfl rfl (get_dig3 a 16 (by omega))) rfl <| t1 (mulN 16 (dg a 16) rfl rfl rfl rfl (by omega)) rfl <| t1 (y_p rfl) rfl <| t1 (y_ixf 17 Tryd.underlying29 ti3 rfl rfl rfl (by omega) rfl) rfl <| t1 (y_load ti3 rfl rfl (get_dig3 a 17 (by omega))) rfl <| t1 (mulN 4 (dg a 17) rfl rfl rfl rfl (by omega)) rfl <| t1 (addN (16 * dg a 16) (4 * dg a 17) rfl rfl rfl rfl (by omega)) rfl <| ?_
        refine t1 (y_p rfl) rfl <| t1 (y_ixf 18 Tryd.underlying29 ti3 rfl rfl rfl (by omega) rfl) rfl <| t1 (y_load ti3 rfl rfl (get_dig3 a 18 (by omega))) rfl <| t1 (addN (16 * dg a 16 + 4 * dg a 17) (dg a 18) rfl rfl rfl rfl (by omega)) rfl <| t1 ((y_p rfl).v (v' := .b false) (congrArg A.b (by rw [show min 19 16 = 16 from rfl, sum_digits]; simp))) rfl <| t1 ((y_p rfl).v (v' := .b false) (rfl)) rfl <| t1g rfl rfl (y_p rfl) rfl <| t1g rfl rfl (y_ixa 0 Tryd.underlying23 ti5 rfl rfl rfl (by omega) rfl) rfl <| t1g rfl rfl (y_load ti5 rfl rfl (getO (m := a) 0 (by omega))) rfl <| t1g rfl rfl (y_ixa 0 Tryd.underlying23 ti5 rfl rfl rfl (by omega) rfl) rfl <| ?_
        refine t1g rfl rfl (y_load ti5 rfl rfl (getO (m := b) 0 (by omega))) rfl <| t1g rfl rfl ((y_p rfl).v (v' := .b true) (congrArg A.b (by rw [u8eq]; exact decide_eq_true hcs.1))) rfl <| t1g rfl rfl ((y_p rfl).v (v' := .b true) (rfl)) rfl <| t1g rfl rfl (y_ixa 1 Tryd.underlying23 ti5 rfl rfl rfl (by omega) rfl) rfl <| t1g rfl rfl (y_load ti5 rfl rfl (getO (m := a) 1 (by omega))) rfl <| t1g rfl rfl (y_ixa 1 Tryd.underlying23 ti5 rfl rfl rfl (by omega) rfl) rfl <| t1g rfl rfl (y_load ti5 rfl rfl (getO (m := b) 1 (by omega))) rfl <| t1g rfl rfl ((y_p rfl).v (v' := .b true) (congrArg A.b (by rw [u8eq]; exact decide_eq_true hcs.2.1))) rfl <| t1g rfl rfl ((y_p rfl).v (v' := .b true) (rfl)) rfl <| t1g rfl rfl ((y_p rfl).v (v' := .b true) (rfl)) rfl <| ?_
        refine t1g rfl rfl (y_ixa 2 Tryd.underlying23 ti5 rfl rfl rfl (by omega) rfl) rfl <| t1g rfl rfl (y_load ti5 rfl rfl (getO (m := a) 2 (by omega))) rfl <| t1g rfl rfl (y_ixa 2 Tryd.underlying23 ti5 rfl rfl rfl (by omega) rfl) rfl <| t1g rfl rfl (y_load ti5 rfl rfl (getO (m := b) 2 (by omega))) rfl <| t1g rfl rfl ((y_p rfl).v (v' := .b false) (congrArg A.b (by rw [u8eq]; exact decide_eq_false hcs.2.2))) rfl <| t1g rfl rfl ((y_p rfl).v (v' := .b false) (rfl)) rfl <| t1g rfl rfl ((y_p rfl).v (v' := .b false) (rfl)) rfl <| t0g rfl rfl rfl rfl <| t0g rfl rfl rfl rfl <| t0g rfl rfl rfl rfl <| ?_
        refine t0g rfl rfl rfl rfl <| t0g rfl rfl rfl rfl <| t1g rfl rfl (y_p rfl) rfl <| t1g rfl rfl ((y_neb Tryd.underlying4 rfl rfl).v (v' := .b false) (congrArg A.b (by rw [four_no (j := 2) (by omega) hcs.2.2]; rfl))) rfl <| ?_
        refine at_snil ?_
        refine s1 ((y_p rfl).v (v' := .b false) (rfl)) rfl <| ?_
        refine at_nil ?_
        refine x_tn ?_
        refine at_else rfl ?_
        refine at_skip ?_
        refine x_tn ?_
        refine at_seq ?_
        refine at_region ?_
        refine s1 (y_loadA0 ti23 rfl rfl (by first | rfl | omega | (simp; done) | (simp [*]; done) | (simp; omega) | (simp [*]; omega) | (simp [D32.len, -List.length_flatten, *]; done) | (simp [D32.len, -List.length_flatten, *]; omega))) rfl <| s1 (y_p rfl) rfl <| s1 (y_loadA0 ti23 rfl rfl (by first | rfl | omega | (simp; done) | (simp [*]; done) | (simp; omega) | (simp [*]; omega) | (simp [D32.len, -List.length_flatten, *]; done) | (simp [D32.len, -List.length_flatten, *]; omega))) rfl <| ?_
        refine at_op rfl (n_call false rfl (.cons (.pure pu) (.cons (.pure pu) (.cons (.pure pu) (.nil)))) (earlier_ok a b S ha hb) pu (.inl rfl) rfl ?_)
        refine s1 (y_p rfl) rfl <| s1 (y_p rfl) rfl <| s1 (y_p rfl) rfl <| s1 (y_p rfl) rfl <| s1 (y_p rfl) rfl <| ?_
        refine at_nil ?_
        refine x_tn ?_
        refine at_seq ?_
        refine at_region ?_
        refine s1 (y_loadA0 ti23 rfl rfl (by first | rfl | omega | (simp; done) | (simp [*]; done) | (simp; omega) | (simp [*]; omega) | (simp [D32.len, -List.length_flatten, *]; done) | (simp [D32.len, -List.length_flatten, *]; omega))) rfl <| s1 (y_p rfl) rfl <| s1 (y_loadA0 ti23 rfl rfl (by first | rfl | omega | (simp; done) | (simp [*]; done) | (simp; omega) | (simp [*]; omega) | (simp [D32.len, -List.length_flatten, *]; done) | (simp [D32.len, -List.length_flatten, *]; omega))) rfl <| ?_
        refine at_op rfl (n_call false rfl (.cons (.pure pu) (.cons (.pure pu) (.cons (.pure pu) (.nil)))) (earlier_ok b a S hb ha) pu (.inl rfl) rfl ?_)
        refine s1 (y_p rfl) rfl <| s1 (y_p rfl) rfl <| s1 (y_p rfl) rfl <| s1 (y_p rfl) rfl <| s1 (y_p rfl) rfl <| ?_
        refine at_nil ?_
        refine x_tn ?_
        refine at_seq ?_
        refine at_seq ?_
        refine at_region ?_
        refine s1 (y_p rfl) rfl <| s1 (y_len Tryd.underlying24 rfl rfl rfl) rfl <| s1 (y_p rfl) rfl <| s1 (y_p rfl) rfl <| ?_
        refine at_bc 125 rfl (fun hc125 => ?_) (fun hc125 => ?_)
        · have hl : S.length ≠ 19 := by have := bne_iff_ne.1 hc125; omega
          refine g0 rfl rfl rfl rfl <| s1 ((y_p rfl).v (v' := .b true) (rfl)) rfl <| ?_
          refine at_nil ?_
          refine x_tn ?_
          refine at_then rfl ?_
          refine at_seq ?_
          refine at_region ?_
          refine s1 ((y_p rfl).v (v' := .b false) (congrArg A.b (by simp [earA, hl]))) rfl <| s1 ((y_p rfl).v (v' := .b true) (rfl)) rfl <| s1 ((y_p rfl).v (v' := .b true) (rfl)) rfl <| g1 rfl rfl ((y_p rfl).v (v' := .b false) (congrArg A.b (by simp [earA, hl]))) rfl <| g1 rfl rfl ((y_p rfl).v (v' := .b true) (rfl)) rfl <| s1 ((y_p rfl).v (v' := .b true) (rfl)) rfl <| s1 (y_p rfl) rfl <| ?_
          refine at_nil ?_
          refine x_tn ?_
          refine at_ret ?_
          refine x_tr ?_
          refine at_result (rs := [.tmp 6]) rfl (r_tmp rfl r_nil) rfl
        · have hl : S.length = 19 := by have := bne_eq_false_iff_eq.1 hc125; omega
          refine g1 rfl rfl (y_p rfl) rfl <| s1 (y_p rfl) rfl <| ?_
          refine at_bc 127 rfl (fun hc127 => ?_) (fun hc127 => ?_)
          · have hs : sameK a b 19 = true := hc127
            refine at_nil ?_
            refine x_tn ?_
            refine at_then rfl ?_
            refine at_seq ?_
            refine at_region ?_
            refine s1 ((y_p rfl).v (v' := .b false) (congrArg A.b (by simp [earA, (ear_sameK hs).1]))) rfl <| s1 ((y_p rfl).v (v' := .b true) (rfl)) rfl <| s1 ((y_p rfl).v (v' := .b true) (rfl)) rfl <| g1 rfl rfl ((y_p rfl).v (v' := .b false) (congrArg A.b (by simp [earA, (ear_sameK hs).2]))) rfl <| g1 rfl rfl ((y_p rfl).v (v' := .b true) (rfl)) rfl <| s1 ((y_p rfl).v (v' := .b true) (rfl)) rfl <| s1 (y_p rfl) rfl <| ?_
            refine at_nil ?_
            refine x_tn ?_
            refine at_ret ?_
            refine x_tr ?_
            refine at_result (rs := [.tmp 6]) rfl (r_tmp rfl r_nil) rfl
          · have hs : sameK a b 19 = false := hc127
            obtain ⟨m, hm, hm19, hmd⟩ := ear_found hs
            obtain ⟨n, hn, hn19, hnd⟩ := ear_found (sameK_symm hs)
            refine at_say 13 rfl (v' := nI m) (by simp [earA, hl, hm]) ?_
            refine at_say 14 rfl (v' := .b true) (by simp [earA, hl, hm]) ?_
            refine at_say 15 rfl (v' := nI n) (by simp [earA, hl, hn]) ?_
            refine at_say 16 rfl (v' := .b true) (by simp [earA, hl, hn]) ?_
            refine at_nil ?_
            refine x_tn ?_
            refine at_else rfl ?_
            refine at_skip ?_
            refine x_tn ?_
            refine at_seq ?_
            refine at_seq ?_
            refine at_region ?_
            refine s1 (y_p rfl) rfl <| s1 ((y_p rfl).v (v' := .b false) (rfl)) rfl <| s1 ((y_p rfl).v (v' := .b false) (rfl)) rfl <| g1 rfl rfl (y_p rfl) rfl <| g1 rfl rfl ((y_p rfl).v (v' := .b false) (rfl)) rfl <| s1 ((y_p rfl).v (v' := .b false) (rfl)) rfl <| s1 ((y_p rfl).v (v' := .b false) (rfl)) rfl <| g1 rfl rfl (y_p rfl) rfl <| g1 rfl rfl ((y_p rfl).v (v' := .b false) (congrArg A.b (decide_eq_false (by omega)))) rfl <| s1 ((y_p rfl).v (v' := .b false) (rfl)) rfl <| ?_
            refine s1 ((y_p rfl).v (v' := .b false) (rfl)) rfl <| g1 rfl rfl (y_p rfl) rfl <| g1 rfl rfl ((y_p rfl).v (v' := .b false) (congrArg A.b (decide_eq_false (by omega)))) rfl <| s1 ((y_p rfl).v (v' := .b false) (rfl)) rfl <| s1 ((y_p rfl).v (v' := .b false) (rfl)) rfl <| g1 rfl rfl (y_p rfl) rfl <| g1 rfl rfl ((y_p rfl).v (v' := .b false) (congrArg A.b (decide_eq_false (by omega)))) rfl <| s1 ((y_p rfl).v (v' := .b false) (rfl)) rfl <| s1 ((y_p rfl).v (v' := .b false) (rfl)) rfl <| g1 rfl rfl (y_p rfl) rfl <| ?_
            refine g1 rfl rfl ((y_p rfl).v (v' := .b false) (congrArg A.b (decide_eq_false (by omega)))) rfl <| s1 ((y_p rfl).v (v' := .b false) (rfl)) rfl <| ?_
            refine at_nil ?_
            refine x_tn ?_
            refine at_else rfl ?_
            refine at_skip ?_
            refine x_tn ?_
            refine at_seq ?_
            refine at_draw_tail 20 hmix (by kernel_rfl) ?_
            refine t1 (y_p rfl) rfl <| t1 (y_p rfl) rfl <| t1 (y_ixf m Tryd.underlying29 ti3 rfl rfl rfl (by omega) rfl) rfl <| t1 (y_load ti3 rfl rfl (get_dig3 b m hm19)) rfl <| t1 (y_p rfl) rfl <| t1 (y_p rfl) rfl <| t1 (y_ixf m Tryd.underlying29 ti3 rfl rfl rfl (by omega) rfl) rfl <| t1 (y_load ti3 rfl rfl (get_dig3 a m hm19)) rfl <| t1 ((y_p rfl).v (v' := .b true) (congrArg A.b (decide_eq_true (by omega)))) rfl <| t1 ((y_p rfl).v (v' := .b true) (rfl)) rfl <| ?_
            refine t1g rfl rfl (y_p rfl) rfl <| t1g rfl rfl (y_p rfl) rfl <| t1g rfl rfl (y_ixf n Tryd.underlying29 ti3 rfl rfl rfl (by omega) rfl) rfl <| t1g rfl rfl (y_load ti3 rfl rfl (get_dig3 a n hn19)) rfl <| t1g rfl rfl (y_p rfl) rfl <| t1g rfl rfl (y_p rfl) rfl <| t1g rfl rfl (y_ixf n Tryd.underlying29 ti3 rfl rfl rfl (by omega) rfl) rfl <| t1g rfl rfl (y_load ti3 rfl rfl (get_dig3 b n hn19)) rfl <| t1g rfl rfl ((y_p rfl).v (v' := .b true) (congrArg A.b (decide_eq_true (by omega)))) rfl <| t1 ((y_p rfl).v (v' := .b true) (rfl)) rfl <| ?_
            refine at_snil ?_
            refine s1 (y_p rfl) rfl <| ?_
            refine at_nil ?_
            refine x_tn ?_
            refine at_ret ?_
            refine at_result (rs := [.tmp 6]) rfl (r_tmp rfl r_nil) rfl
      · skip
        refine at_draw_tail 44 hmix (by kernel_rfl) ?_
        refine t1 (y_p rfl) rfl <| t1 (y_p rfl) rfl <| t1 (y_ixf 16 Tryd.underlying29 ti3 rfl rfl rfl (by omega) rfl) rfl <| t1 (y_load ti3 rfl rfl (get_dig3 a 16 (by omega))) rfl <| t1 (mulN 16 (dg a 16) rfl rfl rfl rfl (by omega)) rfl <| t1 (y_p rfl) rfl <| t1 (y_ixf 17 Tryd.underlying29 ti3 rfl rfl rfl (by omega) rfl) rfl <| t1 (y_load ti3 rfl rfl (get_dig3 a 17 (by omega))) rfl <| t1 (mulN 4 (dg a 17) rfl rfl rfl rfl (by omega)) rfl <| t1 (addN (16 * dg a 16) (4 * dg a 17) rfl rfl rfl rfl (by omega)) rfl <| ?_
        refine t1 (y_p rfl) rfl <| t1 (y_ixf 18 Tryd.underlying29 ti3 rfl rfl rfl (by omega) rfl) rfl <| t1 (y_load ti3 rfl rfl (get_dig3 a 18 (by omega))) rfl <| t1 (addN (16 * dg a 16 + 4 * dg a 17) (dg a 18) rfl rfl rfl rfl (by omega)) rfl <| t1 ((y_p rfl).v (v' := .b false) (congrArg A.b (by rw [show min 19 16 = 16 from rfl, sum_digits]; simp))) rfl <| t1 ((y_p rfl).v (v' := .b false) (rfl)) rfl <| t1g rfl rfl (y_p rfl) rfl <| t1g rfl rfl (y_ixa 0 Tryd.underlying23 ti5 rfl rfl rfl (by omega) rfl) rfl <| t1g rfl rfl (y_load ti5 rfl rfl (getO (m := a) 0 (by omega))) rfl <| t1g rfl rfl (y_ixa 0 Tryd.underlying23 ti5 rfl rfl rfl (by omega) rfl) rfl <| ?_
        refine t1g rfl rfl (y_load ti5 rfl rfl (getO (m := b) 0 (by omega))) rfl <| t1g rfl rfl ((y_p rfl).v (v' := .b true) (congrArg A.b (by rw [u8eq]; exact decide_eq_true hcs.1))) rfl <| t1g rfl rfl ((y_p rfl).v (v' := .b true) (rfl)) rfl <| t1g rfl rfl (y_ixa 1 Tryd.underlying23 ti5 rfl rfl rfl (by omega) rfl) rfl <| t1g rfl rfl (y_load ti5 rfl rfl (getO (m := a) 1 (by omega))) rfl <| t1g rfl rfl (y_ixa 1 Tryd.underlying23 ti5 rfl rfl rfl (by omega) rfl) rfl <| t1g rfl rfl (y_load ti5 rfl rfl (getO (m := b) 1 (by omega))) rfl <| t1g rfl rfl ((y_p rfl).v (v' := .b true) (congrArg A.b (by rw [u8eq]; exact decide_eq_true hcs.2.1))) rfl <| t1g rfl rfl ((y_p rfl).v (v' := .b true) (rfl)) rfl <| t1g rfl rfl ((y_p rfl).v (v' := .b true) (rfl)) rfl <| ?_
        refine t1g rfl rfl (y_ixa 2 Tryd.underlying23 ti5 rfl rfl rfl (by omega) rfl) rfl <| t1g rfl rfl (y_load ti5 rfl rfl (getO (m := a) 2 (by omega))) rfl <| t1g rfl rfl (y_ixa 2 Tryd.underlying23 ti5 rfl rfl rfl (by omega) rfl) rfl <| t1g rfl rfl (y_load ti5 rfl rfl (getO (m := b) 2 (by omega))) rfl <| t1g rfl rfl ((y_p rfl).v (v' := .b true) (congrArg A.b (by rw [u8eq]; exact decide_eq_true hcs.2.2))) rfl <| t1g rfl rfl ((y_p rfl).v (v' := .b true) (rfl)) rfl <| t1g rfl rfl ((y_p rfl).v (v' := .b true) (rfl)) rfl <| t1g rfl rfl (y_ixa 3 Tryd.underlying23 ti5 rfl rfl rfl (by omega) rfl) rfl <| t1g rfl rfl (y_load ti5 rfl rfl (getO (m := a) 3 (by omega))) rfl <| t1g rfl rfl (y_ixa 3 Tryd.underlying23 ti5 rfl rfl rfl (by omega) rfl) rfl <| ?_
        refine t1g rfl rfl (y_load ti5 rfl rfl (getO (m := b) 3 (by omega))) rfl <| t1g rfl rfl (y_p rfl) rfl <| t1g rfl rfl (y_p rfl) rfl <| t1g rfl rfl ((y_neb Tryd.underlying4 rfl rfl).v (v' := .b false) (congrArg A.b (by rw [four_yes hcs.1 hcs.2.1 hcs.2.2, u8eq]; simp))) rfl <| ?_
        refine at_snil ?_
        refine s1 ((y_p rfl).v (v' := .b false) (rfl)) rfl <| ?_
        refine at_nil ?_
        refine x_tn ?_
        refine at_else rfl ?_
        refine at_skip ?_
        refine x_tn ?_
        refine at_seq ?_
        refine at_region ?_
        refine s1 (y_loadA0 ti23 rfl rfl (by first | rfl | omega | (simp; done) | (simp [*]; done) | (simp; omega) | (simp [*]; omega) | (simp [D32.len, -List.length_flatten, *]; done) | (simp [D32.len, -List.length_flatten, *]; omega))) rfl <| s1 (y_p rfl) rfl <| s1 (y_loadA0 ti23 rfl rfl (by first | rfl | omega | (simp; done) | (simp [*]; done) | (simp; omega) | (simp [*]; omega) | (simp [D32.len, -List.length_flatten, *]; done) | (simp [D32.len, -List.length_flatten, *]; omega))) rfl <| ?_
        refine at_op rfl (n_call false rfl (.cons (.pure pu) (.cons (.pure pu) (.cons (.pure pu) (.nil)))) (earlier_ok a b S ha hb) pu (.inl rfl) rfl ?_)
        refine s1 (y_p rfl) rfl <| s1 (y_p rfl) rfl <| s1 (y_p rfl) rfl <| s1 (y_p rfl) rfl <| s1 (y_p rfl) rfl <| ?_
        refine at_nil ?_
        refine x_tn ?_
        refine at_seq ?_
        refine at_region ?_
        refine s1 (y_loadA0 ti23 rfl rfl (by first | rfl | omega | (simp; done) | (simp [*]; done) | (simp; omega) | (simp [*]; omega) | (simp [D32.len, -List.length_flatten, *]; done) | (simp [D32.len, -List.length_flatten, *]; omega))) rfl <| s1 (y_p rfl) rfl <| s1 (y_loadA0 ti23 rfl rfl (by first | rfl | omega | (simp; done) | (simp [*]; done) | (simp; omega) | (simp [*]; omega) | (simp [D32.len, -List.length_flatten, *]; done) | (simp [D32.len, -List.length_flatten, *]; omega))) rfl <| ?_
        refine at_op rfl (n_call false rfl (.cons (.pure pu) (.cons (.pure pu) (.cons (.pure pu) (.nil)))) (earlier_ok b a S hb ha) pu (.inl rfl) rfl ?_)
        refine s1 (y_p rfl) rfl <| s1 (y_p rfl) rfl <| s1 (y_p rfl) rfl <| s1 (y_p rfl) rfl <| s1 (y_p rfl) rfl <| ?_
        refine at_nil ?_
        refine x_tn ?_
        refine at_seq ?_
        refine at_seq ?_
        refine at_region ?_
        refine s1 (y_p rfl) rfl <| s1 (y_len Tryd.underlying24 rfl rfl rfl) rfl <| s1 (y_p rfl) rfl <| s1 (y_p rfl) rfl <| ?_
        refine at_bc 125 rfl (fun hc125 => ?_) (fun hc125 => ?_)
        · have hl : S.length ≠ 19 := by have := bne_iff_ne.1 hc125; omega
          refine g0 rfl rfl rfl rfl <| s1 ((y_p rfl).v (v' := .b true) (rfl)) rfl <| ?_
          refine at_nil ?_
          refine x_tn ?_
          refine at_then rfl ?_
          refine at_seq ?_
          refine at_region ?_
          refine s1 ((y_p rfl).v (v' := .b false) (congrArg A.b (by simp [earA, hl]))) rfl <| s1 ((y_p rfl).v (v' := .b true) (rfl)) rfl <| s1 ((y_p rfl).v (v' := .b true) (rfl)) rfl <| g1 rfl rfl ((y_p rfl).v (v' := .b false) (congrArg A.b (by simp [earA, hl]))) rfl <| g1 rfl rfl ((y_p rfl).v (v' := .b true) (rfl)) rfl <| s1 ((y_p rfl).v (v' := .b true) (rfl)) rfl <| s1 (y_p rfl) rfl <| ?_
          refine at_nil ?_
          refine x_tn ?_
          refine at_ret ?_
          refine x_tr ?_
          refine at_result (rs := [.tmp 6]) rfl (r_tmp rfl r_nil) rfl
        · have hl : S.length = 19 := by have := bne_eq_false_iff_eq.1 hc125; omega
          refine g1 rfl rfl (y_p rfl) rfl <| s1 (y_p rfl) rfl <| ?_
          refine at_bc 127 rfl (fun hc127 => ?_) (fun hc127 => ?_)
          · have hs : sameK a b 19 = true := hc127
            refine at_nil ?_
            refine x_tn ?_
            refine at_then rfl ?_
            refine at_seq ?_
            refine at_region ?_
            refine s1 ((y_p rfl).v (v' := .b false) (congrArg A.b (by simp [earA, (ear_sameK hs).1]))) rfl <| s1 ((y_p rfl).v (v' := .b true) (rfl)) rfl <| s1 ((y_p rfl).v (v' := .b true) (rfl)) rfl <| g1 rfl rfl ((y_p rfl).v (v' := .b false) (congrArg A.b (by simp [earA, (ear_sameK hs).2]))) rfl <| g1 rfl rfl ((y_p rfl).v (v' := .b true) (rfl)) rfl <| s1 ((y_p rfl).v (v' := .b true) (rfl)) rfl <| s1 (y_p rfl) rfl <| ?_
            refine at_nil ?_
            refine x_tn ?_
            refine at_ret ?_
            refine x_tr ?_
            refine at_result (rs := [.tmp 6]) rfl (r_tmp rfl r_nil) rfl
          · have hs : sameK a b 19 = false := hc127
            obtain ⟨m, hm, hm19, hmd⟩ := ear_found hs
            obtain ⟨n, hn, hn19, hnd⟩ := ear_found (sameK_symm hs)
            refine at_say 13 rfl (v' := nI m) (by simp [earA, hl, hm]) ?_
            refine at_say 14 rfl (v' := .b true) (by simp [earA, hl, hm]) ?_
            refine at_say 15 rfl (v' := nI n) (by simp [earA, hl, hn]) ?_
            refine at_say 16 rfl (v' := .b true) (by simp [earA, hl, hn]) ?_
            refine at_nil ?_
            refine x_tn ?_
            refine at_else rfl ?_
            refine at_skip ?_
            refine x_tn ?_
            refine at_seq ?_
            refine at_seq ?_
            refine at_region ?_
            refine s1 (y_p rfl) rfl <| s1 ((y_p rfl).v (v' := .b false) (rfl)) rfl <| s1 ((y_p rfl).v (v' := .b false) (rfl)) rfl <| g1 rfl rfl (y_p rfl) rfl <| g1 rfl rfl ((y_p rfl).v (v' := .b false) (rfl)) rfl <| s1 ((y_p rfl).v (v' := .b false) (rfl)) rfl <| s1 ((y_p rfl).v (v' := .b false) (rfl)) rfl <| g1 rfl rfl (y_p rfl) rfl <| g1 rfl rfl ((y_p rfl).v (v' := .b false) (congrArg A.b (decide_eq_false (by omega)))) rfl <| s1 ((y_p rfl).v (v' := .b false) (rfl)) rfl <| ?_
            refine s1 ((y_p rfl).v (v' := .b false) (rfl)) rfl <| g1 rfl rfl (y_p rfl) rfl <| g1 rfl rfl ((y_p rfl).v (v' := .b false) (congrArg A.b (decide_eq_false (by omega)))) rfl <| s1 ((y_p rfl).v (v' := .b false) (rfl)) rfl <| s1 ((y_p rfl).v (v' := .b false) (rfl)) rfl <| g1 rfl rfl (y_p rfl) rfl <| g1 rfl rfl ((y_p rfl).v (v' := .b false) (congrArg A.b (decide_eq_false (by omega)))) rfl <| s1 ((y_p rfl).v (v' := .b false) (rfl)) rfl <| s1 ((y_p rfl).v (v' := .b false) (rfl)) rfl <| g1 rfl rfl (y_p rfl) rfl <| ?_
            refine g1 rfl rfl ((y_p rfl).v (v' := .b false) (congrArg A.b (decide_eq_false (by omega)))) rfl <| s1 ((y_p rfl).v (v' := .b false) (rfl)) rfl <| ?_
            refine at_nil ?_
            refine x_tn ?_
            refine at_else rfl ?_
            refine at_skip ?_
            refine x_tn ?_
            refine at_seq ?_
            refine at_draw_tail 20 hmix (by kernel_rfl) ?_
            refine t1 (y_p rfl) rfl <| t1 (y_p rfl) rfl <| t1 (y_ixf m Tryd.underlying29 ti3 rfl rfl rfl (by omega) rfl) rfl <| t1 (y_load ti3 rfl rfl (get_dig3 b m hm19)) rfl <| t1 (y_p rfl) rfl <| t1 (y_p rfl) rfl <| t1 (y_ixf m Tryd.underlying29 ti3 rfl rfl rfl (by omega) rfl) rfl <| t1 (y_load ti3 rfl rfl (get_dig3 a m hm19)) rfl <| t1 ((y_p rfl).v (v' := .b true) (congrArg A.b (decide_eq_true (by omega)))) rfl <| t1 ((y_p rfl).v (v' := .b true) (rfl)) rfl <| ?_
            refine t1g rfl rfl (y_p rfl) rfl <| t1g rfl rfl (y_p rfl) rfl <| t1g rfl rfl (y_ixf n Tryd.underlying29 ti3 rfl rfl rfl (by omega) rfl) rfl <| t1g rfl rfl (y_load ti3 rfl rfl (get_dig3 a n hn19)) rfl <| t1g rfl rfl (y_p rfl) rfl <| t1g rfl rfl (y_p rfl) rfl <| t1g rfl rfl (y_ixf n Tryd.underlying29 ti3 rfl rfl rfl (by omega) rfl) rfl <| t1g rfl rfl (y_load ti3 rfl rfl (get_dig3 b n hn19)) rfl <| t1g rfl rfl ((y_p rfl).v (v' := .b true) (congrArg A.b (decide_eq_true (by omega)))) rfl <| t1 ((y_p rfl).v (v' := .b true) (rfl)) rfl <| ?_
            refine at_snil ?_
            refine s1 (y_p rfl) rfl <| ?_
            refine at_nil ?_
            refine x_tn ?_
            refine at_ret ?_
            refine at_result (rs := [.tmp 6]) rfl (r_tmp rfl r_nil) rfl

end Go.Abs.D2
