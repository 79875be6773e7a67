/-
  Layer 2: walks of the digest functions. Conditions: each theorem says its own.
-/
import Derived.Test.YtjnbpinnjbdnpaaV6E
namespace Go.Abs.D2
open Go Go.Eng Go.Abs Go.Proofs 

set_option linter.unusedSimpArgs false in
set_option linter.unusedVariables false in
set_option maxHeartbeats 1000000 in
set_option maxRecDepth 10000 in
theorem hwant_ok (a : List Int) (k : Nat) : Con Try.prog 22 [.fz a.length (a.map (A.i .i64)), nV k] (Ret (.i .i64 (V6.want a k))) := by
  refine enter Try.func22 rfl Try.ntmps22 (by kernel_rfl) (Nat.le_of_ble_eq_true rfl) fun w0 X0 hI => ?_
  refine at_seq ?_
  refine at_region ?_
  refine s1 ((y_p rfl).v (v' := .i .i64 0) rfl) rfl <| ?_
  refine at_nil ?_
  refine x_tn ?_
  refine at_seq ?_
  refine at_seq ?_
  refine at_region ?_
  refine s1 (y_p rfl) rfl <| s1 (y_p rfl) rfl <| s1 (y_len Try.underlying41 rfl rfl rfl) rfl <| s1 (y_p rfl) rfl <| ?_
  refine at_nil ?_
  refine x_tn ?_
  refine at_cond rfl (fun hc8 => ?_) (fun hc8 => ?_)
  · have h8 : k < a.length := by have := of_decide_eq_true hc8; omega
    refine at_seq ?_
    refine at_region ?_
    refine s1 (y_p rfl) rfl <| s1 (y_p rfl) rfl <| s1 (y_ixf k Try.underlying41 ti3 rfl rfl rfl (by omega) rfl) rfl <| s1 (y_load ti3 rfl rfl (V6.getI h8)) rfl <| s1 (y_p rfl) rfl <| ?_
    refine at_nil ?_
    refine x_tn ?_
    refine at_ret ?_
    refine x_tr ?_
    refine at_result (rs := [.tmp 4]) rfl (r_tmp rfl r_nil) ?_
    exact congrArg (A.i .i64) (V6.want_yes h8).symm
  · have h8 : ¬ k < a.length := by have := of_decide_eq_false hc8; omega
    refine at_skip ?_
    refine x_tn ?_
    refine at_seq ?_
    refine at_region ?_
    refine s1 ((y_p rfl).v (v' := .i .i64 0) rfl) rfl <| ?_
    refine at_nil ?_
    refine x_tn ?_
    refine at_ret ?_
    refine at_result (rs := [.tmp 4]) rfl (r_tmp rfl r_nil) ?_
    exact congrArg (A.i .i64) (V6.want_no h8).symm

set_option linter.unusedSimpArgs false in
set_option linter.unusedVariables false in
set_option maxHeartbeats 1000000 in
set_option maxRecDepth 10000 in
theorem law_hides (many : Int) (a1 a2 : List Int) (batch : Int) (coins : List (List UInt8)) (hn2 : coins.length ≤ maxLen) : Con Try.prog 7 [.i .i64 many, .fz a1.length (a1.map (A.i .i64)), .fz a2.length (a2.map (A.i .i64)), .i .i64 batch, .fz coins.length (coins.map V6.slV)] (Ret (.b true)) := by
  refine enter Try.func7 rfl Try.ntmps7 (by kernel_rfl) (Nat.le_of_ble_eq_true rfl) fun w0 X0 hI => ?_
  refine at_seq ?_
  refine at_region ?_
  refine s1 (y_p rfl) rfl <| ?_
  refine at_nil ?_
  refine x_tn ?_
  refine at_seq ?_
  refine at_seq ?_
  refine at_region ?_
  refine at_op rfl (n_call false rfl (.nil) (sane_ok) pu (.inl rfl) rfl ?_)
  refine s1 (y_p rfl) rfl <| ?_
  refine at_nil ?_
  refine x_tn ?_
  refine at_else rfl ?_
  refine at_skip ?_
  refine x_tn ?_
  refine at_seq ?_
  refine at_seq ?_
  rcases tfV (V6.few coins 20) with hcs | hcs
  · skip
    refine at_region ?_
    refine s1 (y_p rfl) rfl <| ?_
    refine at_op rfl (n_call false rfl (.cons (.pure pu) (.cons (.pure pu) (.nil))) (Con.cast (few_ok coins 20 hn2) (congrArg A.b hcs)) pu (.inl rfl) rfl ?_)
    refine s1 (y_p rfl) rfl <| s1 (y_p rfl) rfl <| g0 rfl rfl rfl rfl <| g0 rfl rfl rfl rfl <| g0 rfl rfl rfl rfl <| s1 (y_p rfl) rfl <| s1 (y_p rfl) rfl <| g0 rfl rfl rfl rfl <| g0 rfl rfl rfl rfl <| g0 rfl rfl rfl rfl <| ?_
    refine s1 (y_p rfl) rfl <| ?_
    refine at_nil ?_
    refine x_tn ?_
    refine at_then rfl ?_
    refine at_seq ?_
    refine at_region ?_
    refine s1 (y_p rfl) rfl <| ?_
    refine at_nil ?_
    refine x_tn ?_
    refine at_ret ?_
    refine x_tr ?_
    refine at_result (rs := [.tmp 10]) rfl (r_tmp rfl r_nil) ?_
    rfl
  · skip
    refine at_region ?_
    refine s1 (y_p rfl) rfl <| ?_
    refine at_op rfl (n_call false rfl (.cons (.pure pu) (.cons (.pure pu) (.nil))) (Con.cast (few_ok coins 20 hn2) (congrArg A.b hcs)) pu (.inl rfl) rfl ?_)
    refine s1 (y_p rfl) rfl <| s1 (y_p rfl) rfl <| g1 rfl rfl (y_p rfl) rfl <| g1 rfl rfl (y_len Try.underlying41 rfl rfl rfl) rfl <| g1 rfl rfl (y_p rfl) rfl <| s1 (y_p rfl) rfl <| s1 (y_p rfl) rfl <| ?_
    refine g_or 3 rfl rfl rfl rfl (fun hb37 => .step (y_p rfl) rfl rfl <| .step (y_len Try.underlying41 rfl rfl rfl) rfl rfl <| .step (y_p rfl) rfl rfl <| .done) rfl rfl ?_
    refine at_nil ?_
    refine x_tn ?_
    refine at_cond rfl (fun hc41 => ?_) (fun hc41 => ?_)
    · skip
      refine at_seq ?_
      refine at_region ?_
      refine s1 (y_p rfl) rfl <| ?_
      refine at_nil ?_
      refine x_tn ?_
      refine at_ret ?_
      refine x_tr ?_
      refine at_result (rs := [.tmp 10]) rfl (r_tmp rfl r_nil) ?_
      rfl
    · skip
      refine at_skip ?_
      refine x_tn ?_
      refine at_seq ?_
      rcases ask_split many a1 batch coins with hcs | hcs
      · obtain ⟨e, he, hA⟩ := hcs
        refine at_region ?_
        refine s1 (y_p rfl) rfl <| s1 (y_p rfl) rfl <| s1 (y_p rfl) rfl <| s1 (y_p rfl) rfl <| ?_
        refine at_op rfl (n_call false rfl (.cons (.pure pu) (.cons (.pure pu) (.cons (.pure pu) (.cons (.pure pu) (.nil))))) (Con.cast (vask_ok many a1 batch coins) hA) pu (.inl rfl) rfl ?_)
        refine s1 (y_p rfl) rfl <| s1 (y_p rfl) rfl <| s1 (y_p rfl) rfl <| s1 (y_p rfl) rfl <| ?_
        refine at_op rfl (n_alloc 11 rfl ti32 rfl rfl ?_)
        refine at_op rfl (n_alloc 12 rfl ti32 rfl rfl ?_)
        refine at_op rfl (n_storeA ti32 rfl rfl rfl (by first | rfl | omega | (simp; done) | (simp [*]; done) | (simp; omega) | (simp [*]; omega) | (simp [D32.len, -List.length_flatten, *]; done) | (simp [D32.len, -List.length_flatten, *]; omega)) (by first | rfl | omega | (simp; done) | (simp [*]; done) | (simp; omega) | (simp [*]; omega) | (simp [D32.len, -List.length_flatten, *]; done) | (simp [D32.len, -List.length_flatten, *]; omega)) ?_)
        refine at_op rfl (n_storeA ti32 rfl rfl rfl (by first | rfl | omega | (simp; done) | (simp [*]; done) | (simp; omega) | (simp [*]; omega) | (simp [D32.len, -List.length_flatten, *]; done) | (simp [D32.len, -List.length_flatten, *]; omega)) (by first | rfl | omega | (simp; done) | (simp [*]; done) | (simp; omega) | (simp [*]; omega) | (simp [D32.len, -List.length_flatten, *]; done) | (simp [D32.len, -List.length_flatten, *]; omega)) ?_)
        refine s1 (y_p rfl) rfl <| ?_
        refine at_nil ?_
        refine x_tn ?_
        refine at_seq ?_
        rcases ask_split many a2 batch coins with hcs | hcs
        · obtain ⟨e2, he2, hB⟩ := hcs
          refine at_region ?_
          refine s1 (y_p rfl) rfl <| s1 (y_p rfl) rfl <| s1 (y_p rfl) rfl <| s1 (y_p rfl) rfl <| ?_
          refine at_op rfl (n_call false rfl (.cons (.pure pu) (.cons (.pure pu) (.cons (.pure pu) (.cons (.pure pu) (.nil))))) (Con.cast (vask_ok many a2 batch coins) hB) pu (.inl rfl) rfl ?_)
          refine s1 (y_p rfl) rfl <| s1 (y_p rfl) rfl <| s1 (y_p rfl) rfl <| s1 (y_p rfl) rfl <| ?_
          refine at_op rfl (n_alloc 14 rfl ti32 rfl rfl ?_)
          refine at_op rfl (n_alloc 15 rfl ti32 rfl rfl ?_)
          refine at_op rfl (n_storeA ti32 rfl rfl rfl (by first | rfl | omega | (simp; done) | (simp [*]; done) | (simp; omega) | (simp [*]; omega) | (simp [D32.len, -List.length_flatten, *]; done) | (simp [D32.len, -List.length_flatten, *]; omega)) (by first | rfl | omega | (simp; done) | (simp [*]; done) | (simp; omega) | (simp [*]; omega) | (simp [D32.len, -List.length_flatten, *]; done) | (simp [D32.len, -List.length_flatten, *]; omega)) ?_)
          refine at_op rfl (n_storeA ti32 rfl rfl rfl (by first | rfl | omega | (simp; done) | (simp [*]; done) | (simp; omega) | (simp [*]; omega) | (simp [D32.len, -List.length_flatten, *]; done) | (simp [D32.len, -List.length_flatten, *]; omega)) (by first | rfl | omega | (simp; done) | (simp [*]; done) | (simp; omega) | (simp [*]; omega) | (simp [D32.len, -List.length_flatten, *]; done) | (simp [D32.len, -List.length_flatten, *]; omega)) ?_)
          refine s1 (y_p rfl) rfl <| ?_
          refine at_nil ?_
          refine x_tn ?_
          refine at_seq ?_
          refine at_seq ?_
          refine at_region ?_
          refine s1 (y_p rfl) rfl <| s1 ((y_p rfl).v (v' := .b true) (congrArg A.b (by simpa using he))) rfl <| s1 (y_p rfl) rfl <| g0 rfl rfl rfl rfl <| g0 rfl rfl rfl rfl <| s1 (y_p rfl) rfl <| ?_
          refine at_nil ?_
          refine x_tn ?_
          refine at_then rfl ?_
          refine at_seq ?_
          refine at_region ?_
          refine s1 (y_p rfl) rfl <| ?_
          refine at_nil ?_
          refine x_tn ?_
          refine at_ret ?_
          refine x_tr ?_
          refine at_result (rs := [.tmp 10]) rfl (r_tmp rfl r_nil) ?_
          rfl
        · obtain ⟨a', b', hB, _⟩ := hcs
          refine at_region ?_
          refine s1 (y_p rfl) rfl <| s1 (y_p rfl) rfl <| s1 (y_p rfl) rfl <| s1 (y_p rfl) rfl <| ?_
          refine at_op rfl (n_call false rfl (.cons (.pure pu) (.cons (.pure pu) (.cons (.pure pu) (.cons (.pure pu) (.nil))))) (Con.cast (vask_ok many a2 batch coins) hB) pu (.inl rfl) rfl ?_)
          refine s1 (y_p rfl) rfl <| s1 (y_p rfl) rfl <| s1 (y_p rfl) rfl <| s1 (y_p rfl) rfl <| ?_
          refine at_op rfl (n_alloc 14 rfl ti32 rfl rfl ?_)
          refine at_op rfl (n_alloc 15 rfl ti32 rfl rfl ?_)
          refine at_op rfl (n_storeA ti32 rfl rfl rfl (by first | rfl | omega | (simp; done) | (simp [*]; done) | (simp; omega) | (simp [*]; omega) | (simp [D32.len, -List.length_flatten, *]; done) | (simp [D32.len, -List.length_flatten, *]; omega)) (by first | rfl | omega | (simp; done) | (simp [*]; done) | (simp; omega) | (simp [*]; omega) | (simp [D32.len, -List.length_flatten, *]; done) | (simp [D32.len, -List.length_flatten, *]; omega)) ?_)
          refine at_op rfl (n_storeA ti32 rfl rfl rfl (by first | rfl | omega | (simp; done) | (simp [*]; done) | (simp; omega) | (simp [*]; omega) | (simp [D32.len, -List.length_flatten, *]; done) | (simp [D32.len, -List.length_flatten, *]; omega)) (by first | rfl | omega | (simp; done) | (simp [*]; done) | (simp; omega) | (simp [*]; omega) | (simp [D32.len, -List.length_flatten, *]; done) | (simp [D32.len, -List.length_flatten, *]; omega)) ?_)
          refine s1 (y_p rfl) rfl <| ?_
          refine at_nil ?_
          refine x_tn ?_
          refine at_seq ?_
          refine at_seq ?_
          refine at_region ?_
          refine s1 (y_p rfl) rfl <| s1 ((y_p rfl).v (v' := .b true) (congrArg A.b (by simpa using he))) rfl <| s1 (y_p rfl) rfl <| g0 rfl rfl rfl rfl <| g0 rfl rfl rfl rfl <| s1 (y_p rfl) rfl <| ?_
          refine at_nil ?_
          refine x_tn ?_
          refine at_then rfl ?_
          refine at_seq ?_
          refine at_region ?_
          refine s1 (y_p rfl) rfl <| ?_
          refine at_nil ?_
          refine x_tn ?_
          refine at_ret ?_
          refine x_tr ?_
          refine at_result (rs := [.tmp 10]) rfl (r_tmp rfl r_nil) ?_
          rfl
      · obtain ⟨a, b, hA, rfl, c1, c2, c3, hal, hbl, hR⟩ := hcs
        refine at_region ?_
        refine s1 (y_p rfl) rfl <| s1 (y_p rfl) rfl <| s1 (y_p rfl) rfl <| s1 (y_p rfl) rfl <| ?_
        refine at_op rfl (n_call false rfl (.cons (.pure pu) (.cons (.pure pu) (.cons (.pure pu) (.cons (.pure pu) (.nil))))) (Con.cast (vask_ok many a1 (coins.length : Nat) coins) hA) pu (.inl rfl) rfl ?_)
        refine s1 (y_p rfl) rfl <| s1 (y_p rfl) rfl <| s1 (y_p rfl) rfl <| s1 (y_p rfl) rfl <| ?_
        refine at_op rfl (n_alloc 11 rfl ti32 rfl rfl ?_)
        refine at_op rfl (n_alloc 12 rfl ti32 rfl rfl ?_)
        refine at_op rfl (n_storeA ti32 rfl rfl rfl (by first | rfl | omega | (simp; done) | (simp [*]; done) | (simp; omega) | (simp [*]; omega) | (simp [D32.len, -List.length_flatten, *]; done) | (simp [D32.len, -List.length_flatten, *]; omega)) (by first | rfl | omega | (simp; done) | (simp [*]; done) | (simp; omega) | (simp [*]; omega) | (simp [D32.len, -List.length_flatten, *]; done) | (simp [D32.len, -List.length_flatten, *]; omega)) ?_)
        refine at_op rfl (n_storeA ti32 rfl rfl rfl (by first | rfl | omega | (simp; done) | (simp [*]; done) | (simp; omega) | (simp [*]; omega) | (simp [D32.len, -List.length_flatten, *]; done) | (simp [D32.len, -List.length_flatten, *]; omega)) (by first | rfl | omega | (simp; done) | (simp [*]; done) | (simp; omega) | (simp [*]; omega) | (simp [D32.len, -List.length_flatten, *]; done) | (simp [D32.len, -List.length_flatten, *]; omega)) ?_)
        refine s1 (y_p rfl) rfl <| ?_
        refine at_nil ?_
        refine x_tn ?_
        refine at_seq ?_
        rcases ask_split many a2 coins.length coins with hcs | hcs
        · obtain ⟨e2, he2, hB⟩ := hcs
          refine at_region ?_
          refine s1 (y_p rfl) rfl <| s1 (y_p rfl) rfl <| s1 (y_p rfl) rfl <| s1 (y_p rfl) rfl <| ?_
          refine at_op rfl (n_call false rfl (.cons (.pure pu) (.cons (.pure pu) (.cons (.pure pu) (.cons (.pure pu) (.nil))))) (Con.cast (vask_ok many a2 (coins.length : Nat) coins) hB) pu (.inl rfl) rfl ?_)
          refine s1 (y_p rfl) rfl <| s1 (y_p rfl) rfl <| s1 (y_p rfl) rfl <| s1 (y_p rfl) rfl <| ?_
          refine at_op rfl (n_alloc 14 rfl ti32 rfl rfl ?_)
          refine at_op rfl (n_alloc 15 rfl ti32 rfl rfl ?_)
          refine at_op rfl (n_storeA ti32 rfl rfl rfl (by first | rfl | omega | (simp; done) | (simp [*]; done) | (simp; omega) | (simp [*]; omega) | (simp [D32.len, -List.length_flatten, *]; done) | (simp [D32.len, -List.length_flatten, *]; omega)) (by first | rfl | omega | (simp; done) | (simp [*]; done) | (simp; omega) | (simp [*]; omega) | (simp [D32.len, -List.length_flatten, *]; done) | (simp [D32.len, -List.length_flatten, *]; omega)) ?_)
          refine at_op rfl (n_storeA ti32 rfl rfl rfl (by first | rfl | omega | (simp; done) | (simp [*]; done) | (simp; omega) | (simp [*]; omega) | (simp [D32.len, -List.length_flatten, *]; done) | (simp [D32.len, -List.length_flatten, *]; omega)) (by first | rfl | omega | (simp; done) | (simp [*]; done) | (simp; omega) | (simp [*]; omega) | (simp [D32.len, -List.length_flatten, *]; done) | (simp [D32.len, -List.length_flatten, *]; omega)) ?_)
          refine s1 (y_p rfl) rfl <| ?_
          refine at_nil ?_
          refine x_tn ?_
          refine at_seq ?_
          refine at_seq ?_
          refine at_region ?_
          refine s1 (y_p rfl) rfl <| s1 ((y_p rfl).v (v' := .b false) (rfl)) rfl <| s1 (y_p rfl) rfl <| g1 rfl rfl (y_p rfl) rfl <| g1 rfl rfl ((y_p rfl).v (v' := .b true) (congrArg A.b (by simpa using he2))) rfl <| s1 (y_p rfl) rfl <| ?_
          refine at_nil ?_
          refine x_tn ?_
          refine at_then rfl ?_
          refine at_seq ?_
          refine at_region ?_
          refine s1 (y_p rfl) rfl <| ?_
          refine at_nil ?_
          refine x_tn ?_
          refine at_ret ?_
          refine x_tr ?_
          refine at_result (rs := [.tmp 10]) rfl (r_tmp rfl r_nil) ?_
          rfl
        · obtain ⟨a', b', hB, hbb, d1, d2, d3, hal', hbl', hR'⟩ := hcs
          obtain ⟨m, j0, rfl, _, _, _, _, _⟩ := V6.masks_zero (hR 0 (by omega)).ok
          have haa := same_masks hR hR' hal hal'
          subst haa
          obtain ⟨a3, h3⟩ := hides_ask hR hR' hal hbl c1 c2 d3
          refine at_region ?_
          refine s1 (y_p rfl) rfl <| s1 (y_p rfl) rfl <| s1 (y_p rfl) rfl <| s1 (y_p rfl) rfl <| ?_
          refine at_op rfl (n_call false rfl (.cons (.pure pu) (.cons (.pure pu) (.cons (.pure pu) (.cons (.pure pu) (.nil))))) (Con.cast (vask_ok m a2 (coins.length : Nat) coins) hB) pu (.inl rfl) rfl ?_)
          refine s1 (y_p rfl) rfl <| s1 (y_p rfl) rfl <| s1 (y_p rfl) rfl <| s1 (y_p rfl) rfl <| ?_
          refine at_op rfl (n_alloc 14 rfl ti32 rfl rfl ?_)
          refine at_op rfl (n_alloc 15 rfl ti32 rfl rfl ?_)
          refine at_op rfl (n_storeA ti32 rfl rfl rfl (by first | rfl | omega | (simp; done) | (simp [*]; done) | (simp; omega) | (simp [*]; omega) | (simp [D32.len, -List.length_flatten, *]; done) | (simp [D32.len, -List.length_flatten, *]; omega)) (by first | rfl | omega | (simp; done) | (simp [*]; done) | (simp; omega) | (simp [*]; omega) | (simp [D32.len, -List.length_flatten, *]; done) | (simp [D32.len, -List.length_flatten, *]; omega)) ?_)
          refine at_op rfl (n_storeA ti32 rfl rfl rfl (by first | rfl | omega | (simp; done) | (simp [*]; done) | (simp; omega) | (simp [*]; omega) | (simp [D32.len, -List.length_flatten, *]; done) | (simp [D32.len, -List.length_flatten, *]; omega)) (by first | rfl | omega | (simp; done) | (simp [*]; done) | (simp; omega) | (simp [*]; omega) | (simp [D32.len, -List.length_flatten, *]; done) | (simp [D32.len, -List.length_flatten, *]; omega)) ?_)
          refine s1 (y_p rfl) rfl <| ?_
          refine at_nil ?_
          refine x_tn ?_
          refine at_seq ?_
          refine at_seq ?_
          refine at_region ?_
          refine s1 (y_p rfl) rfl <| s1 ((y_p rfl).v (v' := .b false) (rfl)) rfl <| s1 (y_p rfl) rfl <| g1 rfl rfl (y_p rfl) rfl <| g1 rfl rfl ((y_p rfl).v (v' := .b false) (rfl)) rfl <| s1 (y_p rfl) rfl <| ?_
          refine at_nil ?_
          refine x_tn ?_
          refine at_else rfl ?_
          refine at_skip ?_
          refine x_tn ?_
          refine at_seq ?_
          refine at_seq ?_
          refine at_region ?_
          refine s1 (y_fld Try.underlying32 rfl ti30 (by decide) rfl rfl) rfl <| s1 (y_load ti30 rfl rfl rfl) rfl <| s1 (y_fld Try.underlying32 rfl ti30 (by decide) rfl rfl) rfl <| s1 (y_load ti30 rfl rfl rfl) rfl <| ?_
          refine at_op rfl (n_call false rfl (.cons (.pure pu) (.cons (.pure pu) (.nil))) (Con.cast (same_ok a a (by rw [hal]; exact hn2)) (congrArg A.b (beq_self_eq_true _))) pu (.inl rfl) rfl ?_)
          refine s1 (y_p rfl) rfl <| s1 (y_p rfl) rfl <| g1 rfl rfl (y_fld Try.underlying32 rfl ti30 (by decide) rfl rfl) rfl <| g1 rfl rfl (y_load ti30 rfl rfl rfl) rfl <| g1 rfl rfl (y_len Try.underlying30 rfl rfl rfl) rfl <| g1 rfl rfl (y_p rfl) rfl <| g1 rfl rfl ((y_p rfl).v (v' := .b false) (congrArg A.b (by simp [hal]))) rfl <| s1 (y_p rfl) rfl <| s1 (y_p rfl) rfl <| g1 rfl rfl (y_fld Try.underlying32 rfl ti30 (by decide) rfl rfl) rfl <| ?_
          refine g1 rfl rfl (y_load ti30 rfl rfl rfl) rfl <| g1 rfl rfl (y_len Try.underlying30 rfl rfl rfl) rfl <| g1 rfl rfl (y_p rfl) rfl <| g1 rfl rfl ((y_p rfl).v (v' := .b false) (congrArg A.b (by simp [hbl]))) rfl <| s1 (y_p rfl) rfl <| ?_
          refine at_nil ?_
          refine x_tn ?_
          refine at_else rfl ?_
          refine at_skip ?_
          refine x_tn ?_
          refine at_seq ?_
          refine at_region ?_
          refine s1 (y_p rfl) rfl <| ?_
          refine at_nil ?_
          refine x_tn ?_
          refine at_seq ?_
          refine at_region ?_
          refine s1 (y_p rfl) rfl <| ?_
          refine at_nil ?_
          refine x_tn ?_
          refine at_seq ?_
          refine at_seq ?_
          refine at_region ?_
          refine s1 (y_p rfl) rfl <| s1 ((y_p rfl).v (v' := .i .i64 0) rfl) rfl <| ?_
          refine at_nil ?_
          refine x_tn ?_
          refine at_block ?_
          refine at_loop (ι := Nat) (fun k => [(0, nV m), (1, .fz a1.length (a1.map (A.i .i64))), (2, .fz a2.length (a2.map (A.i .i64))), (3, nV coins.length), (4, .fz coins.length (coins.map V6.slV)), (11, .p 11 0), (12, .p 12 0), (17, .fn (.func 22) [] []), (18, .sl 241 1 0 k), (86, nV coins.length), (87, nV k)]) (fun k => ⟨[(11, some ([.fz a.length (a.map V6.slV)])), (12, some ([.fz b.length (b.map V6.slV)])), (241, some (((List.range k).map (twinAt m a1 a2 coins)).map V6.slV))]⟩) (fun k => k ≤ coins.length) (fun k => coins.length - k) ?_ ?_
          · exact at_ex (0) (Nat.zero_le _) [(11, some 11), (12, some 12), (241, none)] hI rfl rfl ⟨⟨_, rfl, .pure pu⟩, ⟨_, rfl, .pure pu⟩, ⟨_, rfl, .pure pu⟩, ⟨_, rfl, .pure pu⟩, ⟨_, rfl, .pure pu⟩, ⟨_, rfl, .p rfl⟩, ⟨_, rfl, .p rfl⟩, ⟨_, rfl, .pure pu⟩, ⟨_, rfl, .nl rfl⟩, ⟨_, rfl, .pure pu⟩, ⟨_, rfl, .pure pu⟩, trivial⟩ ⟨.inr ⟨_, _, rfl, rfl, .pure pul⟩, .inr ⟨_, _, rfl, rfl, .pure pul⟩, .inl ⟨rfl, rfl⟩, trivial⟩
          rintro k hk
          refine at_seq ?_
          refine at_region ?_
          refine s1 (y_p rfl) rfl <| ?_
          refine at_nil ?_
          refine x_tn ?_
          refine at_seq ?_
          refine at_cond rfl (fun hc88 => ?_) (fun hc88 => ?_)
          · have h88 : k < coins.length := by have := of_decide_eq_true hc88; omega
            obtain ⟨x, hx, hu1, hu2, _, _⟩ := hides_at (hR k h88) (hR' k h88) h88 hal
            obtain ⟨q, hq⟩ : ∃ q, coins[k]? = some q := ⟨_, List.getElem?_eq_getElem h88⟩
            have hqd : coins.getD k [] = q := by rw [List.getD, hq]; rfl
            rw [hqd] at hu1
            generalize htw : twinAt m a1 a2 coins k = tw at hu1 hu2
            refine at_skip ?_
            refine x_tn ?_
            refine at_seq ?_
            refine at_block ?_
            refine at_seq ?_
            refine at_region ?_
            refine s1 (y_p rfl) rfl <| s1 (y_p rfl) rfl <| ?_
            refine at_nil ?_
            refine x_tn ?_
            refine at_seq ?_
            refine at_fs ⟨_, [], []⟩ 18 4 hmix (le_refl rfl) ?_
            refine fs_q 0 [] [] (y_p rfl) rfl rfl ?_
            refine fs_q 1 [] [] (y_p rfl) rfl rfl ?_
            refine fs_q 2 [] [] (y_p rfl) rfl rfl ?_
            refine fs_q 3 [] [] (y_p rfl) rfl rfl ?_
            refine fs_callv false 4 [1, 2, 3] [] gy0 rfl rfl (.cons (.pure pu) (.cons (.pure pu) .nil)) (hwant_ok a1 k) pu (.inl rfl) rfl rfl ?_
            refine fs_q 5 [] [] (y_p rfl) rfl rfl ?_
            refine fs_q 6 [] [] (y_p rfl) rfl rfl ?_
            refine fs_q 7 [] [] (y_p rfl) rfl rfl ?_
            refine fs_callv false 8 [5, 6, 7] [] gy0 rfl rfl (.cons (.pure pu) (.cons (.pure pu) .nil)) (hwant_ok a2 k) pu (.inl rfl) rfl rfl ?_
            refine fs_q 9 [] [] (y_p rfl) rfl rfl ?_
            refine fs_q 10 [] [] (y_p rfl) rfl rfl ?_
            refine fs_q 11 [9, 10] [] (y_ixf k Try.underlying30 ti22 rfl rfl rfl (by omega) rfl) rfl rfl ?_
            refine fs_q 12 [11] [] (y_load ti22 rfl rfl (V6.getR hq)) rfl rfl ?_
            refine fs_call false 13 [0, 4, 8, 12] [] gy0 rfl (.cons (.pure pu) (.cons (.pure pu) (.cons (.pure pu) (.cons (.pure pu) (.nil))))) (Con.cast (vtwin_ok m (V6.want a1 k) (V6.want a2 k) q) hu1) pu (.inl rfl) rfl rfl ?_
            refine fs_q 14 [13] [] (y_p rfl) rfl rfl ?_
            refine fs_q 15 [14] [] (y_p rfl) rfl rfl ?_
            refine fs_q 16 [14] [] (y_p rfl) rfl rfl ?_
            refine fs_q 17 [15] [] (y_p rfl) rfl rfl ?_
            refine fs_end (by kernel_rfl) ?_
            refine s1 (y_p rfl) rfl <| ?_
            refine at_nil ?_
            refine x_tn ?_
            refine at_seq ?_
            refine at_region ?_
            refine s1 (y_p rfl) rfl <| s1 (y_p rfl) rfl <| s1 (y_p rfl) rfl <| s1 (y_p rfl) rfl <| ?_
            refine at_op rfl (n_callv false rfl rfl (.cons (.pure pu) (.cons (.pure pu) .nil)) (hwant_ok a2 k) pu (.inl rfl) rfl ?_)
            refine s1 (y_p rfl) rfl <| s1 (y_p rfl) rfl <| s1 (y_p rfl) rfl <| ?_
            refine at_op rfl (n_callv false rfl rfl (.cons (.pure pu) (.cons (.pure pu) .nil)) (hwant_ok a1 k) pu (.inl rfl) rfl ?_)
            refine s1 (y_p rfl) rfl <| ?_
            refine at_op rfl (n_call false rfl (.cons (.pure pu) (.cons (.pure pu) (.cons (.pure pu) (.cons (.pure pu) (.nil))))) (Con.cast (vtwin_ok m (V6.want a2 k) (V6.want a1 k) tw) hu2) pu (.inl rfl) rfl ?_)
            refine s1 (y_p rfl) rfl <| s1 (y_p rfl) rfl <| s1 (y_p rfl) rfl <| s1 (y_p rfl) rfl <| s1 (y_p rfl) rfl <| ?_
            refine at_nil ?_
            refine x_tn ?_
            refine at_seq ?_
            refine at_seq ?_
            refine at_draw_tail 16 hmix (by kernel_rfl) ?_
            refine t1 (y_p rfl) rfl <| t1 ((y_p rfl).v (v' := .b false) (rfl)) rfl <| t1 (y_p rfl) rfl <| t1g rfl rfl (y_p rfl) rfl <| t1g rfl rfl ((y_p rfl).v (v' := .b false) (rfl)) rfl <| t1 (y_p rfl) rfl <| t1 (y_p rfl) rfl <| t1g rfl rfl (y_p rfl) rfl <| t1g rfl rfl (y_str Try.underlying22 Try.underlying5 Try.underlying9 rfl rfl (by simp)) rfl <| t1g rfl rfl (y_fld Try.underlying32 rfl ti30 (by decide) rfl rfl) rfl <| ?_
            refine t1g rfl rfl (y_load ti30 rfl rfl rfl) rfl <| t1g rfl rfl (y_p rfl) rfl <| t1g rfl rfl (y_ixf k Try.underlying30 ti22 rfl rfl rfl (by omega) rfl) rfl <| t1g rfl rfl (y_load ti22 rfl rfl (V6.getR hx)) rfl <| t1g rfl rfl (y_str Try.underlying22 Try.underlying5 Try.underlying9 rfl rfl (by simp)) rfl <| t1g rfl rfl ((y_p rfl).v (v' := .b false) (congrArg A.b (by simp))) rfl <| ?_
            refine at_snil ?_
            refine s1 (y_p rfl) rfl <| ?_
            refine at_nil ?_
            refine x_tn ?_
            refine at_else rfl ?_
            refine at_skip ?_
            refine x_tn ?_
            refine at_region ?_
            refine s1 (y_p rfl) rfl <| s1 (y_p rfl) rfl <| ?_
            refine at_op rfl (n_bs1 140 rfl Try.underlying30 ti22 rfl rfl rfl rfl rfl ?_)
            refine at_op rfl (n_app 141 rfl Try.underlying30 ti22 rfl (.sl rfl (by simp)) rfl (SM_full rfl (by first | rfl | omega | (simp; done) | (simp [*]; done) | (simp; omega) | (simp [*]; omega) | (simp [D32.len, -List.length_flatten, *]; done) | (simp [D32.len, -List.length_flatten, *]; omega))) (by simp) (by simp only [maxLen]; omega) (by omega) rfl (twins_next _ k htw) rfl ?_)
            refine s1 (y_p rfl) rfl <| ?_
            refine at_nil ?_
            refine x_bn ?_
            refine x_tn ?_
            refine at_region ?_
            refine s1 (addN _ 1 rfl rfl rfl rfl (by omega)) rfl <| s1 (y_p rfl) rfl <| ?_
            refine at_nil ?_
            exact at_end (k + 1) (by omega) (by omega) [(11, some 11), (12, some 12), (241, some 141)] hI rfl rfl ⟨⟨_, rfl, .pure pu⟩, ⟨_, rfl, .pure pu⟩, ⟨_, rfl, .pure pu⟩, ⟨_, rfl, .pure pu⟩, ⟨_, rfl, .pure pu⟩, ⟨_, rfl, .p rfl⟩, ⟨_, rfl, .p rfl⟩, ⟨_, rfl, .pure pu⟩, ⟨_, rfl, .sl rfl (by first | rfl | omega | (simp; done) | (simp [*]; done) | (simp; omega) | (simp [*]; omega) | (simp [D32.len, -List.length_flatten, *]; done) | (simp [D32.len, -List.length_flatten, *]; omega))⟩, ⟨_, rfl, .pure pu⟩, ⟨_, rfl, .pure pu⟩, trivial⟩ ⟨.inr ⟨_, _, rfl, rfl, .pure pul⟩, .inr ⟨_, _, rfl, rfl, .pure pul⟩, .inr ⟨_, _, rfl, rfl, .pure pul⟩, trivial⟩
          · have h88 : k = coins.length := by have := of_decide_eq_false hc88; omega
            subst h88
            refine at_exit ?_
            refine x_te ?_
            refine x_te ?_
            refine x_be ?_
            refine x_tn ?_
            refine at_seq ?_
            refine at_frz 18 rfl rfl pul (view_eq (by simp) rfl) ?_
            refine at_say 18 rfl (v' := rowsV (twins m a1 a2 coins)) (congrArg (fun z => A.fz z _) (len_twins m a1 a2 coins).symm) ?_
            refine at_region ?_
            refine s1 (y_p rfl) rfl <| s1 (y_p rfl) rfl <| s1 (y_p rfl) rfl <| s1 (y_p rfl) rfl <| ?_
            refine at_op rfl (n_call false rfl (.cons (.pure pu) (.cons (.pure pu) (.cons (.pure pu) (.cons (.pure pu) (.nil))))) (Con.cast (vask_ok m a2 (coins.length : Nat) (twins m a1 a2 coins)) h3) pu (.inl rfl) rfl ?_)
            refine s1 (y_p rfl) rfl <| s1 (y_p rfl) rfl <| s1 (y_p rfl) rfl <| s1 (y_p rfl) rfl <| ?_
            refine at_op rfl (n_alloc 24 rfl ti32 rfl rfl ?_)
            refine at_op rfl (n_alloc 25 rfl ti32 rfl rfl ?_)
            refine at_op rfl (n_storeA ti32 rfl rfl rfl (by first | rfl | omega | (simp; done) | (simp [*]; done) | (simp; omega) | (simp [*]; omega) | (simp [D32.len, -List.length_flatten, *]; done) | (simp [D32.len, -List.length_flatten, *]; omega)) (by first | rfl | omega | (simp; done) | (simp [*]; done) | (simp; omega) | (simp [*]; omega) | (simp [D32.len, -List.length_flatten, *]; done) | (simp [D32.len, -List.length_flatten, *]; omega)) ?_)
            refine at_op rfl (n_storeA ti32 rfl rfl rfl (by first | rfl | omega | (simp; done) | (simp [*]; done) | (simp; omega) | (simp [*]; omega) | (simp [D32.len, -List.length_flatten, *]; done) | (simp [D32.len, -List.length_flatten, *]; omega)) (by first | rfl | omega | (simp; done) | (simp [*]; done) | (simp; omega) | (simp [*]; omega) | (simp [D32.len, -List.length_flatten, *]; done) | (simp [D32.len, -List.length_flatten, *]; omega)) ?_)
            refine s1 (y_p rfl) rfl <| ?_
            refine at_nil ?_
            refine x_tn ?_
            refine at_seq ?_
            refine at_region ?_
            refine s1 (y_p rfl) rfl <| s1 ((y_p rfl).v (v' := .b true) (rfl)) rfl <| s1 (y_p rfl) rfl <| g1 rfl rfl (y_fld Try.underlying32 rfl ti30 (by decide) rfl rfl) rfl <| g1 rfl rfl (y_load ti30 rfl rfl rfl) rfl <| g1 rfl rfl (y_fld Try.underlying32 rfl ti30 (by decide) rfl rfl) rfl <| g1 rfl rfl (y_load ti30 rfl rfl rfl) rfl <| ?_
            refine at_opg rfl rfl rfl (n_call false rfl (.cons (.pure pu) (.cons (.pure pu) (.nil))) (Con.cast (same_ok b b (by rw [hbl]; exact hn2)) (congrArg A.b (beq_self_eq_true _))) pu (.inl rfl) rfl ?_)
            refine s1 (y_p rfl) rfl <| s1 (y_p rfl) rfl <| ?_
            refine at_nil ?_
            refine x_tn ?_
            refine at_ret ?_
            refine at_result (rs := [.tmp 10]) rfl (r_tmp rfl r_nil) ?_
            rfl

end Go.Abs.D2
