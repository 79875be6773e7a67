/-
  Layer 2: walks of the digest functions. Conditions: each theorem says its own.
-/
import Derived.Test.YtapmhjkfnedbmaaDoorC5D
import Derived.Test.YtapmhjkfnedbmaaDoorC5E
import Derived.Test.YtapmhjkfnedbmaaDoorC5Q
namespace Go.Abs.D2
open Go Go.Eng Go.Abs Go.Proofs 

set_option linter.unusedSimpArgs false in
set_option linter.unusedVariables false in
set_option maxHeartbeats 1000000 in
theorem same_ok (L M : List (List UInt8)) (hL : D32 L) (hM : D32 M) : Con Tryd.prog 20 [dgs L, dgs M] (Ret (.b (L == M))) := by
  refine enter Tryd.func20 rfl Tryd.ntmps20 (by kernel_rfl) (Nat.le_of_ble_eq_true rfl) fun w0 X0 hI => ?_
  refine at_seq ?_
  refine at_max 0 rfl fun hmx => ?_
  simp only [maxLen] at hmx
  refine at_region ?_
  refine s1 (y_p rfl) rfl <| ?_
  refine at_nil ?_
  refine x_tn ?_
  refine at_seq ?_
  refine at_seq ?_
  refine at_region ?_
  refine s1 (y_p rfl) rfl <| s1 (y_len Tryd.underlying24 rfl rfl rfl) rfl <| s1 (y_p rfl) rfl <| s1 (y_len Tryd.underlying24 rfl rfl rfl) rfl <| s1 (y_p rfl) rfl <| ?_
  refine at_nil ?_
  refine x_tn ?_
  refine at_cond rfl (fun hc10 => ?_) (fun hc10 => ?_)
  · have h10 : L.length ≠ M.length := by have := bne_iff_ne.1 hc10; omega
    refine at_seq ?_
    refine at_region ?_
    refine s1 (y_p rfl) rfl <| ?_
    refine at_nil ?_
    refine x_tn ?_
    refine at_ret ?_
    refine x_tr ?_
    refine at_result (rs := [.tmp 4]) rfl (r_tmp rfl r_nil) ?_
    exact congrArg A.b (by rw [eq_comm, beq_eq_false_iff_ne]; exact fun h => h10 (congrArg List.length h))
  · have h10 : L.length = M.length := by have := bne_eq_false_iff_eq.1 hc10; omega
    refine at_skip ?_
    refine x_tn ?_
    refine at_seq ?_
    refine at_seq ?_
    refine at_region ?_
    refine s1 ((y_p rfl).v (v' := .i .i64 0) rfl) rfl <| ?_
    refine at_nil ?_
    refine x_tn ?_
    refine at_block ?_
    refine at_loop (ι := Nat) (fun j => [(0, dgs L), (1, dgs M), (5, .i .i64 (j : Nat))]) (fun j => ⟨[]⟩) (fun j => j ≤ L.length ∧ L.take j = M.take j) (fun j => L.length - j) ?_ ?_
    · exact at_ex (0) (⟨Nat.zero_le _, rfl⟩) [] hI rfl rfl ⟨⟨_, rfl, .pure pu⟩, ⟨_, rfl, .pure pu⟩, ⟨_, rfl, .pure pu⟩, trivial⟩ trivial
    rintro j ⟨hj, ht⟩
    refine at_seq ?_
    refine at_seq ?_
    refine at_region ?_
    refine s1 (y_p rfl) rfl <| s1 (y_p rfl) rfl <| s1 (y_len Tryd.underlying24 rfl rfl rfl) rfl <| s1 (y_p rfl) rfl <| ?_
    refine at_nil ?_
    refine x_tn ?_
    refine at_cond rfl (fun hc14 => ?_) (fun hc14 => ?_)
    · have hj2 : j < L.length := by have := of_decide_eq_true hc14; omega
      obtain ⟨q, hq⟩ : ∃ q, L[j]? = some q := ⟨_, List.getElem?_eq_getElem hj2⟩
      obtain ⟨r, hr⟩ : ∃ r, M[j]? = some r := ⟨_, List.getElem?_eq_getElem (by omega)⟩
      have hq32 := hL q (List.mem_of_getElem? hq)
      have hr32 := hM r (List.mem_of_getElem? hr)
      refine at_skip ?_
      refine x_tn ?_
      refine at_seq ?_
      refine at_block ?_
      refine at_seq ?_
      refine at_draw_tail 8 hmix (by kernel_rfl) ?_
      refine t1 (y_p rfl) rfl <| t1 (y_p rfl) rfl <| t1 (y_ixf j Tryd.underlying24 ti23 rfl rfl rfl (by omega) rfl) rfl <| t1 (y_loadA ti23 rfl rfl (get_d5 hL hq) (by simp [hq32])) rfl <| t1 (y_p rfl) rfl <| t1 (y_p rfl) rfl <| t1 (y_ixf j Tryd.underlying24 ti23 rfl rfl rfl (by omega) rfl) rfl <| t1 (y_loadA ti23 rfl rfl (get_d5 hM hr) (by simp [hr32])) rfl <| ?_
      refine at_snil ?_
      refine s1 (y_aqn Tryd.underlying23 Tryd.underlying5 ti5 (by kernel_rfl) rfl rfl (by first | assumption | (simp; done) | (simp [*]; done)) (by first | assumption | (simp; done) | (simp [*]; done))) rfl <| ?_
      refine at_nil ?_
      refine x_tn ?_
      refine at_cond rfl (fun hc25 => ?_) (fun hc25 => ?_)
      · skip
        refine at_seq ?_
        refine at_region ?_
        refine s1 (y_p rfl) rfl <| ?_
        refine at_nil ?_
        refine x_tn ?_
        refine at_ret ?_
        refine x_br ?_
        refine x_tr ?_
        refine x_tr ?_
        refine x_br ?_
        refine x_tr ?_
        refine at_result (rs := [.tmp 4]) rfl (r_tmp rfl r_nil) ?_
        refine congrArg A.b ?_
        rw [eq_comm, beq_eq_false_iff_ne]
        rintro rfl
        rw [hq] at hr
        cases hr
        simp at hc25
      · have hqr : q = r := by simpa using hc25
        refine at_skip ?_
        refine x_bn ?_
        refine x_tn ?_
        refine at_region ?_
        refine s1 (y_p rfl) rfl <| s1 (addN _ 1 rfl rfl rfl rfl (by omega)) rfl <| s1 (y_p rfl) rfl <| ?_
        refine at_nil ?_
        exact at_end (j + 1) (⟨by omega, by rw [List.take_add_one, List.take_add_one, ht, hq, hr, hqr]⟩) (by omega) [] hI rfl rfl ⟨⟨_, rfl, .pure pu⟩, ⟨_, rfl, .pure pu⟩, ⟨_, rfl, .pure pu⟩, trivial⟩ trivial
    · have hj2 : j = L.length := by have := of_decide_eq_false hc14; omega
      subst hj2
      rw [List.take_length, h10, List.take_length] at ht
      refine at_exit ?_
      refine x_te ?_
      refine x_te ?_
      refine x_be ?_
      refine x_tn ?_
      refine at_seq ?_
      refine at_region ?_
      refine s1 (y_p rfl) rfl <| ?_
      refine at_nil ?_
      refine x_tn ?_
      refine at_ret ?_
      refine at_result (rs := [.tmp 4]) rfl (r_tmp rfl r_nil) ?_
      exact congrArg A.b (by rw [ht]; simp)

set_option linter.unusedSimpArgs false in
set_option linter.unusedVariables false in
set_option maxHeartbeats 1000000 in
theorem sameI_ok (L M : List Nat) : Con Tryd.prog 13 [.fz L.length (L.map nI), .fz M.length (M.map nI)] (Ret (.b (L == M))) := by
  refine enter Tryd.func13 rfl Tryd.ntmps13 (by kernel_rfl) (Nat.le_of_ble_eq_true rfl) fun w0 X0 hI => ?_
  refine at_seq ?_
  refine at_max 0 rfl fun hmx => ?_
  simp only [maxLen] at hmx
  refine at_region ?_
  refine s1 (y_p rfl) rfl <| ?_
  refine at_nil ?_
  refine x_tn ?_
  refine at_seq ?_
  refine at_seq ?_
  refine at_region ?_
  refine s1 (y_p rfl) rfl <| s1 (y_len Tryd.underlying29 rfl rfl rfl) rfl <| s1 (y_p rfl) rfl <| s1 (y_len Tryd.underlying29 rfl rfl rfl) rfl <| s1 (y_p rfl) rfl <| ?_
  refine at_nil ?_
  refine x_tn ?_
  refine at_cond rfl (fun hc10 => ?_) (fun hc10 => ?_)
  · have h10 : L.length ≠ M.length := by have := bne_iff_ne.1 hc10; omega
    refine at_seq ?_
    refine at_region ?_
    refine s1 (y_p rfl) rfl <| ?_
    refine at_nil ?_
    refine x_tn ?_
    refine at_ret ?_
    refine x_tr ?_
    refine at_result (rs := [.tmp 4]) rfl (r_tmp rfl r_nil) ?_
    exact congrArg A.b (by rw [eq_comm, beq_eq_false_iff_ne]; exact fun h => h10 (congrArg List.length h))
  · have h10 : L.length = M.length := by have := bne_eq_false_iff_eq.1 hc10; omega
    refine at_skip ?_
    refine x_tn ?_
    refine at_seq ?_
    refine at_seq ?_
    refine at_region ?_
    refine s1 ((y_p rfl).v (v' := .i .i64 0) rfl) rfl <| ?_
    refine at_nil ?_
    refine x_tn ?_
    refine at_block ?_
    refine at_loop (ι := Nat) (fun j => [(0, .fz L.length (L.map nI)), (1, .fz M.length (M.map nI)), (5, .i .i64 (j : Nat))]) (fun j => ⟨[]⟩) (fun j => j ≤ L.length ∧ L.take j = M.take j) (fun j => L.length - j) ?_ ?_
    · exact at_ex (0) (⟨Nat.zero_le _, rfl⟩) [] hI rfl rfl ⟨⟨_, rfl, .pure pu⟩, ⟨_, rfl, .pure pu⟩, ⟨_, rfl, .pure pu⟩, trivial⟩ trivial
    rintro j ⟨hj, ht⟩
    refine at_seq ?_
    refine at_seq ?_
    refine at_region ?_
    refine s1 (y_p rfl) rfl <| s1 (y_p rfl) rfl <| s1 (y_len Tryd.underlying29 rfl rfl rfl) rfl <| s1 (y_p rfl) rfl <| ?_
    refine at_nil ?_
    refine x_tn ?_
    refine at_cond rfl (fun hc14 => ?_) (fun hc14 => ?_)
    · have hj2 : j < L.length := by have := of_decide_eq_true hc14; omega
      obtain ⟨q, hq⟩ : ∃ q, L[j]? = some q := ⟨_, List.getElem?_eq_getElem hj2⟩
      obtain ⟨r, hr⟩ : ∃ r, M[j]? = some r := ⟨_, List.getElem?_eq_getElem (by omega)⟩
      refine at_skip ?_
      refine x_tn ?_
      refine at_seq ?_
      refine at_block ?_
      refine at_seq ?_
      refine at_draw_tail 8 hmix (by kernel_rfl) ?_
      refine t1 (y_p rfl) rfl <| t1 (y_p rfl) rfl <| t1 (y_ixf j Tryd.underlying29 ti3 rfl rfl rfl (by omega) rfl) rfl <| t1 (y_load ti3 rfl rfl (get_nI hq)) rfl <| t1 (y_p rfl) rfl <| t1 (y_p rfl) rfl <| t1 (y_ixf j Tryd.underlying29 ti3 rfl rfl rfl (by omega) rfl) rfl <| t1 (y_load ti3 rfl rfl (get_nI hr)) rfl <| ?_
      refine at_snil ?_
      refine s1 (y_p rfl) rfl <| ?_
      refine at_nil ?_
      refine x_tn ?_
      refine at_cond rfl (fun hc25 => ?_) (fun hc25 => ?_)
      · skip
        refine at_seq ?_
        refine at_region ?_
        refine s1 (y_p rfl) rfl <| ?_
        refine at_nil ?_
        refine x_tn ?_
        refine at_ret ?_
        refine x_br ?_
        refine x_tr ?_
        refine x_tr ?_
        refine x_br ?_
        refine x_tr ?_
        refine at_result (rs := [.tmp 4]) rfl (r_tmp rfl r_nil) ?_
        refine congrArg A.b ?_
        rw [eq_comm, beq_eq_false_iff_ne]
        rintro rfl
        rw [hq] at hr
        cases hr
        simp at hc25
      · have hqr : q = r := by have := bne_eq_false_iff_eq.1 hc25; omega
        refine at_skip ?_
        refine x_bn ?_
        refine x_tn ?_
        refine at_region ?_
        refine s1 (y_p rfl) rfl <| s1 (addN _ 1 rfl rfl rfl rfl (by omega)) rfl <| s1 (y_p rfl) rfl <| ?_
        refine at_nil ?_
        exact at_end (j + 1) (⟨by omega, by rw [List.take_add_one, List.take_add_one, ht, hq, hr, hqr]⟩) (by omega) [] hI rfl rfl ⟨⟨_, rfl, .pure pu⟩, ⟨_, rfl, .pure pu⟩, ⟨_, rfl, .pure pu⟩, trivial⟩ trivial
    · have hj2 : j = L.length := by have := of_decide_eq_false hc14; omega
      subst hj2
      rw [List.take_length, h10, List.take_length] at ht
      refine at_exit ?_
      refine x_te ?_
      refine x_te ?_
      refine x_be ?_
      refine x_tn ?_
      refine at_seq ?_
      refine at_region ?_
      refine s1 (y_p rfl) rfl <| ?_
      refine at_nil ?_
      refine x_tn ?_
      refine at_ret ?_
      refine at_result (rs := [.tmp 4]) rfl (r_tmp rfl r_nil) ?_
      exact congrArg A.b (by rw [ht]; simp)

theorem sameI_19 (L : List Nat) (h : L.length = 19) : Con Tryd.prog 13 [.fz 19 (L.map nI), .fz 19 (L.map nI)] (Ret (.b true)) := by
  have := sameI_ok L L
  rwa [h, beq_self_eq_true] at this

theorem same_yes (L : List (List UInt8)) (h : D32 L) : Con Tryd.prog 20 [dgs L, dgs L] (Ret (.b true)) := by
  have := same_ok L L h h
  rwa [beq_self_eq_true] at this

theorem step_tag (x : List UInt8) (hx : x.length = 32) : Con Tryd.prog 27 [.s [115, 116, 101, 112], .fz 32 (x.map u8)] (Ret (.ag ((stepD x).map u8))) := by
  rw [stepD_eq]; simpa [hx] using tagged_ok [115, 116, 101, 112] x (by omega) (by simp)

set_option linter.unusedSimpArgs false in
set_option linter.unusedVariables false in
set_option maxHeartbeats 1000000 in
theorem lstep_ok (x : List UInt8) (hx : x.length = 32) : Con Tryd.prog 25 [.ag (x.map u8)] (Ret (.ag ((stepD x).map u8))) := by
  refine enter Tryd.func25 rfl Tryd.ntmps25 (by kernel_rfl) (Nat.le_of_ble_eq_true rfl) fun w0 X0 hI => ?_
  refine at_seq ?_
  refine at_region ?_
  refine at_op rfl (n_boxA 1 rfl rfl rfl ?_)
  refine at_op rfl (n_alloc 2 rfl ti23 rfl rfl ?_)
  refine at_nil ?_
  refine x_tn ?_
  refine at_seq ?_
  refine at_region ?_
  refine s1 (y_cuta0 Tryd.underlying23 ti5 rfl rfl (by first | rfl | omega | (simp; done) | (simp [*]; done) | (simp; omega) | (simp [*]; omega) | (simp [D32.len, -List.length_flatten, *]; done) | (simp [D32.len, -List.length_flatten, *]; omega)) (by simp [maxLen])) rfl <| ?_
  refine at_op rfl (n_call true rfl (.cons (.pure pu) (.cons (.sl rfl rfl (by first | rfl | omega | (simp; done) | (simp [*]; done) | (simp; omega) | (simp [*]; omega) | (simp [D32.len, -List.length_flatten, *]; done) | (simp [D32.len, -List.length_flatten, *]; omega)) (view_eq (by first | rfl | omega | (simp; done) | (simp [*]; done) | (simp; omega) | (simp [*]; omega) | (simp [D32.len, -List.length_flatten, *]; done) | (simp [D32.len, -List.length_flatten, *]; omega)) (by first | rfl | (simp; done) | (simp [*]; done))) (VwL.pure pul) pul) (.nil))) (step_tag x hx) pu (.inr fu) rfl ?_)
  refine at_op rfl (n_storeA ti23 rfl rfl rfl (by first | rfl | omega | (simp; done) | (simp [*]; done) | (simp; omega) | (simp [*]; omega) | (simp [D32.len, -List.length_flatten, *]; done) | (simp [D32.len, -List.length_flatten, *]; omega)) (by first | rfl | omega | (simp; done) | (simp [*]; done) | (simp; omega) | (simp [*]; omega) | (simp [D32.len, -List.length_flatten, *]; done) | (simp [D32.len, -List.length_flatten, *]; omega)) ?_)
  refine at_nil ?_
  refine x_tn ?_
  refine at_ret ?_
  refine at_result (rs := [.cell 2 23]) rfl (r_cellA ti23 rfl rfl (List.take_of_length_le (by simp)) (by simp) r_nil) rfl

set_option linter.unusedSimpArgs false in
set_option linter.unusedVariables false in
set_option maxHeartbeats 1000000 in
theorem full_ok : Con Tryd.prog 28 [] (Ret (.ag (fullD.map u8))) := by
  refine enter Tryd.func28 rfl Tryd.ntmps28 (by kernel_rfl) (Nat.le_of_ble_eq_true rfl) fun w0 X0 hI => ?_
  refine at_seq ?_
  refine at_region ?_
  refine at_op rfl (n_alloc 0 rfl ti23 rfl rfl ?_)
  refine at_nil ?_
  refine x_tn ?_
  refine at_seq ?_
  refine at_seq ?_
  refine at_region ?_
  refine s1 ((y_p rfl).v (v' := .i .i64 0) rfl) rfl <| ?_
  refine at_nil ?_
  refine x_tn ?_
  refine at_block ?_
  refine at_loop (ι := Nat) (fun i => [(0, .p 0 0), (2, nI i)]) (fun i => ⟨[(0, some ((List.replicate i (255 : UInt8) ++ List.replicate (32 - i) 0).map u8))]⟩) (fun i => i ≤ 32) (fun i => 32 - i) ?_ ?_
  · exact at_ex (0) (Nat.zero_le _) [(0, some 0)] hI rfl rfl ⟨⟨_, rfl, .p rfl⟩, ⟨_, rfl, .pure pu⟩, trivial⟩ ⟨.inr ⟨_, _, rfl, rfl, .of (by rfl) (.pure pul)⟩, trivial⟩
  rintro i hi
  refine at_seq ?_
  refine at_region ?_
  refine s1 (y_p rfl) rfl <| ?_
  refine at_nil ?_
  refine x_tn ?_
  refine at_seq ?_
  refine at_cond rfl (fun hc3 => ?_) (fun hc3 => ?_)
  · have h3 : i < 32 := by have := of_decide_eq_true hc3; omega
    refine at_skip ?_
    refine x_tn ?_
    refine at_seq ?_
    refine at_block ?_
    refine at_seq ?_
    refine at_region ?_
    refine s1 (y_p rfl) rfl <| s1 (y_p rfl) rfl <| ?_
    refine at_nil ?_
    refine x_tn ?_
    refine at_region ?_
    refine s1 (y_p rfl) rfl <| s1 (y_ixa i Tryd.underlying23 ti5 rfl rfl rfl (by omega) rfl) rfl <| ?_
    refine at_op rfl (n_store1 ti5 rfl rfl rfl rfl (by simp; omega) rfl ?_)
    refine at_nil ?_
    refine x_bn ?_
    refine x_tn ?_
    refine at_region ?_
    refine s1 (addN _ 1 rfl rfl rfl rfl (by omega)) rfl <| s1 (y_p rfl) rfl <| ?_
    refine at_nil ?_
    exact at_end (i + 1) (by omega) (by omega) [(0, some 0)] hI rfl rfl ⟨⟨_, rfl, .p rfl⟩, ⟨_, rfl, .pure pu⟩, trivial⟩ ⟨.inr ⟨_, _, rfl, rfl, .of (full_step i h3) (.pure pul)⟩, trivial⟩
  · have h3 : i = 32 := by have := of_decide_eq_false hc3; omega
    subst h3
    refine at_exit ?_
    refine x_te ?_
    refine x_te ?_
    refine x_be ?_
    refine x_tn ?_
    refine at_seq ?_
    refine at_region ?_
    refine s1 (y_loadA ti23 rfl rfl rfl (by simp)) rfl <| ?_
    refine at_op rfl (n_storeA ti23 rfl rfl rfl (by first | rfl | omega | (simp; done) | (simp [*]; done) | (simp; omega) | (simp [*]; omega) | (simp [D32.len, -List.length_flatten, *]; done) | (simp [D32.len, -List.length_flatten, *]; omega)) (by first | rfl | omega | (simp; done) | (simp [*]; done) | (simp; omega) | (simp [*]; omega) | (simp [D32.len, -List.length_flatten, *]; done) | (simp [D32.len, -List.length_flatten, *]; omega)) ?_)
    refine at_nil ?_
    refine x_tn ?_
    refine at_ret ?_
    refine at_result (rs := [.cell 0 23]) rfl (r_cellA ti23 rfl rfl (List.take_of_length_le (by simp)) (by simp) r_nil) rfl

set_option linter.unusedSimpArgs false in
set_option linter.unusedVariables false in
set_option maxHeartbeats 1000000 in
theorem sane_ok : Con Tryd.prog 10 [] (Ret (.b true)) := by
  refine enter Tryd.func10 rfl Tryd.ntmps10 (by kernel_rfl) (Nat.le_of_ble_eq_true rfl) fun w0 X0 hI => ?_
  refine at_seq ?_
  refine at_region ?_
  refine s1 (y_p rfl) rfl <| ?_
  refine at_nil ?_
  refine x_tn ?_
  refine at_seq ?_
  refine at_region ?_
  refine s1 ((y_bld0 ti23 rfl Tryd.underlying23 ti5 rfl).v (v' := .ag (zeroD.map u8)) (by kernel_rfl)) rfl <| s1 ((y_bldP (vs := [_]) ti23 rfl (by kernel_rfl) Tryd.underlying23 ti5 rfl rfl (by simp) rfl rfl).v (v' := .ag (seedD.map u8)) (by kernel_rfl)) rfl <| ?_
  refine at_op rfl (n_alloc 1 rfl ti23 rfl rfl ?_)
  refine at_op rfl (n_alloc 2 rfl ti23 rfl rfl ?_)
  refine at_op rfl (n_storeA ti23 rfl rfl rfl (by first | rfl | omega | (simp; done) | (simp [*]; done) | (simp; omega) | (simp [*]; omega) | (simp [D32.len, -List.length_flatten, *]; done) | (simp [D32.len, -List.length_flatten, *]; omega)) (by first | rfl | omega | (simp; done) | (simp [*]; done) | (simp; omega) | (simp [*]; omega) | (simp [D32.len, -List.length_flatten, *]; done) | (simp [D32.len, -List.length_flatten, *]; omega)) ?_)
  refine at_op rfl (n_storeA ti23 rfl rfl rfl (by first | rfl | omega | (simp; done) | (simp [*]; done) | (simp; omega) | (simp [*]; omega) | (simp [D32.len, -List.length_flatten, *]; done) | (simp [D32.len, -List.length_flatten, *]; omega)) (by first | rfl | omega | (simp; done) | (simp [*]; done) | (simp; omega) | (simp [*]; omega) | (simp [D32.len, -List.length_flatten, *]; done) | (simp [D32.len, -List.length_flatten, *]; omega)) ?_)
  refine at_nil ?_
  refine x_tn ?_
  refine at_seq ?_
  refine at_region ?_
  refine at_op rfl (n_make 14 rfl 16 16 Tryd.underlying29 ti3 rfl rfl rfl rfl rfl (by first | omega | (simp only [maxLen]; omega) | (simp [maxLen]; done) | (simp [maxLen]; omega) | (simp [maxLen, *]; omega)) (by first | omega | (simp only [maxLen]; omega) | (simp [maxLen]; done) | (simp [maxLen]; omega) | (simp [maxLen, *]; omega)) (by first | omega | (simp only [maxLen]; omega) | (simp [maxLen]; done) | (simp [maxLen]; omega) | (simp [maxLen, *]; omega)) rfl ?_)
  refine at_op rfl (n_bs1 15 rfl Tryd.underlying29 ti3 rfl rfl rfl rfl rfl ?_)
  refine at_op rfl (n_app 16 rfl Tryd.underlying29 ti3 rfl (.sl rfl (by first | rfl | omega | (simp; done) | (simp [*]; done) | (simp; omega) | (simp [*]; omega) | (simp [D32.len, -List.length_flatten, *]; done) | (simp [D32.len, -List.length_flatten, *]; omega))) rfl rfl (by first | rfl | omega | (simp; done) | (simp [*]; done) | (simp; omega) | (simp [*]; omega) | (simp [D32.len, -List.length_flatten, *]; done) | (simp [D32.len, -List.length_flatten, *]; omega)) (by first | omega | (simp only [maxLen]; omega) | (simp [maxLen]; done) | (simp [maxLen]; omega) | (simp [maxLen, *]; omega)) (by first | omega | (simp only [maxLen]; omega) | (simp [maxLen]; done) | (simp [maxLen]; omega) | (simp [maxLen, *]; omega)) rfl (show _ = wantL.map nI from rfl) rfl ?_)
  refine s1 (y_p rfl) rfl <| ?_
  refine at_nil ?_
  refine x_tn ?_
  refine at_seq ?_
  refine at_region ?_
  refine at_op rfl (n_bs1 17 rfl Tryd.underlying29 ti3 rfl rfl rfl rfl rfl ?_)
  refine s1 (y_p rfl) rfl <| ?_
  refine at_nil ?_
  refine x_tn ?_
  refine at_seq ?_
  refine at_fs ⟨_, [], []⟩ 3 4 hmix (le_refl rfl) ?_
  refine fs_q 0 [] [(2, none)] ((y_loadA0 ti23 rfl rfl (by first | rfl | omega | (simp; done) | (simp [*]; done) | (simp; omega) | (simp [*]; omega) | (simp [D32.len, -List.length_flatten, *]; done) | (simp [D32.len, -List.length_flatten, *]; omega))).v (v' := .ag (seedD.map u8)) (by kernel_rfl)) rfl rfl ?_
  refine fs_call false 1 [] [] gy0 rfl (.nil) (full_ok) pu (.inl rfl) rfl rfl ?_
  refine fs_call false 2 [0, 1] [] gy0 rfl (.cons (.pure pu) (.cons (.pure pu) (.nil))) (sign_ok seedD fullD (by decide) (by decide)) pu (.inl rfl) rfl rfl ?_
  refine fs_end (by kernel_rfl) ?_
  refine s1 (y_p rfl) rfl <| ?_
  refine at_nil ?_
  refine x_tn ?_
  refine at_seq ?_
  refine at_region ?_
  refine s1 (y_loadA0 ti23 rfl rfl (by first | rfl | omega | (simp; done) | (simp [*]; done) | (simp; omega) | (simp [*]; omega) | (simp [D32.len, -List.length_flatten, *]; done) | (simp [D32.len, -List.length_flatten, *]; omega))) rfl <| ?_
  refine at_op rfl (n_call false rfl (.cons (.pure pu) (.cons .nl (.nil))) (recover_ok zeroD [] (by decide) (fun x h => by cases h)) pu (.inl rfl) rfl ?_)
  refine s1 (y_p rfl) rfl <| s1 (y_p rfl) rfl <| s1 (y_p rfl) rfl <| ?_
  refine at_op rfl (n_alloc 6 rfl ti23 rfl rfl ?_)
  refine at_op rfl (n_storeA ti23 rfl rfl rfl (by first | rfl | omega | (simp; done) | (simp [*]; done) | (simp; omega) | (simp [*]; omega) | (simp [D32.len, -List.length_flatten, *]; done) | (simp [D32.len, -List.length_flatten, *]; omega)) (by first | rfl | omega | (simp; done) | (simp [*]; done) | (simp; omega) | (simp [*]; omega) | (simp [D32.len, -List.length_flatten, *]; done) | (simp [D32.len, -List.length_flatten, *]; omega)) ?_)
  refine s1 (y_p rfl) rfl <| ?_
  refine at_nil ?_
  refine x_tn ?_
  refine at_seq ?_
  refine at_fs ⟨_, [], []⟩ 8 4 hmix (le_refl rfl) ?_
  refine fs_call false 0 [] [] gy0 rfl (.nil) (full_ok) pu (.inl rfl) rfl rfl ?_
  refine fs_q 1 [] [] (y_p rfl) rfl rfl ?_
  refine fs_q 2 [] [(1, none)] (y_loadA0 ti23 rfl rfl (by first | rfl | omega | (simp; done) | (simp [*]; done) | (simp; omega) | (simp [*]; omega) | (simp [D32.len, -List.length_flatten, *]; done) | (simp [D32.len, -List.length_flatten, *]; omega))) rfl rfl ?_
  refine fs_call false 3 [0, 1, 2] [] gy0 rfl (.cons (.pure pu) (.cons (.pure pu) (.cons (.pure pu) (.nil)))) (Con.cast (earlier_ok fullD zeroD (signD seedD fullD) (by decide) (by decide)) (by rw [earA_full])) pu (.inl rfl) rfl rfl ?_
  refine fs_q 4 [3] [] (y_p rfl) rfl rfl ?_
  refine fs_q 5 [4] [] (y_p rfl) rfl rfl ?_
  refine fs_q 6 [4] [] (y_p rfl) rfl rfl ?_
  refine fs_q 7 [5] [] (y_p rfl) rfl rfl ?_
  refine fs_end (by kernel_rfl) ?_
  refine s1 (y_p rfl) rfl <| ?_
  refine at_nil ?_
  refine x_tn ?_
  refine at_seq ?_
  refine at_region ?_
  refine at_op rfl (n_call false rfl (.nil) (full_ok) pu (.inl rfl) rfl ?_)
  refine s1 (y_p rfl) rfl <| ?_
  refine at_op rfl (n_call false rfl (.nil) (full_ok) pu (.inl rfl) rfl ?_)
  refine at_op rfl (n_call false rfl (.cons (.pure pu) (.cons (.pure pu) (.cons (.pure pu) (.nil)))) (Con.cast (earlier_ok fullD fullD (signD seedD fullD) (by decide) (by decide)) (by rw [earA_same])) pu (.inl rfl) rfl ?_)
  refine s1 (y_p rfl) rfl <| s1 (y_p rfl) rfl <| s1 (y_p rfl) rfl <| s1 (y_p rfl) rfl <| s1 (y_p rfl) rfl <| ?_
  refine at_nil ?_
  refine x_tn ?_
  refine at_seq ?_
  refine at_region ?_
  refine s1 (y_loadA0 ti23 rfl rfl (by first | rfl | omega | (simp; done) | (simp [*]; done) | (simp; omega) | (simp [*]; omega) | (simp [D32.len, -List.length_flatten, *]; done) | (simp [D32.len, -List.length_flatten, *]; omega))) rfl <| ?_
  refine at_op rfl (n_call false rfl (.cons (.pure pu) (.nil)) (Con.cast (digits_ok zeroD (by decide)) (by rw [dig_zero])) pu (.inl rfl) rfl ?_)
  refine s1 (y_p rfl) rfl <| ?_
  refine at_op rfl (n_call true rfl (.cons (.pure pu) (.cons (.sl rfl rfl (by first | rfl | omega | (simp; done) | (simp [*]; done) | (simp; omega) | (simp [*]; omega) | (simp [D32.len, -List.length_flatten, *]; done) | (simp [D32.len, -List.length_flatten, *]; omega)) (view_eq (by first | rfl | omega | (simp; done) | (simp [*]; done) | (simp; omega) | (simp [*]; omega) | (simp [D32.len, -List.length_flatten, *]; done) | (simp [D32.len, -List.length_flatten, *]; omega)) (by first | rfl | (simp; done) | (simp [*]; done))) (VwL.pure pul) pul) (.nil))) (sameI_19 wantL rfl) pu (.inr fu) rfl ?_)
  refine s1 ((y_p rfl).v (v' := .b true) (rfl)) rfl <| ?_
  refine at_opg rfl rfl rfl (n_call false rfl (.nil) (full_ok) pu (.inl rfl) rfl ?_)
  refine at_opg rfl rfl rfl (n_call false rfl (.cons (.pure pu) (.nil)) (Con.cast (digits_ok fullD (by decide)) (by rw [dig_full])) pu (.inl rfl) rfl ?_)
  refine g1 rfl rfl (y_p rfl) rfl <| ?_
  refine at_opg rfl rfl rfl (n_call true rfl (.cons (.pure pu) (.cons (.sl rfl rfl (by first | rfl | omega | (simp; done) | (simp [*]; done) | (simp; omega) | (simp [*]; omega) | (simp [D32.len, -List.length_flatten, *]; done) | (simp [D32.len, -List.length_flatten, *]; omega)) (view_eq (by first | rfl | omega | (simp; done) | (simp [*]; done) | (simp; omega) | (simp [*]; omega) | (simp [D32.len, -List.length_flatten, *]; done) | (simp [D32.len, -List.length_flatten, *]; omega)) (by first | rfl | (simp; done) | (simp [*]; done))) (VwL.pure pul) pul) (.nil))) (sameI_19 threesL rfl) pu (.inr fu) rfl ?_)
  refine s1 ((y_p rfl).v (v' := .b true) (rfl)) rfl <| s1 ((y_p rfl).v (v' := .b true) (rfl)) rfl <| g1 rfl rfl (y_p rfl) rfl <| g1 rfl rfl (y_len Tryd.underlying24 rfl rfl rfl) rfl <| g1 rfl rfl ((y_p rfl).v (v' := .b true) (congrArg A.b (by simp))) rfl <| s1 ((y_p rfl).v (v' := .b true) (rfl)) rfl <| s1 ((y_p rfl).v (v' := .b true) (rfl)) rfl <| g1 rfl rfl (y_loadA0 ti23 rfl rfl (by first | rfl | omega | (simp; done) | (simp [*]; done) | (simp; omega) | (simp [*]; omega) | (simp [D32.len, -List.length_flatten, *]; done) | (simp [D32.len, -List.length_flatten, *]; omega))) rfl <| ?_
  refine at_opg rfl rfl rfl (n_call false rfl (.cons (.pure pu) (.nil)) (public_ok seedD (by decide)) pu (.inl rfl) rfl ?_)
  refine at_opg rfl rfl rfl (n_call false rfl (.nil) (full_ok) pu (.inl rfl) rfl ?_)
  refine g1 rfl rfl (y_p rfl) rfl <| ?_
  refine at_opg rfl rfl rfl (n_call false rfl (.cons (.pure pu) (.cons (.pure pu) (.cons (.pure pu) (.nil)))) (Con.cast (verify_ok (pubD seedD) fullD (signD seedD fullD) (by simp) (by decide) (D32_signL seedD fullD 19)) (by rw [ver_sign, beq_self_eq_true])) pu (.inl rfl) rfl ?_)
  refine s1 ((y_p rfl).v (v' := .b true) (rfl)) rfl <| s1 ((y_p rfl).v (v' := .b true) (rfl)) rfl <| g1 rfl rfl (y_loadA0 ti23 rfl rfl (by first | rfl | omega | (simp; done) | (simp [*]; done) | (simp; omega) | (simp [*]; omega) | (simp [D32.len, -List.length_flatten, *]; done) | (simp [D32.len, -List.length_flatten, *]; omega))) rfl <| ?_
  refine at_opg rfl rfl rfl (n_call false rfl (.cons (.pure pu) (.nil)) (public_ok seedD (by decide)) pu (.inl rfl) rfl ?_)
  refine at_opg rfl rfl rfl (n_call false rfl (.nil) (full_ok) pu (.inl rfl) rfl ?_)
  refine at_opg rfl rfl rfl (n_call false rfl (.cons (.pure pu) (.cons (.pure pu) (.cons .nl (.nil)))) (Con.cast (verify_ok (pubD seedD) fullD [] (by simp) (by decide) (fun x h => by cases h)) (by rw [ver_nil])) pu (.inl rfl) rfl ?_)
  refine g1 rfl rfl ((y_p rfl).v (v' := .b true) (rfl)) rfl <| s1 ((y_p rfl).v (v' := .b true) (rfl)) rfl <| s1 ((y_p rfl).v (v' := .b true) (rfl)) rfl <| g1 rfl rfl (y_p rfl) rfl <| g1 rfl rfl ((y_p rfl).v (v' := .b true) (congrArg A.b (by decide))) rfl <| s1 ((y_p rfl).v (v' := .b true) (rfl)) rfl <| s1 ((y_p rfl).v (v' := .b true) (rfl)) rfl <| g1 rfl rfl (y_p rfl) rfl <| g1 rfl rfl ((y_p rfl).v (v' := .b true) (congrArg A.b (by decide))) rfl <| s1 ((y_p rfl).v (v' := .b true) (rfl)) rfl <| ?_
  refine s1 ((y_p rfl).v (v' := .b true) (rfl)) rfl <| g1 rfl rfl (y_p rfl) rfl <| s1 ((y_p rfl).v (v' := .b true) (rfl)) rfl <| s1 ((y_p rfl).v (v' := .b true) (rfl)) rfl <| g1 rfl rfl (y_p rfl) rfl <| g1 rfl rfl ((y_p rfl).v (v' := .b true) (rfl)) rfl <| s1 ((y_p rfl).v (v' := .b true) (rfl)) rfl <| s1 (y_p rfl) rfl <| ?_
  refine at_nil ?_
  refine x_tn ?_
  refine at_ret ?_
  refine at_result (rs := [.tmp 0]) rfl (r_tmp rfl r_nil) rfl

end Go.Abs.D2
