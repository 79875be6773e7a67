/-
  Layer 2: walks of the digest functions. Conditions: each theorem says its own.
-/
import Derived.Test.YtapmhjkfnedbmaaDoorC5F
import Derived.Test.YtapmhjkfnedbmaaDoorAbsK
import Derived.Test.YtapmhjkfnedbmaaDoorC5R
namespace Go.Abs.D2
open Go Go.Eng Go.Abs Go.Proofs 

set_option linter.unusedSimpArgs false in
set_option linter.unusedVariables false in
set_option maxHeartbeats 1000000 in
theorem ends_ok (m : List UInt8) (S : List (List UInt8)) (hm : m.length = 32) (hS : D32 S) (hl : S.length = 19) : Con Tryd.prog 26 [.ag (m.map u8), dgs S] (Ret (dgs (recL m S 19))) := by
  refine enter Tryd.func26 rfl Tryd.ntmps26 (by kernel_rfl) (Nat.le_of_ble_eq_true rfl) fun w0 X0 hI => ?_
  refine at_seq ?_
  refine at_region ?_
  refine at_op rfl (n_boxA 2 rfl rfl rfl ?_)
  refine s1 (y_p rfl) rfl <| ?_
  refine at_nil ?_
  refine x_tn ?_
  refine at_seq ?_
  refine at_region ?_
  refine s1 (y_loadA0 ti23 rfl rfl (by first | rfl | omega | (simp; done) | (simp [*]; done) | (simp; omega) | (simp [*]; omega) | (simp [D32.len, -List.length_flatten, *]; done) | (simp [D32.len, -List.length_flatten, *]; omega))) rfl <| ?_
  refine at_op rfl (n_call false rfl (.cons (.pure pu) (.nil)) (digits_ok m hm) pu (.inl rfl) rfl ?_)
  refine s1 (y_p rfl) rfl <| ?_
  refine at_nil ?_
  refine x_tn ?_
  refine at_seq ?_
  refine at_seq ?_
  refine at_region ?_
  refine s1 (y_p rfl) rfl <| s1 (y_len Tryd.underlying24 rfl rfl rfl) rfl <| s1 ((y_p rfl).v (v' := .i .i64 0) rfl) rfl <| ?_
  refine at_nil ?_
  refine x_tn ?_
  refine at_block ?_
  refine at_loop (ι := Nat) (fun i => [(4, .sl 4 32 0 i), (5, .fz 19 ((digits m).map nI)), (11, dgs S), (12, nI S.length), (13, nI i)]) (fun i => ⟨[(4, some ((recL m S i).flatten.map u8))]⟩) (fun i => i ≤ 19) (fun i => 19 - i) ?_ ?_
  · exact at_ex (0) (Nat.zero_le _) [(4, none)] hI rfl rfl ⟨⟨_, rfl, .nl rfl⟩, ⟨_, rfl, .pure pu⟩, ⟨_, rfl, .pure pu⟩, ⟨_, rfl, .pure pu⟩, ⟨_, rfl, .pure pu⟩, trivial⟩ ⟨.inl ⟨rfl, rfl⟩, trivial⟩
  rintro i hi
  have hdi := dg_lt m i
  have hDi := D32_recL (m := m) hS i (by omega)
  refine at_seq ?_
  refine at_region ?_
  refine s1 (y_p rfl) rfl <| ?_
  refine at_nil ?_
  refine x_tn ?_
  refine at_seq ?_
  refine at_cond rfl (fun hc14 => ?_) (fun hc14 => ?_)
  · have h14 : i < 19 := by have := of_decide_eq_true hc14; omega
    obtain ⟨q, hq⟩ : ∃ q, S[i]? = some q := ⟨_, List.getElem?_eq_getElem (by omega)⟩
    have hq32 := hS q (List.mem_of_getElem? hq)
    have hq2 : S.getD i [] = q := by simp [hq]
    refine at_skip ?_
    refine x_tn ?_
    refine at_seq ?_
    refine at_block ?_
    refine at_seq ?_
    refine at_region ?_
    refine s1 (y_p rfl) rfl <| s1 (y_ixf i Tryd.underlying24 ti23 rfl rfl rfl (by omega) rfl) rfl <| s1 (y_loadA ti23 rfl rfl (get_d5 hS hq) (by rw [List.length_map]; exact hq32)) rfl <| ?_
    refine at_op rfl (n_alloc 7 rfl ti23 rfl rfl ?_)
    refine s1 (y_p rfl) rfl <| ?_
    refine at_op rfl (n_storeA ti23 rfl rfl rfl (by first | (simp; done) | (rw [List.length_map]; first | assumption | exact len_iterD (by first | assumption | simp) _)) (by first | (simp; done) | (rw [List.length_map]; first | assumption | exact len_iterD (by first | assumption | simp) _)) ?_)
    refine at_nil ?_
    refine x_tn ?_
    refine at_seq ?_
    refine at_seq ?_
    refine at_region ?_
    refine s1 (y_p rfl) rfl <| s1 (y_p rfl) rfl <| s1 (y_ixf i Tryd.underlying29 ti3 rfl rfl rfl (by omega) rfl) rfl <| s1 (y_load ti3 rfl rfl (get_dig3 m i h14)) rfl <| s1 (y_p rfl) rfl <| ?_
    refine at_nil ?_
    refine x_tn ?_
    refine at_block ?_
    refine at_loop (ι := Nat) (fun k => [(4, .sl 4 32 0 i), (5, .fz 19 ((digits m).map nI)), (6, nI i), (7, .p 7 0), (8, nI (dg m i + k)), (11, dgs S), (12, nI S.length), (13, nI i)]) (fun k => ⟨[(4, some ((recL m S i).flatten.map u8)), (7, some ((iterD k q).map u8))]⟩) (fun k => dg m i + k ≤ 3) (fun k => 3 - k) ?_ ?_
    · exact at_ex (0) (by omega) [(4, some 4), (7, some 7)] hI rfl rfl ⟨⟨_, rfl, .sl rfl (by first | rfl | omega | (simp; done) | (simp [*]; done) | (simp; omega) | (simp [*]; omega) | (simp [D32.len, -List.length_flatten, *]; done) | (simp [D32.len, -List.length_flatten, *]; omega))⟩, ⟨_, rfl, .pure pu⟩, ⟨_, rfl, .pure pu⟩, ⟨_, rfl, .p rfl⟩, ⟨_, rfl, .pure pu⟩, ⟨_, rfl, .pure pu⟩, ⟨_, rfl, .pure pu⟩, ⟨_, rfl, .pure pu⟩, trivial⟩ ⟨.inr ⟨_, _, rfl, rfl, .pure pul⟩, .inr ⟨_, _, rfl, rfl, .pure pul⟩, trivial⟩
    rintro k hk
    have hxk := len_iterD hq32 k
    refine at_seq ?_
    refine at_seq ?_
    refine at_region ?_
    refine s1 (y_p rfl) rfl <| s1 (y_p rfl) rfl <| ?_
    refine at_nil ?_
    refine x_tn ?_
    refine at_cond rfl (fun hc23 => ?_) (fun hc23 => ?_)
    · have h23 : dg m i + k < 3 := by have := of_decide_eq_true hc23; omega
      refine at_skip ?_
      refine x_tn ?_
      refine at_seq ?_
      refine at_block ?_
      refine at_region ?_
      refine s1 (y_loadA0 ti23 rfl rfl (by rw [List.length_map]; exact hxk)) rfl <| ?_
      refine at_op rfl (n_call false rfl (.cons (.pure pu) (.nil)) (lstep_ok (iterD k q) hxk) pu (.inl rfl) rfl ?_)
      refine at_op rfl (n_storeA ti23 rfl rfl rfl (by first | (simp; done) | (rw [List.length_map]; first | assumption | exact len_iterD (by first | assumption | simp) _)) (by first | (simp; done) | (rw [List.length_map]; first | assumption | exact len_iterD (by first | assumption | simp) _)) ?_)
      refine at_nil ?_
      refine x_bn ?_
      refine x_tn ?_
      refine at_region ?_
      refine s1 (y_p rfl) rfl <| s1 (addN (dg m i + k) 1 rfl rfl rfl rfl (by omega)) rfl <| s1 (y_p rfl) rfl <| ?_
      refine at_nil ?_
      exact at_end (k + 1) (by omega) (by omega) [(4, some 4), (7, some 7)] hI rfl rfl ⟨⟨_, rfl, .sl rfl (by first | rfl | omega | (simp; done) | (simp [*]; done) | (simp; omega) | (simp [*]; omega) | (simp [D32.len, -List.length_flatten, *]; done) | (simp [D32.len, -List.length_flatten, *]; omega))⟩, ⟨_, rfl, .pure pu⟩, ⟨_, rfl, .pure pu⟩, ⟨_, rfl, .p rfl⟩, ⟨_, rfl, .pure pu⟩, ⟨_, rfl, .pure pu⟩, ⟨_, rfl, .pure pu⟩, ⟨_, rfl, .pure pu⟩, trivial⟩ ⟨.inr ⟨_, _, rfl, rfl, .pure pul⟩, .inr ⟨_, _, rfl, rfl, .of (by rfl) (.pure pul)⟩, trivial⟩
    · obtain rfl : k = 3 - dg m i := by have := of_decide_eq_false hc23; omega
      refine at_exit ?_
      refine x_te ?_
      refine x_te ?_
      refine x_be ?_
      refine x_tn ?_
      refine at_region ?_
      refine s1 (y_p rfl) rfl <| s1 (y_loadA0 ti23 rfl rfl (by rw [List.length_map]; exact hxk)) rfl <| ?_
      refine at_op rfl (n_bs 30 rfl Tryd.underlying24 ti23 rfl rfl rfl (by intro v hv; rw [List.mem_singleton] at hv; subst hv; show (List.map u8 _).length = 32; rw [List.length_map]; exact hxk) (List.append_nil ((iterD (3 - dg m i) q).map u8)) rfl rfl rfl ?_)
      refine at_op rfl (n_app 31 rfl Tryd.underlying24 ti23 rfl (.sl rfl (by rw [List.length_map, hDi.len, len_recL])) rfl (SM_full rfl (by rw [List.length_map]; exact hxk)) (by rw [List.length_map]; exact hxk) (by simp only [maxLen]; omega) (by omega) rfl rfl rfl ?_)
      refine s1 (y_p rfl) rfl <| ?_
      refine at_nil ?_
      refine x_bn ?_
      refine x_tn ?_
      refine at_region ?_
      refine s1 (addN _ 1 rfl rfl rfl rfl (by omega)) rfl <| s1 (y_p rfl) rfl <| ?_
      refine at_nil ?_
      exact at_end (i + 1) (by omega) (by omega) [(4, some 31)] hI rfl rfl ⟨⟨_, rfl, .sl rfl (by first | rfl | omega | (simp; done) | (simp [*]; done) | (simp; omega) | (simp [*]; omega) | (simp [D32.len, -List.length_flatten, *]; done) | (simp [D32.len, -List.length_flatten, *]; omega))⟩, ⟨_, rfl, .pure pu⟩, ⟨_, rfl, .pure pu⟩, ⟨_, rfl, .pure pu⟩, ⟨_, rfl, .pure pu⟩, trivial⟩ ⟨.inr ⟨_, _, rfl, rfl, .of (rec_flat hq2) (.pure pul)⟩, trivial⟩
  · have h14 : i = 19 := by have := of_decide_eq_false hc14; omega
    subst h14
    refine at_exit ?_
    refine x_te ?_
    refine x_te ?_
    refine x_be ?_
    refine x_tn ?_
    refine at_seq ?_
    refine at_region ?_
    refine s1 (y_p rfl) rfl <| s1 (y_p rfl) rfl <| ?_
    refine at_nil ?_
    refine x_tn ?_
    refine at_ret ?_
    refine at_frz 4 rfl rfl pul (view_eq (by rw [List.length_map, hDi.len, len_recL]) rfl) ?_
    refine at_result (rs := [.tmp 4]) rfl (r_tmp rfl r_nil) ?_
    show A.fz _ _ = dgs (recL m S 19)
    rw [dgs, len_recL]

theorem tag_key19 (L : List (List UInt8)) (hD : D32 L) (hl : L.length = 19) : Con Tryd.prog 27 [.s [112, 117, 98, 108, 105, 99], .fz (19 * 32) (L.flatten.map u8)] (Ret (.ag ((keyD L).map u8))) := by
  have := tag_key L hD hl
  rwa [hD.len, hl] at this

set_option linter.unusedSimpArgs false in
set_option linter.unusedVariables false in
set_option maxHeartbeats 1000000 in
theorem law_only (p m : List UInt8) (S T : List (List UInt8)) (hp : p.length = 32) (hm : m.length = 32) (hS : D32 S) (hT : D32 T) : Con Tryd.prog 8 [.ag (p.map u8), .ag (m.map u8), dgs S, dgs T] (Ret (.b true)) := by
  refine enter Tryd.func8 rfl Tryd.ntmps8 (by kernel_rfl) (Nat.le_of_ble_eq_true rfl) fun w0 X0 hI => ?_
  refine at_seq ?_
  refine at_region ?_
  refine at_op rfl (n_boxA 4 rfl rfl rfl ?_)
  refine at_op rfl (n_boxA 5 rfl rfl rfl ?_)
  refine s1 (y_p rfl) rfl <| ?_
  refine at_nil ?_
  refine x_tn ?_
  refine at_seq ?_
  refine at_seq ?_
  refine at_region ?_
  refine at_op rfl (n_call false rfl (.nil) (sane_ok) pu (.inl rfl) rfl ?_)
  refine s1 (y_p rfl) rfl <| ?_
  refine at_nil ?_
  refine x_tn ?_
  refine at_else rfl ?_
  refine at_skip ?_
  refine x_tn ?_
  refine at_seq ?_
  refine at_seq ?_
  refine at_region ?_
  refine s1 (y_p rfl) rfl <| s1 (y_len Tryd.underlying24 rfl rfl rfl) rfl <| s1 (y_p rfl) rfl <| s1 (y_p rfl) rfl <| ?_
  refine at_bc 24 rfl (fun hc24 => ?_) (fun hc24 => ?_)
  · skip
    refine g0 rfl rfl rfl rfl <| g0 rfl rfl rfl rfl <| g0 rfl rfl rfl rfl <| s1 ((y_p rfl).v (v' := .b true) (rfl)) rfl <| s1 ((y_p rfl).v (v' := .b true) (rfl)) rfl <| g0 rfl rfl rfl rfl <| g0 rfl rfl rfl rfl <| g0 rfl rfl rfl rfl <| g0 rfl rfl rfl rfl <| g0 rfl rfl rfl rfl <| ?_
    refine s1 ((y_p rfl).v (v' := .b true) (rfl)) rfl <| s1 ((y_p rfl).v (v' := .b true) (rfl)) rfl <| g0 rfl rfl rfl rfl <| g0 rfl rfl rfl rfl <| g0 rfl rfl rfl rfl <| g0 rfl rfl rfl rfl <| g0 rfl rfl rfl rfl <| s1 ((y_p rfl).v (v' := .b true) (rfl)) rfl <| ?_
    refine at_nil ?_
    refine x_tn ?_
    refine at_then rfl ?_
    refine at_seq ?_
    refine at_region ?_
    refine s1 (y_p rfl) rfl <| ?_
    refine at_nil ?_
    refine x_tn ?_
    refine at_ret ?_
    refine x_tr ?_
    refine at_result (rs := [.tmp 8]) rfl (r_tmp rfl r_nil) rfl
  · skip
    refine g1 rfl rfl (y_p rfl) rfl <| g1 rfl rfl (y_len Tryd.underlying24 rfl rfl rfl) rfl <| g1 rfl rfl (y_p rfl) rfl <| ?_
    refine at_bc 27 rfl (fun hc27 => ?_) (fun hc27 => ?_)
    · skip
      refine s1 ((y_p rfl).v (v' := .b true) (rfl)) rfl <| s1 ((y_p rfl).v (v' := .b true) (rfl)) rfl <| g0 rfl rfl rfl rfl <| g0 rfl rfl rfl rfl <| g0 rfl rfl rfl rfl <| g0 rfl rfl rfl rfl <| g0 rfl rfl rfl rfl <| s1 ((y_p rfl).v (v' := .b true) (rfl)) rfl <| s1 ((y_p rfl).v (v' := .b true) (rfl)) rfl <| g0 rfl rfl rfl rfl <| ?_
      refine g0 rfl rfl rfl rfl <| g0 rfl rfl rfl rfl <| g0 rfl rfl rfl rfl <| g0 rfl rfl rfl rfl <| s1 ((y_p rfl).v (v' := .b true) (rfl)) rfl <| ?_
      refine at_nil ?_
      refine x_tn ?_
      refine at_then rfl ?_
      refine at_seq ?_
      refine at_region ?_
      refine s1 (y_p rfl) rfl <| ?_
      refine at_nil ?_
      refine x_tn ?_
      refine at_ret ?_
      refine x_tr ?_
      refine at_result (rs := [.tmp 8]) rfl (r_tmp rfl r_nil) rfl
    · skip
      refine s1 ((y_p rfl).v (v' := .b false) (rfl)) rfl <| s1 ((y_p rfl).v (v' := .b false) (rfl)) rfl <| g1 rfl rfl (y_loadA0 ti23 rfl rfl (by first | rfl | omega | (simp; done) | (simp [*]; done) | (simp; omega) | (simp [*]; omega) | (simp [D32.len, -List.length_flatten, *]; done) | (simp [D32.len, -List.length_flatten, *]; omega))) rfl <| g1 rfl rfl (y_loadA0 ti23 rfl rfl (by first | rfl | omega | (simp; done) | (simp [*]; done) | (simp; omega) | (simp [*]; omega) | (simp [D32.len, -List.length_flatten, *]; done) | (simp [D32.len, -List.length_flatten, *]; omega))) rfl <| g1 rfl rfl (y_p rfl) rfl <| ?_
      refine at_opg rfl rfl rfl (n_call false rfl (.cons (.pure pu) (.cons (.pure pu) (.cons (.pure pu) (.nil)))) (verify_ok p m S hp hm hS) pu (.inl rfl) rfl ?_)
      refine g1 rfl rfl (y_p rfl) rfl <| ?_
      refine at_bc 34 rfl (fun hc34 => ?_) (fun hc34 => ?_)
      · skip
        refine s1 ((y_p rfl).v (v' := .b true) (rfl)) rfl <| s1 ((y_p rfl).v (v' := .b true) (rfl)) rfl <| g0 rfl rfl rfl rfl <| g0 rfl rfl rfl rfl <| g0 rfl rfl rfl rfl <| g0 rfl rfl rfl rfl <| g0 rfl rfl rfl rfl <| s1 ((y_p rfl).v (v' := .b true) (rfl)) rfl <| ?_
        refine at_nil ?_
        refine x_tn ?_
        refine at_then rfl ?_
        refine at_seq ?_
        refine at_region ?_
        refine s1 (y_p rfl) rfl <| ?_
        refine at_nil ?_
        refine x_tn ?_
        refine at_ret ?_
        refine x_tr ?_
        refine at_result (rs := [.tmp 8]) rfl (r_tmp rfl r_nil) rfl
      · obtain ⟨hl1, hk1⟩ := ver_true (p := p) (m := m) (S := S) (by simpa using hc34)
        refine s1 ((y_p rfl).v (v' := .b false) (rfl)) rfl <| s1 ((y_p rfl).v (v' := .b false) (rfl)) rfl <| g1 rfl rfl (y_loadA0 ti23 rfl rfl (by first | rfl | omega | (simp; done) | (simp [*]; done) | (simp; omega) | (simp [*]; omega) | (simp [D32.len, -List.length_flatten, *]; done) | (simp [D32.len, -List.length_flatten, *]; omega))) rfl <| g1 rfl rfl (y_loadA0 ti23 rfl rfl (by first | rfl | omega | (simp; done) | (simp [*]; done) | (simp; omega) | (simp [*]; omega) | (simp [D32.len, -List.length_flatten, *]; done) | (simp [D32.len, -List.length_flatten, *]; omega))) rfl <| g1 rfl rfl (y_p rfl) rfl <| ?_
        refine at_opg rfl rfl rfl (n_call false rfl (.cons (.pure pu) (.cons (.pure pu) (.cons (.pure pu) (.nil)))) (verify_ok p m T hp hm hT) pu (.inl rfl) rfl ?_)
        refine g1 rfl rfl (y_p rfl) rfl <| ?_
        refine at_bc 41 rfl (fun hc41 => ?_) (fun hc41 => ?_)
        · skip
          refine s1 ((y_p rfl).v (v' := .b true) (rfl)) rfl <| ?_
          refine at_nil ?_
          refine x_tn ?_
          refine at_then rfl ?_
          refine at_seq ?_
          refine at_region ?_
          refine s1 (y_p rfl) rfl <| ?_
          refine at_nil ?_
          refine x_tn ?_
          refine at_ret ?_
          refine x_tr ?_
          refine at_result (rs := [.tmp 8]) rfl (r_tmp rfl r_nil) rfl
        · obtain ⟨hl2, hk2⟩ := ver_true (p := p) (m := m) (S := T) (by simpa using hc41)
          refine s1 ((y_p rfl).v (v' := .b false) (rfl)) rfl <| ?_
          refine at_nil ?_
          refine x_tn ?_
          refine at_else rfl ?_
          refine at_skip ?_
          refine x_tn ?_
          refine at_seq ?_
          refine at_seq ?_
          refine at_region ?_
          refine s1 (y_p rfl) rfl <| s1 (y_len Tryd.underlying24 rfl rfl rfl) rfl <| s1 ((y_p rfl).v (v' := .b false) (congrArg A.b (by simp [hl1]))) rfl <| s1 ((y_p rfl).v (v' := .b false) (rfl)) rfl <| g1 rfl rfl (y_p rfl) rfl <| g1 rfl rfl (y_len Tryd.underlying24 rfl rfl rfl) rfl <| g1 rfl rfl ((y_p rfl).v (v' := .b false) (congrArg A.b (by simp [hl2]))) rfl <| s1 ((y_p rfl).v (v' := .b false) (rfl)) rfl <| ?_
          refine at_nil ?_
          refine x_tn ?_
          refine at_else rfl ?_
          refine at_skip ?_
          refine x_tn ?_
          refine at_seq ?_
          refine at_region ?_
          refine s1 (y_loadA0 ti23 rfl rfl (by first | rfl | omega | (simp; done) | (simp [*]; done) | (simp; omega) | (simp [*]; omega) | (simp [D32.len, -List.length_flatten, *]; done) | (simp [D32.len, -List.length_flatten, *]; omega))) rfl <| ?_
          refine at_op rfl (n_call false rfl (.cons (.pure pu) (.nil)) (digits_ok m hm) pu (.inl rfl) rfl ?_)
          refine s1 (y_p rfl) rfl <| ?_
          refine at_nil ?_
          refine x_tn ?_
          refine at_seq ?_
          refine at_seq ?_
          refine at_region ?_
          refine s1 (y_p rfl) rfl <| s1 (y_p rfl) rfl <| ?_
          refine at_op rfl (n_call false rfl (.cons (.pure pu) (.cons (.pure pu) (.nil))) (same_ok S T hS hT) pu (.inl rfl) rfl ?_)
          refine s1 (y_p rfl) rfl <| ?_
          refine at_bc 56 rfl (fun hc56 => ?_) (fun hc56 => ?_)
          · skip
            refine g0 rfl rfl rfl rfl <| g0 rfl rfl rfl rfl <| g0 rfl rfl rfl rfl <| s1 ((y_p rfl).v (v' := .b true) (rfl)) rfl <| ?_
            refine at_nil ?_
            refine x_tn ?_
            refine at_then rfl ?_
            refine at_seq ?_
            refine at_region ?_
            refine s1 (y_p rfl) rfl <| s1 (y_len Tryd.underlying29 rfl rfl rfl) rfl <| s1 ((y_p rfl).v (v' := .b true) (congrArg A.b (by decide))) rfl <| s1 (y_p rfl) rfl <| ?_
            refine at_nil ?_
            refine x_tn ?_
            refine at_ret ?_
            refine x_tr ?_
            refine at_result (rs := [.tmp 8]) rfl (r_tmp rfl r_nil) rfl
          · have hne : S ≠ T := by simpa using hc56
            refine g1 rfl rfl (y_p rfl) rfl <| g1 rfl rfl (y_len Tryd.underlying29 rfl rfl rfl) rfl <| g1 rfl rfl ((y_p rfl).v (v' := .b false) (congrArg A.b (by decide))) rfl <| s1 ((y_p rfl).v (v' := .b false) (rfl)) rfl <| ?_
            refine at_nil ?_
            refine x_tn ?_
            refine at_else rfl ?_
            refine at_skip ?_
            refine x_tn ?_
            refine at_seq ?_
            refine at_fs ⟨_, [], []⟩ 7 4 hmix (le_refl rfl) ?_
            refine fs_q 0 [] [(5, none)] (y_loadA0 ti23 rfl rfl (by first | rfl | omega | (simp; done) | (simp [*]; done) | (simp; omega) | (simp [*]; omega) | (simp [D32.len, -List.length_flatten, *]; done) | (simp [D32.len, -List.length_flatten, *]; omega))) rfl rfl ?_
            refine fs_q 1 [] [] (y_p rfl) rfl rfl ?_
            refine fs_call false 2 [0, 1] [] gy0 rfl (.cons (.pure pu) (.cons (.pure pu) (.nil))) (ends_ok m S hm hS hl1) pu (.inl rfl) rfl rfl ?_
            refine fs_q 3 [] [(5, none)] (y_loadA0 ti23 rfl rfl (by first | rfl | omega | (simp; done) | (simp [*]; done) | (simp; omega) | (simp [*]; omega) | (simp [D32.len, -List.length_flatten, *]; done) | (simp [D32.len, -List.length_flatten, *]; omega))) rfl rfl ?_
            refine fs_q 4 [] [] (y_p rfl) rfl rfl ?_
            refine fs_call false 5 [3, 4] [] gy0 rfl (.cons (.pure pu) (.cons (.pure pu) (.nil))) (ends_ok m T hm hT hl2) pu (.inl rfl) rfl rfl ?_
            refine fs_q 6 [2] [] (y_p rfl) rfl rfl ?_
            refine fs_end (by kernel_rfl) ?_
            refine s1 (y_p rfl) rfl <| ?_
            refine at_nil ?_
            refine x_tn ?_
            refine at_seq ?_
            refine at_seq ?_
            have hDA := D32_recL (m := m) hS 19 (by omega)
            have hDB := D32_recL (m := m) hT 19 (by omega)
            refine at_region ?_
            refine s1 (y_p rfl) rfl <| s1 (y_p rfl) rfl <| ?_
            refine at_op rfl (n_call false rfl (.cons (.pure pu) (.cons (.pure pu) (.nil))) (same_ok (recL m S 19) (recL m T 19) hDA hDB) pu (.inl rfl) rfl ?_)
            refine s1 (y_p rfl) rfl <| ?_
            refine at_nil ?_
            refine x_tn ?_
            refine at_cond rfl (fun hc73 => ?_) (fun hc73 => ?_)
            · skip
              refine at_seq ?_
              refine at_region ?_
              refine s1 (y_p rfl) rfl <| s1 (y_p rfl) rfl <| ?_
              refine at_nil ?_
              refine x_tn ?_
              refine at_seq ?_
              refine at_seq ?_
              refine at_region ?_
              refine s1 (y_p rfl) rfl <| s1 (y_len Tryd.underlying24 rfl rfl rfl) rfl <| s1 ((y_p rfl).v (v' := .i .i64 0) rfl) rfl <| ?_
              refine at_nil ?_
              refine x_tn ?_
              refine at_block ?_
              refine at_loop (ι := Nat) (fun i => [(10, dgs (recL m S 19)), (11, dgs (recL m T 19)), (12, .sl 12 1 0 (i * 32)), (13, .sl 13 1 0 (i * 32)), (74, dgs (recL m S 19)), (75, nI (recL m S 19).length), (76, nI i)]) (fun i => ⟨[(12, some (((recL m S 19).take i).flatten.map u8)), (13, some (((recL m T 19).take i).flatten.map u8))]⟩) (fun i => i ≤ 19) (fun i => 19 - i) ?_ ?_
              · exact at_ex (0) (Nat.zero_le _) [(12, none), (13, none)] hI rfl rfl ⟨⟨_, rfl, .pure pu⟩, ⟨_, rfl, .pure pu⟩, ⟨_, rfl, .nl rfl⟩, ⟨_, rfl, .nl rfl⟩, ⟨_, rfl, .pure pu⟩, ⟨_, rfl, .pure pu⟩, ⟨_, rfl, .pure pu⟩, trivial⟩ ⟨.inl ⟨rfl, rfl⟩, .inl ⟨rfl, rfl⟩, trivial⟩
              rintro i hi
              have hla : (recL m S 19).length = 19 := len_recL _ _ _
              have hlb : (recL m T 19).length = 19 := len_recL _ _ _
              refine at_seq ?_
              refine at_region ?_
              refine s1 (y_p rfl) rfl <| ?_
              refine at_nil ?_
              refine x_tn ?_
              refine at_seq ?_
              refine at_cond rfl (fun hc77 => ?_) (fun hc77 => ?_)
              · have h77 : i < 19 := by have := of_decide_eq_true hc77; omega
                obtain ⟨q, hq⟩ : ∃ q, (recL m S 19)[i]? = some q := ⟨_, List.getElem?_eq_getElem (by omega)⟩
                obtain ⟨r, hr⟩ : ∃ r, (recL m T 19)[i]? = some r := ⟨_, List.getElem?_eq_getElem (by omega)⟩
                have hq32 := hDA q (List.mem_of_getElem? hq)
                have hr32 := hDB r (List.mem_of_getElem? hr)
                refine at_skip ?_
                refine x_tn ?_
                refine at_seq ?_
                refine at_block ?_
                refine at_seq ?_
                refine at_region ?_
                refine s1 (y_p rfl) rfl <| s1 (y_p rfl) rfl <| ?_
                refine at_nil ?_
                refine x_tn ?_
                refine at_fs ⟨_, [], []⟩ 12 4 hmix (le_refl rfl) ?_
                refine fs_q 0 [] [(12, none)] (y_p rfl) rfl rfl ?_
                refine fs_q 1 [] [] (y_p rfl) rfl rfl ?_
                refine fs_q 2 [] [] (y_p rfl) rfl rfl ?_
                refine fs_q 3 [1, 2] [] (y_ixf i Tryd.underlying24 ti23 rfl rfl rfl (by omega) rfl) rfl rfl ?_
                refine fs_q 4 [3] [] ((y_cutfa 32 Tryd.underlying23 ti5 rfl (by simp [maxLen]) bn bn (Nat.zero_le _) (Nat.le_refl _) (by simp) rfl rfl).v (v' := .fz 32 (q.map u8)) (congrArg (A.fz 32) (cut_dig hDA hq))) rfl rfl ?_
                refine fs_app 84 5 [0, 4] [(12, none)] gy0 Tryd.underlying41 ti5 rfl (.sl rfl (by rw [List.length_map, (D32.take hDA i).len, List.length_take, len_recL]; omega)) rfl rfl (by rw [List.length_map]; exact hq32) (by simp only [maxLen]; omega) (by omega) rfl rfl rfl rfl ?_
                refine fs_q 6 [] [(13, none)] (y_p rfl) rfl rfl ?_
                refine fs_q 7 [] [] (y_p rfl) rfl rfl ?_
                refine fs_q 8 [] [] (y_p rfl) rfl rfl ?_
                refine fs_q 9 [7, 8] [] (y_ixf i Tryd.underlying24 ti23 rfl rfl rfl (by omega) rfl) rfl rfl ?_
                refine fs_q 10 [9] [] ((y_cutfa 32 Tryd.underlying23 ti5 rfl (by simp [maxLen]) bn bn (Nat.zero_le _) (Nat.le_refl _) (by simp) rfl rfl).v (v' := .fz 32 (r.map u8)) (congrArg (A.fz 32) (cut_dig hDB hr))) rfl rfl ?_
                refine fs_app 90 11 [6, 10] [(13, none)] gy0 Tryd.underlying41 ti5 rfl (.sl rfl (by rw [List.length_map, (D32.take hDB i).len, List.length_take, len_recL]; omega)) rfl rfl (by rw [List.length_map]; exact hr32) (by simp only [maxLen]; omega) (by omega) rfl rfl rfl rfl ?_
                refine fs_end (by kernel_rfl) ?_
                refine s1 (y_p rfl) rfl <| s1 (y_p rfl) rfl <| ?_
                refine at_nil ?_
                refine x_bn ?_
                refine x_tn ?_
                refine at_region ?_
                refine s1 (addN _ 1 rfl rfl rfl rfl (by omega)) rfl <| s1 (y_p rfl) rfl <| ?_
                refine at_nil ?_
                exact at_end (i + 1) (by omega) (by omega) [(12, some 84), (13, some 90)] hI rfl rfl ⟨⟨_, rfl, .pure pu⟩, ⟨_, rfl, .pure pu⟩, ⟨_, rfl, .sl rfl (by first | rfl | omega | (simp; done) | (simp [*]; done) | (simp; omega) | (simp [*]; omega) | (simp [D32.len, -List.length_flatten, *]; done) | (simp [D32.len, -List.length_flatten, *]; omega))⟩, ⟨_, rfl, .sl rfl (by first | rfl | omega | (simp; done) | (simp [*]; done) | (simp; omega) | (simp [*]; omega) | (simp [D32.len, -List.length_flatten, *]; done) | (simp [D32.len, -List.length_flatten, *]; omega))⟩, ⟨_, rfl, .pure pu⟩, ⟨_, rfl, .pure pu⟩, ⟨_, rfl, .pure pu⟩, trivial⟩ ⟨.inr ⟨_, _, rfl, rfl, .of (by rw [← List.map_append, take_next hq]) (.pure pul)⟩, .inr ⟨_, _, rfl, rfl, .of (by rw [← List.map_append, take_next hr]) (.pure pul)⟩, trivial⟩
              · have h77 : i = 19 := by have := of_decide_eq_false hc77; omega
                subst h77
                refine at_sayO 12 rfl (cs' := (recL m S 19).flatten.map u8) (by rw [List.take_of_length_le (by omega)]) ?_
                refine at_sayO 13 rfl (cs' := (recL m T 19).flatten.map u8) (by rw [List.take_of_length_le (by omega)]) ?_
                refine at_exit ?_
                refine x_te ?_
                refine x_te ?_
                refine x_be ?_
                refine x_tn ?_
                refine at_seq ?_
                refine at_region ?_
                refine s1 (y_p rfl) rfl <| ?_
                refine at_op rfl (n_call true rfl (.cons (.pure pu) (.cons (.sl rfl rfl rfl (view_eq (by rw [List.length_map, hDA.len, len_recL]) rfl) (VwL.pure pul) pul) .nil)) (tag_key19 (recL m S 19) hDA hla) pu (.inr fu) rfl ?_)
                refine s1 (y_p rfl) rfl <| ?_
                refine at_op rfl (n_call true rfl (.cons (.pure pu) (.cons (.sl rfl rfl rfl (view_eq (by rw [List.length_map, hDB.len, len_recL]) rfl) (VwL.pure pul) pul) .nil)) (tag_key19 (recL m T 19) hDB hlb) pu (.inr fu) rfl ?_)
                refine s1 ((y_aq Tryd.underlying23 Tryd.underlying5 ti5 (by kernel_rfl) rfl rfl (by first | assumption | (simp; done) | (simp [*]; done)) (by first | assumption | (simp; done) | (simp [*]; done))).v (v' := .b true) (congrArg A.b (by rw [hk1, hk2]; simp))) rfl <| s1 (y_p rfl) rfl <| ?_
                refine at_nil ?_
                refine x_tn ?_
                refine at_ret ?_
                refine x_tr ?_
                refine at_result (rs := [.tmp 8]) rfl (r_tmp rfl r_nil) rfl
            · have heq : (recL m S 19) = (recL m T 19) := by simpa using hc73
              refine at_skip ?_
              refine x_tn ?_
              refine at_seq ?_
              refine at_seq ?_
              refine at_region ?_
              refine s1 (y_p rfl) rfl <| s1 (y_len Tryd.underlying24 rfl rfl rfl) rfl <| s1 ((y_p rfl).v (v' := .i .i64 0) rfl) rfl <| ?_
              refine at_nil ?_
              refine x_tn ?_
              refine at_block ?_
              refine at_loop (ι := Nat) (fun i => [(2, dgs S), (3, dgs T), (9, .fz 19 ((digits m).map nI)), (97, dgs S), (98, nI S.length), (99, nI i)]) (fun i => ⟨[]⟩) (fun i => i ≤ 19 ∧ S.take i = T.take i) (fun i => 19 - i) ?_ ?_
              · exact at_ex (0) (⟨Nat.zero_le _, rfl⟩) [] hI rfl rfl ⟨⟨_, rfl, .pure pu⟩, ⟨_, rfl, .pure pu⟩, ⟨_, rfl, .pure pu⟩, ⟨_, rfl, .pure pu⟩, ⟨_, rfl, .pure pu⟩, ⟨_, rfl, .pure pu⟩, trivial⟩ trivial
              rintro i ⟨hi, ht⟩
              have hdi := dg_lt m i
              refine at_seq ?_
              refine at_region ?_
              refine s1 (y_p rfl) rfl <| ?_
              refine at_nil ?_
              refine x_tn ?_
              refine at_seq ?_
              refine at_cond rfl (fun hc100 => ?_) (fun hc100 => ?_)
              · have h100 : i < 19 := by have := of_decide_eq_true hc100; omega
                obtain ⟨q, hq⟩ : ∃ q, S[i]? = some q := ⟨_, List.getElem?_eq_getElem (by omega)⟩
                obtain ⟨r, hr⟩ : ∃ r, T[i]? = some r := ⟨_, List.getElem?_eq_getElem (by omega)⟩
                have hq32 := hS q (List.mem_of_getElem? hq)
                have hr32 := hT r (List.mem_of_getElem? hr)
                have hqr := rec_eq heq h100 hq hr
                refine at_skip ?_
                refine x_tn ?_
                refine at_seq ?_
                refine at_block ?_
                refine at_seq ?_
                refine at_region ?_
                refine s1 (y_p rfl) rfl <| s1 (y_p rfl) rfl <| ?_
                refine at_nil ?_
                refine x_tn ?_
                refine at_seq ?_
                refine at_fs ⟨_, [], []⟩ 11 4 hmix (le_refl rfl) ?_
                refine fs_q 0 [] [] (y_p rfl) rfl rfl ?_
                refine fs_q 1 [] [] (y_p rfl) rfl rfl ?_
                refine fs_q 2 [0, 1] [] (y_ixf i Tryd.underlying24 ti23 rfl rfl rfl (by omega) rfl) rfl rfl ?_
                refine fs_q 3 [2] [] (y_loadA ti23 rfl rfl (get_d5 hS hq) (by rw [List.length_map]; exact hq32)) rfl rfl ?_
                refine fs_q 4 [] [] (y_p rfl) rfl rfl ?_
                refine fs_q 5 [] [] (y_p rfl) rfl rfl ?_
                refine fs_q 6 [4, 5] [] (y_ixf i Tryd.underlying24 ti23 rfl rfl rfl (by omega) rfl) rfl rfl ?_
                refine fs_q 7 [6] [] (y_loadA ti23 rfl rfl (get_d5 hT hr) (by rw [List.length_map]; exact hr32)) rfl rfl ?_
                refine fs_alloc 16 8 [] gy0 ti23 rfl rfl rfl ?_
                refine fs_alloc 17 9 [] gy0 ti23 rfl rfl rfl ?_
                refine fs_stoA 2 10 [3, 8] [(16, some 8)] rfl gy0 ti23 rfl rfl rfl (by first | (simp; done) | (rw [List.length_map]; first | assumption | exact len_iterD (by first | assumption | simp) _)) (by first | (simp; done) | (rw [List.length_map]; first | assumption | exact len_iterD (by first | assumption | simp) _)) rfl ?_
                refine fs_end (by kernel_rfl) ?_
                refine at_op rfl (n_storeA ti23 rfl rfl rfl (by first | (simp; done) | (rw [List.length_map]; first | assumption | exact len_iterD (by first | assumption | simp) _)) (by first | (simp; done) | (rw [List.length_map]; first | assumption | exact len_iterD (by first | assumption | simp) _)) ?_)
                refine at_nil ?_
                refine x_tn ?_
                refine at_seq ?_
                refine at_region ?_
                refine s1 (y_p rfl) rfl <| s1 (y_p rfl) rfl <| s1 (y_ixf i Tryd.underlying29 ti3 rfl rfl rfl (by omega) rfl) rfl <| s1 (y_load ti3 rfl rfl (get_dig3 m i h100)) rfl <| s1 (y_p rfl) rfl <| ?_
                refine at_nil ?_
                refine x_tn ?_
                refine at_block ?_
                refine at_loop (ι := Nat) (fun k => [(2, dgs S), (3, dgs T), (9, .fz 19 ((digits m).map nI)), (15, nI i), (16, .p 16 0), (17, .p 17 0), (18, nI (dg m i + k)), (97, dgs S), (98, nI S.length), (99, nI i)]) (fun k => ⟨[(16, some ((iterD k q).map u8)), (17, some ((iterD k r).map u8))]⟩) (fun k => dg m i + k ≤ 3 ∧ (q ≠ r → iterD k q ≠ iterD k r)) (fun k => 3 - k) ?_ ?_
                · exact at_ex (0) (⟨by omega, fun h => h⟩) [(16, some 16), (17, some 17)] hI rfl rfl ⟨⟨_, rfl, .pure pu⟩, ⟨_, rfl, .pure pu⟩, ⟨_, rfl, .pure pu⟩, ⟨_, rfl, .pure pu⟩, ⟨_, rfl, .p rfl⟩, ⟨_, rfl, .p rfl⟩, ⟨_, rfl, .pure pu⟩, ⟨_, rfl, .pure pu⟩, ⟨_, rfl, .pure pu⟩, ⟨_, rfl, .pure pu⟩, trivial⟩ ⟨.inr ⟨_, _, rfl, rfl, .pure pul⟩, .inr ⟨_, _, rfl, rfl, .pure pul⟩, trivial⟩
                rintro k ⟨hk, hinv⟩
                have hxk := len_iterD hq32 k
                have hyk := len_iterD hr32 k
                refine at_seq ?_
                refine at_seq ?_
                refine at_region ?_
                refine s1 (y_p rfl) rfl <| s1 (y_p rfl) rfl <| ?_
                refine at_nil ?_
                refine x_tn ?_
                refine at_cond rfl (fun hc115 => ?_) (fun hc115 => ?_)
                · have h115 : dg m i + k < 3 := by have := of_decide_eq_true hc115; omega
                  refine at_skip ?_
                  refine x_tn ?_
                  refine at_seq ?_
                  refine at_block ?_
                  refine at_seq ?_
                  refine at_seq ?_
                  rcases Decidable.em (iterD k q = iterD k r) with hcs | hcs
                  · skip
                    refine at_fs ⟨_, [], []⟩ 9 4 hmix (le_refl rfl) ?_
                    refine fs_q 0 [] [(16, none)] (y_loadA0 ti23 rfl rfl (by rw [List.length_map]; exact hxk)) rfl rfl ?_
                    refine fs_q 1 [] [(17, none)] (y_loadA0 ti23 rfl rfl (by rw [List.length_map]; exact hyk)) rfl rfl ?_
                    refine fs_q 2 [0, 1] [] ((y_aqn Tryd.underlying23 Tryd.underlying5 ti5 (by kernel_rfl) rfl rfl (by first | assumption | (simp; done) | (simp [*]; done)) (by first | assumption | (simp; done) | (simp [*]; done))).v (v' := .b false) (congrArg A.b (by simp [hcs]))) rfl rfl ?_
                    refine fs_q 3 [2] [] ((y_p rfl).v (v' := .b false) (rfl)) rfl rfl ?_
                    refine fs_q0 4 [3] rfl rfl rfl rfl rfl ?_
                    refine fs_q0 5 [3, 4] rfl rfl rfl rfl rfl ?_
                    refine fs_q0 6 [3] rfl rfl rfl rfl rfl ?_
                    refine fs_q0 7 [3, 6] rfl rfl rfl rfl rfl ?_
                    refine fs_q0 8 [3, 5, 7] rfl rfl rfl rfl rfl ?_
                    refine fs_end (by kernel_rfl) ?_
                    refine s1 ((y_p rfl).v (v' := .b false) (rfl)) rfl <| ?_
                    refine at_nil ?_
                    refine x_tn ?_
                    refine at_else rfl ?_
                    refine at_skip ?_
                    refine x_tn ?_
                    refine at_fs ⟨_, [], []⟩ 4 4 hmix (le_refl rfl) ?_
                    refine fs_q 0 [] [(16, none)] (y_loadA0 ti23 rfl rfl (by rw [List.length_map]; exact hxk)) rfl rfl ?_
                    refine fs_call false 1 [0] [] gy0 rfl (.cons (.pure pu) (.nil)) (lstep_ok (iterD k q) hxk) pu (.inl rfl) rfl rfl ?_
                    refine fs_q 2 [] [(17, none)] (y_loadA0 ti23 rfl rfl (by rw [List.length_map]; exact hyk)) rfl rfl ?_
                    refine fs_call false 3 [2] [] gy0 rfl (.cons (.pure pu) (.nil)) (lstep_ok (iterD k r) hyk) pu (.inl rfl) rfl rfl ?_
                    refine fs_end (by kernel_rfl) ?_
                    refine at_op rfl (n_storeA ti23 rfl rfl rfl (by first | (simp; done) | (rw [List.length_map]; first | assumption | exact len_iterD (by first | assumption | simp) _)) (by first | (simp; done) | (rw [List.length_map]; first | assumption | exact len_iterD (by first | assumption | simp) _)) ?_)
                    refine at_op rfl (n_storeA ti23 rfl rfl rfl (by first | (simp; done) | (rw [List.length_map]; first | assumption | exact len_iterD (by first | assumption | simp) _)) (by first | (simp; done) | (rw [List.length_map]; first | assumption | exact len_iterD (by first | assumption | simp) _)) ?_)
                    refine at_nil ?_
                    refine x_bn ?_
                    refine x_tn ?_
                    refine at_region ?_
                    refine s1 (y_p rfl) rfl <| s1 (addN (dg m i + k) 1 rfl rfl rfl rfl (by omega)) rfl <| s1 (y_p rfl) rfl <| ?_
                    refine at_nil ?_
                    exact at_end (k + 1) (⟨by omega, fun h => absurd hcs (hinv h)⟩) (by omega) [(16, some 16), (17, some 17)] hI rfl rfl ⟨⟨_, rfl, .pure pu⟩, ⟨_, rfl, .pure pu⟩, ⟨_, rfl, .pure pu⟩, ⟨_, rfl, .pure pu⟩, ⟨_, rfl, .p rfl⟩, ⟨_, rfl, .p rfl⟩, ⟨_, rfl, .pure pu⟩, ⟨_, rfl, .pure pu⟩, ⟨_, rfl, .pure pu⟩, ⟨_, rfl, .pure pu⟩, trivial⟩ ⟨.inr ⟨_, _, rfl, rfl, .of (by rfl) (.pure pul)⟩, .inr ⟨_, _, rfl, rfl, .of (by rfl) (.pure pul)⟩, trivial⟩
                  · skip
                    refine at_fs ⟨_, [], []⟩ 9 4 hmix (le_refl rfl) ?_
                    refine fs_q 0 [] [(16, none)] (y_loadA0 ti23 rfl rfl (by rw [List.length_map]; exact hxk)) rfl rfl ?_
                    refine fs_q 1 [] [(17, none)] (y_loadA0 ti23 rfl rfl (by rw [List.length_map]; exact hyk)) rfl rfl ?_
                    refine fs_q 2 [0, 1] [] ((y_aqn Tryd.underlying23 Tryd.underlying5 ti5 (by kernel_rfl) rfl rfl (by first | assumption | (simp; done) | (simp [*]; done)) (by first | assumption | (simp; done) | (simp [*]; done))).v (v' := .b true) (congrArg A.b (by simp [hcs]))) rfl rfl ?_
                    refine fs_q 3 [2] [] ((y_p rfl).v (v' := .b true) (rfl)) rfl rfl ?_
                    refine fs_qg 4 [3] [(16, none)] rfl rfl (y_loadA0 ti23 rfl rfl (by rw [List.length_map]; exact hxk)) rfl rfl ?_
                    refine fs_call false 5 [3, 4] [] (gy1 rfl rfl) rfl (.cons (.pure pu) (.nil)) (lstep_ok (iterD k q) hxk) pu (.inl rfl) rfl rfl ?_
                    refine fs_qg 6 [3] [(17, none)] rfl rfl (y_loadA0 ti23 rfl rfl (by rw [List.length_map]; exact hyk)) rfl rfl ?_
                    refine fs_call false 7 [3, 6] [] (gy1 rfl rfl) rfl (.cons (.pure pu) (.nil)) (lstep_ok (iterD k r) hyk) pu (.inl rfl) rfl rfl ?_
                    refine fs_qg 8 [3, 5, 7] [] rfl rfl (y_aq Tryd.underlying23 Tryd.underlying5 ti5 (by kernel_rfl) rfl rfl (by first | assumption | (simp; done) | (simp [*]; done)) (by first | assumption | (simp; done) | (simp [*]; done))) rfl rfl ?_
                    refine fs_end (by kernel_rfl) ?_
                    refine s1 (y_p rfl) rfl <| ?_
                    refine at_nil ?_
                    refine x_tn ?_
                    refine at_cond rfl (fun hc127 => ?_) (fun hc127 => ?_)
                    · skip
                      refine at_seq ?_
                      refine at_region ?_
                      refine s1 (y_p rfl) rfl <| ?_
                      refine at_nil ?_
                      refine x_tn ?_
                      refine at_ret ?_
                      refine x_tr ?_
                      refine x_br ?_
                      refine x_tr ?_
                      refine x_tr ?_
                      refine x_br ?_
                      refine x_br ?_
                      refine x_tr ?_
                      refine x_tr ?_
                      refine x_br ?_
                      refine x_tr ?_
                      refine at_result (rs := [.tmp 8]) rfl (r_tmp rfl r_nil) rfl
                    · have hst : stepD (iterD k q) ≠ stepD (iterD k r) := beq_eq_false_iff_ne.1 hc127
                      refine at_skip ?_
                      refine x_tn ?_
                      refine at_fs ⟨_, [], []⟩ 4 4 hmix (le_refl rfl) ?_
                      refine fs_q 0 [] [(16, none)] (y_loadA0 ti23 rfl rfl (by rw [List.length_map]; exact hxk)) rfl rfl ?_
                      refine fs_call false 1 [0] [] gy0 rfl (.cons (.pure pu) (.nil)) (lstep_ok (iterD k q) hxk) pu (.inl rfl) rfl rfl ?_
                      refine fs_q 2 [] [(17, none)] (y_loadA0 ti23 rfl rfl (by rw [List.length_map]; exact hyk)) rfl rfl ?_
                      refine fs_call false 3 [2] [] gy0 rfl (.cons (.pure pu) (.nil)) (lstep_ok (iterD k r) hyk) pu (.inl rfl) rfl rfl ?_
                      refine fs_end (by kernel_rfl) ?_
                      refine at_op rfl (n_storeA ti23 rfl rfl rfl (by first | (simp; done) | (rw [List.length_map]; first | assumption | exact len_iterD (by first | assumption | simp) _)) (by first | (simp; done) | (rw [List.length_map]; first | assumption | exact len_iterD (by first | assumption | simp) _)) ?_)
                      refine at_op rfl (n_storeA ti23 rfl rfl rfl (by first | (simp; done) | (rw [List.length_map]; first | assumption | exact len_iterD (by first | assumption | simp) _)) (by first | (simp; done) | (rw [List.length_map]; first | assumption | exact len_iterD (by first | assumption | simp) _)) ?_)
                      refine at_nil ?_
                      refine x_bn ?_
                      refine x_tn ?_
                      refine at_region ?_
                      refine s1 (y_p rfl) rfl <| s1 (addN (dg m i + k) 1 rfl rfl rfl rfl (by omega)) rfl <| s1 (y_p rfl) rfl <| ?_
                      refine at_nil ?_
                      exact at_end (k + 1) (⟨by omega, fun _ => hst⟩) (by omega) [(16, some 16), (17, some 17)] hI rfl rfl ⟨⟨_, rfl, .pure pu⟩, ⟨_, rfl, .pure pu⟩, ⟨_, rfl, .pure pu⟩, ⟨_, rfl, .pure pu⟩, ⟨_, rfl, .p rfl⟩, ⟨_, rfl, .p rfl⟩, ⟨_, rfl, .pure pu⟩, ⟨_, rfl, .pure pu⟩, ⟨_, rfl, .pure pu⟩, ⟨_, rfl, .pure pu⟩, trivial⟩ ⟨.inr ⟨_, _, rfl, rfl, .of (by rfl) (.pure pul)⟩, .inr ⟨_, _, rfl, rfl, .of (by rfl) (.pure pul)⟩, trivial⟩
                · obtain rfl : k = 3 - dg m i := by have := of_decide_eq_false hc115; omega
                  have hqr2 : q = r := Decidable.byContradiction fun h => hinv h hqr
                  refine at_exit ?_
                  refine x_te ?_
                  refine x_te ?_
                  refine x_be ?_
                  refine x_bn ?_
                  refine x_tn ?_
                  refine at_region ?_
                  refine s1 (addN _ 1 rfl rfl rfl rfl (by omega)) rfl <| s1 (y_p rfl) rfl <| ?_
                  refine at_nil ?_
                  exact at_end (i + 1) (⟨by omega, by rw [List.take_add_one, List.take_add_one, ht, hq, hr, hqr2]⟩) (by omega) [] hI rfl rfl ⟨⟨_, rfl, .pure pu⟩, ⟨_, rfl, .pure pu⟩, ⟨_, rfl, .pure pu⟩, ⟨_, rfl, .pure pu⟩, ⟨_, rfl, .pure pu⟩, ⟨_, rfl, .pure pu⟩, trivial⟩ trivial
              · exfalso
                have h100 : i = 19 := by have := of_decide_eq_false hc100; omega
                rw [List.take_of_length_le (by omega), List.take_of_length_le (by omega)] at ht
                exact hne ht

end Go.Abs.D2
