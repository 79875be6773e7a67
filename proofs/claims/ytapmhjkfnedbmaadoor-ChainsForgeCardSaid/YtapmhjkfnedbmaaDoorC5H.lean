/-
  Layer 2: walks of the digest functions. Conditions: each theorem says its own.
-/
import Derived.Test.YtapmhjkfnedbmaaDoorC5F
import Derived.Test.YtapmhjkfnedbmaaDoorAbsK
namespace Go.Abs.D2
open Go Go.Eng Go.Abs Go.Proofs 

set_option linter.unusedSimpArgs false in
set_option linter.unusedVariables false in
set_option maxHeartbeats 1000000 in
theorem law_steps (x a b : List UInt8) (hx : x.length = 32) (ha : a.length = 32) (hb : b.length = 32) : Con Tryd.prog 7 [.ag (x.map u8), .ag (a.map u8), .ag (b.map u8)] (Ret (.b true)) := by
  refine enter Tryd.func7 rfl Tryd.ntmps7 (by kernel_rfl) (Nat.le_of_ble_eq_true rfl) fun w0 X0 hI => ?_
  refine at_seq ?_
  refine at_region ?_
  refine at_op rfl (n_boxA 3 rfl rfl rfl ?_)
  refine at_op rfl (n_boxA 4 rfl rfl rfl ?_)
  refine at_op rfl (n_boxA 5 rfl rfl rfl ?_)
  refine s1 (y_p rfl) rfl <| ?_
  refine at_nil ?_
  refine x_tn ?_
  refine at_seq ?_
  refine at_seq ?_
  refine at_region ?_
  refine at_op rfl (n_call false rfl (.nil) (sane_ok) pu (.inl rfl) rfl ?_)
  refine s1 (y_p rfl) rfl <| ?_
  refine at_nil ?_
  refine x_tn ?_
  refine at_else rfl ?_
  refine at_skip ?_
  refine x_tn ?_
  refine at_seq ?_
  refine at_fs ⟨_, [], []⟩ 5 4 hmix (le_refl rfl) ?_
  refine fs_q 0 [] [(4, none)] (y_loadA0 ti23 rfl rfl (by first | rfl | omega | (simp; done) | (simp [*]; done) | (simp; omega) | (simp [*]; omega) | (simp [D32.len, -List.length_flatten, *]; done) | (simp [D32.len, -List.length_flatten, *]; omega))) rfl rfl ?_
  refine fs_call false 1 [0] [] gy0 rfl (.cons (.pure pu) (.nil)) (digits_ok a ha) pu (.inl rfl) rfl rfl ?_
  refine fs_q 2 [] [(5, none)] (y_loadA0 ti23 rfl rfl (by first | rfl | omega | (simp; done) | (simp [*]; done) | (simp; omega) | (simp [*]; omega) | (simp [D32.len, -List.length_flatten, *]; done) | (simp [D32.len, -List.length_flatten, *]; omega))) rfl rfl ?_
  refine fs_call false 3 [2] [] gy0 rfl (.cons (.pure pu) (.nil)) (digits_ok b hb) pu (.inl rfl) rfl rfl ?_
  refine fs_q 4 [1] [] (y_p rfl) rfl rfl ?_
  refine fs_end (by kernel_rfl) ?_
  refine s1 (y_p rfl) rfl <| ?_
  refine at_nil ?_
  refine x_tn ?_
  refine at_seq ?_
  refine at_fs ⟨_, [], []⟩ 7 4 hmix (le_refl rfl) ?_
  refine fs_q 0 [] [(3, none)] (y_loadA0 ti23 rfl rfl (by first | rfl | omega | (simp; done) | (simp [*]; done) | (simp; omega) | (simp [*]; omega) | (simp [D32.len, -List.length_flatten, *]; done) | (simp [D32.len, -List.length_flatten, *]; omega))) rfl rfl ?_
  refine fs_q 1 [] [(4, none)] (y_loadA0 ti23 rfl rfl (by first | rfl | omega | (simp; done) | (simp [*]; done) | (simp; omega) | (simp [*]; omega) | (simp [D32.len, -List.length_flatten, *]; done) | (simp [D32.len, -List.length_flatten, *]; omega))) rfl rfl ?_
  refine fs_call false 2 [0, 1] [] gy0 rfl (.cons (.pure pu) (.cons (.pure pu) (.nil))) (sign_ok x a hx ha) pu (.inl rfl) rfl rfl ?_
  refine fs_q 3 [] [(3, none)] (y_loadA0 ti23 rfl rfl (by first | rfl | omega | (simp; done) | (simp [*]; done) | (simp; omega) | (simp [*]; omega) | (simp [D32.len, -List.length_flatten, *]; done) | (simp [D32.len, -List.length_flatten, *]; omega))) rfl rfl ?_
  refine fs_q 4 [] [(5, none)] (y_loadA0 ti23 rfl rfl (by first | rfl | omega | (simp; done) | (simp [*]; done) | (simp; omega) | (simp [*]; omega) | (simp [D32.len, -List.length_flatten, *]; done) | (simp [D32.len, -List.length_flatten, *]; omega))) rfl rfl ?_
  refine fs_call false 5 [3, 4] [] gy0 rfl (.cons (.pure pu) (.cons (.pure pu) (.nil))) (sign_ok x b hx hb) pu (.inl rfl) rfl rfl ?_
  refine fs_q 6 [2] [] (y_p rfl) rfl rfl ?_
  refine fs_end (by kernel_rfl) ?_
  refine s1 (y_p rfl) rfl <| ?_
  refine at_nil ?_
  refine x_tn ?_
  refine at_seq ?_
  refine at_seq ?_
  refine at_region ?_
  refine s1 (y_p rfl) rfl <| s1 (y_len Tryd.underlying29 rfl rfl rfl) rfl <| s1 ((y_p rfl).v (v' := .b false) (congrArg A.b (by decide))) rfl <| s1 ((y_p rfl).v (v' := .b false) (rfl)) rfl <| g1 rfl rfl (y_p rfl) rfl <| g1 rfl rfl (y_len Tryd.underlying29 rfl rfl rfl) rfl <| g1 rfl rfl ((y_p rfl).v (v' := .b false) (congrArg A.b (by decide))) rfl <| s1 ((y_p rfl).v (v' := .b false) (rfl)) rfl <| s1 ((y_p rfl).v (v' := .b false) (rfl)) rfl <| g1 rfl rfl (y_p rfl) rfl <| ?_
  refine g1 rfl rfl (y_len Tryd.underlying24 rfl rfl rfl) rfl <| g1 rfl rfl ((y_p rfl).v (v' := .b false) (congrArg A.b (by simp))) rfl <| s1 ((y_p rfl).v (v' := .b false) (rfl)) rfl <| s1 ((y_p rfl).v (v' := .b false) (rfl)) rfl <| g1 rfl rfl (y_p rfl) rfl <| g1 rfl rfl (y_len Tryd.underlying24 rfl rfl rfl) rfl <| g1 rfl rfl ((y_p rfl).v (v' := .b false) (congrArg A.b (by simp))) rfl <| s1 ((y_p rfl).v (v' := .b false) (rfl)) rfl <| ?_
  refine at_nil ?_
  refine x_tn ?_
  refine at_else rfl ?_
  refine at_skip ?_
  refine x_tn ?_
  refine at_seq ?_
  refine at_seq ?_
  refine at_region ?_
  refine s1 (y_p rfl) rfl <| s1 (y_len Tryd.underlying24 rfl rfl rfl) rfl <| s1 ((y_p rfl).v (v' := .i .i64 0) rfl) rfl <| ?_
  refine at_nil ?_
  refine x_tn ?_
  refine at_block ?_
  refine at_loop (ι := Nat) (fun i => [(7, .fz 19 ((digits a).map nI)), (8, .fz 19 ((digits b).map nI)), (9, dgs (signD x a)), (10, dgs (signD x b)), (46, dgs (signD x a)), (47, nI (signD x a).length), (48, nI i)]) (fun i => ⟨[]⟩) (fun i => i ≤ 19) (fun i => 19 - i) ?_ ?_
  · exact at_ex (0) (Nat.zero_le _) [] hI rfl rfl ⟨⟨_, rfl, .pure pu⟩, ⟨_, rfl, .pure pu⟩, ⟨_, rfl, .pure pu⟩, ⟨_, rfl, .pure pu⟩, ⟨_, rfl, .pure pu⟩, ⟨_, rfl, .pure pu⟩, ⟨_, rfl, .pure pu⟩, trivial⟩ trivial
  rintro i hi
  have hai := dg_lt a i
  have hbi := dg_lt b i
  have hla : (signD x a).length = 19 := len_signL x a 19
  have hlb : (signD x b).length = 19 := len_signL x b 19
  refine at_seq ?_
  refine at_region ?_
  refine s1 (y_p rfl) rfl <| ?_
  refine at_nil ?_
  refine x_tn ?_
  refine at_seq ?_
  refine at_cond rfl (fun hc49 => ?_) (fun hc49 => ?_)
  · have h49 : i < 19 := by have := of_decide_eq_true hc49; omega
    refine at_skip ?_
    refine x_tn ?_
    refine at_seq ?_
    refine at_block ?_
    refine at_seq ?_
    refine at_region ?_
    refine s1 (y_p rfl) rfl <| s1 (y_p rfl) rfl <| ?_
    refine at_nil ?_
    refine x_tn ?_
    refine at_seq ?_
    refine at_fs ⟨_, [], []⟩ 11 4 hmix (le_refl rfl) ?_
    refine fs_q 0 [] [] (y_p rfl) rfl rfl ?_
    refine fs_q 1 [] [] (y_p rfl) rfl rfl ?_
    refine fs_q 2 [0, 1] [] (y_ixf i Tryd.underlying24 ti23 rfl rfl rfl (by omega) rfl) rfl rfl ?_
    refine fs_q 3 [2] [] (y_loadA ti23 rfl rfl (get_d5 (D32_signL x a 19) (get_sign x a h49)) (by rw [List.length_map]; exact len_iterD (by simp) _)) rfl rfl ?_
    refine fs_q 4 [] [] (y_p rfl) rfl rfl ?_
    refine fs_q 5 [] [] (y_p rfl) rfl rfl ?_
    refine fs_q 6 [4, 5] [] (y_ixf i Tryd.underlying24 ti23 rfl rfl rfl (by omega) rfl) rfl rfl ?_
    refine fs_q 7 [6] [] (y_loadA ti23 rfl rfl (get_d5 (D32_signL x b 19) (get_sign x b h49)) (by rw [List.length_map]; exact len_iterD (by simp) _)) rfl rfl ?_
    refine fs_alloc 12 8 [] gy0 ti23 rfl rfl rfl ?_
    refine fs_alloc 13 9 [] gy0 ti23 rfl rfl rfl ?_
    refine fs_stoA 7 10 [3, 8] [(12, some 8)] rfl gy0 ti23 rfl rfl rfl (by first | (simp; done) | (rw [List.length_map]; exact len_iterD (by simp) _)) (by first | (simp; done) | (rw [List.length_map]; exact len_iterD (by simp) _)) rfl ?_
    refine fs_end (by kernel_rfl) ?_
    refine at_op rfl (n_storeA ti23 rfl rfl rfl (by first | (simp; done) | (rw [List.length_map]; exact len_iterD (by simp) _)) (by first | (simp; done) | (rw [List.length_map]; exact len_iterD (by simp) _)) ?_)
    refine at_nil ?_
    refine x_tn ?_
    refine at_seq ?_
    refine at_seq ?_
    refine at_region ?_
    refine s1 (y_p rfl) rfl <| s1 (y_p rfl) rfl <| s1 (y_ixf i Tryd.underlying29 ti3 rfl rfl rfl (by omega) rfl) rfl <| s1 (y_load ti3 rfl rfl (get_dig3 a i h49)) rfl <| s1 (y_p rfl) rfl <| ?_
    refine at_nil ?_
    refine x_tn ?_
    refine at_block ?_
    refine at_loop (ι := Nat) (fun n => [(7, .fz 19 ((digits a).map nI)), (8, .fz 19 ((digits b).map nI)), (9, dgs (signD x a)), (10, dgs (signD x b)), (11, nI i), (12, .p 12 0), (13, .p 13 0), (14, nI n), (46, dgs (signD x a)), (47, nI (signD x a).length), (48, nI i)]) (fun n => ⟨[(12, some ((iterD n (firstD x i)).map u8)), (13, some ((iterD (dg b i) (firstD x i)).map u8))]⟩) (fun n => dg a i ≤ n ∧ n ≤ (max (dg a i) (dg b i))) (fun n => (max (dg a i) (dg b i)) - n) ?_ ?_
    · exact at_ex (dg a i) (⟨Nat.le_refl _, Nat.le_max_left _ _⟩) [(12, some 12), (13, some 13)] hI rfl rfl ⟨⟨_, rfl, .pure pu⟩, ⟨_, rfl, .pure pu⟩, ⟨_, rfl, .pure pu⟩, ⟨_, rfl, .pure pu⟩, ⟨_, rfl, .pure pu⟩, ⟨_, rfl, .p rfl⟩, ⟨_, rfl, .p rfl⟩, ⟨_, rfl, .pure pu⟩, ⟨_, rfl, .pure pu⟩, ⟨_, rfl, .pure pu⟩, ⟨_, rfl, .pure pu⟩, trivial⟩ ⟨.inr ⟨_, _, rfl, rfl, .pure pul⟩, .inr ⟨_, _, rfl, rfl, .pure pul⟩, trivial⟩
    rintro n ⟨hn1, hn2⟩
    have hxn := len_iterD (len_firstD x i) n
    refine at_seq ?_
    refine at_seq ?_
    refine at_region ?_
    refine s1 (y_p rfl) rfl <| s1 (y_p rfl) rfl <| s1 (y_p rfl) rfl <| s1 (y_ixf i Tryd.underlying29 ti3 rfl rfl rfl (by omega) rfl) rfl <| s1 (y_load ti3 rfl rfl (get_dig3 b i h49)) rfl <| s1 (y_p rfl) rfl <| ?_
    refine at_nil ?_
    refine x_tn ?_
    refine at_cond rfl (fun hc68 => ?_) (fun hc68 => ?_)
    · have h68 : n < dg b i := by have := of_decide_eq_true hc68; omega
      refine at_skip ?_
      refine x_tn ?_
      refine at_seq ?_
      refine at_block ?_
      refine at_region ?_
      refine s1 (y_loadA0 ti23 rfl rfl (by rw [List.length_map]; exact hxn)) rfl <| ?_
      refine at_op rfl (n_call false rfl (.cons (.pure pu) (.nil)) (lstep_ok (iterD n (firstD x i)) hxn) pu (.inl rfl) rfl ?_)
      refine at_op rfl (n_storeA ti23 rfl rfl rfl (by first | (simp; done) | (rw [List.length_map]; exact len_iterD (by simp) _)) (by first | (simp; done) | (rw [List.length_map]; exact len_iterD (by simp) _)) ?_)
      refine at_nil ?_
      refine x_bn ?_
      refine x_tn ?_
      refine at_region ?_
      refine s1 (y_p rfl) rfl <| s1 (addN _ 1 rfl rfl rfl rfl (by omega)) rfl <| s1 (y_p rfl) rfl <| ?_
      refine at_nil ?_
      exact at_end (n + 1) (⟨by omega, by omega⟩) (by omega) [(12, some 12), (13, some 13)] hI rfl rfl ⟨⟨_, rfl, .pure pu⟩, ⟨_, rfl, .pure pu⟩, ⟨_, rfl, .pure pu⟩, ⟨_, rfl, .pure pu⟩, ⟨_, rfl, .pure pu⟩, ⟨_, rfl, .p rfl⟩, ⟨_, rfl, .p rfl⟩, ⟨_, rfl, .pure pu⟩, ⟨_, rfl, .pure pu⟩, ⟨_, rfl, .pure pu⟩, ⟨_, rfl, .pure pu⟩, trivial⟩ ⟨.inr ⟨_, _, rfl, rfl, .of (by rfl) (.pure pul)⟩, .inr ⟨_, _, rfl, rfl, .pure pul⟩, trivial⟩
    · have h68 : n = (max (dg a i) (dg b i)) := by have := of_decide_eq_false hc68; omega
      subst h68
      refine at_exit ?_
      refine x_te ?_
      refine x_te ?_
      refine x_be ?_
      refine x_tn ?_
      refine at_seq ?_
      refine at_seq ?_
      refine at_region ?_
      refine s1 (y_p rfl) rfl <| s1 (y_p rfl) rfl <| s1 (y_ixf i Tryd.underlying29 ti3 rfl rfl rfl (by omega) rfl) rfl <| s1 (y_load ti3 rfl rfl (get_dig3 b i h49)) rfl <| s1 (y_p rfl) rfl <| ?_
      refine at_nil ?_
      refine x_tn ?_
      refine at_block ?_
      refine at_loop (ι := Nat) (fun r => [(7, .fz 19 ((digits a).map nI)), (8, .fz 19 ((digits b).map nI)), (9, dgs (signD x a)), (10, dgs (signD x b)), (11, nI i), (12, .p 12 0), (13, .p 13 0), (15, nI r), (46, dgs (signD x a)), (47, nI (signD x a).length), (48, nI i)]) (fun r => ⟨[(12, some ((iterD (max (dg a i) (dg b i)) (firstD x i)).map u8)), (13, some ((iterD r (firstD x i)).map u8))]⟩) (fun r => dg b i ≤ r ∧ r ≤ (max (dg a i) (dg b i))) (fun r => (max (dg a i) (dg b i)) - r) ?_ ?_
      · exact at_ex (dg b i) (⟨Nat.le_refl _, Nat.le_max_right _ _⟩) [(12, some 12), (13, some 13)] hI rfl rfl ⟨⟨_, rfl, .pure pu⟩, ⟨_, rfl, .pure pu⟩, ⟨_, rfl, .pure pu⟩, ⟨_, rfl, .pure pu⟩, ⟨_, rfl, .pure pu⟩, ⟨_, rfl, .p rfl⟩, ⟨_, rfl, .p rfl⟩, ⟨_, rfl, .pure pu⟩, ⟨_, rfl, .pure pu⟩, ⟨_, rfl, .pure pu⟩, ⟨_, rfl, .pure pu⟩, trivial⟩ ⟨.inr ⟨_, _, rfl, rfl, .pure pul⟩, .inr ⟨_, _, rfl, rfl, .pure pul⟩, trivial⟩
      rintro r ⟨hr1, hr2⟩
      have hxr := len_iterD (len_firstD x i) r
      refine at_seq ?_
      refine at_seq ?_
      refine at_region ?_
      refine s1 (y_p rfl) rfl <| s1 (y_p rfl) rfl <| s1 (y_p rfl) rfl <| s1 (y_ixf i Tryd.underlying29 ti3 rfl rfl rfl (by omega) rfl) rfl <| s1 (y_load ti3 rfl rfl (get_dig3 a i h49)) rfl <| s1 (y_p rfl) rfl <| ?_
      refine at_nil ?_
      refine x_tn ?_
      refine at_cond rfl (fun hc82 => ?_) (fun hc82 => ?_)
      · have h82 : r < dg a i := by have := of_decide_eq_true hc82; omega
        refine at_skip ?_
        refine x_tn ?_
        refine at_seq ?_
        refine at_block ?_
        refine at_region ?_
        refine s1 (y_loadA0 ti23 rfl rfl (by rw [List.length_map]; exact hxr)) rfl <| ?_
        refine at_op rfl (n_call false rfl (.cons (.pure pu) (.nil)) (lstep_ok (iterD r (firstD x i)) hxr) pu (.inl rfl) rfl ?_)
        refine at_op rfl (n_storeA ti23 rfl rfl rfl (by first | (simp; done) | (rw [List.length_map]; exact len_iterD (by simp) _)) (by first | (simp; done) | (rw [List.length_map]; exact len_iterD (by simp) _)) ?_)
        refine at_nil ?_
        refine x_bn ?_
        refine x_tn ?_
        refine at_region ?_
        refine s1 (y_p rfl) rfl <| s1 (addN _ 1 rfl rfl rfl rfl (by omega)) rfl <| s1 (y_p rfl) rfl <| ?_
        refine at_nil ?_
        exact at_end (r + 1) (⟨by omega, by omega⟩) (by omega) [(12, some 12), (13, some 13)] hI rfl rfl ⟨⟨_, rfl, .pure pu⟩, ⟨_, rfl, .pure pu⟩, ⟨_, rfl, .pure pu⟩, ⟨_, rfl, .pure pu⟩, ⟨_, rfl, .pure pu⟩, ⟨_, rfl, .p rfl⟩, ⟨_, rfl, .p rfl⟩, ⟨_, rfl, .pure pu⟩, ⟨_, rfl, .pure pu⟩, ⟨_, rfl, .pure pu⟩, ⟨_, rfl, .pure pu⟩, trivial⟩ ⟨.inr ⟨_, _, rfl, rfl, .pure pul⟩, .inr ⟨_, _, rfl, rfl, .of (by rfl) (.pure pul)⟩, trivial⟩
      · have h82 : r = (max (dg a i) (dg b i)) := by have := of_decide_eq_false hc82; omega
        subst h82
        refine at_exit ?_
        refine x_te ?_
        refine x_te ?_
        refine x_be ?_
        refine x_tn ?_
        refine at_seq ?_
        refine at_region ?_
        refine s1 (y_loadA0 ti23 rfl rfl (by rw [List.length_map]; exact hxr)) rfl <| s1 (y_loadA0 ti23 rfl rfl (by rw [List.length_map]; exact hxr)) rfl <| s1 ((y_aqn Tryd.underlying23 Tryd.underlying5 ti5 (by kernel_rfl) rfl rfl (by first | assumption | (simp; done) | (simp [*]; done)) (by first | assumption | (simp; done) | (simp [*]; done))).v (v' := .b false) (congrArg A.b (by simp))) rfl <| ?_
        refine at_nil ?_
        refine x_tn ?_
        refine at_else rfl ?_
        refine at_skip ?_
        refine x_bn ?_
        refine x_tn ?_
        refine at_region ?_
        refine s1 (addN _ 1 rfl rfl rfl rfl (by omega)) rfl <| s1 (y_p rfl) rfl <| ?_
        refine at_nil ?_
        exact at_end (i + 1) (by omega) (by omega) [] hI rfl rfl ⟨⟨_, rfl, .pure pu⟩, ⟨_, rfl, .pure pu⟩, ⟨_, rfl, .pure pu⟩, ⟨_, rfl, .pure pu⟩, ⟨_, rfl, .pure pu⟩, ⟨_, rfl, .pure pu⟩, ⟨_, rfl, .pure pu⟩, trivial⟩ trivial
  · skip
    refine at_exit ?_
    refine x_te ?_
    refine x_te ?_
    refine x_be ?_
    refine x_tn ?_
    refine at_seq ?_
    refine at_region ?_
    refine s1 (y_p rfl) rfl <| ?_
    refine at_nil ?_
    refine x_tn ?_
    refine at_ret ?_
    refine at_result (rs := [.tmp 6]) rfl (r_tmp rfl r_nil) rfl

theorem ver_19 (x p m : List UInt8) (hp : p.length = 32) (hm : m.length = 32) : Con Tryd.prog 23 [.ag (p.map u8), .ag (m.map u8), .fz 19 ((signD x m).flatten.map u8)] (Ret (.b (pubD x == p))) := by
  have := verify_ok p m (signD x m) hp hm (D32_signL x m 19)
  rwa [ver_sign, dgs, len_signL] at this

set_option linter.unusedSimpArgs false in
set_option linter.unusedVariables false in
set_option maxHeartbeats 1000000 in
theorem law_forge (x a b o : List UInt8) (hx : x.length = 32) (ha : a.length = 32) (hb : b.length = 32) (ho : o.length = 32) : Con Tryd.prog 9 [.ag (x.map u8), .ag (a.map u8), .ag (b.map u8), .ag (o.map u8)] (Ret (.b true)) := by
  refine enter Tryd.func9 rfl Tryd.ntmps9 (by kernel_rfl) (Nat.le_of_ble_eq_true rfl) fun w0 X0 hI => ?_
  refine at_seq ?_
  refine at_region ?_
  refine at_op rfl (n_boxA 4 rfl rfl rfl ?_)
  refine at_op rfl (n_boxA 5 rfl rfl rfl ?_)
  refine at_op rfl (n_boxA 6 rfl rfl rfl ?_)
  refine at_op rfl (n_boxA 7 rfl rfl rfl ?_)
  refine s1 (y_p rfl) rfl <| ?_
  refine at_nil ?_
  refine x_tn ?_
  refine at_seq ?_
  refine at_seq ?_
  refine at_region ?_
  refine at_op rfl (n_call false rfl (.nil) (sane_ok) pu (.inl rfl) rfl ?_)
  refine s1 (y_p rfl) rfl <| ?_
  refine at_nil ?_
  refine x_tn ?_
  refine at_else rfl ?_
  refine at_skip ?_
  refine x_tn ?_
  refine at_seq ?_
  refine at_fs ⟨_, [], []⟩ 8 4 hmix (le_refl rfl) ?_
  refine fs_q 0 [] [(5, none)] (y_loadA0 ti23 rfl rfl (by first | rfl | omega | (simp; done) | (simp [*]; done) | (simp; omega) | (simp [*]; omega) | (simp [D32.len, -List.length_flatten, *]; done) | (simp [D32.len, -List.length_flatten, *]; omega))) rfl rfl ?_
  refine fs_call false 1 [0] [] gy0 rfl (.cons (.pure pu) (.nil)) (digits_ok a ha) pu (.inl rfl) rfl rfl ?_
  refine fs_q 2 [] [(6, none)] (y_loadA0 ti23 rfl rfl (by first | rfl | omega | (simp; done) | (simp [*]; done) | (simp; omega) | (simp [*]; omega) | (simp [D32.len, -List.length_flatten, *]; done) | (simp [D32.len, -List.length_flatten, *]; omega))) rfl rfl ?_
  refine fs_call false 3 [2] [] gy0 rfl (.cons (.pure pu) (.nil)) (digits_ok b hb) pu (.inl rfl) rfl rfl ?_
  refine fs_q 4 [] [(7, none)] (y_loadA0 ti23 rfl rfl (by first | rfl | omega | (simp; done) | (simp [*]; done) | (simp; omega) | (simp [*]; omega) | (simp [D32.len, -List.length_flatten, *]; done) | (simp [D32.len, -List.length_flatten, *]; omega))) rfl rfl ?_
  refine fs_call false 5 [4] [] gy0 rfl (.cons (.pure pu) (.nil)) (digits_ok o ho) pu (.inl rfl) rfl rfl ?_
  refine fs_q 6 [1] [] (y_p rfl) rfl rfl ?_
  refine fs_q 7 [3] [] (y_p rfl) rfl rfl ?_
  refine fs_end (by kernel_rfl) ?_
  refine s1 (y_p rfl) rfl <| ?_
  refine at_nil ?_
  refine x_tn ?_
  refine at_seq ?_
  refine at_fs ⟨_, [], []⟩ 7 4 hmix (le_refl rfl) ?_
  refine fs_q 0 [] [(4, none)] (y_loadA0 ti23 rfl rfl (by first | rfl | omega | (simp; done) | (simp [*]; done) | (simp; omega) | (simp [*]; omega) | (simp [D32.len, -List.length_flatten, *]; done) | (simp [D32.len, -List.length_flatten, *]; omega))) rfl rfl ?_
  refine fs_q 1 [] [(5, none)] (y_loadA0 ti23 rfl rfl (by first | rfl | omega | (simp; done) | (simp [*]; done) | (simp; omega) | (simp [*]; omega) | (simp [D32.len, -List.length_flatten, *]; done) | (simp [D32.len, -List.length_flatten, *]; omega))) rfl rfl ?_
  refine fs_call false 2 [0, 1] [] gy0 rfl (.cons (.pure pu) (.cons (.pure pu) (.nil))) (sign_ok x a hx ha) pu (.inl rfl) rfl rfl ?_
  refine fs_q 3 [] [(4, none)] (y_loadA0 ti23 rfl rfl (by first | rfl | omega | (simp; done) | (simp [*]; done) | (simp; omega) | (simp [*]; omega) | (simp [D32.len, -List.length_flatten, *]; done) | (simp [D32.len, -List.length_flatten, *]; omega))) rfl rfl ?_
  refine fs_q 4 [] [(6, none)] (y_loadA0 ti23 rfl rfl (by first | rfl | omega | (simp; done) | (simp [*]; done) | (simp; omega) | (simp [*]; omega) | (simp [D32.len, -List.length_flatten, *]; done) | (simp [D32.len, -List.length_flatten, *]; omega))) rfl rfl ?_
  refine fs_call false 5 [3, 4] [] gy0 rfl (.cons (.pure pu) (.cons (.pure pu) (.nil))) (sign_ok x b hx hb) pu (.inl rfl) rfl rfl ?_
  refine fs_q 6 [2] [] (y_p rfl) rfl rfl ?_
  refine fs_end (by kernel_rfl) ?_
  refine s1 (y_p rfl) rfl <| ?_
  refine at_nil ?_
  refine x_tn ?_
  refine at_seq ?_
  refine at_seq ?_
  refine at_region ?_
  refine s1 (y_p rfl) rfl <| s1 (y_len Tryd.underlying29 rfl rfl rfl) rfl <| s1 ((y_p rfl).v (v' := .b false) (congrArg A.b (by decide))) rfl <| s1 ((y_p rfl).v (v' := .b false) (rfl)) rfl <| g1 rfl rfl (y_p rfl) rfl <| g1 rfl rfl (y_len Tryd.underlying29 rfl rfl rfl) rfl <| g1 rfl rfl ((y_p rfl).v (v' := .b false) (congrArg A.b (by decide))) rfl <| s1 ((y_p rfl).v (v' := .b false) (rfl)) rfl <| s1 ((y_p rfl).v (v' := .b false) (rfl)) rfl <| g1 rfl rfl (y_p rfl) rfl <| ?_
  refine g1 rfl rfl (y_len Tryd.underlying29 rfl rfl rfl) rfl <| g1 rfl rfl ((y_p rfl).v (v' := .b false) (congrArg A.b (by decide))) rfl <| s1 ((y_p rfl).v (v' := .b false) (rfl)) rfl <| s1 ((y_p rfl).v (v' := .b false) (rfl)) rfl <| g1 rfl rfl (y_p rfl) rfl <| g1 rfl rfl (y_len Tryd.underlying24 rfl rfl rfl) rfl <| g1 rfl rfl ((y_p rfl).v (v' := .b false) (congrArg A.b (by simp))) rfl <| s1 ((y_p rfl).v (v' := .b false) (rfl)) rfl <| s1 ((y_p rfl).v (v' := .b false) (rfl)) rfl <| g1 rfl rfl (y_p rfl) rfl <| ?_
  refine g1 rfl rfl (y_len Tryd.underlying24 rfl rfl rfl) rfl <| g1 rfl rfl ((y_p rfl).v (v' := .b false) (congrArg A.b (by simp))) rfl <| s1 ((y_p rfl).v (v' := .b false) (rfl)) rfl <| ?_
  refine at_nil ?_
  refine x_tn ?_
  refine at_else rfl ?_
  refine at_skip ?_
  refine x_tn ?_
  refine at_seq ?_
  refine at_region ?_
  refine s1 (y_p rfl) rfl <| ?_
  refine at_nil ?_
  refine x_tn ?_
  refine at_seq ?_
  refine at_seq ?_
  refine at_region ?_
  refine s1 (y_p rfl) rfl <| s1 (y_len Tryd.underlying29 rfl rfl rfl) rfl <| s1 ((y_p rfl).v (v' := .i .i64 0) rfl) rfl <| ?_
  refine at_nil ?_
  refine x_tn ?_
  refine at_block ?_
  refine at_loop (ι := Nat) (fun i => [(4, .p 4 0), (7, .p 7 0), (9, .fz 19 ((digits a).map nI)), (10, .fz 19 ((digits b).map nI)), (11, .fz 19 ((digits o).map nI)), (12, dgs (signD x a)), (13, dgs (signD x b)), (14, .sl 14 32 0 i), (55, .fz 19 ((digits o).map nI)), (56, nI 19), (57, nI i)]) (fun i => ⟨[(4, some (x.map u8)), (7, some (o.map u8)), (14, some ((signL x o i).flatten.map u8))]⟩) (fun i => i ≤ 19) (fun i => 19 - i) ?_ ?_
  · exact at_ex (0) (Nat.zero_le _) [(4, some 4), (7, some 7), (14, none)] hI rfl rfl ⟨⟨_, rfl, .p rfl⟩, ⟨_, rfl, .p rfl⟩, ⟨_, rfl, .pure pu⟩, ⟨_, rfl, .pure pu⟩, ⟨_, rfl, .pure pu⟩, ⟨_, rfl, .pure pu⟩, ⟨_, rfl, .pure pu⟩, ⟨_, rfl, .nl rfl⟩, ⟨_, rfl, .pure pu⟩, ⟨_, rfl, .pure pu⟩, ⟨_, rfl, .pure pu⟩, trivial⟩ ⟨.inr ⟨_, _, rfl, rfl, .pure pul⟩, .inr ⟨_, _, rfl, rfl, .pure pul⟩, .inl ⟨rfl, rfl⟩, trivial⟩
  rintro i hi
  have hai := dg_lt a i
  have hbi := dg_lt b i
  have hoi := dg_lt o i
  have hla : (signD x a).length = 19 := len_signL x a 19
  have hlb : (signD x b).length = 19 := len_signL x b 19
  have hDi := D32_signL x o i
  refine at_seq ?_
  refine at_region ?_
  refine s1 (y_p rfl) rfl <| ?_
  refine at_nil ?_
  refine x_tn ?_
  refine at_seq ?_
  refine at_cond rfl (fun hc58 => ?_) (fun hc58 => ?_)
  · have h58 : i < 19 := by have := of_decide_eq_true hc58; omega
    refine at_skip ?_
    refine x_tn ?_
    refine at_seq ?_
    refine at_block ?_
    refine at_seq ?_
    refine at_region ?_
    refine s1 (y_p rfl) rfl <| s1 (y_p rfl) rfl <| ?_
    refine at_nil ?_
    refine x_tn ?_
    refine at_seq ?_
    refine at_fs ⟨_, [], []⟩ 10 4 hmix (le_refl rfl) ?_
    refine fs_q 0 [] [] (y_p rfl) rfl rfl ?_
    refine fs_q 1 [] [] (y_p rfl) rfl rfl ?_
    refine fs_q 2 [0, 1] [] (y_ixf i Tryd.underlying29 ti3 rfl rfl rfl (by omega) rfl) rfl rfl ?_
    refine fs_q 3 [2] [] (y_load ti3 rfl rfl (get_dig3 a i h58)) rfl rfl ?_
    refine fs_q 4 [] [] (y_p rfl) rfl rfl ?_
    refine fs_q 5 [] [] (y_p rfl) rfl rfl ?_
    refine fs_q 6 [4, 5] [] (y_ixf i Tryd.underlying24 ti23 rfl rfl rfl (by omega) rfl) rfl rfl ?_
    refine fs_q 7 [6] [] (y_loadA ti23 rfl rfl (get_d5 (D32_signL x a 19) (get_sign x a h58)) (by rw [List.length_map]; exact len_iterD (by simp) _)) rfl rfl ?_
    refine fs_alloc 17 8 [] gy0 ti23 rfl rfl rfl ?_
    refine fs_q 9 [3] [] (y_p rfl) rfl rfl ?_
    refine fs_end (by kernel_rfl) ?_
    refine at_op rfl (n_storeA ti23 rfl rfl rfl (by first | (simp; done) | (rw [List.length_map]; exact len_iterD (by simp) _)) (by first | (simp; done) | (rw [List.length_map]; exact len_iterD (by simp) _)) ?_)
    refine at_nil ?_
    refine x_tn ?_
    refine at_seq ?_
    refine at_seq ?_
    refine at_region ?_
    refine s1 (y_p rfl) rfl <| s1 (y_p rfl) rfl <| s1 (y_ixf i Tryd.underlying29 ti3 rfl rfl rfl (by omega) rfl) rfl <| s1 (y_load ti3 rfl rfl (get_dig3 b i h58)) rfl <| s1 (y_p rfl) rfl <| s1 (y_p rfl) rfl <| ?_
    refine at_nil ?_
    refine x_tn ?_
    refine at_cond rfl (fun hc73 => ?_) (fun hc73 => ?_)
    · have h73 : dg b i < dg a i := by have := of_decide_eq_true hc73; omega
      refine at_draw_tail 9 hmix (by kernel_rfl) ?_
      refine t1 (y_p rfl) rfl <| t1 (y_p rfl) rfl <| t1 (y_ixf i Tryd.underlying29 ti3 rfl rfl rfl (by omega) rfl) rfl <| t1 (y_load ti3 rfl rfl (get_dig3 b i h58)) rfl <| t1 (y_p rfl) rfl <| t1 (y_p rfl) rfl <| t1 (y_ixf i Tryd.underlying24 ti23 rfl rfl rfl (by omega) rfl) rfl <| t1 (y_loadA ti23 rfl rfl (get_d5 (D32_signL x b 19) (get_sign x b h58)) (by rw [List.length_map]; exact len_iterD (by simp) _)) rfl <| t1 (y_p rfl) rfl <| ?_
      refine at_snil ?_
      refine at_op rfl (n_storeA ti23 rfl rfl rfl (by first | (simp; done) | (rw [List.length_map]; exact len_iterD (by simp) _)) (by first | (simp; done) | (rw [List.length_map]; exact len_iterD (by simp) _)) ?_)
      refine at_nil ?_
      refine x_tn ?_
      refine at_seq ?_
      refine at_seq ?_
      refine at_say 16 rfl (v' := nI (min (dg a i) (dg b i))) (congrArg nI (by omega)) ?_
      refine at_sayO 17 rfl (cs' := (iterD (min (dg a i) (dg b i)) (firstD x i)).map u8) (by rw [show (min (dg a i) (dg b i)) = dg b i by omega]) ?_
      refine at_region ?_
      refine s1 (y_p rfl) rfl <| s1 (y_p rfl) rfl <| s1 (y_ixf i Tryd.underlying29 ti3 rfl rfl rfl (by omega) rfl) rfl <| s1 (y_load ti3 rfl rfl (get_dig3 o i h58)) rfl <| s1 (y_p rfl) rfl <| s1 (y_p rfl) rfl <| ?_
      refine at_nil ?_
      refine x_tn ?_
      refine at_cond rfl (fun hc87 => ?_) (fun hc87 => ?_)
      · skip
        refine at_seq ?_
        refine at_region ?_
        refine s1 (y_p rfl) rfl <| ?_
        refine at_nil ?_
        refine x_tn ?_
        refine at_ret ?_
        refine x_tr ?_
        refine x_br ?_
        refine x_tr ?_
        refine x_tr ?_
        refine x_br ?_
        refine x_tr ?_
        refine at_result (rs := [.tmp 8]) rfl (r_tmp rfl r_nil) rfl
      · have h87 : (min (dg a i) (dg b i)) ≤ dg o i := by have := of_decide_eq_false hc87; omega
        refine at_skip ?_
        refine x_tn ?_
        refine at_seq ?_
        refine at_block ?_
        refine at_loop (ι := Nat) (fun n => [(4, .p 4 0), (7, .p 7 0), (9, .fz 19 ((digits a).map nI)), (10, .fz 19 ((digits b).map nI)), (11, .fz 19 ((digits o).map nI)), (12, dgs (signD x a)), (13, dgs (signD x b)), (14, .sl 14 32 0 i), (15, nI i), (16, nI n), (17, .p 17 0), (55, .fz 19 ((digits o).map nI)), (56, nI 19), (57, nI i)]) (fun n => ⟨[(4, some (x.map u8)), (7, some (o.map u8)), (14, some ((signL x o i).flatten.map u8)), (17, some ((iterD n (firstD x i)).map u8))]⟩) (fun n => (min (dg a i) (dg b i)) ≤ n ∧ n ≤ dg o i) (fun n => dg o i - n) ?_ ?_
        · exact at_ex ((min (dg a i) (dg b i))) (⟨Nat.le_refl _, h87⟩) [(4, some 4), (7, some 7), (14, some 14), (17, some 17)] hI rfl rfl ⟨⟨_, rfl, .p rfl⟩, ⟨_, rfl, .p rfl⟩, ⟨_, rfl, .pure pu⟩, ⟨_, rfl, .pure pu⟩, ⟨_, rfl, .pure pu⟩, ⟨_, rfl, .pure pu⟩, ⟨_, rfl, .pure pu⟩, ⟨_, rfl, .sl rfl (by first | rfl | omega | (simp; done) | (simp [*]; done) | (simp; omega) | (simp [*]; omega) | (simp [D32.len, -List.length_flatten, *]; done) | (simp [D32.len, -List.length_flatten, *]; omega))⟩, ⟨_, rfl, .pure pu⟩, ⟨_, rfl, .pure pu⟩, ⟨_, rfl, .p rfl⟩, ⟨_, rfl, .pure pu⟩, ⟨_, rfl, .pure pu⟩, ⟨_, rfl, .pure pu⟩, trivial⟩ ⟨.inr ⟨_, _, rfl, rfl, .pure pul⟩, .inr ⟨_, _, rfl, rfl, .pure pul⟩, .inr ⟨_, _, rfl, rfl, .pure pul⟩, .inr ⟨_, _, rfl, rfl, .pure pul⟩, trivial⟩
        rintro n ⟨hn1, hn2⟩
        have hxn := len_iterD (len_firstD x i) n
        refine at_seq ?_
        refine at_seq ?_
        refine at_region ?_
        refine s1 (y_p rfl) rfl <| s1 (y_p rfl) rfl <| s1 (y_p rfl) rfl <| s1 (y_ixf i Tryd.underlying29 ti3 rfl rfl rfl (by omega) rfl) rfl <| s1 (y_load ti3 rfl rfl (get_dig3 o i h58)) rfl <| s1 (y_p rfl) rfl <| ?_
        refine at_nil ?_
        refine x_tn ?_
        refine at_cond rfl (fun hc93 => ?_) (fun hc93 => ?_)
        · have h93 : n < dg o i := by have := of_decide_eq_true hc93; omega
          refine at_skip ?_
          refine x_tn ?_
          refine at_seq ?_
          refine at_block ?_
          refine at_region ?_
          refine s1 (y_loadA0 ti23 rfl rfl (by rw [List.length_map]; exact hxn)) rfl <| ?_
          refine at_op rfl (n_call false rfl (.cons (.pure pu) (.nil)) (lstep_ok (iterD n (firstD x i)) hxn) pu (.inl rfl) rfl ?_)
          refine at_op rfl (n_storeA ti23 rfl rfl rfl (by first | (simp; done) | (rw [List.length_map]; exact len_iterD (by simp) _)) (by first | (simp; done) | (rw [List.length_map]; exact len_iterD (by simp) _)) ?_)
          refine at_nil ?_
          refine x_bn ?_
          refine x_tn ?_
          refine at_region ?_
          refine s1 (y_p rfl) rfl <| s1 (addN _ 1 rfl rfl rfl rfl (by omega)) rfl <| s1 (y_p rfl) rfl <| ?_
          refine at_nil ?_
          exact at_end (n + 1) (⟨by omega, by omega⟩) (by omega) [(4, some 4), (7, some 7), (14, some 14), (17, some 17)] hI rfl rfl ⟨⟨_, rfl, .p rfl⟩, ⟨_, rfl, .p rfl⟩, ⟨_, rfl, .pure pu⟩, ⟨_, rfl, .pure pu⟩, ⟨_, rfl, .pure pu⟩, ⟨_, rfl, .pure pu⟩, ⟨_, rfl, .pure pu⟩, ⟨_, rfl, .sl rfl (by first | rfl | omega | (simp; done) | (simp [*]; done) | (simp; omega) | (simp [*]; omega) | (simp [D32.len, -List.length_flatten, *]; done) | (simp [D32.len, -List.length_flatten, *]; omega))⟩, ⟨_, rfl, .pure pu⟩, ⟨_, rfl, .pure pu⟩, ⟨_, rfl, .p rfl⟩, ⟨_, rfl, .pure pu⟩, ⟨_, rfl, .pure pu⟩, ⟨_, rfl, .pure pu⟩, trivial⟩ ⟨.inr ⟨_, _, rfl, rfl, .pure pul⟩, .inr ⟨_, _, rfl, rfl, .pure pul⟩, .inr ⟨_, _, rfl, rfl, .pure pul⟩, .inr ⟨_, _, rfl, rfl, .of (by rfl) (.pure pul)⟩, trivial⟩
        · have h93 : n = dg o i := by have := of_decide_eq_false hc93; omega
          subst h93
          refine at_exit ?_
          refine x_te ?_
          refine x_te ?_
          refine x_be ?_
          refine x_tn ?_
          refine at_region ?_
          refine s1 (y_p rfl) rfl <| s1 (y_loadA0 ti23 rfl rfl (by rw [List.length_map]; exact hxn)) rfl <| ?_
          refine at_op rfl (n_bs 100 rfl Tryd.underlying24 ti23 rfl rfl rfl (by simp [cellsA, len_iterD]) (List.append_nil ((iterD (dg o i) (firstD x i)).map u8)) rfl rfl rfl ?_)
          refine at_op rfl (n_app 101 rfl Tryd.underlying24 ti23 rfl (.sl rfl (by rw [List.length_map, hDi.len, len_signL])) rfl (SM_full rfl (by rw [List.length_map, len_iterD (by simp)])) (by simp [len_iterD]) (by simp only [maxLen]; omega) (by omega) rfl rfl rfl ?_)
          refine s1 (y_p rfl) rfl <| ?_
          refine at_nil ?_
          refine x_bn ?_
          refine x_tn ?_
          refine at_region ?_
          refine s1 (addN _ 1 rfl rfl rfl rfl (by omega)) rfl <| s1 (y_p rfl) rfl <| ?_
          refine at_nil ?_
          exact at_end (i + 1) (by omega) (by omega) [(4, some 4), (7, some 7), (14, some 101)] hI rfl rfl ⟨⟨_, rfl, .p rfl⟩, ⟨_, rfl, .p rfl⟩, ⟨_, rfl, .pure pu⟩, ⟨_, rfl, .pure pu⟩, ⟨_, rfl, .pure pu⟩, ⟨_, rfl, .pure pu⟩, ⟨_, rfl, .pure pu⟩, ⟨_, rfl, .sl rfl (by first | rfl | omega | (simp; done) | (simp [*]; done) | (simp; omega) | (simp [*]; omega) | (simp [D32.len, -List.length_flatten, *]; done) | (simp [D32.len, -List.length_flatten, *]; omega))⟩, ⟨_, rfl, .pure pu⟩, ⟨_, rfl, .pure pu⟩, ⟨_, rfl, .pure pu⟩, trivial⟩ ⟨.inr ⟨_, _, rfl, rfl, .pure pul⟩, .inr ⟨_, _, rfl, rfl, .pure pul⟩, .inr ⟨_, _, rfl, rfl, .of (sign_flat x o i) (.pure pul)⟩, trivial⟩
    · have h73 : ¬ dg b i < dg a i := by have := of_decide_eq_false hc73; omega
      refine at_skip ?_
      refine x_tn ?_
      refine at_seq ?_
      refine at_seq ?_
      refine at_say 16 rfl (v' := nI (min (dg a i) (dg b i))) (congrArg nI (by omega)) ?_
      refine at_sayO 17 rfl (cs' := (iterD (min (dg a i) (dg b i)) (firstD x i)).map u8) (by rw [show (min (dg a i) (dg b i)) = dg a i by omega]) ?_
      refine at_region ?_
      refine s1 (y_p rfl) rfl <| s1 (y_p rfl) rfl <| s1 (y_ixf i Tryd.underlying29 ti3 rfl rfl rfl (by omega) rfl) rfl <| s1 (y_load ti3 rfl rfl (get_dig3 o i h58)) rfl <| s1 (y_p rfl) rfl <| s1 (y_p rfl) rfl <| ?_
      refine at_nil ?_
      refine x_tn ?_
      refine at_cond rfl (fun hc87 => ?_) (fun hc87 => ?_)
      · skip
        refine at_seq ?_
        refine at_region ?_
        refine s1 (y_p rfl) rfl <| ?_
        refine at_nil ?_
        refine x_tn ?_
        refine at_ret ?_
        refine x_tr ?_
        refine x_br ?_
        refine x_tr ?_
        refine x_tr ?_
        refine x_br ?_
        refine x_tr ?_
        refine at_result (rs := [.tmp 8]) rfl (r_tmp rfl r_nil) rfl
      · have h87 : (min (dg a i) (dg b i)) ≤ dg o i := by have := of_decide_eq_false hc87; omega
        refine at_skip ?_
        refine x_tn ?_
        refine at_seq ?_
        refine at_block ?_
        refine at_loop (ι := Nat) (fun n => [(4, .p 4 0), (7, .p 7 0), (9, .fz 19 ((digits a).map nI)), (10, .fz 19 ((digits b).map nI)), (11, .fz 19 ((digits o).map nI)), (12, dgs (signD x a)), (13, dgs (signD x b)), (14, .sl 14 32 0 i), (15, nI i), (16, nI n), (17, .p 17 0), (55, .fz 19 ((digits o).map nI)), (56, nI 19), (57, nI i)]) (fun n => ⟨[(4, some (x.map u8)), (7, some (o.map u8)), (14, some ((signL x o i).flatten.map u8)), (17, some ((iterD n (firstD x i)).map u8))]⟩) (fun n => (min (dg a i) (dg b i)) ≤ n ∧ n ≤ dg o i) (fun n => dg o i - n) ?_ ?_
        · exact at_ex ((min (dg a i) (dg b i))) (⟨Nat.le_refl _, h87⟩) [(4, some 4), (7, some 7), (14, some 14), (17, some 17)] hI rfl rfl ⟨⟨_, rfl, .p rfl⟩, ⟨_, rfl, .p rfl⟩, ⟨_, rfl, .pure pu⟩, ⟨_, rfl, .pure pu⟩, ⟨_, rfl, .pure pu⟩, ⟨_, rfl, .pure pu⟩, ⟨_, rfl, .pure pu⟩, ⟨_, rfl, .sl rfl (by first | rfl | omega | (simp; done) | (simp [*]; done) | (simp; omega) | (simp [*]; omega) | (simp [D32.len, -List.length_flatten, *]; done) | (simp [D32.len, -List.length_flatten, *]; omega))⟩, ⟨_, rfl, .pure pu⟩, ⟨_, rfl, .pure pu⟩, ⟨_, rfl, .p rfl⟩, ⟨_, rfl, .pure pu⟩, ⟨_, rfl, .pure pu⟩, ⟨_, rfl, .pure pu⟩, trivial⟩ ⟨.inr ⟨_, _, rfl, rfl, .pure pul⟩, .inr ⟨_, _, rfl, rfl, .pure pul⟩, .inr ⟨_, _, rfl, rfl, .pure pul⟩, .inr ⟨_, _, rfl, rfl, .pure pul⟩, trivial⟩
        rintro n ⟨hn1, hn2⟩
        have hxn := len_iterD (len_firstD x i) n
        refine at_seq ?_
        refine at_seq ?_
        refine at_region ?_
        refine s1 (y_p rfl) rfl <| s1 (y_p rfl) rfl <| s1 (y_p rfl) rfl <| s1 (y_ixf i Tryd.underlying29 ti3 rfl rfl rfl (by omega) rfl) rfl <| s1 (y_load ti3 rfl rfl (get_dig3 o i h58)) rfl <| s1 (y_p rfl) rfl <| ?_
        refine at_nil ?_
        refine x_tn ?_
        refine at_cond rfl (fun hc93 => ?_) (fun hc93 => ?_)
        · have h93 : n < dg o i := by have := of_decide_eq_true hc93; omega
          refine at_skip ?_
          refine x_tn ?_
          refine at_seq ?_
          refine at_block ?_
          refine at_region ?_
          refine s1 (y_loadA0 ti23 rfl rfl (by rw [List.length_map]; exact hxn)) rfl <| ?_
          refine at_op rfl (n_call false rfl (.cons (.pure pu) (.nil)) (lstep_ok (iterD n (firstD x i)) hxn) pu (.inl rfl) rfl ?_)
          refine at_op rfl (n_storeA ti23 rfl rfl rfl (by first | (simp; done) | (rw [List.length_map]; exact len_iterD (by simp) _)) (by first | (simp; done) | (rw [List.length_map]; exact len_iterD (by simp) _)) ?_)
          refine at_nil ?_
          refine x_bn ?_
          refine x_tn ?_
          refine at_region ?_
          refine s1 (y_p rfl) rfl <| s1 (addN _ 1 rfl rfl rfl rfl (by omega)) rfl <| s1 (y_p rfl) rfl <| ?_
          refine at_nil ?_
          exact at_end (n + 1) (⟨by omega, by omega⟩) (by omega) [(4, some 4), (7, some 7), (14, some 14), (17, some 17)] hI rfl rfl ⟨⟨_, rfl, .p rfl⟩, ⟨_, rfl, .p rfl⟩, ⟨_, rfl, .pure pu⟩, ⟨_, rfl, .pure pu⟩, ⟨_, rfl, .pure pu⟩, ⟨_, rfl, .pure pu⟩, ⟨_, rfl, .pure pu⟩, ⟨_, rfl, .sl rfl (by first | rfl | omega | (simp; done) | (simp [*]; done) | (simp; omega) | (simp [*]; omega) | (simp [D32.len, -List.length_flatten, *]; done) | (simp [D32.len, -List.length_flatten, *]; omega))⟩, ⟨_, rfl, .pure pu⟩, ⟨_, rfl, .pure pu⟩, ⟨_, rfl, .p rfl⟩, ⟨_, rfl, .pure pu⟩, ⟨_, rfl, .pure pu⟩, ⟨_, rfl, .pure pu⟩, trivial⟩ ⟨.inr ⟨_, _, rfl, rfl, .pure pul⟩, .inr ⟨_, _, rfl, rfl, .pure pul⟩, .inr ⟨_, _, rfl, rfl, .pure pul⟩, .inr ⟨_, _, rfl, rfl, .of (by rfl) (.pure pul)⟩, trivial⟩
        · have h93 : n = dg o i := by have := of_decide_eq_false hc93; omega
          subst h93
          refine at_exit ?_
          refine x_te ?_
          refine x_te ?_
          refine x_be ?_
          refine x_tn ?_
          refine at_region ?_
          refine s1 (y_p rfl) rfl <| s1 (y_loadA0 ti23 rfl rfl (by rw [List.length_map]; exact hxn)) rfl <| ?_
          refine at_op rfl (n_bs 100 rfl Tryd.underlying24 ti23 rfl rfl rfl (by simp [cellsA, len_iterD]) (List.append_nil ((iterD (dg o i) (firstD x i)).map u8)) rfl rfl rfl ?_)
          refine at_op rfl (n_app 101 rfl Tryd.underlying24 ti23 rfl (.sl rfl (by rw [List.length_map, hDi.len, len_signL])) rfl (SM_full rfl (by rw [List.length_map, len_iterD (by simp)])) (by simp [len_iterD]) (by simp only [maxLen]; omega) (by omega) rfl rfl rfl ?_)
          refine s1 (y_p rfl) rfl <| ?_
          refine at_nil ?_
          refine x_bn ?_
          refine x_tn ?_
          refine at_region ?_
          refine s1 (addN _ 1 rfl rfl rfl rfl (by omega)) rfl <| s1 (y_p rfl) rfl <| ?_
          refine at_nil ?_
          exact at_end (i + 1) (by omega) (by omega) [(4, some 4), (7, some 7), (14, some 101)] hI rfl rfl ⟨⟨_, rfl, .p rfl⟩, ⟨_, rfl, .p rfl⟩, ⟨_, rfl, .pure pu⟩, ⟨_, rfl, .pure pu⟩, ⟨_, rfl, .pure pu⟩, ⟨_, rfl, .pure pu⟩, ⟨_, rfl, .pure pu⟩, ⟨_, rfl, .sl rfl (by first | rfl | omega | (simp; done) | (simp [*]; done) | (simp; omega) | (simp [*]; omega) | (simp [D32.len, -List.length_flatten, *]; done) | (simp [D32.len, -List.length_flatten, *]; omega))⟩, ⟨_, rfl, .pure pu⟩, ⟨_, rfl, .pure pu⟩, ⟨_, rfl, .pure pu⟩, trivial⟩ ⟨.inr ⟨_, _, rfl, rfl, .pure pul⟩, .inr ⟨_, _, rfl, rfl, .pure pul⟩, .inr ⟨_, _, rfl, rfl, .of (sign_flat x o i) (.pure pul)⟩, trivial⟩
  · have h58 : i = 19 := by have := of_decide_eq_false hc58; omega
    subst h58
    refine at_exit ?_
    refine x_te ?_
    refine x_te ?_
    refine x_be ?_
    refine x_tn ?_
    refine at_seq ?_
    refine at_fs ⟨_, [], []⟩ 5 4 hmix (le_refl rfl) ?_
    refine fs_q 0 [] [(4, none)] (y_loadA0 ti23 rfl rfl (by first | rfl | omega | (simp; done) | (simp [*]; done) | (simp; omega) | (simp [*]; omega) | (simp [D32.len, -List.length_flatten, *]; done) | (simp [D32.len, -List.length_flatten, *]; omega))) rfl rfl ?_
    refine fs_call false 1 [0] [] gy0 rfl (.cons (.pure pu) (.nil)) (public_ok x hx) pu (.inl rfl) rfl rfl ?_
    refine fs_q 2 [] [(7, none)] (y_loadA0 ti23 rfl rfl (by first | rfl | omega | (simp; done) | (simp [*]; done) | (simp; omega) | (simp [*]; omega) | (simp [D32.len, -List.length_flatten, *]; done) | (simp [D32.len, -List.length_flatten, *]; omega))) rfl rfl ?_
    refine fs_q 3 [] [(14, none)] (y_p rfl) rfl rfl ?_
    refine fs_call true 4 [1, 2, 3] [(14, none)] gy0 rfl (.cons (.pure pu) (.cons (.pure pu) (.cons (.sl rfl rfl rfl (view_eq (by rw [List.length_map, (D32_signL x o _).len, len_signL]) rfl) (VwL.pure pul) pul) .nil))) (Con.cast (ver_19 x (pubD x) o (by simp) ho) (by rw [beq_self_eq_true])) pu (.inr fu) rfl rfl ?_
    refine fs_end (by kernel_rfl) ?_
    refine s1 (y_p rfl) rfl <| ?_
    refine at_nil ?_
    refine x_tn ?_
    refine at_ret ?_
    refine at_result (rs := [.tmp 8]) rfl (r_tmp rfl r_nil) rfl

end Go.Abs.D2
