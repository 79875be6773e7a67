/-
  Layer 2: walks of the digest functions. Conditions: each theorem says its own.
-/
import Derived.Test.YtpchamaioceahaaDoorD2T2
import Derived.Test.YtpchamaioceahaaDoorD2U
import Derived.Test.YtpchamaioceahaaDoorAbsK
namespace Go.Abs.D2
open Go Go.Eng Go.Abs Go.Proofs 

set_option linter.unusedSimpArgs false in
set_option maxHeartbeats 1000000 in
theorem pathI_ok (L : List (List UInt8)) (a : Int) (hD : D32 L) (hl : L.length ≤ 1048576) : Con Tryd.prog 19 [dgs L, .i .i64 a] (Ret (pathA L a)) := by
  refine enter Tryd.func19 rfl Tryd.ntmps19 (by kernel_rfl) (Nat.le_of_ble_eq_true rfl) fun w0 X0 hI => ?_
  refine at_seq ?_
  refine at_region ?_
  refine s1 (y_p rfl) rfl <| s1 ((y_p rfl).v (v' := .i .i64 0) rfl) rfl <| ?_
  refine at_nil ?_
  refine x_tn ?_
  refine at_seq ?_
  refine at_seq ?_
  refine at_region ?_
  refine s1 (y_p rfl) rfl <| s1 (y_p rfl) rfl <| s1 (y_p rfl) rfl <| ?_
  refine g_or 4 rfl rfl rfl rfl (fun hb8 => .step (y_p rfl) rfl rfl <| .step (y_p rfl) rfl rfl <| .step (y_len Tryd.underlying30 rfl rfl rfl) rfl rfl <| .step (y_p rfl) rfl rfl <| .done) rfl rfl ?_
  refine at_nil ?_
  refine x_tn ?_
  refine at_cond rfl (fun hc13 => ?_) (fun hc13 => ?_)
  · have h13 : ¬ (0 ≤ a ∧ a < L.length) := by simp at hc13; omega
    refine at_seq ?_
    refine at_region ?_
    refine s1 (y_p rfl) rfl <| s1 ((y_p rfl).v (v' := .i .i64 1) rfl) rfl <| ?_
    refine at_nil ?_
    refine x_tn ?_
    refine at_ret ?_
    refine x_tr ?_
    refine at_result (rs := [.tmp 4, .tmp 5]) rfl (r_tmp rfl (r_tmp rfl r_nil)) ?_
    rw [pathA, if_neg h13]
    rfl
  · have h13 : 0 ≤ a ∧ a < L.length := by simp at hc13; omega
    obtain ⟨i, rfl⟩ : ∃ i : Nat, a = (i : Int) := ⟨a.toNat, by omega⟩
    refine at_skip ?_
    refine x_tn ?_
    refine at_seq ?_
    refine at_region ?_
    refine s1 (y_p rfl) rfl <| s1 (y_p rfl) rfl <| ?_
    refine at_op rfl (n_callO 16 rfl false rfl (.cons (.pure pu) (.cons (.pure pu) (.nil))) (trace_ok _ L i (Nat.le_refl _) hD (by omega) hl) pul (.inl rfl) rfl ?_)
    refine s1 (y_p rfl) rfl <| s1 ((y_p rfl).v (v' := .i .i64 0) rfl) rfl <| ?_
    refine at_nil ?_
    refine x_tn ?_
    refine at_ret ?_
    refine at_frz 4 rfl rfl pul (view_eq (by rw [List.length_map, (D32_path _ L i (Nat.le_refl _)).len]) rfl) ?_
    refine at_result (rs := [.tmp 4, .tmp 5]) rfl (r_tmp rfl (r_tmp rfl r_nil)) ?_
    rw [pathA, if_pos h13, Int.toNat_natCast]
    rfl

set_option linter.unusedSimpArgs false in
set_option maxHeartbeats 1000000 in
theorem rpathI_ok (L : List (List UInt8)) (a : Int) (hD : D32 L) (hl : L.length ≤ 1048576) : Con Tryd.prog 20 [dgs L, .i .i64 a] (Ret (pathA L a)) := by
  refine enter Tryd.func20 rfl Tryd.ntmps20 (by kernel_rfl) (Nat.le_of_ble_eq_true rfl) fun w0 X0 hI => ?_
  refine at_seq ?_
  refine at_region ?_
  refine s1 (y_p rfl) rfl <| s1 ((y_p rfl).v (v' := .i .i64 0) rfl) rfl <| ?_
  refine at_nil ?_
  refine x_tn ?_
  refine at_seq ?_
  refine at_seq ?_
  refine at_region ?_
  refine s1 (y_p rfl) rfl <| s1 (y_p rfl) rfl <| s1 (y_p rfl) rfl <| ?_
  refine g_or 4 rfl rfl rfl rfl (fun hb8 => .step (y_p rfl) rfl rfl <| .step (y_p rfl) rfl rfl <| .step (y_len Tryd.underlying30 rfl rfl rfl) rfl rfl <| .step (y_p rfl) rfl rfl <| .done) rfl rfl ?_
  refine at_nil ?_
  refine x_tn ?_
  refine at_cond rfl (fun hc13 => ?_) (fun hc13 => ?_)
  · have h13 : ¬ (0 ≤ a ∧ a < L.length) := by simp at hc13; omega
    refine at_seq ?_
    refine at_region ?_
    refine s1 (y_p rfl) rfl <| s1 ((y_p rfl).v (v' := .i .i64 1) rfl) rfl <| ?_
    refine at_nil ?_
    refine x_tn ?_
    refine at_ret ?_
    refine x_tr ?_
    refine at_result (rs := [.tmp 4, .tmp 5]) rfl (r_tmp rfl (r_tmp rfl r_nil)) ?_
    rw [pathA, if_neg h13]
    rfl
  · have h13 : 0 ≤ a ∧ a < L.length := by simp at hc13; omega
    obtain ⟨i, rfl⟩ : ∃ i : Nat, a = (i : Int) := ⟨a.toNat, by omega⟩
    refine at_skip ?_
    refine x_tn ?_
    refine at_seq ?_
    refine at_region ?_
    refine s1 (y_p rfl) rfl <| s1 (y_p rfl) rfl <| ?_
    refine at_op rfl (n_callO 16 rfl false rfl (.cons (.pure pu) (.cons (.pure pu) (.nil))) (rpath_ok _ L i (Nat.le_refl _) hD (by omega) hl) pul (.inl rfl) rfl ?_)
    refine s1 (y_p rfl) rfl <| s1 ((y_p rfl).v (v' := .i .i64 0) rfl) rfl <| ?_
    refine at_nil ?_
    refine x_tn ?_
    refine at_ret ?_
    refine at_frz 4 rfl rfl pul (view_eq (by rw [List.length_map, (D32_path _ L i (Nat.le_refl _)).len]) rfl) ?_
    refine at_result (rs := [.tmp 4, .tmp 5]) rfl (r_tmp rfl (r_tmp rfl r_nil)) ?_
    rw [pathA, if_pos h13, Int.toNat_natCast]
    rfl

set_option linter.unusedSimpArgs false in
set_option maxHeartbeats 1000000 in
theorem length_step (i n : Nat) (h1 : 1 ≤ n) (hi : i < n) (hn : n ≤ 1099511627776) (ih : ∀ i m : Nat, m < n → 1 ≤ m → i < m → Con Tryd.prog 36 [.i .i64 (i : Nat), .i .i64 (m : Nat)] (Ret (.i .i64 ((rights i m).length : Nat)))) : Con Tryd.prog 36 [.i .i64 (i : Nat), .i .i64 (n : Nat)] (Ret (.i .i64 ((rights i n).length : Nat))) := by
  refine enter Tryd.func36 rfl Tryd.ntmps36 (by kernel_rfl) (Nat.le_of_ble_eq_true rfl) fun w0 X0 hI => ?_
  refine at_seq ?_
  refine at_region ?_
  refine s1 ((y_p rfl).v (v' := .i .i64 0) rfl) rfl <| ?_
  refine at_nil ?_
  refine x_tn ?_
  refine at_seq ?_
  refine at_seq ?_
  refine at_region ?_
  refine s1 (y_p rfl) rfl <| s1 (y_p rfl) rfl <| ?_
  refine at_nil ?_
  refine x_tn ?_
  refine at_cond rfl (fun hc7 => ?_) (fun hc7 => ?_)
  · have h7 : n = 1 := by have := of_decide_eq_true hc7; omega
    refine at_seq ?_
    refine at_region ?_
    refine s1 ((y_p rfl).v (v' := .i .i64 0) rfl) rfl <| ?_
    refine at_nil ?_
    refine x_tn ?_
    refine at_ret ?_
    refine x_tr ?_
    refine at_result (rs := [.tmp 4]) rfl (r_tmp rfl r_nil) ?_
    exact congrArg (fun k : Nat => A.i .i64 (k : Int)) (by rw [rights_one (by omega)]; rfl)
  · have h7 : ¬ n = 1 := by have := of_decide_eq_false hc7; omega
    have hh := halfN_lt (n := n) (by omega)
    refine at_skip ?_
    refine x_tn ?_
    refine at_seq ?_
    refine at_region ?_
    refine s1 (y_p rfl) rfl <| ?_
    refine at_op rfl (n_call false rfl (.cons (.pure pu) (.nil)) (rhalf_ok n (by omega) hn) pu (.inl rfl) rfl ?_)
    refine s1 (y_p rfl) rfl <| ?_
    refine at_nil ?_
    refine x_tn ?_
    refine at_seq ?_
    refine at_seq ?_
    refine at_region ?_
    refine s1 (y_p rfl) rfl <| s1 (y_p rfl) rfl <| s1 (y_p rfl) rfl <| ?_
    refine at_nil ?_
    refine x_tn ?_
    refine at_cond rfl (fun hc12 => ?_) (fun hc12 => ?_)
    · have h12 : i < halfN n := by have := of_decide_eq_true hc12; omega
      have hr := rights_le _ i (halfN n) (Nat.le_refl _)
      refine at_seq ?_
      refine at_region ?_
      refine s1 (y_p rfl) rfl <| s1 (y_p rfl) rfl <| ?_
      refine at_op rfl (n_call false rfl (.cons (.pure pu) (.cons (.pure pu) (.nil))) (ih i (halfN n) (by omega) (by omega) (by omega)) pu (.inl rfl) rfl ?_)
      refine s1 (addN 1 _ rfl rfl rfl rfl (by omega)) rfl <| s1 (y_p rfl) rfl <| ?_
      refine at_nil ?_
      refine x_tn ?_
      refine at_ret ?_
      refine x_tr ?_
      refine at_result (rs := [.tmp 4]) rfl (r_tmp rfl r_nil) ?_
      exact congrArg (fun k : Nat => A.i .i64 (k : Int)) (by rw [rights_left (by omega) h12, List.length_cons]; omega)
    · have h12 : ¬ i < halfN n := by have := of_decide_eq_false hc12; omega
      have hr := rights_le _ (i - halfN n) (n - halfN n) (Nat.le_refl _)
      refine at_skip ?_
      refine x_tn ?_
      refine at_seq ?_
      refine at_region ?_
      refine s1 (y_p rfl) rfl <| s1 (y_p rfl) rfl <| s1 (subN i (halfN n) rfl rfl rfl rfl (by omega) (by omega)) rfl <| s1 (y_p rfl) rfl <| s1 (y_p rfl) rfl <| s1 (subN n (halfN n) rfl rfl rfl rfl (by omega) (by omega)) rfl <| ?_
      refine at_op rfl (n_call false rfl (.cons (.pure pu) (.cons (.pure pu) (.nil))) (ih (i - halfN n) (n - halfN n) (by omega) (by omega) (by omega)) pu (.inl rfl) rfl ?_)
      refine s1 (addN 1 _ rfl rfl rfl rfl (by omega)) rfl <| s1 (y_p rfl) rfl <| ?_
      refine at_nil ?_
      refine x_tn ?_
      refine at_ret ?_
      refine at_result (rs := [.tmp 4]) rfl (r_tmp rfl r_nil) ?_
      exact congrArg (fun k : Nat => A.i .i64 (k : Int)) (by rw [rights_right (by omega) h12, List.length_cons]; omega)

theorem length_ok : ∀ (f i n : Nat), n ≤ f → 1 ≤ n → i < n → n ≤ 1099511627776 → Con Tryd.prog 36 [.i .i64 (i : Nat), .i .i64 (n : Nat)] (Ret (.i .i64 ((rights i n).length : Nat)))
  | 0, i, n, h, h1, _, _ => absurd h1 (by omega)
  | f + 1, i, n, h, h1, hi, hn => length_step i n h1 hi hn (fun i m hm h1 hi => length_ok f i m (by omega) h1 hi (by omega))

set_option linter.unusedSimpArgs false in
set_option maxHeartbeats 1000000 in
theorem climb_step (d : List UInt8) (hd : d.length = 32) (i n : Nat) (P : List (List UInt8)) (h1 : 1 ≤ n) (hi : i < n) (hn : n ≤ 1099511627776) (hD : D32 P) (hP : P.length = (rights i n).length) (ih : ∀ (i m : Nat) (p : List (List UInt8)), m < n → 1 ≤ m → i < m → D32 p → p.length = (rights i m).length → Con Tryd.prog 37 [.ag (d.map u8), .i .i64 (i : Nat), .i .i64 (m : Nat), dgs p] (Ret (.ag ((climb d i m p).map u8)))) : Con Tryd.prog 37 [.ag (d.map u8), .i .i64 (i : Nat), .i .i64 (n : Nat), dgs P] (Ret (.ag ((climb d i n P).map u8))) := by
  refine enter Tryd.func37 rfl Tryd.ntmps37 (by kernel_rfl) (Nat.le_of_ble_eq_true rfl) fun w0 X0 hI => ?_
  refine at_seq ?_
  refine at_region ?_
  refine at_op rfl (n_boxA 4 rfl rfl rfl ?_)
  refine at_op rfl (n_alloc 8 rfl ti26 rfl rfl ?_)
  refine at_nil ?_
  refine x_tn ?_
  refine at_seq ?_
  refine at_seq ?_
  refine at_region ?_
  refine s1 (y_p rfl) rfl <| s1 (y_p rfl) rfl <| ?_
  refine at_nil ?_
  refine x_tn ?_
  refine at_cond rfl (fun hc12 => ?_) (fun hc12 => ?_)
  · have h12 : n = 1 := by have := of_decide_eq_true hc12; omega
    refine at_seq ?_
    refine at_region ?_
    refine s1 (y_cuta0 Tryd.underlying26 ti5 rfl rfl (by simp [hd]) (by simp [maxLen])) rfl <| ?_
    refine at_op rfl (n_call true rfl (.cons (.pure pu) (.cons (.sl rfl rfl (by first | rfl | omega | (simp; done) | (simp [*]; done) | (simp; omega) | (simp [*]; omega) | (simp [D32.len, -List.length_flatten, *]; done) | (simp [D32.len, -List.length_flatten, *]; omega)) (view_eq (by first | rfl | omega | (simp; done) | (simp [*]; done) | (simp; omega) | (simp [*]; omega) | (simp [D32.len, -List.length_flatten, *]; done) | (simp [D32.len, -List.length_flatten, *]; omega)) (by first | rfl | (simp; done) | (simp [*]; done))) (VwL.pure pul) pul) (.nil))) (by have h := rtagged_ok [108, 101, 97, 102] d (by omega) (by simp); rw [hd] at h; exact h) pu (.inr fu) rfl ?_)
    refine at_op rfl (n_storeA ti26 rfl rfl rfl (by simp) (by simp) ?_)
    refine at_nil ?_
    refine x_tn ?_
    refine at_ret ?_
    refine x_tr ?_
    refine at_result (rs := [.cell 8 26]) rfl (r_cellA ti26 rfl rfl (List.take_of_length_le (by simp [len_tagged])) (by simp [len_tagged]) r_nil) ?_
    exact congrArg (fun l : List UInt8 => A.ag (l.map u8)) (by rw [climb_one (by omega)]; rfl)
  · have h12 : ¬ n = 1 := by have := of_decide_eq_false hc12; omega
    have hh := halfN_lt (n := n) (by omega)
    have hr := rights_le _ i n (Nat.le_refl _)
    obtain ⟨p, q, rfl⟩ := init_last (P := P) (by intro h; subst h; have := rights_pos (i := i) (n := n) (by omega); rw [← hP] at this; simp at this)
    have hDp : D32 p := fun x hx => hD x (by simp [hx])
    have hDq : q.length = 32 := hD q (by simp)
    refine at_skip ?_
    refine x_tn ?_
    refine at_seq ?_
    refine at_region ?_
    refine s1 (y_p rfl) rfl <| ?_
    refine at_op rfl (n_call false rfl (.cons (.pure pu) (.nil)) (rhalf_ok n (by omega) hn) pu (.inl rfl) rfl ?_)
    refine s1 (y_p rfl) rfl <| ?_
    refine at_nil ?_
    refine x_tn ?_
    refine at_seq ?_
    refine at_region ?_
    refine s1 (y_p rfl) rfl <| s1 (y_p rfl) rfl <| s1 (y_len Tryd.underlying30 rfl rfl rfl) rfl <| s1 ((subN (p ++ [q]).length 1 rfl rfl rfl rfl (by simp) (by rw [hP]; omega)).v (v' := .i .i64 (p.length : Nat)) (congrArg (fun k : Nat => A.i .i64 (k : Int)) (by simp))) rfl <| s1 (y_ixf p.length Tryd.underlying30 ti26 rfl rfl rfl (by simp) rfl) rfl <| s1 (y_loadA ti26 rfl rfl (get_d hD (q := q) (by simp)) (by simp [hDq])) rfl <| ?_
    refine at_op rfl (n_alloc 10 rfl ti26 rfl rfl ?_)
    refine at_op rfl (n_storeA ti26 rfl rfl rfl (by simp [hDq]) (by simp) ?_)
    refine at_nil ?_
    refine x_tn ?_
    refine at_seq ?_
    refine at_seq ?_
    refine at_region ?_
    refine s1 (y_p rfl) rfl <| s1 (y_p rfl) rfl <| s1 (y_p rfl) rfl <| ?_
    refine at_nil ?_
    refine x_tn ?_
    refine at_cond rfl (fun hc25 => ?_) (fun hc25 => ?_)
    · have h25 : i < halfN n := by have := of_decide_eq_true hc25; omega
      have hp : p.length = (rights i (halfN n)).length := by rw [rights_left (by omega) h25] at hP; simpa using hP
      refine at_seq ?_
      refine at_fs ⟨_, [], []⟩ 11 4 hmix (le_refl rfl) ?_
      refine fs_q 0 [] [(4, none)] (y_loadA0 ti26 rfl rfl (by simp [hd])) rfl rfl ?_
      refine fs_q 1 [] [] (y_p rfl) rfl rfl ?_
      refine fs_q 2 [] [] (y_p rfl) rfl rfl ?_
      refine fs_q 3 [] [] (y_p rfl) rfl rfl ?_
      refine fs_q 4 [] [] (y_p rfl) rfl rfl ?_
      refine fs_q 5 [4] [] (y_len Tryd.underlying30 rfl rfl rfl) rfl rfl ?_
      refine fs_q 6 [5] [] ((subN (p ++ [q]).length 1 rfl rfl rfl rfl (by simp) (by rw [hP]; omega)).v (v' := .i .i64 (p.length : Nat)) (congrArg (fun k : Nat => A.i .i64 (k : Int)) (by simp))) rfl rfl ?_
      refine fs_q 7 [3, 6] [] ((y_cutf p.length Tryd.underlying30 ti26 rfl (by rw [List.length_map, hD.len]) bn (bs rfl rfl) (by omega) (by simp) rfl rfl).v (v' := dgs p) (cut_init hD)) rfl rfl ?_
      refine fs_call false 8 [0, 1, 2, 7] [] gy0 rfl (.cons (.pure pu) (.cons (.pure pu) (.cons (.pure pu) (.cons (.pure pu) (.nil))))) (ih i (halfN n) p (by omega) (by omega) (by omega) hDp hp) pu (.inl rfl) rfl rfl ?_
      refine fs_q 9 [] [(10, none)] (y_loadA0 ti26 rfl rfl (by simp [hDq])) rfl rfl ?_
      refine fs_call false 10 [8, 9] [] gy0 rfl (.cons (.pure pu) (.cons (.pure pu) (.nil))) (rnode_ok (fun t b h1 h2 => rtagged_ok t b (by omega) (by omega)) _ q (len_climb _ _ _ _) hDq) pu (.inl rfl) rfl rfl ?_
      refine fs_end (by kernel_rfl) ?_
      refine at_op rfl (n_storeA ti26 rfl rfl rfl (by simp) (by simp) ?_)
      refine at_nil ?_
      refine x_tn ?_
      refine at_ret ?_
      refine x_tr ?_
      refine at_result (rs := [.cell 8 26]) rfl (r_cellA ti26 rfl rfl (List.take_of_length_le (by simp [len_tagged])) (by simp [len_tagged]) r_nil) ?_
      exact congrArg (fun l : List UInt8 => A.ag (l.map u8)) (by rw [climb_left (by omega) h25 hp]; rfl)
    · have h25 : ¬ i < halfN n := by have := of_decide_eq_false hc25; omega
      have hp : p.length = (rights (i - halfN n) (n - halfN n)).length := by rw [rights_right (by omega) h25] at hP; simpa using hP
      refine at_skip ?_
      refine x_tn ?_
      refine at_seq ?_
      refine at_fs ⟨_, [], []⟩ 15 4 hmix (le_refl rfl) ?_
      refine fs_q 0 [] [(10, none)] (y_loadA0 ti26 rfl rfl (by simp [hDq])) rfl rfl ?_
      refine fs_q 1 [] [(4, none)] (y_loadA0 ti26 rfl rfl (by simp [hd])) rfl rfl ?_
      refine fs_q 2 [] [] (y_p rfl) rfl rfl ?_
      refine fs_q 3 [] [] (y_p rfl) rfl rfl ?_
      refine fs_q 4 [2, 3] [] (subN i (halfN n) rfl rfl rfl rfl (by omega) (by omega)) rfl rfl ?_
      refine fs_q 5 [] [] (y_p rfl) rfl rfl ?_
      refine fs_q 6 [] [] (y_p rfl) rfl rfl ?_
      refine fs_q 7 [5, 6] [] (subN n (halfN n) rfl rfl rfl rfl (by omega) (by omega)) rfl rfl ?_
      refine fs_q 8 [] [] (y_p rfl) rfl rfl ?_
      refine fs_q 9 [] [] (y_p rfl) rfl rfl ?_
      refine fs_q 10 [9] [] (y_len Tryd.underlying30 rfl rfl rfl) rfl rfl ?_
      refine fs_q 11 [10] [] ((subN (p ++ [q]).length 1 rfl rfl rfl rfl (by simp) (by rw [hP]; omega)).v (v' := .i .i64 (p.length : Nat)) (congrArg (fun k : Nat => A.i .i64 (k : Int)) (by simp))) rfl rfl ?_
      refine fs_q 12 [8, 11] [] ((y_cutf p.length Tryd.underlying30 ti26 rfl (by rw [List.length_map, hD.len]) bn (bs rfl rfl) (by omega) (by simp) rfl rfl).v (v' := dgs p) (cut_init hD)) rfl rfl ?_
      refine fs_call false 13 [1, 4, 7, 12] [] gy0 rfl (.cons (.pure pu) (.cons (.pure pu) (.cons (.pure pu) (.cons (.pure pu) (.nil))))) (ih (i - halfN n) (n - halfN n) p (by omega) (by omega) (by omega) hDp hp) pu (.inl rfl) rfl rfl ?_
      refine fs_call false 14 [0, 13] [] gy0 rfl (.cons (.pure pu) (.cons (.pure pu) (.nil))) (rnode_ok (fun t b h1 h2 => rtagged_ok t b (by omega) (by omega)) q _ hDq (len_climb _ _ _ _)) pu (.inl rfl) rfl rfl ?_
      refine fs_end (by kernel_rfl) ?_
      refine at_op rfl (n_storeA ti26 rfl rfl rfl (by simp) (by simp) ?_)
      refine at_nil ?_
      refine x_tn ?_
      refine at_ret ?_
      refine at_result (rs := [.cell 8 26]) rfl (r_cellA ti26 rfl rfl (List.take_of_length_le (by simp [len_tagged])) (by simp [len_tagged]) r_nil) ?_
      exact congrArg (fun l : List UInt8 => A.ag (l.map u8)) (by rw [climb_right (by omega) h25 hp]; rfl)

theorem climb_ok (d : List UInt8) (hd : d.length = 32) : ∀ (f i n : Nat) (p : List (List UInt8)), n ≤ f → 1 ≤ n → i < n → n ≤ 1099511627776 → D32 p → p.length = (rights i n).length → Con Tryd.prog 37 [.ag (d.map u8), .i .i64 (i : Nat), .i .i64 (n : Nat), dgs p] (Ret (.ag ((climb d i n p).map u8)))
  | 0, i, n, p, h, h1, _, _, _, _ => absurd h1 (by omega)
  | f + 1, i, n, p, h, h1, hi, hn, hD, hP => climb_step d hd i n p h1 hi hn hD hP (fun i m p hm h1 hi hD hP => climb_ok d hd f i m p (by omega) h1 hi (by omega) hD hP)

end Go.Abs.D2
