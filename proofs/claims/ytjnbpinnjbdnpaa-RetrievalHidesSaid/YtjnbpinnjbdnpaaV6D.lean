/-
  Layer 2: walks of the digest functions. Conditions: each theorem says its own.
-/
import Derived.Test.YtjnbpinnjbdnpaaV6C
namespace Go.Abs.D2
open Go Go.Eng Go.Abs Go.Proofs 

set_option linter.unusedSimpArgs false in
set_option linter.unusedVariables false in
set_option maxHeartbeats 1000000 in
set_option maxRecDepth 10000 in
theorem vtwin_ok (many i j : Int) (l : List UInt8) : Con Try.prog 12 [.i .i64 many, .i .i64 i, .i .i64 j, .fz l.length (l.map u8)] (Ret (twinA many i j l)) := by
  refine enter Try.func12 rfl Try.ntmps12 (by kernel_rfl) (Nat.le_of_ble_eq_true rfl) fun w0 X0 hI => ?_
  refine at_seq ?_
  refine at_region ?_
  refine s1 (y_p rfl) rfl <| s1 ((y_p rfl).v (v' := .i .i64 0) rfl) rfl <| ?_
  refine at_nil ?_
  refine x_tn ?_
  refine at_seq ?_
  refine at_seq ?_
  refine at_region ?_
  refine s1 (y_p rfl) rfl <| s1 (y_p rfl) rfl <| ?_
  refine at_op rfl (n_bs1 18 rfl Try.underlying41 ti3 rfl rfl rfl rfl rfl ?_)
  refine s1 (y_len Try.underlying41 rfl rfl rfl) rfl <| s1 ((y_p rfl).v (v' := .i .i64 0) rfl) rfl <| ?_
  refine at_nil ?_
  refine x_tn ?_
  refine at_block ?_
  refine at_loop (ι := Nat) (fun k => [(0, .i .i64 many), (1, .i .i64 i), (2, .i .i64 j), (3, .fz l.length (l.map u8)), (18, .sl 18 1 0 2), (19, nV 2), (20, nV k)]) (fun k => ⟨[(18, some ([.i .i64 i, .i .i64 j]))]⟩) (fun k => k ≤ 2 ∧ (0 < k → (V6.masks many i l).2.2 = 0) ∧ (1 < k → (V6.masks many j l).2.2 = 0)) (fun k => 2 - k) ?_ ?_
  · exact at_ex (0) (⟨by omega, fun h => absurd h (by omega), fun h => absurd h (by omega)⟩) [(18, some 18)] hI rfl rfl ⟨⟨_, rfl, .pure pu⟩, ⟨_, rfl, .pure pu⟩, ⟨_, rfl, .pure pu⟩, ⟨_, rfl, .pure pu⟩, ⟨_, rfl, .sl rfl (by first | rfl | omega | (simp; done) | (simp [*]; done) | (simp; omega) | (simp [*]; omega) | (simp [D32.len, -List.length_flatten, *]; done) | (simp [D32.len, -List.length_flatten, *]; omega))⟩, ⟨_, rfl, .pure pu⟩, ⟨_, rfl, .pure pu⟩, trivial⟩ ⟨.inr ⟨_, _, rfl, rfl, .pure pul⟩, trivial⟩
  rintro k ⟨hk, p1, p2⟩
  refine at_seq ?_
  refine at_region ?_
  refine s1 (y_p rfl) rfl <| ?_
  refine at_nil ?_
  refine x_tn ?_
  refine at_seq ?_
  refine at_cond rfl (fun hc21 => ?_) (fun hc21 => ?_)
  · have h21 : k < 2 := by have := of_decide_eq_true hc21; omega
    refine at_skip ?_
    refine x_tn ?_
    refine at_seq ?_
    refine at_block ?_
    refine at_seq ?_
    rcases show k = 0 ∨ k = 1 by omega with hcs | hcs
    · subst hcs
      refine at_region ?_
      refine s1 (y_ixs 0 Try.underlying41 ti3 rfl rfl rfl rfl (by omega) rfl) rfl <| s1 (y_load ti3 rfl rfl rfl) rfl <| s1 (y_p rfl) rfl <| ?_
      refine at_nil ?_
      refine x_tn ?_
      refine at_seq ?_
      rcases Decidable.em ((V6.masks many i l).2.2 = 0) with hcs | hcs
      · have hz := hcs
        refine at_region ?_
        refine s1 (y_p rfl) rfl <| s1 (y_p rfl) rfl <| s1 (y_p rfl) rfl <| ?_
        refine at_op rfl (n_call false rfl (.cons (.pure pu) (.cons (.pure pu) (.cons (.pure pu) (.nil)))) (Con.cast (vmasks_ok many i l) (masksA_zero hz)) pu (.inl rfl) rfl ?_)
        refine s1 (y_p rfl) rfl <| s1 (y_p rfl) rfl <| s1 (y_p rfl) rfl <| s1 (y_p rfl) rfl <| s1 (y_p rfl) rfl <| s1 (y_p rfl) rfl <| s1 (y_p rfl) rfl <| ?_
        refine at_nil ?_
        refine x_tn ?_
        refine at_seq ?_
        refine at_region ?_
        refine s1 (y_p rfl) rfl <| s1 ((y_p rfl).v (v' := .b false) (rfl)) rfl <| ?_
        refine at_nil ?_
        refine x_tn ?_
        refine at_else rfl ?_
        refine at_skip ?_
        refine x_bn ?_
        refine x_tn ?_
        refine at_region ?_
        refine s1 (addN _ 1 rfl rfl rfl rfl (by omega)) rfl <| s1 (y_p rfl) rfl <| ?_
        refine at_nil ?_
        exact at_end (0 + 1) (⟨by omega, fun _ => hz, fun h => absurd h (by omega)⟩) (by omega) [(18, some 18)] hI rfl rfl ⟨⟨_, rfl, .pure pu⟩, ⟨_, rfl, .pure pu⟩, ⟨_, rfl, .pure pu⟩, ⟨_, rfl, .pure pu⟩, ⟨_, rfl, .sl rfl (by first | rfl | omega | (simp; done) | (simp [*]; done) | (simp; omega) | (simp [*]; omega) | (simp [D32.len, -List.length_flatten, *]; done) | (simp [D32.len, -List.length_flatten, *]; omega))⟩, ⟨_, rfl, .pure pu⟩, ⟨_, rfl, .pure pu⟩, trivial⟩ ⟨.inr ⟨_, _, rfl, rfl, .pure pul⟩, trivial⟩
      · have hz := hcs
        refine at_region ?_
        refine s1 (y_p rfl) rfl <| s1 (y_p rfl) rfl <| s1 (y_p rfl) rfl <| ?_
        refine at_op rfl (n_call false rfl (.cons (.pure pu) (.cons (.pure pu) (.cons (.pure pu) (.nil)))) (Con.cast (vmasks_ok many i l) (masksA_err hz)) pu (.inl rfl) rfl ?_)
        refine s1 (y_p rfl) rfl <| s1 (y_p rfl) rfl <| s1 (y_p rfl) rfl <| s1 (y_p rfl) rfl <| s1 (y_p rfl) rfl <| s1 (y_p rfl) rfl <| s1 (y_p rfl) rfl <| ?_
        refine at_nil ?_
        refine x_tn ?_
        refine at_seq ?_
        refine at_region ?_
        refine s1 (y_p rfl) rfl <| s1 ((y_p rfl).v (v' := .b true) (congrArg A.b (by simpa using hz))) rfl <| ?_
        refine at_nil ?_
        refine x_tn ?_
        refine at_then rfl ?_
        refine at_seq ?_
        refine at_region ?_
        refine s1 (y_p rfl) rfl <| s1 (y_p rfl) rfl <| s1 (y_p rfl) rfl <| ?_
        refine at_nil ?_
        refine x_tn ?_
        refine at_ret ?_
        refine x_br ?_
        refine x_tr ?_
        refine x_tr ?_
        refine x_br ?_
        refine x_tr ?_
        refine at_result (rs := [.tmp 8, .tmp 9]) rfl (r_tmp rfl (r_tmp rfl r_nil)) ?_
        exact (twinA_1 hz).symm
    · subst hcs
      refine at_region ?_
      refine s1 (y_ixs 1 Try.underlying41 ti3 rfl rfl rfl rfl (by omega) rfl) rfl <| s1 (y_load ti3 rfl rfl rfl) rfl <| s1 (y_p rfl) rfl <| ?_
      refine at_nil ?_
      refine x_tn ?_
      refine at_seq ?_
      rcases Decidable.em ((V6.masks many j l).2.2 = 0) with hcs | hcs
      · have hz := hcs
        refine at_region ?_
        refine s1 (y_p rfl) rfl <| s1 (y_p rfl) rfl <| s1 (y_p rfl) rfl <| ?_
        refine at_op rfl (n_call false rfl (.cons (.pure pu) (.cons (.pure pu) (.cons (.pure pu) (.nil)))) (Con.cast (vmasks_ok many j l) (masksA_zero hz)) pu (.inl rfl) rfl ?_)
        refine s1 (y_p rfl) rfl <| s1 (y_p rfl) rfl <| s1 (y_p rfl) rfl <| s1 (y_p rfl) rfl <| s1 (y_p rfl) rfl <| s1 (y_p rfl) rfl <| s1 (y_p rfl) rfl <| ?_
        refine at_nil ?_
        refine x_tn ?_
        refine at_seq ?_
        refine at_region ?_
        refine s1 (y_p rfl) rfl <| s1 ((y_p rfl).v (v' := .b false) (rfl)) rfl <| ?_
        refine at_nil ?_
        refine x_tn ?_
        refine at_else rfl ?_
        refine at_skip ?_
        refine x_bn ?_
        refine x_tn ?_
        refine at_region ?_
        refine s1 (addN _ 1 rfl rfl rfl rfl (by omega)) rfl <| s1 (y_p rfl) rfl <| ?_
        refine at_nil ?_
        exact at_end (1 + 1) (⟨by omega, fun _ => p1 (by omega), fun _ => hz⟩) (by omega) [(18, some 18)] hI rfl rfl ⟨⟨_, rfl, .pure pu⟩, ⟨_, rfl, .pure pu⟩, ⟨_, rfl, .pure pu⟩, ⟨_, rfl, .pure pu⟩, ⟨_, rfl, .sl rfl (by first | rfl | omega | (simp; done) | (simp [*]; done) | (simp; omega) | (simp [*]; omega) | (simp [D32.len, -List.length_flatten, *]; done) | (simp [D32.len, -List.length_flatten, *]; omega))⟩, ⟨_, rfl, .pure pu⟩, ⟨_, rfl, .pure pu⟩, trivial⟩ ⟨.inr ⟨_, _, rfl, rfl, .pure pul⟩, trivial⟩
      · have hz := hcs
        refine at_region ?_
        refine s1 (y_p rfl) rfl <| s1 (y_p rfl) rfl <| s1 (y_p rfl) rfl <| ?_
        refine at_op rfl (n_call false rfl (.cons (.pure pu) (.cons (.pure pu) (.cons (.pure pu) (.nil)))) (Con.cast (vmasks_ok many j l) (masksA_err hz)) pu (.inl rfl) rfl ?_)
        refine s1 (y_p rfl) rfl <| s1 (y_p rfl) rfl <| s1 (y_p rfl) rfl <| s1 (y_p rfl) rfl <| s1 (y_p rfl) rfl <| s1 (y_p rfl) rfl <| s1 (y_p rfl) rfl <| ?_
        refine at_nil ?_
        refine x_tn ?_
        refine at_seq ?_
        refine at_region ?_
        refine s1 (y_p rfl) rfl <| s1 ((y_p rfl).v (v' := .b true) (congrArg A.b (by simpa using hz))) rfl <| ?_
        refine at_nil ?_
        refine x_tn ?_
        refine at_then rfl ?_
        refine at_seq ?_
        refine at_region ?_
        refine s1 (y_p rfl) rfl <| s1 (y_p rfl) rfl <| s1 (y_p rfl) rfl <| ?_
        refine at_nil ?_
        refine x_tn ?_
        refine at_ret ?_
        refine x_br ?_
        refine x_tr ?_
        refine x_tr ?_
        refine x_br ?_
        refine x_tr ?_
        refine at_result (rs := [.tmp 8, .tmp 9]) rfl (r_tmp rfl (r_tmp rfl r_nil)) ?_
        exact (twinA_2 (p1 (by omega)) hz).symm
  · have h21 : k = 2 := by have := of_decide_eq_false hc21; omega
    subst h21
    have z1 := p1 (by omega)
    have z2 := p2 (by omega)
    obtain ⟨m, a, rfl, rfl, h1, h2, h3, h4⟩ := V6.masks_zero z1
    obtain ⟨m2, b, e2, rfl, h5, h6, h7, h8⟩ := V6.masks_zero z2
    obtain rfl : m = m2 := by omega
    refine at_exit ?_
    refine x_te ?_
    refine x_te ?_
    refine x_be ?_
    refine x_tn ?_
    refine at_seq ?_
    refine at_region ?_
    refine s1 (y_p rfl) rfl <| s1 (y_p rfl) rfl <| ?_
    refine at_op rfl (n_callO 38 rfl false rfl (.cons (.pure pu) (.cons (.pure pu) (.nil))) (vmaskOf_ok l m h3 h1 h2) pul (.inl rfl) rfl ?_)
    refine at_op rfl (n_alloc 15 rfl ti51 rfl rfl ?_)
    refine at_op rfl (n_store1 ti51 rfl rfl rfl rfl (by first | rfl | omega | (simp; done) | (simp [*]; done) | (simp; omega) | (simp [*]; omega) | (simp [D32.len, -List.length_flatten, *]; done) | (simp [D32.len, -List.length_flatten, *]; omega)) rfl ?_)
    refine at_nil ?_
    refine x_tn ?_
    refine at_seq ?_
    refine at_region ?_
    refine s1 (y_p rfl) rfl <| ?_
    refine at_op rfl (n_callK ⟨[(15, some [.sl 38 1 0 l.length]), (38, some ((V6.cut m l).map u8))]⟩ [(15, [.sl 38 1 0 l.length]), (38, (V6.change (V6.cut m l) a).map u8)] true rfl ⟨⟨rfl, .cons (.ksl rfl) .nil⟩, ⟨rfl, VwL.pure pul⟩, trivial⟩ (.cons (.kp rfl) (.cons (.pure pu) .nil)) (vchange_15_38 (V6.cut m l) l.length a (V6.len_cut m l) (by omega) (by omega)) trivial (.inr trivial) (upd_K2 rfl rfl (KpL_sl rfl) (KpL_pure pul (.inr ful))) rfl ?_)
    refine at_nil ?_
    refine x_tn ?_
    refine at_seq ?_
    refine at_region ?_
    refine s1 (y_p rfl) rfl <| ?_
    refine at_op rfl (n_callK ⟨[(15, some [.sl 38 1 0 l.length]), (38, some ((V6.change (V6.cut m l) a).map u8))]⟩ [(15, [.sl 38 1 0 l.length]), (38, (V6.change (V6.change (V6.cut m l) a) b).map u8)] true rfl ⟨⟨rfl, .cons (.ksl rfl) .nil⟩, ⟨rfl, VwL.pure pul⟩, trivial⟩ (.cons (.kp rfl) (.cons (.pure pu) .nil)) (vchange_15_38 (V6.change (V6.cut m l) a) l.length b ((V6.len_change _ _).trans (V6.len_cut m l)) (by omega) (by omega)) trivial (.inr trivial) (upd_K2 rfl rfl (KpL_sl rfl) (KpL_pure pul (.inr ful))) rfl ?_)
    refine at_nil ?_
    refine x_tn ?_
    refine at_seq ?_
    refine at_region ?_
    refine s1 (y_load ti51 rfl rfl rfl) rfl <| s1 (y_p rfl) rfl <| s1 ((y_p rfl).v (v' := .i .i64 0) rfl) rfl <| ?_
    refine at_nil ?_
    refine x_tn ?_
    refine at_ret ?_
    refine at_frz 8 rfl rfl pul (view_eq (by rw [List.length_map, V6.len_change, V6.len_change, V6.len_cut, Nat.mul_one]) rfl) ?_
    refine at_result (rs := [.tmp 8, .tmp 9]) rfl (r_tmp rfl (r_tmp rfl r_nil)) ?_
    show A.tu _ = _; rw [twinA_3 z1 z2, V6.slV, V6.len_change, V6.len_change, V6.len_cut]

set_option linter.unusedSimpArgs false in
set_option linter.unusedVariables false in
set_option maxHeartbeats 1000000 in
set_option maxRecDepth 10000 in
theorem vask_ok (many : Int) (at1 : List Int) (batch : Int) (coins : List (List UInt8)) : Con Try.prog 20 [.i .i64 many, .fz at1.length (at1.map (A.i .i64)), .i .i64 batch, .fz coins.length (coins.map V6.slV)] (Ret (askA many at1 batch coins)) := by
  refine enter Try.func20 rfl Try.ntmps20 (by kernel_rfl) (Nat.le_of_ble_eq_true rfl) fun w0 X0 hI => ?_
  refine at_seq ?_
  refine at_region ?_
  refine at_op rfl (n_alloc 8 rfl ti32 rfl rfl ?_)
  refine at_op rfl (n_alloc 9 rfl ti32 rfl rfl ?_)
  refine s1 ((y_p rfl).v (v' := .i .i64 0) rfl) rfl <| ?_
  refine at_nil ?_
  refine x_tn ?_
  refine at_seq ?_
  refine at_seq ?_
  refine at_region ?_
  refine s1 (y_p rfl) rfl <| s1 (y_p rfl) rfl <| s1 (y_p rfl) rfl <| ?_
  refine g_or 2 rfl rfl rfl rfl (fun hb18 => .step (y_p rfl) rfl rfl <| .step (y_p rfl) rfl rfl <| .done) rfl rfl ?_
  refine s1 (y_p rfl) rfl <| ?_
  refine g_or 4 rfl rfl rfl rfl (fun hb22 => .step (y_p rfl) rfl rfl <| .step (y_len Try.underlying41 rfl rfl rfl) rfl rfl <| .step (y_p rfl) rfl rfl <| .step (y_p rfl) rfl rfl <| .done) rfl rfl ?_
  refine s1 (y_p rfl) rfl <| ?_
  refine g_or 4 rfl rfl rfl rfl (fun hb28 => .step (y_p rfl) rfl rfl <| .step (y_len Try.underlying30 rfl rfl rfl) rfl rfl <| .step (y_p rfl) rfl rfl <| .step (y_p rfl) rfl rfl <| .done) rfl rfl ?_
  refine at_nil ?_
  refine x_tn ?_
  refine at_cond rfl (fun hc33 => ?_) (fun hc33 => ?_)
  · have h33 : batch < 1 ∨ batch > 132 ∨ (at1.length : Int) > batch ∨ (coins.length : Int) ≠ batch := by simp at hc33; omega
    have hbad := ask_bad (many := many) h33
    refine at_seq ?_
    refine at_fs ⟨_, [], []⟩ 3 4 hmix (le_refl rfl) ?_
    refine fs_q 0 [] [(8, none)] (y_loadA0 ti32 rfl rfl rfl) rfl rfl ?_
    refine fs_q 1 [] [(9, none)] (y_loadA0 ti32 rfl rfl rfl) rfl rfl ?_
    refine fs_stoA 0 2 [0] [(8, none)] rfl gy0 ti32 rfl rfl rfl (by first | rfl | omega | (simp; done) | (simp [*]; done) | (simp; omega) | (simp [*]; omega) | (simp [D32.len, -List.length_flatten, *]; done) | (simp [D32.len, -List.length_flatten, *]; omega)) (by first | rfl | omega | (simp; done) | (simp [*]; done) | (simp; omega) | (simp [*]; omega) | (simp [D32.len, -List.length_flatten, *]; done) | (simp [D32.len, -List.length_flatten, *]; omega)) rfl ?_
    refine fs_end (by kernel_rfl) ?_
    refine at_op rfl (n_storeA ti32 rfl rfl rfl (by first | rfl | omega | (simp; done) | (simp [*]; done) | (simp; omega) | (simp [*]; omega) | (simp [D32.len, -List.length_flatten, *]; done) | (simp [D32.len, -List.length_flatten, *]; omega)) (by first | rfl | omega | (simp; done) | (simp [*]; done) | (simp; omega) | (simp [*]; omega) | (simp [D32.len, -List.length_flatten, *]; done) | (simp [D32.len, -List.length_flatten, *]; omega)) ?_)
    refine s1 ((y_p rfl).v (v' := .i .i64 360) rfl) rfl <| ?_
    refine at_nil ?_
    refine x_tn ?_
    refine at_ret ?_
    refine x_tr ?_
    refine at_result (rs := [.cell 8 32, .cell 9 32, .tmp 10]) rfl (r_cellA ti32 rfl rfl rfl rfl (r_cellA ti32 rfl rfl rfl rfl (r_tmp rfl r_nil))) ?_
    show A.tu _ = _; rw [askA_no (by rw [hbad]; decide), hbad]; rfl
  · have h33 : 1 ≤ coins.length ∧ coins.length ≤ 132 ∧ at1.length ≤ coins.length ∧ batch = (coins.length : Int) := by simp at hc33; omega
    obtain ⟨b1, b2, b3, rfl⟩ := h33
    refine at_skip ?_
    refine x_tn ?_
    refine at_seq ?_
    refine at_seq ?_
    refine at_region ?_
    refine s1 (y_p rfl) rfl <| s1 ((y_p rfl).v (v' := .i .i64 0) rfl) rfl <| ?_
    refine at_nil ?_
    refine x_tn ?_
    refine at_block ?_
    refine at_loop (ι := Nat) (fun k => [(0, .i .i64 many), (1, .fz at1.length (at1.map (A.i .i64))), (3, .fz coins.length (coins.map V6.slV)), (8, .p 8 0), (9, .p 9 0), (36, nV coins.length), (37, nV k)]) (fun k => ⟨[(8, some ([.sl 168 1 0 k])), (168, some ((V6.askTo many at1 coins k).1.map V6.slV)), (9, some ([.sl 174 1 0 k])), (174, some ((V6.askTo many at1 coins k).2.1.map V6.slV))]⟩) (fun k => k ≤ coins.length ∧ (V6.askTo many at1 coins k).2.2 = 0) (fun k => coins.length - k) ?_ ?_
    · exact at_ex (0) (⟨Nat.zero_le _, rfl⟩) [(8, some 8), (9, some 9), (168, none), (174, none)] hI rfl rfl ⟨⟨_, rfl, .pure pu⟩, ⟨_, rfl, .pure pu⟩, ⟨_, rfl, .pure pu⟩, ⟨_, rfl, .p rfl⟩, ⟨_, rfl, .p rfl⟩, ⟨_, rfl, .pure pu⟩, ⟨_, rfl, .pure pu⟩, trivial⟩ ⟨.inr ⟨_, _, rfl, rfl, .cons (.nl rfl) .nil⟩, .inl ⟨rfl, rfl⟩, .inr ⟨_, _, rfl, rfl, .cons (.nl rfl) .nil⟩, .inl ⟨rfl, rfl⟩, trivial⟩
    rintro k ⟨hk, hk0⟩
    obtain ⟨hl1, hl2, _⟩ := V6.askTo_yes k hk0
    refine at_seq ?_
    refine at_region ?_
    refine s1 (y_p rfl) rfl <| ?_
    refine at_nil ?_
    refine x_tn ?_
    refine at_seq ?_
    refine at_cond rfl (fun hc38 => ?_) (fun hc38 => ?_)
    · have h38 : k < coins.length := by have := of_decide_eq_true hc38; omega
      obtain ⟨q, hq⟩ : ∃ q, coins[k]? = some q := ⟨_, List.getElem?_eq_getElem h38⟩
      have hqd : coins.getD k [] = q := by rw [List.getD, hq]; rfl
      refine at_skip ?_
      refine x_tn ?_
      refine at_seq ?_
      refine at_block ?_
      refine at_seq ?_
      refine at_region ?_
      refine s1 (y_p rfl) rfl <| s1 (y_p rfl) rfl <| ?_
      refine at_nil ?_
      refine x_tn ?_
      refine at_seq ?_
      refine at_region ?_
      refine s1 ((y_p rfl).v (v' := .i .i64 0) rfl) rfl <| ?_
      refine at_nil ?_
      refine x_tn ?_
      refine at_seq ?_
      refine at_seq ?_
      refine at_region ?_
      refine s1 (y_p rfl) rfl <| s1 (y_p rfl) rfl <| s1 (y_len Try.underlying41 rfl rfl rfl) rfl <| s1 (y_p rfl) rfl <| ?_
      refine at_nil ?_
      refine x_tn ?_
      refine at_cond rfl (fun hc43 => ?_) (fun hc43 => ?_)
      · have h43 : k < at1.length := by have := of_decide_eq_true hc43; omega
        have hw := V6.want_yes h43
        refine at_region ?_
        refine s1 (y_p rfl) rfl <| s1 (y_p rfl) rfl <| s1 (y_ixf k Try.underlying41 ti3 rfl rfl rfl (by omega) rfl) rfl <| s1 (y_load ti3 rfl rfl (V6.getI h43)) rfl <| s1 (y_p rfl) rfl <| ?_
        refine at_nil ?_
        refine x_tn ?_
        refine at_seq ?_
        rcases Decidable.em ((V6.masks many (V6.want at1 k) q).2.2 = 0) with hcs | hcs
        · have hz := hcs
          have hnx := V6.askTo_nextW hk0 (by rw [hqd]; exact hz)
          rw [hqd] at hnx
          refine at_region ?_
          refine s1 (y_p rfl) rfl <| s1 ((y_p rfl).v (v' := .i .i64 (V6.want at1 k)) (congrArg (A.i .i64) hw.symm)) rfl <| s1 (y_p rfl) rfl <| s1 (y_p rfl) rfl <| s1 (y_ixf k Try.underlying30 ti22 rfl rfl rfl (by omega) rfl) rfl <| s1 (y_load ti22 rfl rfl (V6.getR hq)) rfl <| ?_
          refine at_op rfl (n_call false rfl (.cons (.pure pu) (.cons (.pure pu) (.cons (.pure pu) (.nil)))) (Con.cast (vmasks_ok many (V6.want at1 k) q) (masksA_zero hz)) pu (.inl rfl) rfl ?_)
          refine s1 (y_p rfl) rfl <| s1 (y_p rfl) rfl <| s1 (y_p rfl) rfl <| s1 (y_p rfl) rfl <| s1 (y_p rfl) rfl <| s1 (y_p rfl) rfl <| s1 (y_p rfl) rfl <| ?_
          refine at_nil ?_
          refine x_tn ?_
          refine at_seq ?_
          refine at_seq ?_
          refine at_region ?_
          refine s1 (y_p rfl) rfl <| s1 ((y_p rfl).v (v' := .b false) (rfl)) rfl <| ?_
          refine at_nil ?_
          refine x_tn ?_
          refine at_else rfl ?_
          refine at_skip ?_
          refine x_tn ?_
          refine at_seq ?_
          refine at_region ?_
          refine s1 (y_fld Try.underlying32 rfl ti30 (by decide) rfl rfl) rfl <| s1 (y_load ti30 rfl rfl rfl) rfl <| s1 (y_p rfl) rfl <| ?_
          refine at_op rfl (n_bs1 67 rfl Try.underlying30 ti22 rfl rfl rfl rfl rfl ?_)
          refine at_op rfl (n_app 68 rfl Try.underlying30 ti22 rfl (.sl rfl (by rw [List.length_map]; omega)) rfl (SM_full rfl (by first | rfl | omega | (simp; done) | (simp [*]; done) | (simp; omega) | (simp [*]; omega) | (simp [D32.len, -List.length_flatten, *]; done) | (simp [D32.len, -List.length_flatten, *]; omega))) (by simp) (by simp only [maxLen]; omega) (by omega) rfl (V6.ask_fst hnx) rfl ?_)
          refine s1 (y_fld Try.underlying32 rfl ti30 (by decide) rfl rfl) rfl <| ?_
          refine at_op rfl (n_store1 ti30 rfl rfl rfl rfl (by first | rfl | omega | (simp; done) | (simp [*]; done) | (simp; omega) | (simp [*]; omega) | (simp [D32.len, -List.length_flatten, *]; done) | (simp [D32.len, -List.length_flatten, *]; omega)) rfl ?_)
          refine at_nil ?_
          refine x_tn ?_
          refine at_region ?_
          refine s1 (y_fld Try.underlying32 rfl ti30 (by decide) rfl rfl) rfl <| s1 (y_load ti30 rfl rfl rfl) rfl <| s1 (y_p rfl) rfl <| ?_
          refine at_op rfl (n_bs1 73 rfl Try.underlying30 ti22 rfl rfl rfl rfl rfl ?_)
          refine at_op rfl (n_app 74 rfl Try.underlying30 ti22 rfl (.sl rfl (by rw [List.length_map]; omega)) rfl (SM_full rfl (by first | rfl | omega | (simp; done) | (simp [*]; done) | (simp; omega) | (simp [*]; omega) | (simp [D32.len, -List.length_flatten, *]; done) | (simp [D32.len, -List.length_flatten, *]; omega))) (by simp) (by simp only [maxLen]; omega) (by omega) rfl (V6.ask_snd hnx) rfl ?_)
          refine s1 (y_fld Try.underlying32 rfl ti30 (by decide) rfl rfl) rfl <| ?_
          refine at_op rfl (n_store1 ti30 rfl rfl rfl rfl (by first | rfl | omega | (simp; done) | (simp [*]; done) | (simp; omega) | (simp [*]; omega) | (simp [D32.len, -List.length_flatten, *]; done) | (simp [D32.len, -List.length_flatten, *]; omega)) rfl ?_)
          refine at_nil ?_
          refine x_bn ?_
          refine x_tn ?_
          refine at_region ?_
          refine s1 (addN _ 1 rfl rfl rfl rfl (by omega)) rfl <| s1 (y_p rfl) rfl <| ?_
          refine at_nil ?_
          exact at_end (k + 1) (⟨by omega, by rw [hnx]⟩) (by omega) [(8, some 8), (9, some 9), (168, some 68), (174, some 74)] hI rfl rfl ⟨⟨_, rfl, .pure pu⟩, ⟨_, rfl, .pure pu⟩, ⟨_, rfl, .pure pu⟩, ⟨_, rfl, .p rfl⟩, ⟨_, rfl, .p rfl⟩, ⟨_, rfl, .pure pu⟩, ⟨_, rfl, .pure pu⟩, trivial⟩ ⟨.inr ⟨_, _, rfl, rfl, .cons (.sl rfl (by first | rfl | omega | (simp; done) | (simp [*]; done) | (simp; omega) | (simp [*]; omega) | (simp [D32.len, -List.length_flatten, *]; done) | (simp [D32.len, -List.length_flatten, *]; omega))) .nil⟩, .inr ⟨_, _, rfl, rfl, .pure pul⟩, .inr ⟨_, _, rfl, rfl, .cons (.sl rfl (by first | rfl | omega | (simp; done) | (simp [*]; done) | (simp; omega) | (simp [*]; omega) | (simp [D32.len, -List.length_flatten, *]; done) | (simp [D32.len, -List.length_flatten, *]; omega))) .nil⟩, .inr ⟨_, _, rfl, rfl, .pure pul⟩, trivial⟩
        · have hz := hcs
          have hbd := V6.ask_errW h38 b1 b2 b3 hk0 (by rw [hqd]; exact hz)
          rw [hqd] at hbd
          refine at_region ?_
          refine s1 (y_p rfl) rfl <| s1 ((y_p rfl).v (v' := .i .i64 (V6.want at1 k)) (congrArg (A.i .i64) hw.symm)) rfl <| s1 (y_p rfl) rfl <| s1 (y_p rfl) rfl <| s1 (y_ixf k Try.underlying30 ti22 rfl rfl rfl (by omega) rfl) rfl <| s1 (y_load ti22 rfl rfl (V6.getR hq)) rfl <| ?_
          refine at_op rfl (n_call false rfl (.cons (.pure pu) (.cons (.pure pu) (.cons (.pure pu) (.nil)))) (Con.cast (vmasks_ok many (V6.want at1 k) q) (masksA_err hz)) pu (.inl rfl) rfl ?_)
          refine s1 (y_p rfl) rfl <| s1 (y_p rfl) rfl <| s1 (y_p rfl) rfl <| s1 (y_p rfl) rfl <| s1 (y_p rfl) rfl <| s1 (y_p rfl) rfl <| s1 (y_p rfl) rfl <| ?_
          refine at_nil ?_
          refine x_tn ?_
          refine at_seq ?_
          refine at_seq ?_
          refine at_region ?_
          refine s1 (y_p rfl) rfl <| s1 ((y_p rfl).v (v' := .b true) (congrArg A.b (by simpa using hz))) rfl <| ?_
          refine at_nil ?_
          refine x_tn ?_
          refine at_then rfl ?_
          refine at_seq ?_
          refine at_region ?_
          refine s1 (y_bld (out := [_]) [[evC (.slice none 0 0)]] ti32 rfl Try.underlying32 (by kernel_rfl) rfl rfl trivial rfl) rfl <| s1 (y_bld (out := [_]) [[evC (.slice none 0 0)]] ti32 rfl Try.underlying32 (by kernel_rfl) rfl rfl trivial rfl) rfl <| s1 (y_p rfl) rfl <| ?_
          refine at_op rfl (n_storeA ti32 rfl rfl rfl (by first | rfl | omega | (simp; done) | (simp [*]; done) | (simp; omega) | (simp [*]; omega) | (simp [D32.len, -List.length_flatten, *]; done) | (simp [D32.len, -List.length_flatten, *]; omega)) (by first | rfl | omega | (simp; done) | (simp [*]; done) | (simp; omega) | (simp [*]; omega) | (simp [D32.len, -List.length_flatten, *]; done) | (simp [D32.len, -List.length_flatten, *]; omega)) ?_)
          refine at_op rfl (n_storeA ti32 rfl rfl rfl (by first | rfl | omega | (simp; done) | (simp [*]; done) | (simp; omega) | (simp [*]; omega) | (simp [D32.len, -List.length_flatten, *]; done) | (simp [D32.len, -List.length_flatten, *]; omega)) (by first | rfl | omega | (simp; done) | (simp [*]; done) | (simp; omega) | (simp [*]; omega) | (simp [D32.len, -List.length_flatten, *]; done) | (simp [D32.len, -List.length_flatten, *]; omega)) ?_)
          refine s1 (y_p rfl) rfl <| ?_
          refine at_nil ?_
          refine x_tn ?_
          refine at_ret ?_
          refine x_tr ?_
          refine x_br ?_
          refine x_tr ?_
          refine x_tr ?_
          refine x_br ?_
          refine x_tr ?_
          refine at_result (rs := [.cell 8 32, .cell 9 32, .tmp 10]) rfl (r_cellA ti32 rfl rfl rfl rfl (r_cellA ti32 rfl rfl rfl rfl (r_tmp rfl r_nil))) ?_
          show A.tu _ = _; rw [askA_no (by rw [hbd]; exact hz), hbd]; rfl
      · have h43 : ¬ k < at1.length := by have := of_decide_eq_false hc43; omega
        have hw := V6.want_no h43
        refine at_skip ?_
        refine x_tn ?_
        refine at_seq ?_
        rcases Decidable.em ((V6.masks many (V6.want at1 k) q).2.2 = 0) with hcs | hcs
        · have hz := hcs
          have hnx := V6.askTo_nextW hk0 (by rw [hqd]; exact hz)
          rw [hqd] at hnx
          refine at_region ?_
          refine s1 (y_p rfl) rfl <| s1 (((y_p rfl).v (v' := .i .i64 0) rfl).v (v' := .i .i64 (V6.want at1 k)) (congrArg (A.i .i64) hw.symm)) rfl <| s1 (y_p rfl) rfl <| s1 (y_p rfl) rfl <| s1 (y_ixf k Try.underlying30 ti22 rfl rfl rfl (by omega) rfl) rfl <| s1 (y_load ti22 rfl rfl (V6.getR hq)) rfl <| ?_
          refine at_op rfl (n_call false rfl (.cons (.pure pu) (.cons (.pure pu) (.cons (.pure pu) (.nil)))) (Con.cast (vmasks_ok many (V6.want at1 k) q) (masksA_zero hz)) pu (.inl rfl) rfl ?_)
          refine s1 (y_p rfl) rfl <| s1 (y_p rfl) rfl <| s1 (y_p rfl) rfl <| s1 (y_p rfl) rfl <| s1 (y_p rfl) rfl <| s1 (y_p rfl) rfl <| s1 (y_p rfl) rfl <| ?_
          refine at_nil ?_
          refine x_tn ?_
          refine at_seq ?_
          refine at_seq ?_
          refine at_region ?_
          refine s1 (y_p rfl) rfl <| s1 ((y_p rfl).v (v' := .b false) (rfl)) rfl <| ?_
          refine at_nil ?_
          refine x_tn ?_
          refine at_else rfl ?_
          refine at_skip ?_
          refine x_tn ?_
          refine at_seq ?_
          refine at_region ?_
          refine s1 (y_fld Try.underlying32 rfl ti30 (by decide) rfl rfl) rfl <| s1 (y_load ti30 rfl rfl rfl) rfl <| s1 (y_p rfl) rfl <| ?_
          refine at_op rfl (n_bs1 67 rfl Try.underlying30 ti22 rfl rfl rfl rfl rfl ?_)
          refine at_op rfl (n_app 68 rfl Try.underlying30 ti22 rfl (.sl rfl (by rw [List.length_map]; omega)) rfl (SM_full rfl (by first | rfl | omega | (simp; done) | (simp [*]; done) | (simp; omega) | (simp [*]; omega) | (simp [D32.len, -List.length_flatten, *]; done) | (simp [D32.len, -List.length_flatten, *]; omega))) (by simp) (by simp only [maxLen]; omega) (by omega) rfl (V6.ask_fst hnx) rfl ?_)
          refine s1 (y_fld Try.underlying32 rfl ti30 (by decide) rfl rfl) rfl <| ?_
          refine at_op rfl (n_store1 ti30 rfl rfl rfl rfl (by first | rfl | omega | (simp; done) | (simp [*]; done) | (simp; omega) | (simp [*]; omega) | (simp [D32.len, -List.length_flatten, *]; done) | (simp [D32.len, -List.length_flatten, *]; omega)) rfl ?_)
          refine at_nil ?_
          refine x_tn ?_
          refine at_region ?_
          refine s1 (y_fld Try.underlying32 rfl ti30 (by decide) rfl rfl) rfl <| s1 (y_load ti30 rfl rfl rfl) rfl <| s1 (y_p rfl) rfl <| ?_
          refine at_op rfl (n_bs1 73 rfl Try.underlying30 ti22 rfl rfl rfl rfl rfl ?_)
          refine at_op rfl (n_app 74 rfl Try.underlying30 ti22 rfl (.sl rfl (by rw [List.length_map]; omega)) rfl (SM_full rfl (by first | rfl | omega | (simp; done) | (simp [*]; done) | (simp; omega) | (simp [*]; omega) | (simp [D32.len, -List.length_flatten, *]; done) | (simp [D32.len, -List.length_flatten, *]; omega))) (by simp) (by simp only [maxLen]; omega) (by omega) rfl (V6.ask_snd hnx) rfl ?_)
          refine s1 (y_fld Try.underlying32 rfl ti30 (by decide) rfl rfl) rfl <| ?_
          refine at_op rfl (n_store1 ti30 rfl rfl rfl rfl (by first | rfl | omega | (simp; done) | (simp [*]; done) | (simp; omega) | (simp [*]; omega) | (simp [D32.len, -List.length_flatten, *]; done) | (simp [D32.len, -List.length_flatten, *]; omega)) rfl ?_)
          refine at_nil ?_
          refine x_bn ?_
          refine x_tn ?_
          refine at_region ?_
          refine s1 (addN _ 1 rfl rfl rfl rfl (by omega)) rfl <| s1 (y_p rfl) rfl <| ?_
          refine at_nil ?_
          exact at_end (k + 1) (⟨by omega, by rw [hnx]⟩) (by omega) [(8, some 8), (9, some 9), (168, some 68), (174, some 74)] hI rfl rfl ⟨⟨_, rfl, .pure pu⟩, ⟨_, rfl, .pure pu⟩, ⟨_, rfl, .pure pu⟩, ⟨_, rfl, .p rfl⟩, ⟨_, rfl, .p rfl⟩, ⟨_, rfl, .pure pu⟩, ⟨_, rfl, .pure pu⟩, trivial⟩ ⟨.inr ⟨_, _, rfl, rfl, .cons (.sl rfl (by first | rfl | omega | (simp; done) | (simp [*]; done) | (simp; omega) | (simp [*]; omega) | (simp [D32.len, -List.length_flatten, *]; done) | (simp [D32.len, -List.length_flatten, *]; omega))) .nil⟩, .inr ⟨_, _, rfl, rfl, .pure pul⟩, .inr ⟨_, _, rfl, rfl, .cons (.sl rfl (by first | rfl | omega | (simp; done) | (simp [*]; done) | (simp; omega) | (simp [*]; omega) | (simp [D32.len, -List.length_flatten, *]; done) | (simp [D32.len, -List.length_flatten, *]; omega))) .nil⟩, .inr ⟨_, _, rfl, rfl, .pure pul⟩, trivial⟩
        · have hz := hcs
          have hbd := V6.ask_errW h38 b1 b2 b3 hk0 (by rw [hqd]; exact hz)
          rw [hqd] at hbd
          refine at_region ?_
          refine s1 (y_p rfl) rfl <| s1 (((y_p rfl).v (v' := .i .i64 0) rfl).v (v' := .i .i64 (V6.want at1 k)) (congrArg (A.i .i64) hw.symm)) rfl <| s1 (y_p rfl) rfl <| s1 (y_p rfl) rfl <| s1 (y_ixf k Try.underlying30 ti22 rfl rfl rfl (by omega) rfl) rfl <| s1 (y_load ti22 rfl rfl (V6.getR hq)) rfl <| ?_
          refine at_op rfl (n_call false rfl (.cons (.pure pu) (.cons (.pure pu) (.cons (.pure pu) (.nil)))) (Con.cast (vmasks_ok many (V6.want at1 k) q) (masksA_err hz)) pu (.inl rfl) rfl ?_)
          refine s1 (y_p rfl) rfl <| s1 (y_p rfl) rfl <| s1 (y_p rfl) rfl <| s1 (y_p rfl) rfl <| s1 (y_p rfl) rfl <| s1 (y_p rfl) rfl <| s1 (y_p rfl) rfl <| ?_
          refine at_nil ?_
          refine x_tn ?_
          refine at_seq ?_
          refine at_seq ?_
          refine at_region ?_
          refine s1 (y_p rfl) rfl <| s1 ((y_p rfl).v (v' := .b true) (congrArg A.b (by simpa using hz))) rfl <| ?_
          refine at_nil ?_
          refine x_tn ?_
          refine at_then rfl ?_
          refine at_seq ?_
          refine at_region ?_
          refine s1 (y_bld (out := [_]) [[evC (.slice none 0 0)]] ti32 rfl Try.underlying32 (by kernel_rfl) rfl rfl trivial rfl) rfl <| s1 (y_bld (out := [_]) [[evC (.slice none 0 0)]] ti32 rfl Try.underlying32 (by kernel_rfl) rfl rfl trivial rfl) rfl <| s1 (y_p rfl) rfl <| ?_
          refine at_op rfl (n_storeA ti32 rfl rfl rfl (by first | rfl | omega | (simp; done) | (simp [*]; done) | (simp; omega) | (simp [*]; omega) | (simp [D32.len, -List.length_flatten, *]; done) | (simp [D32.len, -List.length_flatten, *]; omega)) (by first | rfl | omega | (simp; done) | (simp [*]; done) | (simp; omega) | (simp [*]; omega) | (simp [D32.len, -List.length_flatten, *]; done) | (simp [D32.len, -List.length_flatten, *]; omega)) ?_)
          refine at_op rfl (n_storeA ti32 rfl rfl rfl (by first | rfl | omega | (simp; done) | (simp [*]; done) | (simp; omega) | (simp [*]; omega) | (simp [D32.len, -List.length_flatten, *]; done) | (simp [D32.len, -List.length_flatten, *]; omega)) (by first | rfl | omega | (simp; done) | (simp [*]; done) | (simp; omega) | (simp [*]; omega) | (simp [D32.len, -List.length_flatten, *]; done) | (simp [D32.len, -List.length_flatten, *]; omega)) ?_)
          refine s1 (y_p rfl) rfl <| ?_
          refine at_nil ?_
          refine x_tn ?_
          refine at_ret ?_
          refine x_tr ?_
          refine x_br ?_
          refine x_tr ?_
          refine x_tr ?_
          refine x_br ?_
          refine x_tr ?_
          refine at_result (rs := [.cell 8 32, .cell 9 32, .tmp 10]) rfl (r_cellA ti32 rfl rfl rfl rfl (r_cellA ti32 rfl rfl rfl rfl (r_tmp rfl r_nil))) ?_
          show A.tu _ = _; rw [askA_no (by rw [hbd]; exact hz), hbd]; rfl
    · have h38 : k = coins.length := by have := of_decide_eq_false hc38; omega
      subst h38
      refine at_exit ?_
      refine x_te ?_
      refine x_te ?_
      refine x_be ?_
      refine x_tn ?_
      refine at_seq ?_
      have hall := V6.ask_all (many := many) b1 b2 b3
      refine at_frzO 8 0 rfl rfl rfl rfl pul (view_eq (by rw [List.length_map]; omega) rfl) rfl ?_
      refine at_frzO 9 0 rfl rfl rfl rfl pul (view_eq (by rw [List.length_map]; omega) rfl) rfl ?_
      refine at_fs ⟨_, [], []⟩ 3 4 hmix (le_refl rfl) ?_
      refine fs_q 0 [] [(8, none)] (y_loadA0 ti32 rfl rfl rfl) rfl rfl ?_
      refine fs_q 1 [] [(9, none)] (y_loadA0 ti32 rfl rfl rfl) rfl rfl ?_
      refine fs_stoA 0 2 [0] [(8, none)] rfl gy0 ti32 rfl rfl rfl (by first | rfl | omega | (simp; done) | (simp [*]; done) | (simp; omega) | (simp [*]; omega) | (simp [D32.len, -List.length_flatten, *]; done) | (simp [D32.len, -List.length_flatten, *]; omega)) (by first | rfl | omega | (simp; done) | (simp [*]; done) | (simp; omega) | (simp [*]; omega) | (simp [D32.len, -List.length_flatten, *]; done) | (simp [D32.len, -List.length_flatten, *]; omega)) rfl ?_
      refine fs_end (by kernel_rfl) ?_
      refine at_op rfl (n_storeA ti32 rfl rfl rfl (by first | rfl | omega | (simp; done) | (simp [*]; done) | (simp; omega) | (simp [*]; omega) | (simp [D32.len, -List.length_flatten, *]; done) | (simp [D32.len, -List.length_flatten, *]; omega)) (by first | rfl | omega | (simp; done) | (simp [*]; done) | (simp; omega) | (simp [*]; omega) | (simp [D32.len, -List.length_flatten, *]; done) | (simp [D32.len, -List.length_flatten, *]; omega)) ?_)
      refine s1 ((y_p rfl).v (v' := .i .i64 0) rfl) rfl <| ?_
      refine at_nil ?_
      refine x_tn ?_
      refine at_ret ?_
      refine at_result (rs := [.cell 8 32, .cell 9 32, .tmp 10]) rfl (r_cellA ti32 rfl rfl rfl rfl (r_cellA ti32 rfl rfl rfl rfl (r_tmp rfl r_nil))) ?_
      show A.tu _ = _; rw [askA_yes (by rw [hall]; exact hk0), hall, rowsV, rowsV, hl1, hl2]; rfl

end Go.Abs.D2
