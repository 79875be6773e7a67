/-
  The engine, the plain laws and the walks that the rows need, part 9. Conditions: none.
-/
import Derived.Test.YtahjdbnhgdaejaaDoorM8
set_option linter.unusedVariables false
set_option linter.unusedSimpArgs false
set_option maxHeartbeats 1000000
set_option maxRecDepth 10000
-- K6B
namespace Go.Abs.D2
open Go Go.Eng Go.Abs Go.Proofs 
theorem tag_seed (x : List UInt8) (a : Int) (hx : x.length = 32) : Con Tryd.prog 40 [.s [108, 101, 97, 102], .fz 36 ((x ++ seedBs a 4).map u8)] (Ret (.ag ((seedL x a).map u8))) := by
  have e2 : (x ++ seedBs a 4).length = 36 := by simp [hx]
  rw [seedL_eq, ← e2]; exact tagged_ok _ _ (by omega) (by simp)
theorem seed_ok (x : List UInt8) (a : Int) (hx : x.length = 32) : Con Tryd.prog 16 [.ag (x.map u8), .i .i64 a] (Ret (.ag ((seedL x a).map u8))) := by
 refine enter Tryd.func16 rfl Tryd.ntmps16 (by kernel_rfl) (Nat.le_of_ble_eq_true rfl) fun w0 X0 hI => ?_
 refine at_seq <| at_region ?_
 refine at_op rfl (n_boxA 2 rfl rfl rfl ?_)
 refine at_op rfl (n_alloc 4 rfl ti23 rfl rfl ?_)
 refine at_nil <| x_tn <| at_seq <| at_region ?_
 refine at_op rfl (n_alloc 5 rfl ti64 rfl rfl ?_)
 refine at_nil <| x_tn <| at_seq ?_
 refine at_draw_tail 2 hmix (by kernel_rfl) ?_
 refine t1 (y_cuta0 Tryd.underlying64 ti5 rfl rfl (by simp) (by simp [maxLen])) rfl <| t1 (y_cuta0 Tryd.underlying23 ti5 rfl rfl (by simp [hx]) (by simp [maxLen])) rfl ?_
 refine at_snil ?_
 refine at_op rfl (n_copy Tryd.underlying65 ti5 rfl rfl rfl (SM_full rfl (by simp [hx])) (by first | rfl | omega | (simp <;> omega) | (simp [*] <;> omega)) (by first | omega | (simp only [maxLen]; omega) | (simp [maxLen]; done) | (simp [maxLen]; omega) | (simp [maxLen, *]; omega)) (by first | omega | (simp only [maxLen]; omega) | (simp [maxLen]; done) | (simp [maxLen]; omega) | (simp [maxLen, *]; omega)) (by first | omega | (simp only [maxLen]; omega) | (simp [maxLen]; done) | (simp [maxLen]; omega) | (simp [maxLen, *]; omega)) (copy_seed (a := a)) rfl ?_)
 refine at_nil <| x_tn <| at_seq <| at_seq <| at_region <| s1 ((y_p rfl).v (v' := .i .i64 0) rfl) rfl ?_
 refine at_nil <| x_tn <| at_block ?_
 refine at_loop (ι := Nat) (fun i => [(1, .i .i64 a), (4, .p 4 0), (5, .p 5 0), (10, .i .i64 (i : Nat))]) (fun i => ⟨[(4, some (zD.map u8)), (5, some ((x ++ seedBs a i ++ List.replicate (4 - i) 0).map u8))]⟩) (fun i => i ≤ 4) (fun i => 4 - i) ?_ ?_
 ·exact at_ex (0) (Nat.zero_le _) [(4, some 4), (5, some 5)] hI rfl rfl ⟨⟨_, rfl, .pure pu⟩, ⟨_, rfl, .p rfl⟩, ⟨_, rfl, .p rfl⟩, ⟨_, rfl, .pure pu⟩, trivial⟩ ⟨.inr ⟨_, _, rfl, rfl, .pure pul⟩, .inr ⟨_, _, rfl, rfl, .pure pul⟩, trivial⟩
 rintro i hi
 refine at_seq <| at_region <| s1 (y_p rfl) rfl ?_
 refine at_nil <| x_tn <| at_seq ?_
 refine at_cond rfl (fun hc11 => ?_) (fun hc11 => ?_)
 ·have h11 : i < 4 := by have := of_decide_eq_true hc11; omega
  refine at_skip <| x_tn <| at_seq <| at_block <| at_seq <| at_region <| s1 (y_p rfl) rfl <| s1 (y_p rfl) rfl ?_
  refine at_nil <| x_tn <| at_region <| s1 (y_p rfl) rfl <| s1 (addN 32 i rfl rfl rfl rfl (by omega)) rfl <| s1 (y_p rfl) rfl <| s1 (y_p rfl) rfl <| s1 (mulN 8 i rfl rfl rfl rfl (by omega)) rfl <| s1 (subN 24 (8 * i) rfl rfl rfl rfl (by omega) (by omega)) rfl <| s1 (y_shr rfl rfl (by omega)) rfl <| s1 ((y_conv Tryd.underlying3 Tryd.underlying5 rfl).v (shr_byte a i h11)) rfl <| s1 (y_ixa (32 + i) Tryd.underlying64 ti5 rfl rfl rfl (by omega) rfl) rfl ?_
  refine at_op rfl (n_store1 ti5 rfl rfl rfl rfl (by simp [hx]; omega) (set_seed hx a i h11) ?_)
  refine at_nil <| x_bn <| x_tn <| at_region <| s1 (addN _ 1 rfl rfl rfl rfl (by omega)) rfl <| s1 (y_p rfl) rfl ?_
  refine at_nil ?_
  exact at_end (i + 1) (by omega) (by omega) [(4, some 4), (5, some 5)] hI rfl rfl ⟨⟨_, rfl, .pure pu⟩, ⟨_, rfl, .p rfl⟩, ⟨_, rfl, .p rfl⟩, ⟨_, rfl, .pure pu⟩, trivial⟩ ⟨.inr ⟨_, _, rfl, rfl, .pure pul⟩, .inr ⟨_, _, rfl, rfl, .of (by rfl) (.pure pul)⟩, trivial⟩
 ·have h11 : i = 4 := by have := of_decide_eq_false hc11; omega
  subst h11
  refine at_exit <| x_te <| x_te <| x_be <| x_tn <| at_seq <| at_region <| s1 (y_cuta0 Tryd.underlying64 ti5 rfl rfl (by simp [hx]) (by simp [maxLen])) rfl ?_
  refine at_op rfl (n_call true rfl (.cons (.pure pu) (.cons (.sl rfl rfl rfl (view_eq (by simp [hx]) (by simp)) (VwL.pure pul) pul) .nil)) (tag_seed x a hx) pu (.inr fu) rfl ?_)
  refine at_op rfl (n_storeA ti23 rfl rfl rfl (by first | rfl | omega | (simp <;> omega) | (simp [*] <;> omega)) (by first | rfl | omega | (simp <;> omega) | (simp [*] <;> omega)) ?_)
  refine at_nil <| x_tn <| at_ret ?_
  refine at_result (rs := [.cell 4 23]) rfl (r_cellA ti23 rfl rfl (List.take_of_length_le (by simp)) (by simp) r_nil) rfl
theorem publics_ok (x : List UInt8) (n : Nat) : Con Tryd.prog 37 [.ag (x.map u8), nI n] (Ret (.fn (.func 72) [] [.fp [nI n], .fp (x.map u8)])) := by
 refine enter Tryd.func37 rfl Tryd.ntmps37 (by kernel_rfl) (Nat.le_of_ble_eq_true rfl) fun w0 X0 hI => ?_
 refine at_seq <| at_region ?_
 refine at_op rfl (n_boxA 2 rfl rfl rfl ?_)
 refine at_op rfl (n_box1 3 rfl rfl rfl rfl ?_)
 refine s1 (y_p rfl) rfl ?_
 refine at_nil <| x_tn <| at_seq ?_
 refine at_frzP 2 rfl rfl pul ?_
 refine at_frzP 3 rfl rfl pul ?_
 refine at_region <| s1 (y_func (us := []) (vs := [.fp [nI n], .fp (x.map u8)]) rfl rfl) rfl <| s1 (y_p rfl) rfl ?_
 refine at_nil <| x_tn <| at_ret ?_
 refine at_result (rs := [.tmp 4]) rfl (r_tmp rfl r_nil) rfl
theorem appendSeqD_ok (x : List UInt8) (n : Nat) (hx : x.length = 32) (hn : n ≤ 256) : Con Tryd.prog 71 [.nl, .fn (.func 72) [] [.fp [nI n], .fp (x.map u8)]] (RetO 32 n ((kpubs x n).flatten.map u8)) := by
 refine enterM Tryd.func71 rfl Tryd.ntmps71 (by kernel_rfl) (Nat.le_of_ble_eq_true rfl) fun w0 X0 hI hS => ?_
 refine at_seq <| at_region ?_
 refine at_op rfl (n_box1 2 rfl rfl rfl rfl ?_)
 refine s1 (y_p rfl) rfl ?_
 refine at_nil <| x_tn <| at_seq <| at_seq <| at_region <| s1 (y_p rfl) rfl ?_
 refine at_nil <| x_tn <| at_block ?_
 refine at_range [2] [(0, _), (1, _), (2, _), (4, _), (6, _)] hI rfl ⟨rfl, ⟨rfl, ⟨rfl, ⟨rfl, ⟨rfl, trivial⟩⟩⟩⟩⟩ (by first | rfl | (simp [onlyE, refsE, refs, refsL, refsL_pul, refs_pu, memN]; done)) rfl Tryd.func72 rfl Tryd.ntmps72 (by kernel_rfl) (Nat.le_of_ble_eq_true rfl) fun w1 l1 D1 rc1 hR1 => ?_
 refine at_seq <| at_region <| s1 (y_load ti3 rfl rfl rfl) rfl <| s1 ((y_p rfl).v (v' := .i .i64 0) rfl) rfl ?_
 refine at_nil <| x_tn <| at_block ?_
 refine at_loop (ι := Nat) (fun i => [(0, yv l1), (1, .fp [nI n]), (2, .fp (x.map u8)), (5, nI n), (6, nI i)]) (fun i => ⟨[(2, some ([.sl 11 32 0 i])), (11, some ((kpubs x i).flatten.map u8))]⟩) (fun i => i ≤ n) (fun i => n - i) ?_ ?_
 ·exact at_ex (0) (Nat.zero_le _) [(2, some 2), (11, none)] hR1.sub.ids rfl rfl ⟨⟨_, rfl, .pure trivial⟩, ⟨_, rfl, .pure pu⟩, ⟨_, rfl, .pure pu⟩, ⟨_, rfl, .pure pu⟩, ⟨_, rfl, .pure pu⟩, trivial⟩ ⟨.inr ⟨_, _, rfl, rfl, .cons (.nl rfl) .nil⟩, .inl ⟨rfl, rfl⟩, trivial⟩
 rintro i hi
 have hfl := (D32_kpubs x i).len
 rw [len_kpubs] at hfl
 refine at_seq <| at_region <| s1 (y_p rfl) rfl ?_
 refine at_nil <| x_tn <| at_seq ?_
 refine at_cond rfl (fun hc7 => ?_) (fun hc7 => ?_)
 ·have h7 : i < n := by have := of_decide_eq_true hc7; omega
  refine at_skip <| x_tn <| at_seq <| at_block <| at_seq <| at_region <| s1 (y_p rfl) rfl <| s1 (y_p rfl) rfl ?_
  refine at_nil <| x_tn <| at_seq <| at_region <| s1 (y_p rfl) rfl <| s1 (y_loadA ti23 rfl rfl (List.take_of_length_le (by simp [hx])) (by simp [hx])) rfl <| s1 (y_p rfl) rfl ?_
  refine at_op rfl (n_call false rfl (.cons (.pure pu) (.cons (.pure pu) (.nil))) (seed_ok x (i : Nat) hx) pu (.inl rfl) rfl ?_)
  refine at_op rfl (n_call false rfl (.cons (.pure pu) (.nil)) (public_ok (seedL x (i : Nat)) (by simp)) pu (.inl rfl) rfl ?_)
  refine at_yield [2] [(0, _), (1, _), (2, _), (4, _), (5, _), (6, _), (7, _), (8, _), (9, _), (10, _), (11, _), (12, _), (13, _)] hR1 hR1.sub.ids rfl ⟨rfl, ⟨rfl, ⟨rfl, ⟨rfl, ⟨rfl, ⟨rfl, ⟨rfl, ⟨rfl, ⟨rfl, ⟨rfl, ⟨rfl, ⟨rfl, ⟨rfl, trivial⟩⟩⟩⟩⟩⟩⟩⟩⟩⟩⟩⟩⟩ (by first | rfl | (simp [onlyE, refsE, refs, refsL, refsL_pul, refs_pu, memN]; done)) rfl rfl rfl rfl rfl fun w2 tm2 hd2 => ?_
  refine at_region ?_
  refine at_op rfl (n_alloc 5 rfl ti23 rfl rfl ?_)
  refine at_op rfl (n_storeA ti23 rfl rfl rfl (by first | rfl | omega | (simp <;> omega) | (simp [*] <;> omega)) (by first | rfl | omega | (simp <;> omega) | (simp [*] <;> omega)) ?_)
  refine at_nil ?_
  refine at_begin hd2 fun w3 hd3 => ?_
  refine at_block <| at_region <| s1 (y_load ti26 rfl rfl rfl) rfl <| s1 (y_loadA0 ti23 rfl rfl (by first | rfl | omega | (simp <;> omega) | (simp [*] <;> omega))) rfl ?_
  refine at_op rfl (n_bs 10 rfl Tryd.underlying26 ti23 rfl rfl rfl (by first | (simp [cellsA]; done) | (simp [cellsA, *]; done)) (List.append_nil ((pubD (seedL x (i : Nat))).map u8)) rfl rfl rfl ?_)
  refine at_op rfl (n_app 111 rfl Tryd.underlying26 ti23 rfl (.sl rfl (by rw [List.length_map]; exact hfl)) rfl (SM_full rfl (by first | rfl | omega | (simp <;> omega) | (simp [*] <;> omega))) (by simp) (by simp only [maxLen]; omega) (by omega) rfl rfl rfl ?_)
  refine at_op rfl (n_store1 ti26 rfl rfl rfl rfl (by first | rfl | omega | (simp <;> omega) | (simp [*] <;> omega)) rfl ?_)
  refine at_nil <| x_bn ?_
  refine at_rend hR1 hd3 rfl ?_
  refine s1 (y_p rfl) rfl ?_
  refine at_nil <| x_tn ?_
  refine at_else rfl ?_
  refine at_skip <| x_bn <| x_tn <| at_region <| s1 (addN _ 1 rfl rfl rfl rfl (by omega)) rfl <| s1 (y_p rfl) rfl ?_
  refine at_nil ?_
  exact at_end (i + 1) (by omega) (by omega) [(2, some 2), (11, some 111)] hR1.sub.ids rfl rfl ⟨⟨_, rfl, .pure trivial⟩, ⟨_, rfl, .pure pu⟩, ⟨_, rfl, .pure pu⟩, ⟨_, rfl, .pure pu⟩, ⟨_, rfl, .pure pu⟩, trivial⟩ ⟨.inr ⟨_, _, rfl, rfl, .cons (.sl rfl (by first | rfl | omega | (simp <;> omega) | (simp [*] <;> omega))) .nil⟩, .inr ⟨_, _, rfl, rfl, .of (kpubs_flat x i) (.pure pul)⟩, trivial⟩
 ·have h7 : i = n := by have := of_decide_eq_false hc7; omega
  subst h7
  refine at_exit <| x_te <| x_te <| x_be ?_
  refine at_itnil rfl hR1 hS ?_
  refine x_bn <| x_tn <| at_seq <| at_region <| s1 (y_load ti26 rfl rfl rfl) rfl <| s1 (y_p rfl) rfl ?_
  refine at_nil <| x_tn <| at_ret ?_
  refine at_resultM (rs := [.tmp 4]) rfl rfl rfl hS (dn := [D1]) rfl rfl (by simp) rfl (r_tmp rfl r_nil) ⟨11, rfl, rfl⟩
theorem collectD_ok (x : List UInt8) (n : Nat) (hx : x.length = 32) (hn : n ≤ 256) : Con Tryd.prog 36 [.fn (.func 72) [] [.fp [nI n], .fp (x.map u8)]] (Ret (dgs (kpubs x n))) := by
 refine enter Tryd.func36 rfl Tryd.ntmps36 (by kernel_rfl) (Nat.le_of_ble_eq_true rfl) fun w0 X0 hI => ?_
 refine at_seq <| at_region <| s1 (y_p rfl) rfl ?_
 refine at_nil <| x_tn <| at_seq <| at_region <| s1 (y_p rfl) rfl ?_
 refine at_op rfl (n_callO 4 rfl false rfl (.cons (.pure pu) (.cons (.pure pu) .nil)) (appendSeqD_ok x n hx hn) pul (.inl rfl) rfl ?_)
 refine s1 (y_p rfl) rfl ?_
 refine at_nil <| x_tn <| at_ret ?_
 refine at_frz 2 rfl rfl pul (view_eq (by rw [List.length_map, (D32_kpubs x n).len, len_kpubs]) rfl) ?_
 refine at_result (rs := [.tmp 2]) rfl (r_tmp rfl r_nil) ?_
 exact congrArg (fun z => A.fz z _) (len_kpubs x n).symm
theorem pubs_ok (x : List UInt8) (n : Int) (hx : x.length = 32) : Con Tryd.prog 31 [.ag (x.map u8), .i .i64 n] (Ret (if sizeK n then .tu [dgs (kpubs x n.toNat), .i .i64 0] else .tu [.nl, .i .i64 60])) := by
 refine enter Tryd.func31 rfl Tryd.ntmps31 (by kernel_rfl) (Nat.le_of_ble_eq_true rfl) fun w0 X0 hI => ?_
 refine at_seq <| at_region ?_
 refine at_op rfl (n_boxA 2 rfl rfl rfl ?_)
 refine s1 (y_p rfl) rfl <| s1 ((y_p rfl).v (v' := .i .i64 0) rfl) rfl ?_
 refine at_nil <| x_tn <| at_seq <| at_seq <| at_region <| s1 (y_p rfl) rfl <| s1 (y_p rfl) rfl <| s1 (y_p rfl) rfl ?_
 refine g_or 2 rfl rfl rfl rfl (fun hb8 => .step (y_p rfl) rfl rfl <| .step (y_p rfl) rfl rfl <| .done) rfl rfl ?_
 refine at_nil <| x_tn ?_
 refine at_cond rfl (fun hc11 => ?_) (fun hc11 => ?_)
 ·have hcs : ¬ sizeK n := by intro h; unfold sizeK at h; simp at hc11; omega
  refine at_seq <| at_region <| s1 (y_p rfl) rfl <| s1 ((y_p rfl).v (v' := .i .i64 60) rfl) rfl ?_
  refine at_nil <| x_tn <| at_ret <| x_tr ?_
  refine at_result (rs := [.tmp 4, .tmp 5]) rfl (r_tmp rfl (r_tmp rfl r_nil)) ?_
  exact (if_neg hcs).symm
 ·have hcs : sizeK n := by unfold sizeK; simp at hc11; omega
  have hsz := hcs
  obtain ⟨k, rfl, h1, h2⟩ := sizeK_nat hcs
  refine at_skip <| x_tn <| at_seq <| at_region <| s1 (y_loadA0 ti23 rfl rfl (by first | rfl | omega | (simp <;> omega) | (simp [*] <;> omega))) rfl <| s1 (y_p rfl) rfl ?_
  refine at_op rfl (n_call false rfl (.cons (.pure pu) (.cons (.pure pu) (.nil))) (publics_ok x k) pu (.inl rfl) rfl ?_)
  refine at_op rfl (n_call false rfl (.cons (.pure pu) (.nil)) (collectD_ok x k hx h2) pu (.inl rfl) rfl ?_)
  refine s1 (y_p rfl) rfl <| s1 ((y_p rfl).v (v' := .i .i64 0) rfl) rfl ?_
  refine at_nil <| x_tn <| at_ret ?_
  refine at_result (rs := [.tmp 4, .tmp 5]) rfl (r_tmp rfl (r_tmp rfl r_nil)) ?_
  exact (if_pos hsz).symm
theorem root_ok (x : List UInt8) (n : Int) (hx : x.length = 32) : Con Tryd.prog 12 [.ag (x.map u8), .i .i64 n] (Ret (rootA x n)) := by
 refine enter Tryd.func12 rfl Tryd.ntmps12 (by kernel_rfl) (Nat.le_of_ble_eq_true rfl) fun w0 X0 hI => ?_
 refine at_seq <| at_region ?_
 refine at_op rfl (n_boxA 2 rfl rfl rfl ?_)
 refine at_op rfl (n_alloc 4 rfl ti23 rfl rfl ?_)
 refine s1 ((y_p rfl).v (v' := .i .i64 0) rfl) rfl ?_
 refine at_nil <| x_tn <| at_seq ?_
 rcases (Decidable.em (sizeK n)).symm with hcs | hcs
 ·skip
  refine at_region <| s1 (y_loadA0 ti23 rfl rfl (by first | rfl | omega | (simp <;> omega) | (simp [*] <;> omega))) rfl <| s1 (y_p rfl) rfl ?_
  refine at_op rfl (n_call false rfl (.cons (.pure pu) (.cons (.pure pu) (.nil))) (Con.cast (pubs_ok x n hx) (if_neg hcs)) pu (.inl rfl) rfl ?_)
  refine s1 (y_p rfl) rfl <| s1 (y_p rfl) rfl <| s1 (y_p rfl) rfl <| s1 (y_p rfl) rfl <| s1 (y_p rfl) rfl ?_
  refine at_nil <| x_tn <| at_seq <| at_seq <| at_region <| s1 (y_p rfl) rfl <| s1 ((y_p rfl).v (v' := .b true) (rfl)) rfl ?_
  refine at_nil <| x_tn ?_
  refine at_then rfl ?_
  refine at_seq <| at_region <| s1 (y_loadA0 ti23 rfl rfl (by first | rfl | omega | (simp <;> omega) | (simp [*] <;> omega))) rfl <| s1 (y_p rfl) rfl ?_
  refine at_op rfl (n_storeA ti23 rfl rfl rfl (by first | rfl | omega | (simp <;> omega) | (simp [*] <;> omega)) (by first | rfl | omega | (simp <;> omega) | (simp [*] <;> omega)) ?_)
  refine s1 (y_p rfl) rfl ?_
  refine at_nil <| x_tn <| at_ret <| x_tr ?_
  refine at_result (rs := [.cell 4 23, .tmp 5]) rfl (r_cellA ti23 rfl rfl (List.take_of_length_le (by simp)) (by simp) (r_tmp rfl r_nil)) ?_
  exact (rootA_no hcs).symm
 ·have hsz := hcs
  obtain ⟨k, rfl, h1, h2⟩ := sizeK_nat hcs
  refine at_region <| s1 (y_loadA0 ti23 rfl rfl (by first | rfl | omega | (simp <;> omega) | (simp [*] <;> omega))) rfl <| s1 (y_p rfl) rfl ?_
  refine at_op rfl (n_call false rfl (.cons (.pure pu) (.cons (.pure pu) (.nil))) (Con.cast (pubs_ok x k hx) (if_pos hsz)) pu (.inl rfl) rfl ?_)
  refine s1 (y_p rfl) rfl <| s1 (y_p rfl) rfl <| s1 (y_p rfl) rfl <| s1 (y_p rfl) rfl <| s1 (y_p rfl) rfl ?_
  refine at_nil <| x_tn <| at_seq <| at_seq <| at_region <| s1 (y_p rfl) rfl <| s1 ((y_p rfl).v (v' := .b false) (rfl)) rfl ?_
  refine at_nil <| x_tn ?_
  refine at_else rfl ?_
  refine at_skip <| x_tn <| at_seq <| at_region <| s1 (y_p rfl) rfl ?_
  refine at_op rfl (n_call false rfl (.cons (.pure pu) (.nil)) (tree_ok _ (kpubs x k) (Nat.le_refl _) (D32_kpubs x k) (by simp; omega)) pu (.inl rfl) rfl ?_)
  refine at_op rfl (n_storeA ti23 rfl rfl rfl (by first | rfl | omega | (simp <;> omega) | (simp [*] <;> omega)) (by first | rfl | omega | (simp <;> omega) | (simp [*] <;> omega)) ?_)
  refine s1 ((y_p rfl).v (v' := .i .i64 0) rfl) rfl ?_
  refine at_nil <| x_tn <| at_ret ?_
  refine at_result (rs := [.cell 4 23, .tmp 5]) rfl (r_cellA ti23 rfl rfl (List.take_of_length_le (by simp)) (by simp) (r_tmp rfl r_nil)) ?_
  exact (rootA_yes hsz).symm
end Go.Abs.D2
-- C5E
namespace Go.Abs.D2
open Go Go.Eng Go.Abs Go.Proofs 
end Go.Abs.D2
-- K6D
namespace Go.Abs.D2
open Go Go.Eng Go.Abs Go.Proofs 
theorem vc1_ok (n : Int) : Con Tryd.prog 44 [.fp [.i .i64 n]] (Ret (.b (decide (sizeK n)))) := by
 refine enter Tryd.func44 rfl Tryd.ntmps44 (by kernel_rfl) (Nat.le_of_ble_eq_true rfl) fun w0 X0 hI => ?_
 refine at_seq <| at_region <| s1 (y_p rfl) rfl ?_
 refine at_nil <| x_tn <| at_seq <| at_region <| s1 (y_load ti3 rfl rfl rfl) rfl <| s1 (y_p rfl) rfl <| s1 (y_p rfl) rfl ?_
 refine g_and 2 rfl rfl rfl rfl (fun hb4 => .step (y_load ti3 rfl rfl rfl) rfl rfl <| .step (y_p rfl) rfl rfl <| .done) rfl rfl ?_
 refine s1 (y_p rfl) rfl ?_
 refine at_nil <| x_tn <| at_ret ?_
 refine at_result (rs := [.tmp 1]) rfl (r_tmp rfl r_nil) ?_
 exact congrArg A.b (by rw [Bool.eq_iff_iff, decide_eq_true_eq]; simp [sizeK])
theorem vc2_ok (a n : Int) (S P : List (List UInt8)) : Con Tryd.prog 45 [.fp [.i .i64 a, dgs S, dgs P], .fp [.i .i64 n]] (Ret (.b (decide (atK n a)))) := by
 refine enter Tryd.func45 rfl Tryd.ntmps45 (by kernel_rfl) (Nat.le_of_ble_eq_true rfl) fun w0 X0 hI => ?_
 refine at_seq <| at_region <| s1 (y_p rfl) rfl ?_
 refine at_nil <| x_tn <| at_seq <| at_region <| s1 (y_fldf Tryd.underlying28 rfl ti3 (by decide) rfl rfl) rfl <| s1 (y_load ti3 rfl rfl rfl) rfl <| s1 (y_p rfl) rfl <| s1 (y_p rfl) rfl ?_
 refine g_and 4 rfl rfl rfl rfl (fun hb6 => .step (y_fldf Tryd.underlying28 rfl ti3 (by decide) rfl rfl) rfl rfl <| .step (y_load ti3 rfl rfl rfl) rfl rfl <| .step (y_load ti3 rfl rfl rfl) rfl rfl <| .step (y_p rfl) rfl rfl <| .done) rfl rfl ?_
 refine s1 (y_p rfl) rfl ?_
 refine at_nil <| x_tn <| at_ret ?_
 refine at_result (rs := [.tmp 2]) rfl (r_tmp rfl r_nil) ?_
 exact congrArg A.b (atK_b n a)
theorem vc3_ok (m : List UInt8) (a : Int) (S P : List (List UInt8)) (hm : m.length = 32) (hS : D32 S) : ConS Tryd.prog 46 [.fp (m.map u8), .fp [.i .i64 a, dgs S, dgs P], .p 9 0] ⟨[(9, some (zD.map u8))]⟩ (RetS (.b (decide (recE S = 0))) [(9, (recD m S).map u8)]) := by
 refine enterS Tryd.func46 rfl Tryd.ntmps46 (by kernel_rfl) (Nat.le_of_ble_eq_true rfl) fun w0 X0 hI => ?_
 refine at_seq <| at_region <| s1 (y_p rfl) rfl ?_
 refine at_nil <| x_tn <| at_seq <| at_region <| s1 (y_loadA ti23 rfl rfl (List.take_of_length_le (by simp [hm])) (by simp [hm])) rfl <| s1 (y_fldf Tryd.underlying28 rfl ti26 (by decide) rfl rfl) rfl <| s1 (y_load ti26 rfl rfl rfl) rfl ?_
 refine at_op rfl (n_call false rfl (.cons (.pure pu) (.cons (.pure pu) (.nil))) (recover_ok m S hm hS) pu (.inl rfl) rfl ?_)
 refine s1 (y_p rfl) rfl <| s1 (y_p rfl) rfl <| s1 (y_p rfl) rfl ?_
 refine at_op rfl (n_alloc 4 rfl ti23 rfl rfl ?_)
 refine at_op rfl (n_storeA ti23 rfl rfl rfl (by first | rfl | omega | (simp <;> omega) | (simp [*] <;> omega)) (by first | rfl | omega | (simp <;> omega) | (simp [*] <;> omega)) ?_)
 refine s1 (y_p rfl) rfl ?_
 refine at_nil <| x_tn <| at_seq <| at_region <| s1 (y_loadA0 ti23 rfl rfl (by first | rfl | omega | (simp <;> omega) | (simp [*] <;> omega))) rfl ?_
 refine at_op rfl (n_storeA ti23 rfl rfl rfl (by first | rfl | omega | (simp <;> omega) | (simp [*] <;> omega)) (by first | rfl | omega | (simp <;> omega) | (simp [*] <;> omega)) ?_)
 refine at_nil <| x_tn <| at_seq <| at_region <| s1 (y_p rfl) rfl <| s1 ((y_p rfl).v (v' := .b (decide (recE S = 0))) (congrArg A.b (recE_b S))) rfl <| s1 (y_p rfl) rfl ?_
 refine at_nil <| x_tn <| at_ret ?_
 refine at_result (rs := [.tmp 3]) rfl (r_tmp rfl r_nil) (retS_1 rfl)
theorem vc4_ok (r m : List UInt8) (n a : Int) (S P : List (List UInt8)) (hr : r.length = 32) (hP : D32 P) : ConS Tryd.prog 48 [.p 9 0, .fp [.i .i64 a, dgs S, dgs P], .fp [.i .i64 n], .fp (r.map u8)] ⟨[(9, some ((recD m S).map u8))]⟩ (RetS (.b ((climbE a n P.length == 0) && (climbD (recD m S) a n P == r))) [(9, (recD m S).map u8)]) := by
 refine enterS Tryd.func48 rfl Tryd.ntmps48 (by kernel_rfl) (Nat.le_of_ble_eq_true rfl) fun w0 X0 hI => ?_
 refine at_seq <| at_region <| s1 (y_p rfl) rfl ?_
 refine at_nil <| x_tn <| at_seq <| at_region <| s1 (y_loadA0 ti23 rfl rfl (by first | rfl | omega | (simp <;> omega) | (simp [*] <;> omega))) rfl <| s1 (y_fldf Tryd.underlying28 rfl ti3 (by decide) rfl rfl) rfl <| s1 (y_load ti3 rfl rfl rfl) rfl <| s1 (y_load ti3 rfl rfl rfl) rfl <| s1 (y_fldf Tryd.underlying28 rfl ti26 (by decide) rfl rfl) rfl <| s1 (y_load ti26 rfl rfl rfl) rfl ?_
 refine at_op rfl (n_call false rfl (.cons (.pure pu) (.cons (.pure pu) (.cons (.pure pu) (.cons (.pure pu) (.nil))))) (Con.cast (climbI_ok (recD m S) (by simp) a n P hP) (climbA_eq ..)) pu (.inl rfl) rfl ?_)
 refine s1 (y_p rfl) rfl <| s1 (y_p rfl) rfl <| s1 (y_p rfl) rfl ?_
 refine at_op rfl (n_alloc 5 rfl ti23 rfl rfl ?_)
 refine at_op rfl (n_storeA ti23 rfl rfl rfl (by first | rfl | omega | (simp <;> omega) | (simp [*] <;> omega)) (by first | rfl | omega | (simp <;> omega) | (simp [*] <;> omega)) ?_)
 refine s1 (y_p rfl) rfl ?_
 refine at_nil <| x_tn <| at_seq <| at_region <| s1 (y_p rfl) rfl <| s1 (y_p rfl) rfl <| s1 (y_p rfl) rfl ?_
 refine g_and 3 rfl rfl rfl rfl (fun hb19 => .step (y_loadA0 ti23 rfl rfl (by first | rfl | omega | (simp <;> omega) | (simp [*] <;> omega))) rfl rfl <| .step (y_loadA ti23 rfl rfl (List.take_of_length_le (by simp [hr])) (by simp [hr])) rfl rfl <| .step (y_aq Tryd.underlying23 Tryd.underlying5 ti5 (by kernel_rfl) rfl rfl (by first | assumption | (simp; done) | (simp [*]; done)) (by first | assumption | (simp; done) | (simp [*]; done))) rfl rfl <| .done) rfl rfl ?_
 refine s1 (y_p rfl) rfl ?_
 refine at_nil <| x_tn <| at_ret ?_
 refine at_result (rs := [.tmp 4]) rfl (r_tmp rfl r_nil) (retS_1 rfl)
theorem kver_ok (r m : List UInt8) (n a : Int) (S P : List (List UInt8)) (hr : r.length = 32) (hm : m.length = 32) (hS : D32 S) (hP : D32 P) : Con Tryd.prog 19 [.ag (r.map u8), .i .i64 n, .ag (m.map u8), .ag [.i .i64 a, dgs S, dgs P]] (Ret (.i .i64 (errK (verK r n m a S P)))) := by
 refine enter Tryd.func19 rfl Tryd.ntmps19 (by kernel_rfl) (Nat.le_of_ble_eq_true rfl) fun w0 X0 hI => ?_
 refine at_seq <| at_region ?_
 refine at_op rfl (n_boxA 4 rfl rfl rfl ?_)
 refine at_op rfl (n_box1 5 rfl rfl rfl rfl ?_)
 refine at_op rfl (n_boxA 6 rfl rfl rfl ?_)
 refine at_op rfl (n_boxA 7 rfl rfl rfl ?_)
 refine s1 ((y_p rfl).v (v' := .i .i64 0) rfl) rfl ?_
 refine at_nil <| x_tn <| at_seq <| at_region ?_
 refine at_op rfl (n_alloc 9 rfl ti23 rfl rfl ?_)
 refine at_nil <| x_tn <| at_seq ?_
 refine at_frzP 4 rfl rfl pul ?_
 refine at_frzP 5 rfl rfl pul ?_
 refine at_frzP 6 rfl rfl pul ?_
 refine at_frzP 7 rfl rfl pul ?_
 refine at_region <| s1 (y_func (us := []) (vs := [.fp [.i .i64 n]]) rfl rfl) rfl <| s1 (y_func (us := []) (vs := [.fp [.i .i64 a, dgs S, dgs P], .fp [.i .i64 n]]) rfl rfl) rfl <| s1 (y_func (us := []) (vs := [.fp (m.map u8), .fp [.i .i64 a, dgs S, dgs P], .p 9 0]) rfl rfl) rfl <| s1 (y_func (us := []) (vs := [.p 9 0, .fp [.i .i64 a, dgs S, dgs P], .fp [.i .i64 n], .fp (r.map u8)]) rfl rfl) rfl ?_
 refine at_op rfl (n_bs1 17 rfl Tryd.underlying70 ti24 rfl rfl rfl rfl rfl ?_)
 refine s1 (y_p rfl) rfl ?_
 refine at_nil <| x_tn <| at_seq <| at_seq <| at_region <| s1 (y_p rfl) rfl <| s1 (y_len Tryd.underlying70 rfl rfl rfl) rfl <| s1 ((y_p rfl).v (v' := .i .i64 0) rfl) rfl ?_
 refine at_nil <| x_tn <| at_block ?_
 refine at_loop (ι := Nat) (fun i => [(18, .sl 17 1 0 4), (19, nI 4), (20, nI i)]) (fun i => ⟨[(9, some ((pubK m S i).map u8)), (17, some ([.fn (.func 44) [] [.fp [.i .i64 n]], .fn (.func 45) [] [.fp [.i .i64 a, dgs S, dgs P], .fp [.i .i64 n]], .fn (.func 46) [] [.fp (m.map u8), .fp [.i .i64 a, dgs S, dgs P], .p 9 0], .fn (.func 48) [] [.p 9 0, .fp [.i .i64 a, dgs S, dgs P], .fp [.i .i64 n], .fp (r.map u8)]]))]⟩) (fun i => i ≤ 4 ∧ (0 < i → sizeK n) ∧ (1 < i → atK n a) ∧ (2 < i → recE S = 0) ∧ (3 < i → ((climbE a n P.length == 0) && (climbD (recD m S) a n P == r)) = true)) (fun i => 4 - i) ?_ ?_
 ·exact at_ex (0) (⟨by omega, fun h => absurd h (by omega), fun h => absurd h (by omega), fun h => absurd h (by omega), fun h => absurd h (by omega)⟩) [(9, some 9), (17, some 17)] hI rfl rfl ⟨⟨_, rfl, .sl rfl (by first | rfl | omega | (simp <;> omega) | (simp [*] <;> omega))⟩, ⟨_, rfl, .pure pu⟩, ⟨_, rfl, .pure pu⟩, trivial⟩ ⟨.inr ⟨_, _, rfl, rfl, .of (by rfl) (.pure pul)⟩, .inr ⟨_, _, rfl, rfl, .cons (.pure pu) (.cons (.pure pu) (.cons (.fn .nil (.cons (.pure pu) (.cons (.pure pu) (.cons (.p rfl) .nil)))) (.cons (.fn .nil (.cons (.p rfl) (.cons (.pure pu) (.cons (.pure pu) (.cons (.pure pu) .nil))))) .nil)))⟩, trivial⟩
 rintro i ⟨hi, p1, p2, p3, p4⟩
 refine at_seq <| at_region <| s1 (y_p rfl) rfl ?_
 refine at_nil <| x_tn <| at_seq ?_
 refine at_cond rfl (fun hc21 => ?_) (fun hc21 => ?_)
 ·have h21 : i < 4 := by have := of_decide_eq_true hc21; omega
  refine at_skip <| x_tn <| at_seq <| at_block <| at_seq ?_
  rcases show i = 0 ∨ i = 1 ∨ i = 2 ∨ i = 3 by omega with hcs | hcs | hcs | hcs
  ·subst hcs
   refine at_region <| s1 (y_ixs 0 Tryd.underlying70 ti24 rfl rfl rfl rfl (by omega) rfl) rfl <| s1 (y_load ti24 rfl rfl rfl) rfl <| s1 (y_p rfl) rfl ?_
   refine at_nil <| x_tn <| at_seq <| at_region <| s1 (y_p rfl) rfl ?_
   refine at_op rfl (n_callv false rfl rfl (.cons (.pure pu) .nil) (vc1_ok n) pu (.inl rfl) rfl ?_)
   refine s1 (y_p rfl) rfl ?_
   refine at_nil <| x_tn ?_
   refine at_cond rfl (fun hc26 => ?_) (fun hc26 => ?_)
   ·skip
    refine at_seq <| at_region <| s1 ((y_p rfl).v (v' := .i .i64 60) rfl) rfl ?_
    refine at_nil <| x_tn <| at_ret <| x_br <| x_tr <| x_tr <| x_br <| x_tr ?_
    refine at_result (rs := [.tmp 8]) rfl (r_tmp rfl r_nil) ?_
    exact congrArg (A.i .i64) (by rw [ver_k1 (by simpa using hc26)]; rfl)
   ·skip
    refine at_skip <| x_bn <| x_tn <| at_region <| s1 (addN _ 1 rfl rfl rfl rfl (by omega)) rfl <| s1 (y_p rfl) rfl ?_
    refine at_nil ?_
    exact at_end (0 + 1) (⟨by omega, fun _ => by simpa using hc26, fun h => absurd h (by omega), fun h => absurd h (by omega), fun h => absurd h (by omega)⟩) (by omega) [(9, some 9), (17, some 17)] hI rfl rfl ⟨⟨_, rfl, .sl rfl (by first | rfl | omega | (simp <;> omega) | (simp [*] <;> omega))⟩, ⟨_, rfl, .pure pu⟩, ⟨_, rfl, .pure pu⟩, trivial⟩ ⟨.inr ⟨_, _, rfl, rfl, .of (by rfl) (.pure pul)⟩, .inr ⟨_, _, rfl, rfl, .cons (.pure pu) (.cons (.pure pu) (.cons (.fn .nil (.cons (.pure pu) (.cons (.pure pu) (.cons (.p rfl) .nil)))) (.cons (.fn .nil (.cons (.p rfl) (.cons (.pure pu) (.cons (.pure pu) (.cons (.pure pu) .nil))))) .nil)))⟩, trivial⟩
  ·subst hcs
   refine at_region <| s1 (y_ixs 1 Tryd.underlying70 ti24 rfl rfl rfl rfl (by omega) rfl) rfl <| s1 (y_load ti24 rfl rfl rfl) rfl <| s1 (y_p rfl) rfl ?_
   refine at_nil <| x_tn <| at_seq <| at_region <| s1 (y_p rfl) rfl ?_
   refine at_op rfl (n_callv false rfl rfl (.cons (.pure pu) (.cons (.pure pu) .nil)) (vc2_ok a n S P) pu (.inl rfl) rfl ?_)
   refine s1 (y_p rfl) rfl ?_
   refine at_nil <| x_tn ?_
   refine at_cond rfl (fun hc26 => ?_) (fun hc26 => ?_)
   ·skip
    refine at_seq <| at_region <| s1 ((y_p rfl).v (v' := .i .i64 60) rfl) rfl ?_
    refine at_nil <| x_tn <| at_ret <| x_br <| x_tr <| x_tr <| x_br <| x_tr ?_
    refine at_result (rs := [.tmp 8]) rfl (r_tmp rfl r_nil) ?_
    exact congrArg (A.i .i64) (by rw [ver_k2 (by simpa using hc26)]; rfl)
   ·skip
    refine at_skip <| x_bn <| x_tn <| at_region <| s1 (addN _ 1 rfl rfl rfl rfl (by omega)) rfl <| s1 (y_p rfl) rfl ?_
    refine at_nil ?_
    exact at_end (1 + 1) (⟨by omega, fun _ => p1 (by omega), fun _ => by simpa using hc26, fun h => absurd h (by omega), fun h => absurd h (by omega)⟩) (by omega) [(9, some 9), (17, some 17)] hI rfl rfl ⟨⟨_, rfl, .sl rfl (by first | rfl | omega | (simp <;> omega) | (simp [*] <;> omega))⟩, ⟨_, rfl, .pure pu⟩, ⟨_, rfl, .pure pu⟩, trivial⟩ ⟨.inr ⟨_, _, rfl, rfl, .of (by rfl) (.pure pul)⟩, .inr ⟨_, _, rfl, rfl, .cons (.pure pu) (.cons (.pure pu) (.cons (.fn .nil (.cons (.pure pu) (.cons (.pure pu) (.cons (.p rfl) .nil)))) (.cons (.fn .nil (.cons (.p rfl) (.cons (.pure pu) (.cons (.pure pu) (.cons (.pure pu) .nil))))) .nil)))⟩, trivial⟩
  ·subst hcs
   refine at_region <| s1 (y_ixs 2 Tryd.underlying70 ti24 rfl rfl rfl rfl (by omega) rfl) rfl <| s1 (y_load ti24 rfl rfl rfl) rfl <| s1 (y_p rfl) rfl ?_
   refine at_nil <| x_tn <| at_seq <| at_region <| s1 (y_p rfl) rfl ?_
   refine at_op rfl (n_callG ⟨[(9, some (zD.map u8))]⟩ [(9, (recD m S).map u8)] false rfl rfl ⟨⟨rfl, VwL.pure pul⟩, trivial⟩ (.cons (.pure pu) (.cons (.pure pu) (.cons (.kp rfl) .nil))) (vc3_ok m a S P hm hS) trivial (.inl rfl) (upd_1 (c0 := zD.map u8) rfl pul ful) rfl ?_)
   refine s1 (y_p rfl) rfl ?_
   refine at_nil <| x_tn ?_
   refine at_cond rfl (fun hc26 => ?_) (fun hc26 => ?_)
   ·skip
    refine at_seq <| at_region <| s1 ((y_p rfl).v (v' := .i .i64 60) rfl) rfl ?_
    refine at_nil <| x_tn <| at_ret <| x_br <| x_tr <| x_tr <| x_br <| x_tr ?_
    refine at_result (rs := [.tmp 8]) rfl (r_tmp rfl r_nil) ?_
    exact congrArg (A.i .i64) (by rw [ver_k3 (by simpa using hc26)]; rfl)
   ·skip
    refine at_skip <| x_bn <| x_tn <| at_region <| s1 (addN _ 1 rfl rfl rfl rfl (by omega)) rfl <| s1 (y_p rfl) rfl ?_
    refine at_nil ?_
    exact at_end (2 + 1) (⟨by omega, fun _ => p1 (by omega), fun _ => p2 (by omega), fun _ => by simpa using hc26, fun h => absurd h (by omega)⟩) (by omega) [(9, some 9), (17, some 17)] hI rfl rfl ⟨⟨_, rfl, .sl rfl (by first | rfl | omega | (simp <;> omega) | (simp [*] <;> omega))⟩, ⟨_, rfl, .pure pu⟩, ⟨_, rfl, .pure pu⟩, trivial⟩ ⟨.inr ⟨_, _, rfl, rfl, .of (by rfl) (.pure pul)⟩, .inr ⟨_, _, rfl, rfl, .cons (.pure pu) (.cons (.pure pu) (.cons (.fn .nil (.cons (.pure pu) (.cons (.pure pu) (.cons (.p rfl) .nil)))) (.cons (.fn .nil (.cons (.p rfl) (.cons (.pure pu) (.cons (.pure pu) (.cons (.pure pu) .nil))))) .nil)))⟩, trivial⟩
  ·subst hcs
   refine at_region <| s1 (y_ixs 3 Tryd.underlying70 ti24 rfl rfl rfl rfl (by omega) rfl) rfl <| s1 (y_load ti24 rfl rfl rfl) rfl <| s1 (y_p rfl) rfl ?_
   refine at_nil <| x_tn <| at_seq <| at_region <| s1 (y_p rfl) rfl ?_
   refine at_op rfl (n_callG ⟨[(9, some ((recD m S).map u8))]⟩ [(9, (recD m S).map u8)] false rfl rfl ⟨⟨rfl, VwL.pure pul⟩, trivial⟩ (.cons (.kp rfl) (.cons (.pure pu) (.cons (.pure pu) (.cons (.pure pu) .nil)))) (vc4_ok r m n a S P hr hP) trivial (.inl rfl) (upd_1 (c0 := (recD m S).map u8) rfl pul ful) rfl ?_)
   refine s1 (y_p rfl) rfl ?_
   refine at_nil <| x_tn ?_
   refine at_cond rfl (fun hc26 => ?_) (fun hc26 => ?_)
   ·skip
    refine at_seq <| at_region <| s1 ((y_p rfl).v (v' := .i .i64 60) rfl) rfl ?_
    refine at_nil <| x_tn <| at_ret <| x_br <| x_tr <| x_tr <| x_br <| x_tr ?_
    refine at_result (rs := [.tmp 8]) rfl (r_tmp rfl r_nil) ?_
    exact congrArg (A.i .i64) (by rw [ver_k4 (by rwa [Bool.not_eq_true'] at hc26)]; rfl)
   ·skip
    refine at_skip <| x_bn <| x_tn <| at_region <| s1 (addN _ 1 rfl rfl rfl rfl (by omega)) rfl <| s1 (y_p rfl) rfl ?_
    refine at_nil ?_
    exact at_end (3 + 1) (⟨by omega, fun _ => p1 (by omega), fun _ => p2 (by omega), fun _ => p3 (by omega), fun _ => by simpa using hc26⟩) (by omega) [(9, some 9), (17, some 17)] hI rfl rfl ⟨⟨_, rfl, .sl rfl (by first | rfl | omega | (simp <;> omega) | (simp [*] <;> omega))⟩, ⟨_, rfl, .pure pu⟩, ⟨_, rfl, .pure pu⟩, trivial⟩ ⟨.inr ⟨_, _, rfl, rfl, .of (by rfl) (.pure pul)⟩, .inr ⟨_, _, rfl, rfl, .cons (.pure pu) (.cons (.pure pu) (.cons (.fn .nil (.cons (.pure pu) (.cons (.pure pu) (.cons (.p rfl) .nil)))) (.cons (.fn .nil (.cons (.p rfl) (.cons (.pure pu) (.cons (.pure pu) (.cons (.pure pu) .nil))))) .nil)))⟩, trivial⟩
 ·have h21 : i = 4 := by have := of_decide_eq_false hc21; omega
  subst h21
  refine at_exit <| x_te <| x_te <| x_be <| x_tn <| at_seq <| at_region <| s1 ((y_p rfl).v (v' := .i .i64 0) rfl) rfl ?_
  refine at_nil <| x_tn <| at_ret ?_
  refine at_result (rs := [.tmp 8]) rfl (r_tmp rfl r_nil) ?_
  exact congrArg (A.i .i64) (by rw [ver_kt (p1 (by omega)) (p2 (by omega)) (p3 (by omega)) (p4 (by omega))]; rfl)
end Go.Abs.D2
-- K6P
namespace Go.Abs.D2
open Go Go.Eng Go.Abs
theorem tfK (b : Bool) : b = false ∨ b = true := by cases b <;> simp
def sgnK (L : List (List UInt8)) (i : Nat) : List UInt8 := L.getD i zD
theorem len_sgnK {L : List (List UInt8)} (h : D32 L) (i : Nat) : (sgnK L i).length = 32 := by
  unfold sgnK
  rw [List.getD]
  cases hq : L[i]? with
  | none => simp
  | some q => exact h q (List.mem_of_getElem? hq)
theorem sgnK_in {L : List (List UInt8)} {i : Nat} {q : List UInt8} (h : L[i]? = some q) : sgnK L i = q := by unfold sgnK; simp [h]
theorem sgnK_out {L : List (List UInt8)} {i : Nat} (h : ¬ i < L.length) : sgnK L i = zD := by unfold sgnK; rw [List.getD, List.getElem?_eq_none (by omega)]; rfl
def knwK (q : List UInt8) : List Nat := if q == zD then List.replicate 19 3 else digits q
def kdg (q : List UInt8) (i : Nat) : Nat := if q == zD then 3 else dg q i
theorem knw_yes {q : List UInt8} (h : (q == zD) = true) : knwK q = List.replicate 19 3 := by unfold knwK; rw [if_pos h]
theorem knw_no {q : List UInt8} (h : (q == zD) = false) : knwK q = digits q := by unfold knwK; rw [if_neg (by rw [h]; decide)]
theorem get_knw (q : List UInt8) (i : Nat) (h : i < 19) : (((knwK q).map nI).drop (i * 1))[0]? = some (nI (kdg q i)) := by
  unfold knwK kdg
  cases hq : q == zD with
  | true =>
    rw [if_pos rfl, if_pos rfl, List.getElem?_drop, show i * 1 + 0 = i by omega, List.getElem?_map, List.getElem?_replicate, if_pos h]; rfl
  | false =>
    rw [if_neg (by decide), if_neg (by decide)]
    exact get_dig3 q i h
theorem kdg_le (q : List UInt8) (i : Nat) : kdg q i ≤ 3 := by
  unfold kdg
  split
  · omega
  · have := dg_lt q i; omega
def badK (x m q : List UInt8) (S : List (List UInt8)) (i : Nat) : Bool := decide (dg m i < kdg q i) && (S.getD i [] == iterD (dg m i) (firstD x i))
@[irreducible] def forgK (x : List UInt8) (n : Int) (L : List (List UInt8)) (m : List UInt8) (a : Int) (S P : List (List UInt8)) : Int × Int :=
  let q := sgnK L a.toNat
  if verK (rootD x n) n m a S P then
    if !(q == zD) && q == m then (0, 0)
    else if !(q == zD) && digits m == digits q then (1, 0)
    else match (List.range 19).find? (badK (seedL x a) m q S) with
      | some i => (2, (i : Int))
      | none => (3, 0)
  else (0, 0)
@[irreducible] def forgA (x : List UInt8) (n : Int) (L : List (List UInt8)) (m : List UInt8) (a : Int) (S P : List (List UInt8)) : A := .tu [.i .i64 (forgK x n L m a S P).1, .i .i64 (forgK x n L m a S P).2]
theorem forgA_eq (x : List UInt8) (n : Int) (L : List (List UInt8)) (m : List UInt8) (a : Int) (S P : List (List UInt8)) : forgA x n L m a S P = .tu [.i .i64 (forgK x n L m a S P).1, .i .i64 (forgK x n L m a S P).2] := by unfold forgA; rfl
section
variable {x : List UInt8} {n a : Int} {L : List (List UInt8)} {m : List UInt8} {S P : List (List UInt8)}
theorem forg_no (h : verK (rootD x n) n m a S P = false) : forgK x n L m a S P = (0, 0) := by unfold forgK; simp [h]
theorem forg_own (h : (!(sgnK L a.toNat == zD) && sgnK L a.toNat == m) = true) : forgK x n L m a S P = (0, 0) := by unfold forgK; simp only [h, if_true]; split <;> rfl
theorem forg_same (h : verK (rootD x n) n m a S P = true) (h1 : (!(sgnK L a.toNat == zD) && sgnK L a.toNat == m) = false) (h2 : (!(sgnK L a.toNat == zD) && digits m == digits (sgnK L a.toNat)) = true) : forgK x n L m a S P = (1, 0) := by
  unfold forgK; simp only [h, h1, h2, if_true]; rfl
theorem forg_hit {i : Nat} (h : verK (rootD x n) n m a S P = true) (h1 : (!(sgnK L a.toNat == zD) && sgnK L a.toNat == m) = false) (h2 : (!(sgnK L a.toNat == zD) && digits m == digits (sgnK L a.toNat)) = false) (hi : i < 19) (hb : badK (seedL x a) m (sgnK L a.toNat) S i = true) (hall : ∀ t, t < i → badK (seedL x a) m (sgnK L a.toNat) S t = false) : forgK x n L m a S P = (2, (i : Int)) := by
  have : (List.range 19).find? (badK (seedL x a) m (sgnK L a.toNat) S) = some i := by
    rw [List.find?_eq_some_iff_append]
    refine ⟨hb, List.range i, (List.range 19).drop (i + 1), ?_, fun t ht => by rw [hall t (by simpa using ht)]; rfl⟩
    apply List.ext_getElem?
    intro j
    rw [List.getElem?_append]
    by_cases hj : j < 19
    · rw [List.getElem?_range hj]
      split
      · rename_i hji
        rw [List.getElem?_range (by simpa using hji)]
      · rename_i hji
        rw [List.length_range] at hji ⊢
        rcases Nat.lt_or_ge i j with hlt | hge
        · obtain ⟨k, rfl⟩ : ∃ k, j = i + 1 + k := ⟨j - (i + 1), by omega⟩
          rw [show i + 1 + k - i = k + 1 by omega, List.getElem?_cons_succ, List.getElem?_drop, List.getElem?_range (by omega)]
        · obtain rfl : j = i := by omega
          simp
    · rw [List.getElem?_eq_none (by simp; omega)]
      rw [if_neg (by simp; omega), List.length_range]
      rw [List.getElem?_eq_none (by simp; omega)]
  unfold forgK; simp only [h, h1, h2, if_true, this]; rfl
theorem forg_else (h : verK (rootD x n) n m a S P = true) (h1 : (!(sgnK L a.toNat == zD) && sgnK L a.toNat == m) = false) (h2 : (!(sgnK L a.toNat == zD) && digits m == digits (sgnK L a.toNat)) = false) (hall : ∀ t, t < 19 → badK (seedL x a) m (sgnK L a.toNat) S t = false) : forgK x n L m a S P = (3, 0) := by
  have : (List.range 19).find? (badK (seedL x a) m (sgnK L a.toNat) S) = none := by
    rw [List.find?_eq_none]
    intro t ht
    rw [hall t (by simpa using ht)]; decide
  unfold forgK; simp only [h, h1, h2, if_true, this]; rfl
theorem forg_ret {k c : Int} (h : forgK x n L m a S P = (k, c)) : A.tu [.i .i64 k, .i .i64 c] = forgA x n L m a S P := by rw [forgA_eq, h]
end
theorem bad_no {x m q : List UInt8} {S : List (List UInt8)} {i : Nat} (h : ¬ dg m i < kdg q i) : badK x m q S i = false := by unfold badK; rw [decide_eq_false h]; rfl
theorem bad_is {x m q s : List UInt8} {S : List (List UInt8)} {i : Nat} (h : dg m i < kdg q i) (hs : S[i]? = some s) : badK x m q S i = (s == iterD (dg m i) (firstD x i)) := by unfold badK; rw [decide_eq_true h, List.getD, hs]; rfl
theorem next_all {p : Nat → Bool} {i : Nat} (h : ∀ t, t < i → p t = false) (hp : p i = false) : ∀ t, t < i + 1 → p t = false := fun t ht => (Nat.lt_or_ge t i).elim (h t) fun hg => (Nat.le_antisymm (Nat.le_of_lt_succ ht) hg) ▸ hp
theorem recE_len {S : List (List UInt8)} (h : recE S = 0) : S.length = 19 := by
  unfold recE at h
  split at h
  · assumption
  · cases h
def fewK (n : Int) (s p : Nat) : Bool := (decide (n ≤ 10) || decide (n > 256)) && decide ((s : Int) ≤ 30) && decide ((p : Int) ≤ 12)
def szR (e : Nat) : Nat := min (2 ^ e) 19
theorem szR_next (e : Nat) (h : szR e < 19) : szR e + Nat.min (szR e) (19 - szR e) = szR (e + 1) := by
  unfold szR at *
  rw [Nat.pow_succ]
  show _ + min _ _ = _
  omega
theorem rep_next (e : Nat) (h : szR e < 19) : (List.replicate (szR e) (nI 3) ++ List.replicate (19 - szR e) (nI 0)).take (0 + szR e * 1) ++ (((List.replicate (szR e) (nI 3) ++ List.replicate (19 - szR e) (nI 0)).drop 0).take (szR e * 1)).take (Nat.min (szR e) (19 - szR e)) ++ (List.replicate (szR e) (nI 3) ++ List.replicate (19 - szR e) (nI 0)).drop (0 + szR e * 1 + Nat.min (szR e) (19 - szR e)) = List.replicate (szR (e + 1)) (nI 3) ++ List.replicate (19 - szR (e + 1)) (nI 0) := by
  have hn := szR_next e h
  have hm : Nat.min (szR e) (19 - szR e) ≤ szR e := Nat.min_le_left _ _
  generalize Nat.min (szR e) (19 - szR e) = c at *
  have h1 : szR e + c ≤ 19 := by rw [hn]; unfold szR; omega
  rw [← hn, Nat.mul_one, Nat.zero_add, List.drop_zero, List.take_left' List.length_replicate, List.take_replicate, Nat.min_eq_left hm, List.drop_append, List.drop_replicate, List.drop_replicate, List.length_replicate]
  rw [show szR e - (szR e + c) = 0 by omega, show 19 - szR e - (szR e + c - szR e) = 19 - (szR e + c) by omega, List.replicate_append_replicate, List.replicate_zero, List.nil_append]
theorem szR_le (e : Nat) : szR e ≤ 19 := Nat.min_le_right _ _
theorem rep_pos {e : Nat} (h0 : 0 < szR e) (h : szR e < 19) : 0 < Nat.min (szR e) (19 - szR e) := by
  show 0 < min _ _; omega
theorem rep_fit {e : Nat} (_h : szR e < 19) : 0 + szR e * 1 + Nat.min (szR e) (19 - szR e) ≤ (List.replicate (szR e) (nI 3) ++ List.replicate (19 - szR e) (nI 0)).length := by
  have : Nat.min (szR e) (19 - szR e) ≤ 19 - szR e := Nat.min_le_right _ _
  simp only [List.length_append, List.length_replicate]; omega
theorem rep_pre {e : Nat} (h0 : 0 < szR e) (h : szR e < 19) : 0 < szR (e + 1) ∧ szR (e + 1) ≤ 19 := by
  have := szR_next e h
  exact ⟨by omega, szR_le _⟩
theorem rep_dec {e : Nat} (h0 : 0 < szR e) (h : szR e < 19) : 19 - szR (e + 1) < 19 - szR e := by
  have h1 := szR_next e h
  have h2 := rep_pos h0 h
  omega
theorem all_nextK {p : Nat → Prop} {i : Nat} (h : ∀ t, t < i → p t) (hp : p i) : ∀ t, t < i + 1 → p t := fun t ht => (Nat.lt_or_ge t i).elim (h t) fun hg => (Nat.le_antisymm (Nat.le_of_lt_succ ht) hg) ▸ hp
theorem beq_listsK {α : Type} [BEq α] [LawfulBEq α] {L M : List α} (hl : L.length = M.length) (h : ∀ t, t < L.length → L[t]? = M[t]?) : (L == M) = true := by
  rw [beq_iff_eq]
  apply List.ext_getElem?
  intro t
  by_cases ht : t < L.length
  · exact h t ht
  · rw [List.getElem?_eq_none (by omega), List.getElem?_eq_none (by omega)]
theorem nbeq_listsK {α : Type} [BEq α] [LawfulBEq α] {L M : List α} {t : Nat} (h : L[t]? ≠ M[t]?) : (L == M) = false := by
  rw [beq_eq_false_iff_ne]; rintro rfl; exact h rfl
theorem rep_0 : ((List.replicate 19 (Value.int .i64 0)).map evC).take 0 ++ [nI 3] ++ ((List.replicate 19 (Value.int .i64 0)).map evC).drop (0 + 1) = List.replicate (szR 0) (nI 3) ++ List.replicate (19 - szR 0) (nI 0) := by
  kernel_rfl
end Go.Abs.D2
-- K6E
namespace Go.Abs.D2
open Go Go.Eng Go.Abs Go.Proofs 
theorem mul64_ok : Con Tryd.prog 93 [w64 (c64 1), w64 (c64 19)] (Ret (.tu [w64 (c64 0), w64 (c64 19)])) := by
 refine enter Tryd.func93 rfl Tryd.ntmps93 (by kernel_rfl) (Nat.le_of_ble_eq_true rfl) fun w0 X0 hI => ?_
 refine at_seq <| at_region <| s1 ((y_p rfl).v (v' := .i .u64 0) rfl) rfl <| s1 ((y_p rfl).v (v' := .i .u64 0) rfl) rfl ?_
 refine at_nil <| x_tn <| at_seq <| at_region <| s1 (y_p rfl) rfl <| s1 ((and64 _ (c64 4294967295) rfl rfl).v (v' := w64 (c64 1)) (congrArg w64 (by decide))) rfl <| s1 (y_p rfl) rfl ?_
 refine at_nil <| x_tn <| at_seq <| at_region <| s1 (y_p rfl) rfl <| s1 ((shr64 _ 32 rfl rfl rfl (by decide)).v (v' := w64 (c64 0)) (congrArg w64 (by decide))) rfl <| s1 (y_p rfl) rfl ?_
 refine at_nil <| x_tn <| at_seq <| at_region <| s1 (y_p rfl) rfl <| s1 ((and64 _ (c64 4294967295) rfl rfl).v (v' := w64 (c64 19)) (congrArg w64 (by decide))) rfl <| s1 (y_p rfl) rfl ?_
 refine at_nil <| x_tn <| at_seq <| at_region <| s1 (y_p rfl) rfl <| s1 ((shr64 _ 32 rfl rfl rfl (by decide)).v (v' := w64 (c64 0)) (congrArg w64 (by decide))) rfl <| s1 (y_p rfl) rfl ?_
 refine at_nil <| x_tn <| at_seq <| at_region <| s1 (y_p rfl) rfl <| s1 (y_p rfl) rfl <| s1 ((mul64 _ _ rfl rfl).v (v' := w64 (c64 19)) (congrArg w64 (by decide))) rfl <| s1 (y_p rfl) rfl ?_
 refine at_nil <| x_tn <| at_seq <| at_region <| s1 (y_p rfl) rfl <| s1 (y_p rfl) rfl <| s1 ((mul64 _ _ rfl rfl).v (v' := w64 (c64 0)) (congrArg w64 (by decide))) rfl <| s1 (y_p rfl) rfl <| s1 ((shr64 _ 32 rfl rfl rfl (by decide)).v (v' := w64 (c64 0)) (congrArg w64 (by decide))) rfl <| s1 ((add64 _ _ rfl rfl).v (v' := w64 (c64 0)) (congrArg w64 (by decide))) rfl <| s1 (y_p rfl) rfl ?_
 refine at_nil <| x_tn <| at_seq <| at_region <| s1 (y_p rfl) rfl <| s1 ((and64 _ (c64 4294967295) rfl rfl).v (v' := w64 (c64 0)) (congrArg w64 (by decide))) rfl <| s1 (y_p rfl) rfl ?_
 refine at_nil <| x_tn <| at_seq <| at_region <| s1 (y_p rfl) rfl <| s1 ((shr64 _ 32 rfl rfl rfl (by decide)).v (v' := w64 (c64 0)) (congrArg w64 (by decide))) rfl <| s1 (y_p rfl) rfl ?_
 refine at_nil <| x_tn <| at_seq <| at_region <| s1 (y_p rfl) rfl <| s1 (y_p rfl) rfl <| s1 (y_p rfl) rfl <| s1 ((mul64 _ _ rfl rfl).v (v' := w64 (c64 0)) (congrArg w64 (by decide))) rfl <| s1 ((add64 _ _ rfl rfl).v (v' := w64 (c64 0)) (congrArg w64 (by decide))) rfl <| s1 (y_p rfl) rfl ?_
 refine at_nil <| x_tn <| at_seq <| at_region <| s1 (y_p rfl) rfl <| s1 (y_p rfl) rfl <| s1 ((mul64 _ _ rfl rfl).v (v' := w64 (c64 0)) (congrArg w64 (by decide))) rfl <| s1 (y_p rfl) rfl <| s1 ((add64 _ _ rfl rfl).v (v' := w64 (c64 0)) (congrArg w64 (by decide))) rfl <| s1 (y_p rfl) rfl <| s1 ((shr64 _ 32 rfl rfl rfl (by decide)).v (v' := w64 (c64 0)) (congrArg w64 (by decide))) rfl <| s1 ((add64 _ _ rfl rfl).v (v' := w64 (c64 0)) (congrArg w64 (by decide))) rfl <| s1 (y_p rfl) rfl ?_
 refine at_nil <| x_tn <| at_seq <| at_region <| s1 (y_p rfl) rfl <| s1 (y_p rfl) rfl <| s1 ((mul64 _ _ rfl rfl).v (v' := w64 (c64 19)) (congrArg w64 (by decide))) rfl <| s1 (y_p rfl) rfl ?_
 refine at_nil <| x_tn <| at_ret ?_
 refine at_result (rs := [.tmp 4, .tmp 5]) rfl (r_tmp rfl (r_tmp rfl (r_nil))) rfl
theorem mul_ok : Con Tryd.prog 81 [w64 (c64 1), w64 (c64 19)] (Ret (.tu [w64 (c64 0), w64 (c64 19)])) := by
 refine enter Tryd.func81 rfl Tryd.ntmps81 (by kernel_rfl) (Nat.le_of_ble_eq_true rfl) fun w0 X0 hI => ?_
 refine at_seq <| at_region <| s1 ((y_p rfl).v (v' := .i .u64 0) rfl) rfl <| s1 ((y_p rfl).v (v' := .i .u64 0) rfl) rfl ?_
 refine at_nil <| x_tn <| at_seq ?_
 refine at_else rfl ?_
 refine at_skip <| x_tn <| at_seq <| at_region <| s1 (y_p rfl) rfl <| s1 (y_p rfl) rfl ?_
 refine at_op rfl (n_call false rfl (.cons (.pure pu) (.cons (.pure pu) (.nil))) (mul64_ok) pu (.inl rfl) rfl ?_)
 refine s1 (y_p rfl) rfl <| s1 (y_p rfl) rfl <| s1 (y_p rfl) rfl <| s1 (y_p rfl) rfl <| s1 (y_p rfl) rfl ?_
 refine at_nil <| x_tn <| at_seq <| at_region <| s1 (y_p rfl) rfl <| s1 (y_p rfl) rfl <| s1 (y_p rfl) rfl <| s1 (y_p rfl) rfl ?_
 refine at_nil <| x_tn <| at_ret ?_
 refine at_result (rs := [.tmp 4, .tmp 5]) rfl (r_tmp rfl (r_tmp rfl (r_nil))) rfl
theorem repeat_ok : Con Tryd.prog 51 [.fz 1 [nI 3], nI 19] (RetO 1 19 (List.replicate 19 (nI 3))) := by
 refine enter Tryd.func51 rfl Tryd.ntmps51 (by kernel_rfl) (Nat.le_of_ble_eq_true rfl) fun w0 X0 hI => ?_
 refine at_seq <| at_region <| s1 (y_p rfl) rfl ?_
 refine at_nil <| x_tn <| at_seq <| at_seq <| at_region <| s1 (y_p rfl) rfl <| s1 ((y_p rfl).v (v' := .b false) (rfl)) rfl ?_
 refine at_nil <| x_tn ?_
 refine at_else rfl ?_
 refine at_skip <| x_tn <| at_seq <| at_region <| s1 (y_p rfl) rfl <| s1 (y_len Tryd.underlying42 rfl rfl rfl) rfl <| s1 (ofN_64 1 Tryd.underlying3 Tryd.underlying93 rfl rfl) rfl <| s1 (y_p rfl) rfl <| s1 (ofN_64 19 Tryd.underlying3 Tryd.underlying93 rfl rfl) rfl ?_
 refine at_op rfl (n_call false rfl (.cons (.pure pu) (.cons (.pure pu) (.nil))) (mul_ok) pu (.inl rfl) rfl ?_)
 refine s1 (y_p rfl) rfl <| s1 (y_p rfl) rfl <| s1 (y_p rfl) rfl <| s1 (y_p rfl) rfl <| s1 (y_p rfl) rfl ?_
 refine at_nil <| x_tn <| at_seq <| at_seq <| at_region <| s1 (y_p rfl) rfl <| s1 ((y_p rfl).v (v' := .b false) (congrArg A.b (by decide))) rfl <| s1 (y_p rfl) rfl <| g1 rfl rfl (y_p rfl) rfl <| g1 rfl rfl ((y_p rfl).v (v' := .b false) (congrArg A.b (by decide))) rfl <| s1 (y_p rfl) rfl ?_
 refine at_nil <| x_tn ?_
 refine at_else rfl ?_
 refine at_skip <| x_tn <| at_seq <| at_region <| s1 (y_p rfl) rfl <| s1 ((y_conv Tryd.underlying93 Tryd.underlying3 rfl).v (v' := nI 19) (congrArg (A.i .i64) (by decide))) rfl ?_
 refine at_op rfl (n_make 30 rfl _ _ Tryd.underlying42 ti3 rfl rfl rfl rfl rfl (by first | omega | (simp only [maxLen]; omega) | (simp [maxLen]; done) | (simp [maxLen]; omega) | (simp [maxLen, *]; omega)) (by first | omega | (simp only [maxLen]; omega) | (simp [maxLen]; done) | (simp [maxLen]; omega) | (simp [maxLen, *]; omega)) (by first | omega | (simp only [maxLen]; omega) | (simp [maxLen]; done) | (simp [maxLen]; omega) | (simp [maxLen, *]; omega)) rfl ?_)
 refine s1 (y_p rfl) rfl ?_
 refine at_nil <| x_tn <| at_seq <| at_region <| s1 (y_p rfl) rfl <| s1 (y_p rfl) rfl ?_
 refine at_op rfl (n_copyC (1) Tryd.underlying42 ti3 rfl rfl rfl rfl (by first | rfl | omega | (simp <;> omega) | (simp [*] <;> omega)) rfl (by decide) (by first | omega | (simp only [maxLen]; omega) | (simp [maxLen]; done) | (simp [maxLen]; omega) | (simp [maxLen, *]; omega)) rep_0 rfl ?_)
 refine s1 (y_p rfl) rfl ?_
 refine at_nil <| x_tn <| at_seq <| at_block ?_
 refine at_loop (ι := Nat) (fun e => [(7, .sl 30 1 0 19), (8, nI (szR e))]) (fun e => ⟨[(30, some (List.replicate (szR e) (nI 3) ++ List.replicate (19 - szR e) (nI 0)))]⟩) (fun e => 0 < szR e ∧ szR e ≤ 19) (fun e => 19 - szR e) ?_ ?_
 ·exact at_ex (0) (⟨by decide, by decide⟩) [(30, some 30)] hI rfl rfl ⟨⟨_, rfl, .sl rfl (by first | rfl | omega | (simp <;> omega) | (simp [*] <;> omega))⟩, ⟨_, rfl, .of (by rfl) (.pure pu)⟩, trivial⟩ ⟨.inr ⟨_, _, rfl, rfl, .pure pul⟩, trivial⟩
 rintro e ⟨he, he2⟩
 refine at_seq <| at_seq <| at_region <| s1 (y_p rfl) rfl <| s1 (y_p rfl) rfl <| s1 (y_len Tryd.underlying42 rfl rfl rfl) rfl <| s1 (y_p rfl) rfl ?_
 refine at_nil <| x_tn ?_
 refine at_cond rfl (fun hc37 => ?_) (fun hc37 => ?_)
 ·have h37 : szR e < 19 := by have := of_decide_eq_true hc37; omega
  refine at_skip <| x_tn <| at_block ?_
  refine at_fs ⟨_, [], []⟩ 9 4 hmix (le_refl rfl) ?_
  refine fs_q 0 [] [] (y_p rfl) rfl rfl ?_
  refine fs_q 1 [] [(30, none)] (y_p rfl) rfl rfl ?_
  refine fs_q 2 [] [] (y_p rfl) rfl rfl ?_
  refine fs_q 3 [1, 2] [(30, none)] (y_cuts (19 - szR e) Tryd.underlying42 ti3 rfl rfl (bs rfl rfl) bn (by omega) (by omega) rfl rfl) rfl rfl ?_
  refine fs_q 4 [] [(30, none)] (y_p rfl) rfl rfl ?_
  refine fs_q 5 [] [] (y_p rfl) rfl rfl ?_
  refine fs_q 6 [4, 5] [(30, none)] (y_cuts (szR e) Tryd.underlying42 ti3 rfl rfl bn (bs rfl rfl) (by omega) (by omega) rfl rfl) rfl rfl ?_
  refine fs_copyC (Nat.min (szR e) (19 - szR e)) 7 [3, 6] [(30, none)] gy0 Tryd.underlying42 ti3 rfl rfl rfl rfl (by first | rfl | omega | (simp <;> omega) | (simp [*] <;> omega)) rfl (rep_pos he h37) (rep_fit h37) rfl rfl rfl ?_
  refine fs_q 8 [0, 7] [] (addN (szR e) (Nat.min (szR e) (19 - szR e)) rfl rfl rfl rfl (by have := szR_next e h37; have := szR_le (e + 1); omega)) rfl rfl ?_
  refine fs_end (by kernel_rfl) ?_
  refine s1 (y_p rfl) rfl ?_
  refine at_nil <| x_bn ?_
  exact at_end (e + 1) (rep_pre he h37) (rep_dec he h37) [(30, some 30)] hI rfl rfl ⟨⟨_, rfl, .sl rfl (by first | rfl | omega | (simp <;> omega) | (simp [*] <;> omega))⟩, ⟨_, rfl, .of (congrArg nI (szR_next e h37)) (.pure pu)⟩, trivial⟩ ⟨.inr ⟨_, _, rfl, rfl, .of (rep_next e h37) (.pure pul)⟩, trivial⟩
 ·have h37 : szR e = 19 := by have := of_decide_eq_false hc37; omega
  refine at_exit <| x_te <| x_te <| x_be <| x_tn <| at_seq <| at_region <| s1 (y_p rfl) rfl <| s1 (y_p rfl) rfl ?_
  refine at_nil <| x_tn <| at_ret ?_
  refine at_result (rs := [.tmp 4]) rfl (r_tmp rfl r_nil) ⟨30, rfl, ?_⟩
  rw [h37]; rfl
theorem equalI_ok (L M : List Nat) (hL : L.length < 1000000) : Con Tryd.prog 52 [.fz L.length (L.map nI), .fz M.length (M.map nI)] (Ret (.b (L == M))) := by
 refine enter Tryd.func52 rfl Tryd.ntmps52 (by kernel_rfl) (Nat.le_of_ble_eq_true rfl) fun w0 X0 hI => ?_
 refine at_seq <| at_region <| s1 (y_p rfl) rfl ?_
 refine at_nil <| x_tn <| at_seq <| at_seq <| at_region <| s1 (y_p rfl) rfl <| s1 (y_len Tryd.underlying42 rfl rfl rfl) rfl <| s1 (y_p rfl) rfl <| s1 (y_len Tryd.underlying42 rfl rfl rfl) rfl <| s1 (y_p rfl) rfl ?_
 refine at_nil <| x_tn ?_
 refine at_cond rfl (fun hc10 => ?_) (fun hc10 => ?_)
 ·have hl : L.length ≠ M.length := by intro h; rw [h] at hc10; simp at hc10
  refine at_seq <| at_region <| s1 (y_p rfl) rfl ?_
  refine at_nil <| x_tn <| at_ret <| x_tr ?_
  refine at_result (rs := [.tmp 4]) rfl (r_tmp rfl r_nil) ?_
  exact congrArg A.b (beq_eq_false_iff_ne.2 fun h => hl (congrArg List.length h)).symm
 ·have hl : L.length = M.length := by simp at hc10; omega
  refine at_skip <| x_tn <| at_seq <| at_seq <| at_region <| s1 (y_p rfl) rfl <| s1 (y_len Tryd.underlying42 rfl rfl rfl) rfl <| s1 ((y_p rfl).v (v' := .i .i64 0) rfl) rfl ?_
  refine at_nil <| x_tn <| at_block ?_
  refine at_loop (ι := Nat) (fun i => [(0, .fz L.length (L.map nI)), (1, .fz M.length (M.map nI)), (12, nI L.length), (13, nI i)]) (fun i => ⟨[]⟩) (fun i => i ≤ L.length ∧ ∀ t, t < i → L[t]? = M[t]?) (fun i => L.length - i) ?_ ?_
  ·exact at_ex (0) (⟨Nat.zero_le _, fun t ht => absurd ht (by omega)⟩) [] hI rfl rfl ⟨⟨_, rfl, .pure pu⟩, ⟨_, rfl, .pure pu⟩, ⟨_, rfl, .pure pu⟩, ⟨_, rfl, .pure pu⟩, trivial⟩ trivial
  rintro i ⟨hi, hall⟩
  refine at_seq <| at_region <| s1 (y_p rfl) rfl ?_
  refine at_nil <| x_tn <| at_seq ?_
  refine at_cond rfl (fun hc14 => ?_) (fun hc14 => ?_)
  ·have h14 : i < L.length := by have := of_decide_eq_true hc14; omega
   obtain ⟨u, hu⟩ : ∃ u, L[i]? = some u := ⟨_, List.getElem?_eq_getElem h14⟩
   obtain ⟨v, hv⟩ : ∃ v, M[i]? = some v := ⟨_, List.getElem?_eq_getElem (by omega)⟩
   refine at_skip <| x_tn <| at_seq <| at_block <| at_seq <| at_region <| s1 (y_p rfl) rfl <| s1 (y_p rfl) rfl ?_
   refine at_nil <| x_tn <| at_seq ?_
   refine at_draw_tail 8 hmix (by kernel_rfl) ?_
   refine t1 (y_p rfl) rfl <| t1 (y_p rfl) rfl <| t1 (y_ixf i Tryd.underlying42 ti3 rfl rfl rfl (by omega) rfl) rfl <| t1 (y_load ti3 rfl rfl (get_nI hu)) rfl <| t1 (y_p rfl) rfl <| t1 (y_p rfl) rfl <| t1 (y_ixf i Tryd.underlying42 ti3 rfl rfl rfl (by omega) rfl) rfl <| t1 (y_load ti3 rfl rfl (get_nI hv)) rfl ?_
   refine at_snil ?_
   refine s1 (y_p rfl) rfl ?_
   refine at_nil <| x_tn ?_
   refine at_cond rfl (fun hc24 => ?_) (fun hc24 => ?_)
   ·have hne : u ≠ v := by intro h; subst h; simp at hc24
    refine at_seq <| at_region <| s1 (y_p rfl) rfl ?_
    refine at_nil <| x_tn <| at_ret <| x_br <| x_tr <| x_tr <| x_br <| x_tr ?_
    refine at_result (rs := [.tmp 4]) rfl (r_tmp rfl r_nil) ?_
    exact congrArg A.b (nbeq_listsK (t := i) (by rw [hu, hv]; simpa using hne)).symm
   ·have heq : u = v := by simp at hc24; omega
    refine at_skip <| x_bn <| x_tn <| at_region <| s1 (addN _ 1 rfl rfl rfl rfl (by omega)) rfl <| s1 (y_p rfl) rfl ?_
    refine at_nil ?_
    exact at_end (i + 1) (⟨by omega, all_nextK hall (by rw [hu, hv, heq])⟩) (by omega) [] hI rfl rfl ⟨⟨_, rfl, .pure pu⟩, ⟨_, rfl, .pure pu⟩, ⟨_, rfl, .pure pu⟩, ⟨_, rfl, .pure pu⟩, trivial⟩ trivial
  ·have h14 : i = L.length := by have := of_decide_eq_false hc14; omega
   subst h14
   refine at_exit <| x_te <| x_te <| x_be <| x_tn <| at_seq <| at_region <| s1 (y_p rfl) rfl ?_
   refine at_nil <| x_tn <| at_ret ?_
   refine at_result (rs := [.tmp 4]) rfl (r_tmp rfl r_nil) ?_
   exact congrArg A.b (beq_listsK hl hall).symm
theorem equalD_ok (p q : List UInt8) : Con Tryd.prog 52 [.fz 19 ((digits p).map nI), .fz 19 ((digits q).map nI)] (Ret (.b (digits p == digits q))) := by
  have := equalI_ok (digits p) (digits q) (by simp)
  rwa [len_digits, len_digits] at this
theorem kforg_ok (x : List UInt8) (n : Int) (L : List (List UInt8)) (m : List UInt8) (a : Int) (S P : List (List UInt8)) (hx : x.length = 32) (hL : D32 L) (hl : L.length ≤ 1000) (hm : m.length = 32) (hS : D32 S) (hP : D32 P) : Con Tryd.prog 21 [.ag (x.map u8), .i .i64 n, dgs L, .ag (m.map u8), .ag [.i .i64 a, dgs S, dgs P]] (Ret (forgA x n L m a S P)) := by
 refine enter Tryd.func21 rfl Tryd.ntmps21 (by kernel_rfl) (Nat.le_of_ble_eq_true rfl) fun w0 X0 hI => ?_
 refine at_seq <| at_region ?_
 refine at_op rfl (n_boxA 5 rfl rfl rfl ?_)
 refine at_op rfl (n_boxA 8 rfl rfl rfl ?_)
 refine at_op rfl (n_boxA 9 rfl rfl rfl ?_)
 refine s1 ((y_p rfl).v (v' := .i .i64 0) rfl) rfl <| s1 ((y_p rfl).v (v' := .i .i64 0) rfl) rfl ?_
 refine at_nil <| x_tn <| at_seq ?_
 rcases (Decidable.em (sizeK n)).symm with hcs | hcs
 ·skip
  refine at_region <| s1 (y_loadA0 ti23 rfl rfl (by first | rfl | omega | (simp <;> omega) | (simp [*] <;> omega))) rfl <| s1 (y_p rfl) rfl ?_
  refine at_op rfl (n_call false rfl (.cons (.pure pu) (.cons (.pure pu) (.nil))) (Con.cast (root_ok x n hx) (rootA_no hcs)) pu (.inl rfl) rfl ?_)
  refine s1 (y_p rfl) rfl <| s1 (y_p rfl) rfl <| s1 (y_p rfl) rfl ?_
  refine at_op rfl (n_alloc 12 rfl ti23 rfl rfl ?_)
  refine at_op rfl (n_storeA ti23 rfl rfl rfl (by first | rfl | omega | (simp <;> omega) | (simp [*] <;> omega)) (by first | rfl | omega | (simp <;> omega) | (simp [*] <;> omega)) ?_)
  refine s1 (y_p rfl) rfl ?_
  refine at_nil <| x_tn <| at_seq <| at_seq <| at_region <| s1 (y_p rfl) rfl <| s1 ((y_p rfl).v (v' := .b true) (rfl)) rfl <| s1 (y_p rfl) rfl <| g0 rfl rfl rfl rfl <| g0 rfl rfl rfl rfl <| g0 rfl rfl rfl rfl <| g0 rfl rfl rfl rfl <| g0 rfl rfl rfl rfl <| g0 rfl rfl rfl rfl <| s1 (y_p rfl) rfl ?_
  refine at_nil <| x_tn ?_
  refine at_then rfl ?_
  refine at_seq <| at_region <| s1 ((y_p rfl).v (v' := .i .i64 0) rfl) rfl <| s1 ((y_p rfl).v (v' := .i .i64 0) rfl) rfl ?_
  refine at_nil <| x_tn <| at_ret <| x_tr ?_
  refine at_result (rs := [.tmp 10, .tmp 11]) rfl (r_tmp rfl (r_tmp rfl r_nil)) ?_
  exact forg_ret (forg_no (ver_k1 hcs))
 ·have hsz := hcs
  obtain ⟨k, rfl, h1, h2⟩ := sizeK_nat hcs
  refine at_region <| s1 (y_loadA0 ti23 rfl rfl (by first | rfl | omega | (simp <;> omega) | (simp [*] <;> omega))) rfl <| s1 (y_p rfl) rfl ?_
  refine at_op rfl (n_call false rfl (.cons (.pure pu) (.cons (.pure pu) (.nil))) (Con.cast (root_ok x k hx) ((rootA_eq ..).trans (by rw [decide_eq_true hsz]; rfl : _ = .tu [.ag ((rootD x (k : Int)).map u8), .i .i64 0]))) pu (.inl rfl) rfl ?_)
  refine s1 (y_p rfl) rfl <| s1 (y_p rfl) rfl <| s1 (y_p rfl) rfl ?_
  refine at_op rfl (n_alloc 12 rfl ti23 rfl rfl ?_)
  refine at_op rfl (n_storeA ti23 rfl rfl rfl (by first | rfl | omega | (simp <;> omega) | (simp [*] <;> omega)) (by first | rfl | omega | (simp <;> omega) | (simp [*] <;> omega)) ?_)
  refine s1 (y_p rfl) rfl ?_
  refine at_nil <| x_tn <| at_seq <| at_seq ?_
  rcases tfK (verK (rootD x (k : Int)) (k : Int) m a S P) with hcs | hcs
  ·skip
   refine at_region <| s1 (y_p rfl) rfl <| s1 ((y_p rfl).v (v' := .b false) (rfl)) rfl <| s1 (y_p rfl) rfl <| g1 rfl rfl (y_loadA0 ti23 rfl rfl (by first | rfl | omega | (simp <;> omega) | (simp [*] <;> omega))) rfl <| g1 rfl rfl (y_p rfl) rfl <| g1 rfl rfl (y_loadA0 ti23 rfl rfl (by first | rfl | omega | (simp <;> omega) | (simp [*] <;> omega))) rfl <| g1 rfl rfl (y_loadA0 ti28 rfl rfl (by first | rfl | omega | (simp <;> omega) | (simp [*] <;> omega))) rfl ?_
   refine at_opg rfl rfl rfl (n_call false rfl (.cons (.pure pu) (.cons (.pure pu) (.cons (.pure pu) (.cons (.pure pu) (.nil))))) (Con.cast (kver_ok (rootD x (k : Int)) m k a S P (by simp) hm hS hP) (congrArg (A.i .i64) (by rw [hcs]; rfl : errK (verK (rootD x (k : Int)) (k : Int) m a S P) = 60))) pu (.inl rfl) rfl ?_)
   refine g1 rfl rfl ((y_p rfl).v (v' := .b true) (rfl)) rfl <| s1 (y_p rfl) rfl ?_
   refine at_nil <| x_tn ?_
   refine at_then rfl ?_
   refine at_seq <| at_region <| s1 ((y_p rfl).v (v' := .i .i64 0) rfl) rfl <| s1 ((y_p rfl).v (v' := .i .i64 0) rfl) rfl ?_
   refine at_nil <| x_tn <| at_ret <| x_tr ?_
   refine at_result (rs := [.tmp 10, .tmp 11]) rfl (r_tmp rfl (r_tmp rfl r_nil)) ?_
   exact forg_ret (forg_no hcs)
  ·have hver := hcs
   obtain ⟨_, hat, hrec, _, _⟩ := ver_spec hcs
   have hS19 := recE_len hrec
   obtain ⟨i, rfl⟩ : ∃ i : Nat, a = (i : Int) := ⟨a.toNat, by unfold atK at hat; omega⟩
   have hq32 := len_sgnK hL i
   refine at_region <| s1 (y_p rfl) rfl <| s1 ((y_p rfl).v (v' := .b false) (rfl)) rfl <| s1 (y_p rfl) rfl <| g1 rfl rfl (y_loadA0 ti23 rfl rfl (by first | rfl | omega | (simp <;> omega) | (simp [*] <;> omega))) rfl <| g1 rfl rfl (y_p rfl) rfl <| g1 rfl rfl (y_loadA0 ti23 rfl rfl (by first | rfl | omega | (simp <;> omega) | (simp [*] <;> omega))) rfl <| g1 rfl rfl (y_loadA0 ti28 rfl rfl (by first | rfl | omega | (simp <;> omega) | (simp [*] <;> omega))) rfl ?_
   refine at_opg rfl rfl rfl (n_call false rfl (.cons (.pure pu) (.cons (.pure pu) (.cons (.pure pu) (.cons (.pure pu) (.nil))))) (Con.cast (kver_ok (rootD x (k : Int)) m k (i : Nat) S P (by simp) hm hS hP) (congrArg (A.i .i64) (by rw [hcs]; rfl : errK (verK (rootD x (k : Int)) (k : Int) m (i : Nat) S P) = 0))) pu (.inl rfl) rfl ?_)
   refine g1 rfl rfl ((y_p rfl).v (v' := .b false) (rfl)) rfl <| s1 (y_p rfl) rfl ?_
   refine at_nil <| x_tn ?_
   refine at_else rfl ?_
   refine at_skip <| x_tn <| at_seq <| at_region ?_
   refine at_op rfl (n_alloc 14 rfl ti23 rfl rfl ?_)
   refine at_op rfl (n_alloc 15 rfl ti23 rfl rfl ?_)
   refine at_nil <| x_tn <| at_seq <| at_seq <| at_region <| s1 (y_fld Tryd.underlying28 rfl ti3 (by decide) rfl rfl) rfl <| s1 (y_load ti3 rfl rfl rfl) rfl <| s1 (y_p rfl) rfl <| s1 (y_len Tryd.underlying26 rfl rfl rfl) rfl <| s1 (y_p rfl) rfl ?_
   refine at_nil <| x_tn ?_
   refine at_cond rfl (fun hc41 => ?_) (fun hc41 => ?_)
   ·have h41 : i < L.length := by have := of_decide_eq_true hc41; omega
    obtain ⟨q, hq⟩ : ∃ q, L[i]? = some q := ⟨_, List.getElem?_eq_getElem h41⟩
    have hql := hL q (List.mem_of_getElem? hq)
    refine at_region <| s1 (y_p rfl) rfl <| s1 (y_fld Tryd.underlying28 rfl ti3 (by decide) rfl rfl) rfl <| s1 (y_load ti3 rfl rfl rfl) rfl <| s1 (y_ixf i Tryd.underlying26 ti23 rfl rfl rfl (by omega) rfl) rfl <| s1 (y_loadA ti23 rfl rfl (get_d hL hq) (by simp [hql])) rfl ?_
    refine at_op rfl (n_storeA ti23 rfl rfl rfl (by simp [hql]) (by first | rfl | omega | (simp <;> omega) | (simp [*] <;> omega)) ?_)
    refine at_nil <| x_tn <| at_seq <| at_seq ?_
    refine at_sayO 14 rfl (cs' := (sgnK L i).map u8) (by rw [sgnK_in hq]) ?_
    refine at_sayO 15 rfl (cs' := zD.map u8) zD_cells ?_
    refine at_region <| s1 (y_loadA0 ti23 rfl rfl (by first | rfl | omega | (simp <;> omega) | (simp [*] <;> omega))) rfl <| s1 (y_loadA0 ti23 rfl rfl (by first | rfl | omega | (simp <;> omega) | (simp [*] <;> omega))) rfl <| s1 (y_aqn Tryd.underlying23 Tryd.underlying5 ti5 (by kernel_rfl) rfl rfl (by first | assumption | (simp; done) | (simp [*]; done)) (by first | assumption | (simp; done) | (simp [*]; done))) rfl <| s1 (y_p rfl) rfl ?_
    refine g_and 3 rfl rfl rfl rfl (fun hb50 => .step (y_loadA0 ti23 rfl rfl (by first | rfl | omega | (simp <;> omega) | (simp [*] <;> omega))) rfl rfl <| .step (y_loadA0 ti23 rfl rfl (by first | rfl | omega | (simp <;> omega) | (simp [*] <;> omega))) rfl rfl <| .step (y_aq Tryd.underlying23 Tryd.underlying5 ti5 (by kernel_rfl) rfl rfl (by first | assumption | (simp; done) | (simp [*]; done)) (by first | assumption | (simp; done) | (simp [*]; done))) rfl rfl <| .done) rfl rfl ?_
    refine at_nil <| x_tn ?_
    refine at_cond rfl (fun hc54 => ?_) (fun hc54 => ?_)
    ·have h54 : (!(sgnK L i == zD) && sgnK L i == m) = true := hc54
     refine at_seq <| at_region <| s1 ((y_p rfl).v (v' := .i .i64 0) rfl) rfl <| s1 ((y_p rfl).v (v' := .i .i64 0) rfl) rfl ?_
     refine at_nil <| x_tn <| at_ret <| x_tr ?_
     refine at_result (rs := [.tmp 10, .tmp 11]) rfl (r_tmp rfl (r_tmp rfl r_nil)) ?_
     exact forg_ret (forg_own h54)
    ·have h54 : (!(sgnK L i == zD) && sgnK L i == m) = false := hc54
     refine at_skip <| x_tn <| at_seq <| at_region <| s1 (y_loadA0 ti23 rfl rfl (by first | rfl | omega | (simp <;> omega) | (simp [*] <;> omega))) rfl ?_
     refine at_op rfl (n_call false rfl (.cons (.pure pu) (.nil)) (digits_ok m hm) pu (.inl rfl) rfl ?_)
     refine s1 (y_p rfl) rfl ?_
     refine at_nil <| x_tn <| at_seq <| at_region ?_
     refine at_op rfl (n_bs1 57 rfl Tryd.underlying42 ti3 rfl rfl rfl rfl rfl ?_)
     refine s1 (y_p rfl) rfl <| s1 (y_len Tryd.underlying42 rfl rfl rfl) rfl ?_
     refine at_op rfl (n_callO 60 rfl true rfl (.cons (.sl rfl rfl rfl rfl (VwL.pure pul) pul) (.cons (.pure pu) .nil)) (repeat_ok) pul (.inr ful) rfl ?_)
     refine s1 (y_p rfl) rfl ?_
     refine at_nil <| x_tn <| at_seq <| at_seq <| at_region <| s1 (y_loadA0 ti23 rfl rfl (by first | rfl | omega | (simp <;> omega) | (simp [*] <;> omega))) rfl <| s1 (y_loadA0 ti23 rfl rfl (by first | rfl | omega | (simp <;> omega) | (simp [*] <;> omega))) rfl <| s1 (y_aqn Tryd.underlying23 Tryd.underlying5 ti5 (by kernel_rfl) rfl rfl (by first | assumption | (simp; done) | (simp [*]; done)) (by first | assumption | (simp; done) | (simp [*]; done))) rfl ?_
     refine at_nil <| x_tn ?_
     refine at_cond rfl (fun hc63 => ?_) (fun hc63 => ?_)
     ·have h63 : (sgnK L i == zD) = false := by simpa using hc63
      refine at_seq <| at_region <| s1 (y_loadA0 ti23 rfl rfl (by first | rfl | omega | (simp <;> omega) | (simp [*] <;> omega))) rfl ?_
      refine at_op rfl (n_call false rfl (.cons (.pure pu) (.nil)) (digits_ok (sgnK L i) hq32) pu (.inl rfl) rfl ?_)
      refine s1 (y_p rfl) rfl ?_
      refine at_nil <| x_tn <| at_seq <| at_region <| s1 (y_p rfl) rfl <| s1 (y_p rfl) rfl ?_
      refine at_op rfl (n_call false rfl (.cons (.pure pu) (.cons (.pure pu) (.nil))) (equalD_ok m (sgnK L i)) pu (.inl rfl) rfl ?_)
      refine at_nil <| x_tn ?_
      refine at_cond rfl (fun hc68 => ?_) (fun hc68 => ?_)
      ·have h68 : (!(sgnK L i == zD) && digits m == digits (sgnK L i)) = true := by rw [h63, hc68]; rfl
       refine at_seq <| at_region <| s1 ((y_p rfl).v (v' := .i .i64 1) rfl) rfl <| s1 ((y_p rfl).v (v' := .i .i64 0) rfl) rfl ?_
       refine at_nil <| x_tn <| at_ret <| x_tr ?_
       refine at_result (rs := [.tmp 10, .tmp 11]) rfl (r_tmp rfl (r_tmp rfl r_nil)) ?_
       exact forg_ret (forg_same hver h54 h68)
      ·have h68 : (!(sgnK L i == zD) && digits m == digits (sgnK L i)) = false := by rw [h63, hc68]; rfl
       refine at_say 17 rfl (v' := .fz 19 ((knwK (sgnK L i)).map nI)) (by rw [knw_no h63]) ?_
       refine at_skip <| x_tn <| at_seq ?_
       refine at_fs ⟨_, [], []⟩ 6 4 hmix (le_refl rfl) ?_
       refine fs_q 0 [] [(5, none)] (y_loadA0 ti23 rfl rfl (by first | rfl | omega | (simp <;> omega) | (simp [*] <;> omega))) rfl rfl ?_
       refine fs_q 1 [] [(9, none)] (y_fld Tryd.underlying28 rfl ti3 (by decide) rfl rfl) rfl rfl ?_
       refine fs_q 2 [1] [(9, none)] (y_load ti3 rfl rfl rfl) rfl rfl ?_
       refine fs_call false 3 [0, 2] [] gy0 rfl (.cons (.pure pu) (.cons (.pure pu) (.nil))) (seed_ok x (i : Nat) hx) pu (.inl rfl) rfl rfl ?_
       refine fs_q 4 [] [(8, none)] (y_loadA0 ti23 rfl rfl (by first | rfl | omega | (simp <;> omega) | (simp [*] <;> omega))) rfl rfl ?_
       refine fs_call false 5 [3, 4] [] gy0 rfl (.cons (.pure pu) (.cons (.pure pu) (.nil))) (sign_ok (seedL x (i : Nat)) m (by simp) hm) pu (.inl rfl) rfl rfl ?_
       refine fs_end (by kernel_rfl) ?_
       refine s1 (y_p rfl) rfl ?_
       refine at_nil <| x_tn <| at_seq <| at_seq <| at_region <| s1 (y_p rfl) rfl <| s1 (y_len Tryd.underlying26 rfl rfl rfl) rfl <| s1 ((y_p rfl).v (v' := .i .i64 0) rfl) rfl ?_
       refine at_nil <| x_tn <| at_block ?_
       refine at_loop (ι := Nat) (fun j => [(9, .p 9 0), (16, .fz 19 ((digits m).map nI)), (17, .fz 19 ((knwK (sgnK L i)).map nI)), (75, dgs (signD (seedL x (i : Nat)) m)), (76, nI 19), (77, nI j)]) (fun j => ⟨[(9, some ([nI i, dgs S, dgs P]))]⟩) (fun j => j ≤ 19 ∧ ∀ t, t < j → badK (seedL x (i : Nat)) m (sgnK L i) S t = false) (fun j => 19 - j) ?_ ?_
       ·exact at_ex (0) (⟨by omega, fun t ht => absurd ht (by omega)⟩) [(9, some 9)] hI rfl rfl ⟨⟨_, rfl, .p rfl⟩, ⟨_, rfl, .pure pu⟩, ⟨_, rfl, .pure pu⟩, ⟨_, rfl, .pure pu⟩, ⟨_, rfl, .pure pu⟩, ⟨_, rfl, .pure pu⟩, trivial⟩ ⟨.inr ⟨_, _, rfl, rfl, .pure pul⟩, trivial⟩
       rintro j ⟨hj, hall⟩
       refine at_seq <| at_region <| s1 (y_p rfl) rfl ?_
       refine at_nil <| x_tn <| at_seq ?_
       refine at_cond rfl (fun hc78 => ?_) (fun hc78 => ?_)
       ·have h78 : j < 19 := by have := of_decide_eq_true hc78; omega
        have hown := get_sign (seedL x (i : Nat)) m h78
        obtain ⟨s, hs⟩ : ∃ s, S[j]? = some s := ⟨_, List.getElem?_eq_getElem (by omega)⟩
        have hs32 := hS s (List.mem_of_getElem? hs)
        have ho32 := len_iterD (len_firstD (seedL x (i : Nat)) j) (dg m j)
        have hkn := kdg_le (sgnK L i) j
        have hdm := dg_lt m j
        have hso : (signD (seedL x (i : Nat)) m).length = 19 := len_signL _ _ 19
        refine at_skip <| x_tn <| at_seq <| at_block <| at_seq <| at_region <| s1 (y_p rfl) rfl <| s1 (y_ixf j Tryd.underlying26 ti23 rfl rfl rfl (by omega) rfl) rfl <| s1 (y_loadA ti23 rfl rfl (get_d (D32_signD _ _) hown) (by rw [List.length_map]; exact ho32)) rfl ?_
        refine at_op rfl (n_alloc 20 rfl ti23 rfl rfl ?_)
        refine s1 (y_p rfl) rfl ?_
        refine at_op rfl (n_storeA ti23 rfl rfl rfl (by rw [List.length_map]; exact ho32) (by first | rfl | omega | (simp <;> omega) | (simp [*] <;> omega)) ?_)
        refine at_nil <| x_tn <| at_seq ?_
        rcases Decidable.em (dg m j < kdg (sgnK L i) j) with hcs | hcs
        ·skip
         refine at_draw_tail 17 hmix (by kernel_rfl) ?_
         refine t1 (y_p rfl) rfl <| t1 (y_p rfl) rfl <| t1 (y_ixf j Tryd.underlying42 ti3 rfl rfl rfl (by omega) rfl) rfl <| t1 (y_load ti3 rfl rfl (get_dig3 m j h78)) rfl <| t1 (y_p rfl) rfl <| t1 (y_p rfl) rfl <| t1 (y_ixf j Tryd.underlying42 ti3 rfl rfl rfl (by omega) rfl) rfl <| t1 (y_load ti3 rfl rfl (get_knw _ j h78)) rfl <| t1 ((y_p rfl).v (v' := .b true) (congrArg A.b (decide_eq_true (by omega)))) rfl <| t1 (y_p rfl) rfl ?_
         refine t1g rfl rfl (y_fld Tryd.underlying28 rfl ti26 (by decide) rfl rfl) rfl <| t1g rfl rfl (y_load ti26 rfl rfl rfl) rfl <| t1g rfl rfl (y_p rfl) rfl <| t1g rfl rfl (y_ixf j Tryd.underlying26 ti23 rfl rfl rfl (by omega) rfl) rfl <| t1g rfl rfl (y_loadA ti23 rfl rfl (get_d hS hs) (by rw [List.length_map]; exact hs32)) rfl <| t1g rfl rfl (y_loadA0 ti23 rfl rfl (by rw [List.length_map]; exact ho32)) rfl <| t1g rfl rfl (y_aq Tryd.underlying23 Tryd.underlying5 ti5 (by kernel_rfl) rfl rfl hs32 ho32) rfl ?_
         refine at_snil ?_
         refine s1 (y_p rfl) rfl ?_
         refine at_nil <| x_tn ?_
         refine at_cond rfl (fun hc99 => ?_) (fun hc99 => ?_)
         ·have hb := hc99
          refine at_seq <| at_region <| s1 (y_p rfl) rfl <| s1 ((y_p rfl).v (v' := .i .i64 2) rfl) rfl <| s1 (y_p rfl) rfl ?_
          refine at_nil <| x_tn <| at_ret <| x_br <| x_tr <| x_tr <| x_br <| x_tr ?_
          refine at_result (rs := [.tmp 10, .tmp 11]) rfl (r_tmp rfl (r_tmp rfl r_nil)) ?_
          exact forg_ret (forg_hit hver h54 h68 h78 ((bad_is hcs hs).trans hb) hall)
         ·have hb := hc99
          refine at_skip <| x_bn <| x_tn <| at_region <| s1 (addN _ 1 rfl rfl rfl rfl (by omega)) rfl <| s1 (y_p rfl) rfl ?_
          refine at_nil ?_
          exact at_end (j + 1) (⟨by omega, next_all hall ((bad_is hcs hs).trans hb)⟩) (by omega) [(9, some 9)] hI rfl rfl ⟨⟨_, rfl, .p rfl⟩, ⟨_, rfl, .pure pu⟩, ⟨_, rfl, .pure pu⟩, ⟨_, rfl, .pure pu⟩, ⟨_, rfl, .pure pu⟩, ⟨_, rfl, .pure pu⟩, trivial⟩ ⟨.inr ⟨_, _, rfl, rfl, .pure pul⟩, trivial⟩
        ·skip
         refine at_draw_tail 17 hmix (by kernel_rfl) ?_
         refine t1 (y_p rfl) rfl <| t1 (y_p rfl) rfl <| t1 (y_ixf j Tryd.underlying42 ti3 rfl rfl rfl (by omega) rfl) rfl <| t1 (y_load ti3 rfl rfl (get_dig3 m j h78)) rfl <| t1 (y_p rfl) rfl <| t1 (y_p rfl) rfl <| t1 (y_ixf j Tryd.underlying42 ti3 rfl rfl rfl (by omega) rfl) rfl <| t1 (y_load ti3 rfl rfl (get_knw _ j h78)) rfl <| t1 ((y_p rfl).v (v' := .b false) (congrArg A.b (decide_eq_false (by omega)))) rfl <| t1 (y_p rfl) rfl ?_
         refine t0g rfl rfl rfl rfl <| t0g rfl rfl rfl rfl <| t0g rfl rfl rfl rfl <| t0g rfl rfl rfl rfl <| t0g rfl rfl rfl rfl <| t0g rfl rfl rfl rfl <| t0g rfl rfl rfl rfl ?_
         refine at_snil ?_
         refine s1 (y_p rfl) rfl ?_
         refine at_nil <| x_tn ?_
         refine at_else rfl ?_
         refine at_skip <| x_bn <| x_tn <| at_region <| s1 (addN _ 1 rfl rfl rfl rfl (by omega)) rfl <| s1 (y_p rfl) rfl ?_
         refine at_nil ?_
         exact at_end (j + 1) (⟨by omega, next_all hall (bad_no hcs)⟩) (by omega) [(9, some 9)] hI rfl rfl ⟨⟨_, rfl, .p rfl⟩, ⟨_, rfl, .pure pu⟩, ⟨_, rfl, .pure pu⟩, ⟨_, rfl, .pure pu⟩, ⟨_, rfl, .pure pu⟩, ⟨_, rfl, .pure pu⟩, trivial⟩ ⟨.inr ⟨_, _, rfl, rfl, .pure pul⟩, trivial⟩
       ·have h78 : j = 19 := by have := of_decide_eq_false hc78; omega
        subst h78
        refine at_exit <| x_te <| x_te <| x_be <| x_tn <| at_seq <| at_region <| s1 ((y_p rfl).v (v' := .i .i64 3) rfl) rfl <| s1 ((y_p rfl).v (v' := .i .i64 0) rfl) rfl ?_
        refine at_nil <| x_tn <| at_ret ?_
        refine at_result (rs := [.tmp 10, .tmp 11]) rfl (r_tmp rfl (r_tmp rfl r_nil)) ?_
        exact forg_ret (forg_else hver h54 h68 hall)
     ·have h63 : (sgnK L i == zD) = true := by simpa using hc63
      have h68 : (!(sgnK L i == zD) && digits m == digits (sgnK L i)) = false := by rw [h63]; rfl
      refine at_frz 17 rfl rfl pul (view_eq (by simp) rfl) ?_
      refine at_say 17 rfl (v' := .fz 19 ((knwK (sgnK L i)).map nI)) (by rw [knw_yes h63]; rfl) ?_
      refine at_skip <| x_tn <| at_seq ?_
      refine at_fs ⟨_, [], []⟩ 6 4 hmix (le_refl rfl) ?_
      refine fs_q 0 [] [(5, none)] (y_loadA0 ti23 rfl rfl (by first | rfl | omega | (simp <;> omega) | (simp [*] <;> omega))) rfl rfl ?_
      refine fs_q 1 [] [(9, none)] (y_fld Tryd.underlying28 rfl ti3 (by decide) rfl rfl) rfl rfl ?_
      refine fs_q 2 [1] [(9, none)] (y_load ti3 rfl rfl rfl) rfl rfl ?_
      refine fs_call false 3 [0, 2] [] gy0 rfl (.cons (.pure pu) (.cons (.pure pu) (.nil))) (seed_ok x (i : Nat) hx) pu (.inl rfl) rfl rfl ?_
      refine fs_q 4 [] [(8, none)] (y_loadA0 ti23 rfl rfl (by first | rfl | omega | (simp <;> omega) | (simp [*] <;> omega))) rfl rfl ?_
      refine fs_call false 5 [3, 4] [] gy0 rfl (.cons (.pure pu) (.cons (.pure pu) (.nil))) (sign_ok (seedL x (i : Nat)) m (by simp) hm) pu (.inl rfl) rfl rfl ?_
      refine fs_end (by kernel_rfl) ?_
      refine s1 (y_p rfl) rfl ?_
      refine at_nil <| x_tn <| at_seq <| at_seq <| at_region <| s1 (y_p rfl) rfl <| s1 (y_len Tryd.underlying26 rfl rfl rfl) rfl <| s1 ((y_p rfl).v (v' := .i .i64 0) rfl) rfl ?_
      refine at_nil <| x_tn <| at_block ?_
      refine at_loop (ι := Nat) (fun j => [(9, .p 9 0), (16, .fz 19 ((digits m).map nI)), (17, .fz 19 ((knwK (sgnK L i)).map nI)), (75, dgs (signD (seedL x (i : Nat)) m)), (76, nI 19), (77, nI j)]) (fun j => ⟨[(9, some ([nI i, dgs S, dgs P]))]⟩) (fun j => j ≤ 19 ∧ ∀ t, t < j → badK (seedL x (i : Nat)) m (sgnK L i) S t = false) (fun j => 19 - j) ?_ ?_
      ·exact at_ex (0) (⟨by omega, fun t ht => absurd ht (by omega)⟩) [(9, some 9)] hI rfl rfl ⟨⟨_, rfl, .p rfl⟩, ⟨_, rfl, .pure pu⟩, ⟨_, rfl, .pure pu⟩, ⟨_, rfl, .pure pu⟩, ⟨_, rfl, .pure pu⟩, ⟨_, rfl, .pure pu⟩, trivial⟩ ⟨.inr ⟨_, _, rfl, rfl, .pure pul⟩, trivial⟩
      rintro j ⟨hj, hall⟩
      refine at_seq <| at_region <| s1 (y_p rfl) rfl ?_
      refine at_nil <| x_tn <| at_seq ?_
      refine at_cond rfl (fun hc78 => ?_) (fun hc78 => ?_)
      ·have h78 : j < 19 := by have := of_decide_eq_true hc78; omega
       have hown := get_sign (seedL x (i : Nat)) m h78
       obtain ⟨s, hs⟩ : ∃ s, S[j]? = some s := ⟨_, List.getElem?_eq_getElem (by omega)⟩
       have hs32 := hS s (List.mem_of_getElem? hs)
       have ho32 := len_iterD (len_firstD (seedL x (i : Nat)) j) (dg m j)
       have hkn := kdg_le (sgnK L i) j
       have hdm := dg_lt m j
       have hso : (signD (seedL x (i : Nat)) m).length = 19 := len_signL _ _ 19
       refine at_skip <| x_tn <| at_seq <| at_block <| at_seq <| at_region <| s1 (y_p rfl) rfl <| s1 (y_ixf j Tryd.underlying26 ti23 rfl rfl rfl (by omega) rfl) rfl <| s1 (y_loadA ti23 rfl rfl (get_d (D32_signD _ _) hown) (by rw [List.length_map]; exact ho32)) rfl ?_
       refine at_op rfl (n_alloc 20 rfl ti23 rfl rfl ?_)
       refine s1 (y_p rfl) rfl ?_
       refine at_op rfl (n_storeA ti23 rfl rfl rfl (by rw [List.length_map]; exact ho32) (by first | rfl | omega | (simp <;> omega) | (simp [*] <;> omega)) ?_)
       refine at_nil <| x_tn <| at_seq ?_
       rcases Decidable.em (dg m j < kdg (sgnK L i) j) with hcs | hcs
       ·skip
        refine at_draw_tail 17 hmix (by kernel_rfl) ?_
        refine t1 (y_p rfl) rfl <| t1 (y_p rfl) rfl <| t1 (y_ixf j Tryd.underlying42 ti3 rfl rfl rfl (by omega) rfl) rfl <| t1 (y_load ti3 rfl rfl (get_dig3 m j h78)) rfl <| t1 (y_p rfl) rfl <| t1 (y_p rfl) rfl <| t1 (y_ixf j Tryd.underlying42 ti3 rfl rfl rfl (by omega) rfl) rfl <| t1 (y_load ti3 rfl rfl (get_knw _ j h78)) rfl <| t1 ((y_p rfl).v (v' := .b true) (congrArg A.b (decide_eq_true (by omega)))) rfl <| t1 (y_p rfl) rfl ?_
        refine t1g rfl rfl (y_fld Tryd.underlying28 rfl ti26 (by decide) rfl rfl) rfl <| t1g rfl rfl (y_load ti26 rfl rfl rfl) rfl <| t1g rfl rfl (y_p rfl) rfl <| t1g rfl rfl (y_ixf j Tryd.underlying26 ti23 rfl rfl rfl (by omega) rfl) rfl <| t1g rfl rfl (y_loadA ti23 rfl rfl (get_d hS hs) (by rw [List.length_map]; exact hs32)) rfl <| t1g rfl rfl (y_loadA0 ti23 rfl rfl (by rw [List.length_map]; exact ho32)) rfl <| t1g rfl rfl (y_aq Tryd.underlying23 Tryd.underlying5 ti5 (by kernel_rfl) rfl rfl hs32 ho32) rfl ?_
        refine at_snil ?_
        refine s1 (y_p rfl) rfl ?_
        refine at_nil <| x_tn ?_
        refine at_cond rfl (fun hc99 => ?_) (fun hc99 => ?_)
        ·have hb := hc99
         refine at_seq <| at_region <| s1 (y_p rfl) rfl <| s1 ((y_p rfl).v (v' := .i .i64 2) rfl) rfl <| s1 (y_p rfl) rfl ?_
         refine at_nil <| x_tn <| at_ret <| x_br <| x_tr <| x_tr <| x_br <| x_tr ?_
         refine at_result (rs := [.tmp 10, .tmp 11]) rfl (r_tmp rfl (r_tmp rfl r_nil)) ?_
         exact forg_ret (forg_hit hver h54 h68 h78 ((bad_is hcs hs).trans hb) hall)
        ·have hb := hc99
         refine at_skip <| x_bn <| x_tn <| at_region <| s1 (addN _ 1 rfl rfl rfl rfl (by omega)) rfl <| s1 (y_p rfl) rfl ?_
         refine at_nil ?_
         exact at_end (j + 1) (⟨by omega, next_all hall ((bad_is hcs hs).trans hb)⟩) (by omega) [(9, some 9)] hI rfl rfl ⟨⟨_, rfl, .p rfl⟩, ⟨_, rfl, .pure pu⟩, ⟨_, rfl, .pure pu⟩, ⟨_, rfl, .pure pu⟩, ⟨_, rfl, .pure pu⟩, ⟨_, rfl, .pure pu⟩, trivial⟩ ⟨.inr ⟨_, _, rfl, rfl, .pure pul⟩, trivial⟩
       ·skip
        refine at_draw_tail 17 hmix (by kernel_rfl) ?_
        refine t1 (y_p rfl) rfl <| t1 (y_p rfl) rfl <| t1 (y_ixf j Tryd.underlying42 ti3 rfl rfl rfl (by omega) rfl) rfl <| t1 (y_load ti3 rfl rfl (get_dig3 m j h78)) rfl <| t1 (y_p rfl) rfl <| t1 (y_p rfl) rfl <| t1 (y_ixf j Tryd.underlying42 ti3 rfl rfl rfl (by omega) rfl) rfl <| t1 (y_load ti3 rfl rfl (get_knw _ j h78)) rfl <| t1 ((y_p rfl).v (v' := .b false) (congrArg A.b (decide_eq_false (by omega)))) rfl <| t1 (y_p rfl) rfl ?_
        refine t0g rfl rfl rfl rfl <| t0g rfl rfl rfl rfl <| t0g rfl rfl rfl rfl <| t0g rfl rfl rfl rfl <| t0g rfl rfl rfl rfl <| t0g rfl rfl rfl rfl <| t0g rfl rfl rfl rfl ?_
        refine at_snil ?_
        refine s1 (y_p rfl) rfl ?_
        refine at_nil <| x_tn ?_
        refine at_else rfl ?_
        refine at_skip <| x_bn <| x_tn <| at_region <| s1 (addN _ 1 rfl rfl rfl rfl (by omega)) rfl <| s1 (y_p rfl) rfl ?_
        refine at_nil ?_
        exact at_end (j + 1) (⟨by omega, next_all hall (bad_no hcs)⟩) (by omega) [(9, some 9)] hI rfl rfl ⟨⟨_, rfl, .p rfl⟩, ⟨_, rfl, .pure pu⟩, ⟨_, rfl, .pure pu⟩, ⟨_, rfl, .pure pu⟩, ⟨_, rfl, .pure pu⟩, ⟨_, rfl, .pure pu⟩, trivial⟩ ⟨.inr ⟨_, _, rfl, rfl, .pure pul⟩, trivial⟩
      ·have h78 : j = 19 := by have := of_decide_eq_false hc78; omega
       subst h78
       refine at_exit <| x_te <| x_te <| x_be <| x_tn <| at_seq <| at_region <| s1 ((y_p rfl).v (v' := .i .i64 3) rfl) rfl <| s1 ((y_p rfl).v (v' := .i .i64 0) rfl) rfl ?_
       refine at_nil <| x_tn <| at_ret ?_
       refine at_result (rs := [.tmp 10, .tmp 11]) rfl (r_tmp rfl (r_tmp rfl r_nil)) ?_
       exact forg_ret (forg_else hver h54 h68 hall)
   ·have h41 : ¬ i < L.length := by have := of_decide_eq_false hc41; omega
    refine at_skip <| x_tn <| at_seq <| at_seq ?_
    refine at_sayO 14 rfl (cs' := (sgnK L i).map u8) (by rw [sgnK_out h41]; exact zD_cells) ?_
    refine at_sayO 15 rfl (cs' := zD.map u8) zD_cells ?_
    refine at_region <| s1 (y_loadA0 ti23 rfl rfl (by first | rfl | omega | (simp <;> omega) | (simp [*] <;> omega))) rfl <| s1 (y_loadA0 ti23 rfl rfl (by first | rfl | omega | (simp <;> omega) | (simp [*] <;> omega))) rfl <| s1 (y_aqn Tryd.underlying23 Tryd.underlying5 ti5 (by kernel_rfl) rfl rfl (by first | assumption | (simp; done) | (simp [*]; done)) (by first | assumption | (simp; done) | (simp [*]; done))) rfl <| s1 (y_p rfl) rfl ?_
    refine g_and 3 rfl rfl rfl rfl (fun hb50 => .step (y_loadA0 ti23 rfl rfl (by first | rfl | omega | (simp <;> omega) | (simp [*] <;> omega))) rfl rfl <| .step (y_loadA0 ti23 rfl rfl (by first | rfl | omega | (simp <;> omega) | (simp [*] <;> omega))) rfl rfl <| .step (y_aq Tryd.underlying23 Tryd.underlying5 ti5 (by kernel_rfl) rfl rfl (by first | assumption | (simp; done) | (simp [*]; done)) (by first | assumption | (simp; done) | (simp [*]; done))) rfl rfl <| .done) rfl rfl ?_
    refine at_nil <| x_tn ?_
    refine at_cond rfl (fun hc54 => ?_) (fun hc54 => ?_)
    ·have h54 : (!(sgnK L i == zD) && sgnK L i == m) = true := hc54
     refine at_seq <| at_region <| s1 ((y_p rfl).v (v' := .i .i64 0) rfl) rfl <| s1 ((y_p rfl).v (v' := .i .i64 0) rfl) rfl ?_
     refine at_nil <| x_tn <| at_ret <| x_tr ?_
     refine at_result (rs := [.tmp 10, .tmp 11]) rfl (r_tmp rfl (r_tmp rfl r_nil)) ?_
     exact forg_ret (forg_own h54)
    ·have h54 : (!(sgnK L i == zD) && sgnK L i == m) = false := hc54
     refine at_skip <| x_tn <| at_seq <| at_region <| s1 (y_loadA0 ti23 rfl rfl (by first | rfl | omega | (simp <;> omega) | (simp [*] <;> omega))) rfl ?_
     refine at_op rfl (n_call false rfl (.cons (.pure pu) (.nil)) (digits_ok m hm) pu (.inl rfl) rfl ?_)
     refine s1 (y_p rfl) rfl ?_
     refine at_nil <| x_tn <| at_seq <| at_region ?_
     refine at_op rfl (n_bs1 57 rfl Tryd.underlying42 ti3 rfl rfl rfl rfl rfl ?_)
     refine s1 (y_p rfl) rfl <| s1 (y_len Tryd.underlying42 rfl rfl rfl) rfl ?_
     refine at_op rfl (n_callO 60 rfl true rfl (.cons (.sl rfl rfl rfl rfl (VwL.pure pul) pul) (.cons (.pure pu) .nil)) (repeat_ok) pul (.inr ful) rfl ?_)
     refine s1 (y_p rfl) rfl ?_
     refine at_nil <| x_tn <| at_seq <| at_seq <| at_region <| s1 (y_loadA0 ti23 rfl rfl (by first | rfl | omega | (simp <;> omega) | (simp [*] <;> omega))) rfl <| s1 (y_loadA0 ti23 rfl rfl (by first | rfl | omega | (simp <;> omega) | (simp [*] <;> omega))) rfl <| s1 (y_aqn Tryd.underlying23 Tryd.underlying5 ti5 (by kernel_rfl) rfl rfl (by first | assumption | (simp; done) | (simp [*]; done)) (by first | assumption | (simp; done) | (simp [*]; done))) rfl ?_
     refine at_nil <| x_tn ?_
     refine at_cond rfl (fun hc63 => ?_) (fun hc63 => ?_)
     ·have h63 : (sgnK L i == zD) = false := by simpa using hc63
      refine at_seq <| at_region <| s1 (y_loadA0 ti23 rfl rfl (by first | rfl | omega | (simp <;> omega) | (simp [*] <;> omega))) rfl ?_
      refine at_op rfl (n_call false rfl (.cons (.pure pu) (.nil)) (digits_ok (sgnK L i) hq32) pu (.inl rfl) rfl ?_)
      refine s1 (y_p rfl) rfl ?_
      refine at_nil <| x_tn <| at_seq <| at_region <| s1 (y_p rfl) rfl <| s1 (y_p rfl) rfl ?_
      refine at_op rfl (n_call false rfl (.cons (.pure pu) (.cons (.pure pu) (.nil))) (equalD_ok m (sgnK L i)) pu (.inl rfl) rfl ?_)
      refine at_nil <| x_tn ?_
      refine at_cond rfl (fun hc68 => ?_) (fun hc68 => ?_)
      ·have h68 : (!(sgnK L i == zD) && digits m == digits (sgnK L i)) = true := by rw [h63, hc68]; rfl
       refine at_seq <| at_region <| s1 ((y_p rfl).v (v' := .i .i64 1) rfl) rfl <| s1 ((y_p rfl).v (v' := .i .i64 0) rfl) rfl ?_
       refine at_nil <| x_tn <| at_ret <| x_tr ?_
       refine at_result (rs := [.tmp 10, .tmp 11]) rfl (r_tmp rfl (r_tmp rfl r_nil)) ?_
       exact forg_ret (forg_same hver h54 h68)
      ·have h68 : (!(sgnK L i == zD) && digits m == digits (sgnK L i)) = false := by rw [h63, hc68]; rfl
       refine at_say 17 rfl (v' := .fz 19 ((knwK (sgnK L i)).map nI)) (by rw [knw_no h63]) ?_
       refine at_skip <| x_tn <| at_seq ?_
       refine at_fs ⟨_, [], []⟩ 6 4 hmix (le_refl rfl) ?_
       refine fs_q 0 [] [(5, none)] (y_loadA0 ti23 rfl rfl (by first | rfl | omega | (simp <;> omega) | (simp [*] <;> omega))) rfl rfl ?_
       refine fs_q 1 [] [(9, none)] (y_fld Tryd.underlying28 rfl ti3 (by decide) rfl rfl) rfl rfl ?_
       refine fs_q 2 [1] [(9, none)] (y_load ti3 rfl rfl rfl) rfl rfl ?_
       refine fs_call false 3 [0, 2] [] gy0 rfl (.cons (.pure pu) (.cons (.pure pu) (.nil))) (seed_ok x (i : Nat) hx) pu (.inl rfl) rfl rfl ?_
       refine fs_q 4 [] [(8, none)] (y_loadA0 ti23 rfl rfl (by first | rfl | omega | (simp <;> omega) | (simp [*] <;> omega))) rfl rfl ?_
       refine fs_call false 5 [3, 4] [] gy0 rfl (.cons (.pure pu) (.cons (.pure pu) (.nil))) (sign_ok (seedL x (i : Nat)) m (by simp) hm) pu (.inl rfl) rfl rfl ?_
       refine fs_end (by kernel_rfl) ?_
       refine s1 (y_p rfl) rfl ?_
       refine at_nil <| x_tn <| at_seq <| at_seq <| at_region <| s1 (y_p rfl) rfl <| s1 (y_len Tryd.underlying26 rfl rfl rfl) rfl <| s1 ((y_p rfl).v (v' := .i .i64 0) rfl) rfl ?_
       refine at_nil <| x_tn <| at_block ?_
       refine at_loop (ι := Nat) (fun j => [(9, .p 9 0), (16, .fz 19 ((digits m).map nI)), (17, .fz 19 ((knwK (sgnK L i)).map nI)), (75, dgs (signD (seedL x (i : Nat)) m)), (76, nI 19), (77, nI j)]) (fun j => ⟨[(9, some ([nI i, dgs S, dgs P]))]⟩) (fun j => j ≤ 19 ∧ ∀ t, t < j → badK (seedL x (i : Nat)) m (sgnK L i) S t = false) (fun j => 19 - j) ?_ ?_
       ·exact at_ex (0) (⟨by omega, fun t ht => absurd ht (by omega)⟩) [(9, some 9)] hI rfl rfl ⟨⟨_, rfl, .p rfl⟩, ⟨_, rfl, .pure pu⟩, ⟨_, rfl, .pure pu⟩, ⟨_, rfl, .pure pu⟩, ⟨_, rfl, .pure pu⟩, ⟨_, rfl, .pure pu⟩, trivial⟩ ⟨.inr ⟨_, _, rfl, rfl, .pure pul⟩, trivial⟩
       rintro j ⟨hj, hall⟩
       refine at_seq <| at_region <| s1 (y_p rfl) rfl ?_
       refine at_nil <| x_tn <| at_seq ?_
       refine at_cond rfl (fun hc78 => ?_) (fun hc78 => ?_)
       ·have h78 : j < 19 := by have := of_decide_eq_true hc78; omega
        have hown := get_sign (seedL x (i : Nat)) m h78
        obtain ⟨s, hs⟩ : ∃ s, S[j]? = some s := ⟨_, List.getElem?_eq_getElem (by omega)⟩
        have hs32 := hS s (List.mem_of_getElem? hs)
        have ho32 := len_iterD (len_firstD (seedL x (i : Nat)) j) (dg m j)
        have hkn := kdg_le (sgnK L i) j
        have hdm := dg_lt m j
        have hso : (signD (seedL x (i : Nat)) m).length = 19 := len_signL _ _ 19
        refine at_skip <| x_tn <| at_seq <| at_block <| at_seq <| at_region <| s1 (y_p rfl) rfl <| s1 (y_ixf j Tryd.underlying26 ti23 rfl rfl rfl (by omega) rfl) rfl <| s1 (y_loadA ti23 rfl rfl (get_d (D32_signD _ _) hown) (by rw [List.length_map]; exact ho32)) rfl ?_
        refine at_op rfl (n_alloc 20 rfl ti23 rfl rfl ?_)
        refine s1 (y_p rfl) rfl ?_
        refine at_op rfl (n_storeA ti23 rfl rfl rfl (by rw [List.length_map]; exact ho32) (by first | rfl | omega | (simp <;> omega) | (simp [*] <;> omega)) ?_)
        refine at_nil <| x_tn <| at_seq ?_
        rcases Decidable.em (dg m j < kdg (sgnK L i) j) with hcs | hcs
        ·skip
         refine at_draw_tail 17 hmix (by kernel_rfl) ?_
         refine t1 (y_p rfl) rfl <| t1 (y_p rfl) rfl <| t1 (y_ixf j Tryd.underlying42 ti3 rfl rfl rfl (by omega) rfl) rfl <| t1 (y_load ti3 rfl rfl (get_dig3 m j h78)) rfl <| t1 (y_p rfl) rfl <| t1 (y_p rfl) rfl <| t1 (y_ixf j Tryd.underlying42 ti3 rfl rfl rfl (by omega) rfl) rfl <| t1 (y_load ti3 rfl rfl (get_knw _ j h78)) rfl <| t1 ((y_p rfl).v (v' := .b true) (congrArg A.b (decide_eq_true (by omega)))) rfl <| t1 (y_p rfl) rfl ?_
         refine t1g rfl rfl (y_fld Tryd.underlying28 rfl ti26 (by decide) rfl rfl) rfl <| t1g rfl rfl (y_load ti26 rfl rfl rfl) rfl <| t1g rfl rfl (y_p rfl) rfl <| t1g rfl rfl (y_ixf j Tryd.underlying26 ti23 rfl rfl rfl (by omega) rfl) rfl <| t1g rfl rfl (y_loadA ti23 rfl rfl (get_d hS hs) (by rw [List.length_map]; exact hs32)) rfl <| t1g rfl rfl (y_loadA0 ti23 rfl rfl (by rw [List.length_map]; exact ho32)) rfl <| t1g rfl rfl (y_aq Tryd.underlying23 Tryd.underlying5 ti5 (by kernel_rfl) rfl rfl hs32 ho32) rfl ?_
         refine at_snil ?_
         refine s1 (y_p rfl) rfl ?_
         refine at_nil <| x_tn ?_
         refine at_cond rfl (fun hc99 => ?_) (fun hc99 => ?_)
         ·have hb := hc99
          refine at_seq <| at_region <| s1 (y_p rfl) rfl <| s1 ((y_p rfl).v (v' := .i .i64 2) rfl) rfl <| s1 (y_p rfl) rfl ?_
          refine at_nil <| x_tn <| at_ret <| x_br <| x_tr <| x_tr <| x_br <| x_tr ?_
          refine at_result (rs := [.tmp 10, .tmp 11]) rfl (r_tmp rfl (r_tmp rfl r_nil)) ?_
          exact forg_ret (forg_hit hver h54 h68 h78 ((bad_is hcs hs).trans hb) hall)
         ·have hb := hc99
          refine at_skip <| x_bn <| x_tn <| at_region <| s1 (addN _ 1 rfl rfl rfl rfl (by omega)) rfl <| s1 (y_p rfl) rfl ?_
          refine at_nil ?_
          exact at_end (j + 1) (⟨by omega, next_all hall ((bad_is hcs hs).trans hb)⟩) (by omega) [(9, some 9)] hI rfl rfl ⟨⟨_, rfl, .p rfl⟩, ⟨_, rfl, .pure pu⟩, ⟨_, rfl, .pure pu⟩, ⟨_, rfl, .pure pu⟩, ⟨_, rfl, .pure pu⟩, ⟨_, rfl, .pure pu⟩, trivial⟩ ⟨.inr ⟨_, _, rfl, rfl, .pure pul⟩, trivial⟩
        ·skip
         refine at_draw_tail 17 hmix (by kernel_rfl) ?_
         refine t1 (y_p rfl) rfl <| t1 (y_p rfl) rfl <| t1 (y_ixf j Tryd.underlying42 ti3 rfl rfl rfl (by omega) rfl) rfl <| t1 (y_load ti3 rfl rfl (get_dig3 m j h78)) rfl <| t1 (y_p rfl) rfl <| t1 (y_p rfl) rfl <| t1 (y_ixf j Tryd.underlying42 ti3 rfl rfl rfl (by omega) rfl) rfl <| t1 (y_load ti3 rfl rfl (get_knw _ j h78)) rfl <| t1 ((y_p rfl).v (v' := .b false) (congrArg A.b (decide_eq_false (by omega)))) rfl <| t1 (y_p rfl) rfl ?_
         refine t0g rfl rfl rfl rfl <| t0g rfl rfl rfl rfl <| t0g rfl rfl rfl rfl <| t0g rfl rfl rfl rfl <| t0g rfl rfl rfl rfl <| t0g rfl rfl rfl rfl <| t0g rfl rfl rfl rfl ?_
         refine at_snil ?_
         refine s1 (y_p rfl) rfl ?_
         refine at_nil <| x_tn ?_
         refine at_else rfl ?_
         refine at_skip <| x_bn <| x_tn <| at_region <| s1 (addN _ 1 rfl rfl rfl rfl (by omega)) rfl <| s1 (y_p rfl) rfl ?_
         refine at_nil ?_
         exact at_end (j + 1) (⟨by omega, next_all hall (bad_no hcs)⟩) (by omega) [(9, some 9)] hI rfl rfl ⟨⟨_, rfl, .p rfl⟩, ⟨_, rfl, .pure pu⟩, ⟨_, rfl, .pure pu⟩, ⟨_, rfl, .pure pu⟩, ⟨_, rfl, .pure pu⟩, ⟨_, rfl, .pure pu⟩, trivial⟩ ⟨.inr ⟨_, _, rfl, rfl, .pure pul⟩, trivial⟩
       ·have h78 : j = 19 := by have := of_decide_eq_false hc78; omega
        subst h78
        refine at_exit <| x_te <| x_te <| x_be <| x_tn <| at_seq <| at_region <| s1 ((y_p rfl).v (v' := .i .i64 3) rfl) rfl <| s1 ((y_p rfl).v (v' := .i .i64 0) rfl) rfl ?_
        refine at_nil <| x_tn <| at_ret ?_
        refine at_result (rs := [.tmp 10, .tmp 11]) rfl (r_tmp rfl (r_tmp rfl r_nil)) ?_
        exact forg_ret (forg_else hver h54 h68 hall)
     ·have h63 : (sgnK L i == zD) = true := by simpa using hc63
      have h68 : (!(sgnK L i == zD) && digits m == digits (sgnK L i)) = false := by rw [h63]; rfl
      refine at_frz 17 rfl rfl pul (view_eq (by simp) rfl) ?_
      refine at_say 17 rfl (v' := .fz 19 ((knwK (sgnK L i)).map nI)) (by rw [knw_yes h63]; rfl) ?_
      refine at_skip <| x_tn <| at_seq ?_
      refine at_fs ⟨_, [], []⟩ 6 4 hmix (le_refl rfl) ?_
      refine fs_q 0 [] [(5, none)] (y_loadA0 ti23 rfl rfl (by first | rfl | omega | (simp <;> omega) | (simp [*] <;> omega))) rfl rfl ?_
      refine fs_q 1 [] [(9, none)] (y_fld Tryd.underlying28 rfl ti3 (by decide) rfl rfl) rfl rfl ?_
      refine fs_q 2 [1] [(9, none)] (y_load ti3 rfl rfl rfl) rfl rfl ?_
      refine fs_call false 3 [0, 2] [] gy0 rfl (.cons (.pure pu) (.cons (.pure pu) (.nil))) (seed_ok x (i : Nat) hx) pu (.inl rfl) rfl rfl ?_
      refine fs_q 4 [] [(8, none)] (y_loadA0 ti23 rfl rfl (by first | rfl | omega | (simp <;> omega) | (simp [*] <;> omega))) rfl rfl ?_
      refine fs_call false 5 [3, 4] [] gy0 rfl (.cons (.pure pu) (.cons (.pure pu) (.nil))) (sign_ok (seedL x (i : Nat)) m (by simp) hm) pu (.inl rfl) rfl rfl ?_
      refine fs_end (by kernel_rfl) ?_
      refine s1 (y_p rfl) rfl ?_
      refine at_nil <| x_tn <| at_seq <| at_seq <| at_region <| s1 (y_p rfl) rfl <| s1 (y_len Tryd.underlying26 rfl rfl rfl) rfl <| s1 ((y_p rfl).v (v' := .i .i64 0) rfl) rfl ?_
      refine at_nil <| x_tn <| at_block ?_
      refine at_loop (ι := Nat) (fun j => [(9, .p 9 0), (16, .fz 19 ((digits m).map nI)), (17, .fz 19 ((knwK (sgnK L i)).map nI)), (75, dgs (signD (seedL x (i : Nat)) m)), (76, nI 19), (77, nI j)]) (fun j => ⟨[(9, some ([nI i, dgs S, dgs P]))]⟩) (fun j => j ≤ 19 ∧ ∀ t, t < j → badK (seedL x (i : Nat)) m (sgnK L i) S t = false) (fun j => 19 - j) ?_ ?_
      ·exact at_ex (0) (⟨by omega, fun t ht => absurd ht (by omega)⟩) [(9, some 9)] hI rfl rfl ⟨⟨_, rfl, .p rfl⟩, ⟨_, rfl, .pure pu⟩, ⟨_, rfl, .pure pu⟩, ⟨_, rfl, .pure pu⟩, ⟨_, rfl, .pure pu⟩, ⟨_, rfl, .pure pu⟩, trivial⟩ ⟨.inr ⟨_, _, rfl, rfl, .pure pul⟩, trivial⟩
      rintro j ⟨hj, hall⟩
      refine at_seq <| at_region <| s1 (y_p rfl) rfl ?_
      refine at_nil <| x_tn <| at_seq ?_
      refine at_cond rfl (fun hc78 => ?_) (fun hc78 => ?_)
      ·have h78 : j < 19 := by have := of_decide_eq_true hc78; omega
       have hown := get_sign (seedL x (i : Nat)) m h78
       obtain ⟨s, hs⟩ : ∃ s, S[j]? = some s := ⟨_, List.getElem?_eq_getElem (by omega)⟩
       have hs32 := hS s (List.mem_of_getElem? hs)
       have ho32 := len_iterD (len_firstD (seedL x (i : Nat)) j) (dg m j)
       have hkn := kdg_le (sgnK L i) j
       have hdm := dg_lt m j
       have hso : (signD (seedL x (i : Nat)) m).length = 19 := len_signL _ _ 19
       refine at_skip <| x_tn <| at_seq <| at_block <| at_seq <| at_region <| s1 (y_p rfl) rfl <| s1 (y_ixf j Tryd.underlying26 ti23 rfl rfl rfl (by omega) rfl) rfl <| s1 (y_loadA ti23 rfl rfl (get_d (D32_signD _ _) hown) (by rw [List.length_map]; exact ho32)) rfl ?_
       refine at_op rfl (n_alloc 20 rfl ti23 rfl rfl ?_)
       refine s1 (y_p rfl) rfl ?_
       refine at_op rfl (n_storeA ti23 rfl rfl rfl (by rw [List.length_map]; exact ho32) (by first | rfl | omega | (simp <;> omega) | (simp [*] <;> omega)) ?_)
       refine at_nil <| x_tn <| at_seq ?_
       rcases Decidable.em (dg m j < kdg (sgnK L i) j) with hcs | hcs
       ·skip
        refine at_draw_tail 17 hmix (by kernel_rfl) ?_
        refine t1 (y_p rfl) rfl <| t1 (y_p rfl) rfl <| t1 (y_ixf j Tryd.underlying42 ti3 rfl rfl rfl (by omega) rfl) rfl <| t1 (y_load ti3 rfl rfl (get_dig3 m j h78)) rfl <| t1 (y_p rfl) rfl <| t1 (y_p rfl) rfl <| t1 (y_ixf j Tryd.underlying42 ti3 rfl rfl rfl (by omega) rfl) rfl <| t1 (y_load ti3 rfl rfl (get_knw _ j h78)) rfl <| t1 ((y_p rfl).v (v' := .b true) (congrArg A.b (decide_eq_true (by omega)))) rfl <| t1 (y_p rfl) rfl ?_
        refine t1g rfl rfl (y_fld Tryd.underlying28 rfl ti26 (by decide) rfl rfl) rfl <| t1g rfl rfl (y_load ti26 rfl rfl rfl) rfl <| t1g rfl rfl (y_p rfl) rfl <| t1g rfl rfl (y_ixf j Tryd.underlying26 ti23 rfl rfl rfl (by omega) rfl) rfl <| t1g rfl rfl (y_loadA ti23 rfl rfl (get_d hS hs) (by rw [List.length_map]; exact hs32)) rfl <| t1g rfl rfl (y_loadA0 ti23 rfl rfl (by rw [List.length_map]; exact ho32)) rfl <| t1g rfl rfl (y_aq Tryd.underlying23 Tryd.underlying5 ti5 (by kernel_rfl) rfl rfl hs32 ho32) rfl ?_
        refine at_snil ?_
        refine s1 (y_p rfl) rfl ?_
        refine at_nil <| x_tn ?_
        refine at_cond rfl (fun hc99 => ?_) (fun hc99 => ?_)
        ·have hb := hc99
         refine at_seq <| at_region <| s1 (y_p rfl) rfl <| s1 ((y_p rfl).v (v' := .i .i64 2) rfl) rfl <| s1 (y_p rfl) rfl ?_
         refine at_nil <| x_tn <| at_ret <| x_br <| x_tr <| x_tr <| x_br <| x_tr ?_
         refine at_result (rs := [.tmp 10, .tmp 11]) rfl (r_tmp rfl (r_tmp rfl r_nil)) ?_
         exact forg_ret (forg_hit hver h54 h68 h78 ((bad_is hcs hs).trans hb) hall)
        ·have hb := hc99
         refine at_skip <| x_bn <| x_tn <| at_region <| s1 (addN _ 1 rfl rfl rfl rfl (by omega)) rfl <| s1 (y_p rfl) rfl ?_
         refine at_nil ?_
         exact at_end (j + 1) (⟨by omega, next_all hall ((bad_is hcs hs).trans hb)⟩) (by omega) [(9, some 9)] hI rfl rfl ⟨⟨_, rfl, .p rfl⟩, ⟨_, rfl, .pure pu⟩, ⟨_, rfl, .pure pu⟩, ⟨_, rfl, .pure pu⟩, ⟨_, rfl, .pure pu⟩, ⟨_, rfl, .pure pu⟩, trivial⟩ ⟨.inr ⟨_, _, rfl, rfl, .pure pul⟩, trivial⟩
       ·skip
        refine at_draw_tail 17 hmix (by kernel_rfl) ?_
        refine t1 (y_p rfl) rfl <| t1 (y_p rfl) rfl <| t1 (y_ixf j Tryd.underlying42 ti3 rfl rfl rfl (by omega) rfl) rfl <| t1 (y_load ti3 rfl rfl (get_dig3 m j h78)) rfl <| t1 (y_p rfl) rfl <| t1 (y_p rfl) rfl <| t1 (y_ixf j Tryd.underlying42 ti3 rfl rfl rfl (by omega) rfl) rfl <| t1 (y_load ti3 rfl rfl (get_knw _ j h78)) rfl <| t1 ((y_p rfl).v (v' := .b false) (congrArg A.b (decide_eq_false (by omega)))) rfl <| t1 (y_p rfl) rfl ?_
        refine t0g rfl rfl rfl rfl <| t0g rfl rfl rfl rfl <| t0g rfl rfl rfl rfl <| t0g rfl rfl rfl rfl <| t0g rfl rfl rfl rfl <| t0g rfl rfl rfl rfl <| t0g rfl rfl rfl rfl ?_
        refine at_snil ?_
        refine s1 (y_p rfl) rfl ?_
        refine at_nil <| x_tn ?_
        refine at_else rfl ?_
        refine at_skip <| x_bn <| x_tn <| at_region <| s1 (addN _ 1 rfl rfl rfl rfl (by omega)) rfl <| s1 (y_p rfl) rfl ?_
        refine at_nil ?_
        exact at_end (j + 1) (⟨by omega, next_all hall (bad_no hcs)⟩) (by omega) [(9, some 9)] hI rfl rfl ⟨⟨_, rfl, .p rfl⟩, ⟨_, rfl, .pure pu⟩, ⟨_, rfl, .pure pu⟩, ⟨_, rfl, .pure pu⟩, ⟨_, rfl, .pure pu⟩, ⟨_, rfl, .pure pu⟩, trivial⟩ ⟨.inr ⟨_, _, rfl, rfl, .pure pul⟩, trivial⟩
      ·have h78 : j = 19 := by have := of_decide_eq_false hc78; omega
       subst h78
       refine at_exit <| x_te <| x_te <| x_be <| x_tn <| at_seq <| at_region <| s1 ((y_p rfl).v (v' := .i .i64 3) rfl) rfl <| s1 ((y_p rfl).v (v' := .i .i64 0) rfl) rfl ?_
       refine at_nil <| x_tn <| at_ret ?_
       refine at_result (rs := [.tmp 10, .tmp 11]) rfl (r_tmp rfl (r_tmp rfl r_nil)) ?_
       exact forg_ret (forg_else hver h54 h68 hall)
end Go.Abs.D2
-- K6C
namespace Go.Abs.D2
open Go Go.Eng Go.Abs Go.Proofs 
theorem signW_ok (x : List UInt8) (k : Nat) (a : Int) (m : List UInt8) (hx : x.length = 32) (hm : m.length = 32) (hk : sizeK (k : Int)) : Con Tryd.prog 35 [.ag (x.map u8), dgs (kpubs x k), .i .i64 a, .ag (m.map u8)] (Ret (signA x k a m)) := by
 refine enter Tryd.func35 rfl Tryd.ntmps35 (by kernel_rfl) (Nat.le_of_ble_eq_true rfl) fun w0 X0 hI => ?_
 refine at_seq <| at_region ?_
 refine at_op rfl (n_boxA 4 rfl rfl rfl ?_)
 refine at_op rfl (n_boxA 7 rfl rfl rfl ?_)
 refine at_op rfl (n_alloc 8 rfl ti28 rfl rfl ?_)
 refine s1 ((y_p rfl).v (v' := .i .i64 0) rfl) rfl ?_
 refine at_nil <| x_tn <| at_seq ?_
 rcases (Decidable.em (atK (k : Int) a)).symm with hcs | hcs
 ·skip
  have hk2 : k ≤ 256 := by unfold sizeK at hk; omega
  refine at_region <| s1 (y_p rfl) rfl <| s1 (y_p rfl) rfl ?_
  refine at_op rfl (n_call false rfl (.cons (.pure pu) (.cons (.pure pu) (.nil))) (Con.cast (pathI_ok (kpubs x k) a (D32_kpubs x k) (by simp; omega)) (pathA_no (by rw [len_kpubs]; exact hcs))) pu (.inl rfl) rfl ?_)
  refine s1 (y_p rfl) rfl <| s1 (y_p rfl) rfl <| s1 (y_p rfl) rfl <| s1 (y_p rfl) rfl <| s1 (y_p rfl) rfl ?_
  refine at_nil <| x_tn <| at_seq <| at_seq <| at_region <| s1 (y_p rfl) rfl <| s1 ((y_p rfl).v (v' := .b true) (rfl)) rfl ?_
  refine at_nil <| x_tn ?_
  refine at_then rfl ?_
  refine at_seq <| at_region <| s1 (y_loadA0 ti28 rfl rfl (by first | rfl | omega | (simp <;> omega) | (simp [*] <;> omega))) rfl ?_
  refine at_op rfl (n_storeA ti28 rfl rfl rfl (by first | rfl | omega | (simp <;> omega) | (simp [*] <;> omega)) (by first | rfl | omega | (simp <;> omega) | (simp [*] <;> omega)) ?_)
  refine s1 ((y_p rfl).v (v' := .i .i64 60) rfl) rfl ?_
  refine at_nil <| x_tn <| at_ret <| x_tr ?_
  refine at_wkO 8 rfl (.cons (.eq rfl) (.cons .nl (.cons .nl .nil))) ?_
  refine at_result (rs := [.cell 8 28, .tmp 9]) rfl (r_cellA ti28 rfl rfl rfl rfl (r_tmp rfl r_nil)) ?_
  exact (signA_no (fun h => hcs h.2)).symm
 ·have hat := hcs
  obtain ⟨i, rfl, hi⟩ : ∃ i : Nat, a = (i : Int) ∧ i < k := ⟨a.toNat, by unfold atK at hcs; omega, by unfold atK at hcs; omega⟩
  have hk2 : k ≤ 256 := by unfold sizeK at hk; omega
  refine at_region <| s1 (y_p rfl) rfl <| s1 (y_p rfl) rfl ?_
  refine at_op rfl (n_call false rfl (.cons (.pure pu) (.cons (.pure pu) (.nil))) (Con.cast (pathI_ok (kpubs x k) (i : Nat) (D32_kpubs x k) (by simp; omega)) (pathA_yes (by rw [len_kpubs]; exact hi))) pu (.inl rfl) rfl ?_)
  refine s1 (y_p rfl) rfl <| s1 (y_p rfl) rfl <| s1 (y_p rfl) rfl <| s1 (y_p rfl) rfl <| s1 (y_p rfl) rfl ?_
  refine at_nil <| x_tn <| at_seq <| at_seq <| at_region <| s1 (y_p rfl) rfl <| s1 ((y_p rfl).v (v' := .b false) (rfl)) rfl ?_
  refine at_nil <| x_tn ?_
  refine at_else rfl ?_
  refine at_skip <| x_tn <| at_seq ?_
  refine at_fs ⟨_, [], []⟩ 8 4 hmix (le_refl rfl) ?_
  refine fs_q 0 [] [] (y_p rfl) rfl rfl ?_
  refine fs_q 1 [] [(4, none)] (y_loadA0 ti23 rfl rfl (by first | rfl | omega | (simp <;> omega) | (simp [*] <;> omega))) rfl rfl ?_
  refine fs_q 2 [] [] (y_p rfl) rfl rfl ?_
  refine fs_call false 3 [1, 2] [] gy0 rfl (.cons (.pure pu) (.cons (.pure pu) (.nil))) (seed_ok x (i : Nat) hx) pu (.inl rfl) rfl rfl ?_
  refine fs_q 4 [] [(7, none)] (y_loadA0 ti23 rfl rfl (by first | rfl | omega | (simp <;> omega) | (simp [*] <;> omega))) rfl rfl ?_
  refine fs_call false 5 [3, 4] [] gy0 rfl (.cons (.pure pu) (.cons (.pure pu) (.nil))) (sign_ok (seedL x (i : Nat)) m (by simp) hm) pu (.inl rfl) rfl rfl ?_
  refine fs_q 6 [] [] (y_p rfl) rfl rfl ?_
  refine fs_q 7 [0, 5, 6] [] (y_bld (out := [_, _, _]) [[evC (.int .i64 0)], [evC (.slice none 0 0)], [evC (.slice none 0 0)]] ti28 rfl Tryd.underlying28 (by kernel_rfl) rfl rfl ⟨⟨by (first | rfl | omega | (simp; done) | (simp [*]; done) | (simp [cellsA, *]; done)), rfl⟩, ⟨⟨by (first | rfl | omega | (simp; done) | (simp [*]; done) | (simp [cellsA, *]; done)), rfl⟩, ⟨⟨by (first | rfl | omega | (simp; done) | (simp [*]; done) | (simp [cellsA, *]; done)), rfl⟩, trivial⟩⟩⟩ rfl) rfl rfl ?_
  refine fs_end (by kernel_rfl) ?_
  refine at_op rfl (n_storeA ti28 rfl rfl rfl (by first | rfl | omega | (simp <;> omega) | (simp [*] <;> omega)) (by first | rfl | omega | (simp <;> omega) | (simp [*] <;> omega)) ?_)
  refine s1 ((y_p rfl).v (v' := .i .i64 0) rfl) rfl ?_
  refine at_nil <| x_tn <| at_ret ?_
  refine at_result (rs := [.cell 8 28, .tmp 9]) rfl (r_cellA ti28 rfl rfl rfl rfl (r_tmp rfl r_nil)) ?_
  exact (signA_yes hk hi).symm
theorem ksign_ok (x : List UInt8) (n a : Int) (m : List UInt8) (hx : x.length = 32) (hm : m.length = 32) : Con Tryd.prog 14 [.ag (x.map u8), .i .i64 n, .i .i64 a, .ag (m.map u8)] (Ret (signA x n a m)) := by
 refine enter Tryd.func14 rfl Tryd.ntmps14 (by kernel_rfl) (Nat.le_of_ble_eq_true rfl) fun w0 X0 hI => ?_
 refine at_seq <| at_region ?_
 refine at_op rfl (n_boxA 4 rfl rfl rfl ?_)
 refine at_op rfl (n_boxA 7 rfl rfl rfl ?_)
 refine at_op rfl (n_alloc 8 rfl ti28 rfl rfl ?_)
 refine s1 ((y_p rfl).v (v' := .i .i64 0) rfl) rfl ?_
 refine at_nil <| x_tn <| at_seq <| at_seq <| at_region <| s1 (y_p rfl) rfl <| s1 (y_p rfl) rfl <| s1 (y_p rfl) rfl ?_
 refine g_or 2 rfl rfl rfl rfl (fun hb12 => .step (y_p rfl) rfl rfl <| .step (y_p rfl) rfl rfl <| .done) rfl rfl ?_
 refine s1 (y_p rfl) rfl ?_
 refine g_or 2 rfl rfl rfl rfl (fun hb16 => .step (y_p rfl) rfl rfl <| .step (y_p rfl) rfl rfl <| .done) rfl rfl ?_
 refine s1 (y_p rfl) rfl ?_
 refine g_or 3 rfl rfl rfl rfl (fun hb20 => .step (y_p rfl) rfl rfl <| .step (y_p rfl) rfl rfl <| .step (y_p rfl) rfl rfl <| .done) rfl rfl ?_
 refine at_nil <| x_tn ?_
 refine at_cond rfl (fun hc24 => ?_) (fun hc24 => ?_)
 ·have hcs : ¬ (sizeK n ∧ atK n a) := by intro h; unfold sizeK atK at h; simp at hc24; omega
  refine at_seq <| at_region <| s1 (y_loadA0 ti28 rfl rfl (by first | rfl | omega | (simp <;> omega) | (simp [*] <;> omega))) rfl ?_
  refine at_op rfl (n_storeA ti28 rfl rfl rfl (by first | rfl | omega | (simp <;> omega) | (simp [*] <;> omega)) (by first | rfl | omega | (simp <;> omega) | (simp [*] <;> omega)) ?_)
  refine s1 ((y_p rfl).v (v' := .i .i64 60) rfl) rfl ?_
  refine at_nil <| x_tn <| at_ret <| x_tr ?_
  refine at_wkO 8 rfl (.cons (.eq rfl) (.cons .nl (.cons .nl .nil))) ?_
  refine at_result (rs := [.cell 8 28, .tmp 9]) rfl (r_cellA ti28 rfl rfl rfl rfl (r_tmp rfl r_nil)) ?_
  exact (signA_no hcs).symm
 ·have hcs : sizeK n := by unfold sizeK; simp at hc24; omega
  have hsz := hcs
  obtain ⟨k, rfl, h1, h2⟩ := sizeK_nat hcs
  obtain ⟨i, rfl, hi⟩ : ∃ i : Nat, a = (i : Int) ∧ i < k := ⟨a.toNat, by simp at hc24; omega, by simp at hc24; omega⟩
  refine at_skip <| x_tn <| at_seq ?_
  refine at_fs ⟨_, [], []⟩ 10 4 hmix (le_refl rfl) ?_
  refine fs_q 0 [] [(4, none)] (y_loadA0 ti23 rfl rfl (by first | rfl | omega | (simp <;> omega) | (simp [*] <;> omega))) rfl rfl ?_
  refine fs_q 1 [] [(4, none)] (y_loadA0 ti23 rfl rfl (by first | rfl | omega | (simp <;> omega) | (simp [*] <;> omega))) rfl rfl ?_
  refine fs_q 2 [] [] (y_p rfl) rfl rfl ?_
  refine fs_call false 3 [1, 2] [] gy0 rfl (.cons (.pure pu) (.cons (.pure pu) (.nil))) (publics_ok x k) pu (.inl rfl) rfl rfl ?_
  refine fs_call false 4 [3] [] gy0 rfl (.cons (.pure pu) (.nil)) (collectD_ok x k hx h2) pu (.inl rfl) rfl rfl ?_
  refine fs_q 5 [] [] (y_p rfl) rfl rfl ?_
  refine fs_q 6 [] [(7, none)] (y_loadA0 ti23 rfl rfl (by first | rfl | omega | (simp <;> omega) | (simp [*] <;> omega))) rfl rfl ?_
  refine fs_call false 7 [0, 4, 5, 6] [] gy0 rfl (.cons (.pure pu) (.cons (.pure pu) (.cons (.pure pu) (.cons (.pure pu) (.nil))))) (Con.cast (signW_ok x k (i : Nat) m hx hm hsz) (signA_yes hsz hi)) pu (.inl rfl) rfl rfl ?_
  refine fs_q 8 [7] [] (y_p rfl) rfl rfl ?_
  refine fs_q 9 [7] [] (y_p rfl) rfl rfl ?_
  refine fs_end (by kernel_rfl) ?_
  refine at_op rfl (n_storeA ti28 rfl rfl rfl (by first | rfl | omega | (simp <;> omega) | (simp [*] <;> omega)) (by first | rfl | omega | (simp <;> omega) | (simp [*] <;> omega)) ?_)
  refine s1 (y_p rfl) rfl ?_
  refine at_nil <| x_tn <| at_ret ?_
  refine at_result (rs := [.cell 8 28, .tmp 9]) rfl (r_cellA ti28 rfl rfl rfl rfl (r_tmp rfl r_nil)) ?_
  exact (signA_yes hsz hi).symm
end Go.Abs.D2
-- D2L1
namespace Go.Abs.D2
open Go Go.Eng Go.Abs Go.Proofs 
end Go.Abs.D2
-- K6F
namespace Go.Abs.D2
open Go Go.Eng Go.Abs Go.Proofs 
theorem few_ok (n a : Int) (S P : List (List UInt8)) : Con Tryd.prog 11 [.i .i64 n, .ag [.i .i64 a, dgs S, dgs P]] (Ret (.b (fewK n S.length P.length))) := by
 refine enter Tryd.func11 rfl Tryd.ntmps11 (by kernel_rfl) (Nat.le_of_ble_eq_true rfl) fun w0 X0 hI => ?_
 refine at_seq <| at_region ?_
 refine at_op rfl (n_boxA 3 rfl rfl rfl ?_)
 refine s1 (y_p rfl) rfl ?_
 refine at_nil <| x_tn <| at_seq <| at_region <| s1 (y_p rfl) rfl <| s1 (y_p rfl) rfl <| s1 (y_p rfl) rfl ?_
 refine g_or 2 rfl rfl rfl rfl (fun hb7 => .step (y_p rfl) rfl rfl <| .step (y_p rfl) rfl rfl <| .done) rfl rfl ?_
 refine s1 (y_p rfl) rfl ?_
 refine g_and 4 rfl rfl rfl rfl (fun hb11 => .step (y_fld Tryd.underlying28 rfl ti26 (by decide) rfl rfl) rfl rfl <| .step (y_load ti26 rfl rfl rfl) rfl rfl <| .step (y_len Tryd.underlying26 rfl rfl rfl) rfl rfl <| .step (y_p rfl) rfl rfl <| .done) rfl rfl ?_
 refine s1 (y_p rfl) rfl ?_
 refine g_and 4 rfl rfl rfl rfl (fun hb17 => .step (y_fld Tryd.underlying28 rfl ti26 (by decide) rfl rfl) rfl rfl <| .step (y_load ti26 rfl rfl rfl) rfl rfl <| .step (y_len Tryd.underlying26 rfl rfl rfl) rfl rfl <| .step (y_p rfl) rfl rfl <| .done) rfl rfl ?_
 refine s1 (y_p rfl) rfl ?_
 refine at_nil <| x_tn <| at_ret ?_
 refine at_result (rs := [.tmp 4]) rfl (r_tmp rfl r_nil) rfl
end Go.Abs.D2
