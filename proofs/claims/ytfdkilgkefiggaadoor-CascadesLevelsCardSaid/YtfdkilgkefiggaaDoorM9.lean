/-
  The engine, the plain laws and the walks that the rows need, part 9. Conditions: none.
-/
import Derived.Test.YtfdkilgkefiggaaDoorM8

/-! F3E -/
set_option linter.unusedVariables false
set_option linter.unusedSimpArgs false
set_option maxHeartbeats 1000000
set_option maxRecDepth 10000
namespace Go.Abs.D2
open Go Go.Eng Go.Abs Go.Proofs 
theorem rbit_ok (D : List UInt8) (k : Nat) (hk : k / 8 < D.length) (hD : D.length ≤ 1000000) : Con Tryd.prog 63 [slA D, nJ k] (Ret (.b (bitA D k))) := by
 refine enter Tryd.func63 rfl Tryd.ntmps63 (by kernel_rfl) (Nat.le_of_ble_eq_true rfl) fun w0 X0 hI => ?_
 refine at_seq <| at_region <| s1 (y_p rfl) rfl ?_
 refine at_nil <| x_tn <| at_seq <| at_region <| s1 (y_p rfl) rfl <| s1 (y_p rfl) rfl <| s1 (quoN k 8 rfl rfl rfl rfl (by omega) (by omega)) rfl <| s1 (y_ixf (k / 8) Tryd.underlying40 ti5 rfl rfl rfl hk rfl) rfl <| s1 (y_load ti5 rfl rfl (getD8 hk)) rfl <| s1 ((y_conv Tryd.underlying5 Tryd.underlying3 rfl).v (conv8J _)) rfl <| s1 (y_p rfl) rfl ?_
 refine at_nil <| x_tn <| at_seq <| at_seq <| at_region <| s1 ((y_p rfl).v (v' := .i .i64 0) rfl) rfl ?_
 refine at_nil <| x_tn <| at_block ?_
 refine at_loop (ι := Nat) (fun i => [(1, nJ k), (5, nJ ((D.getD (k / 8) 0).toNat / 2 ^ i)), (6, nJ i)]) (fun i => ⟨[]⟩) (fun i => i ≤ k % 8) (fun i => k % 8 - i) ?_ ?_
 ·exact at_ex (0) (Nat.zero_le _) [] hI rfl rfl ⟨⟨_, rfl, .pure pu⟩, ⟨_, rfl, .of (congrArg nJ (div_zero _)) (.pure pu)⟩, ⟨_, rfl, .pure pu⟩, trivial⟩ trivial
 rintro i hi
 have hb := (D.getD (k / 8) 0).toNat_lt
 have hb2 : (D.getD (k / 8) 0).toNat / 2 ^ i ≤ (D.getD (k / 8) 0).toNat := Nat.div_le_self _ _
 refine at_seq <| at_seq <| at_region <| s1 (y_p rfl) rfl <| s1 (y_p rfl) rfl <| s1 (remN k 8 rfl rfl rfl rfl (by omega)) rfl <| s1 (y_p rfl) rfl ?_
 refine at_nil <| x_tn ?_
 refine at_cond rfl (fun hc16 => ?_) (fun hc16 => ?_)
 ·have h16 : i < k % 8 := by have := of_decide_eq_true hc16; omega
  refine at_skip <| x_tn <| at_seq <| at_block <| at_region <| s1 (y_p rfl) rfl <| s1 (quoN _ 2 rfl rfl rfl rfl (by omega) (by omega)) rfl <| s1 (y_p rfl) rfl ?_
  refine at_nil <| x_bn <| x_tn <| at_region <| s1 (y_p rfl) rfl <| s1 (addN _ 1 rfl rfl rfl rfl (by omega)) rfl <| s1 (y_p rfl) rfl ?_
  refine at_nil ?_
  exact at_end (i + 1) (by omega) (by omega) [] hI rfl rfl ⟨⟨_, rfl, .pure pu⟩, ⟨_, rfl, .of (congrArg nJ (div_step _ i)) (.pure pu)⟩, ⟨_, rfl, .pure pu⟩, trivial⟩ trivial
 ·have h16 : i = k % 8 := by have := of_decide_eq_false hc16; omega
  subst h16
  refine at_exit <| x_te <| x_te <| x_be <| x_tn <| at_seq <| at_region <| s1 (y_p rfl) rfl <| s1 (remN _ 2 rfl rfl rfl rfl (by omega)) rfl <| s1 ((y_p rfl).v (v' := .b (bitA D k)) (congrArg A.b (ref_bit _ _))) rfl <| s1 (y_p rfl) rfl ?_
  refine at_nil <| x_tn <| at_ret ?_
  refine at_result (rs := [.tmp 4]) rfl (r_tmp rfl (r_nil)) rfl
theorem rchk_ok (lv nb : Int) (D : List UInt8) (hD : D.length ≤ 1000000) : Con Tryd.prog 41 [.ag [.i .i64 lv, .i .i64 nb, slA D]] (Ret (.i .i64 (errF (chkB lv nb D)))) := by
 refine enter Tryd.func41 rfl Tryd.ntmps41 (by kernel_rfl) (Nat.le_of_ble_eq_true rfl) fun w0 X0 hI => ?_
 refine at_seq <| at_region ?_
 refine at_op rfl (n_boxA 1 rfl rfl rfl ?_)
 refine s1 ((y_p rfl).v (v' := .i .i64 0) rfl) rfl ?_
 refine at_nil <| x_tn <| at_seq <| at_seq <| at_region <| s1 (y_fld Tryd.underlying50 rfl ti3 (by decide) rfl rfl) rfl <| s1 (y_load ti3 rfl rfl rfl) rfl <| s1 (y_p rfl) rfl <| s1 (y_p rfl) rfl ?_
 refine g_or 3 rfl rfl rfl rfl (fun hb7 => .step (y_fld Tryd.underlying50 rfl ti3 (by decide) rfl rfl) rfl rfl <| .step (y_load ti3 rfl rfl rfl) rfl rfl <| .step (y_p rfl) rfl rfl <| .done) rfl rfl ?_
 refine s1 (y_p rfl) rfl ?_
 refine g_or 3 rfl rfl rfl rfl (fun hb12 => .step (y_fld Tryd.underlying50 rfl ti3 (by decide) rfl rfl) rfl rfl <| .step (y_load ti3 rfl rfl rfl) rfl rfl <| .step (y_p rfl) rfl rfl <| .done) rfl rfl ?_
 refine s1 (y_p rfl) rfl ?_
 refine g_or 3 rfl rfl rfl rfl (fun hb17 => .step (y_fld Tryd.underlying50 rfl ti3 (by decide) rfl rfl) rfl rfl <| .step (y_load ti3 rfl rfl rfl) rfl rfl <| .step (y_p rfl) rfl rfl <| .done) rfl rfl ?_
 refine at_bc 21 rfl (fun hc21 => ?_) (fun hc21 => ?_)
 ·have hcs : ¬ sizedP lv nb := by intro h; unfold sizedP at h; simp at hc21; omega
  refine s1 (y_p rfl) rfl <| g0 rfl rfl rfl rfl <| g0 rfl rfl rfl rfl <| g0 rfl rfl rfl rfl <| g0 rfl rfl rfl rfl <| g0 rfl rfl rfl rfl <| g0 rfl rfl rfl rfl <| g0 rfl rfl rfl rfl <| g0 rfl rfl rfl rfl <| s1 (y_p rfl) rfl ?_
  refine at_nil <| x_tn ?_
  refine at_then rfl ?_
  refine at_seq <| at_region <| s1 ((y_p rfl).v (v' := .i .i64 330) rfl) rfl ?_
  refine at_nil <| x_tn <| at_ret <| x_tr ?_
  refine at_result (rs := [.tmp 2]) rfl (r_tmp rfl r_nil) ?_
  exact congrArg (A.i .i64) (by rw [chk_size hcs]; rfl)
 ·have hcs : sizedP lv nb := by simp at hc21; unfold sizedP; omega
  obtain ⟨l, n, rfl, rfl, h1, h2, h3⟩ := sized_nat hcs
  refine s1 (y_p rfl) rfl <| g1 rfl rfl (y_fld Tryd.underlying50 rfl ti40 (by decide) rfl rfl) rfl <| g1 rfl rfl (y_load ti40 rfl rfl rfl) rfl <| g1 rfl rfl (y_len Tryd.underlying40 rfl rfl rfl) rfl <| g1 rfl rfl (y_fld Tryd.underlying50 rfl ti3 (by decide) rfl rfl) rfl <| g1 rfl rfl (y_load ti3 rfl rfl rfl) rfl <| g1 rfl rfl (addN n 7 rfl rfl rfl rfl (by omega)) rfl <| g1 rfl rfl (quoN (n + 7) 8 rfl rfl rfl rfl (by omega) (by omega)) rfl <| g1 rfl rfl (y_p rfl) rfl <| s1 (y_p rfl) rfl ?_
  refine at_nil <| x_tn ?_
  refine at_cond rfl (fun hc31 => ?_) (fun hc31 => ?_)
  ·have hl : D.length ≠ (n + 7) / 8 := by intro h; rw [h] at hc31; simp at hc31
   refine at_seq <| at_region <| s1 ((y_p rfl).v (v' := .i .i64 330) rfl) rfl ?_
   refine at_nil <| x_tn <| at_ret <| x_tr ?_
   refine at_result (rs := [.tmp 2]) rfl (r_tmp rfl r_nil) ?_
   exact congrArg (A.i .i64) (by rw [chk_len hl]; rfl)
  ·have hl : D.length = (n + 7) / 8 := by simp at hc31; omega
   refine at_skip <| x_tn <| at_seq <| at_seq <| at_region <| s1 (y_fld Tryd.underlying50 rfl ti3 (by decide) rfl rfl) rfl <| s1 (y_load ti3 rfl rfl rfl) rfl <| s1 (y_p rfl) rfl ?_
   refine at_nil <| x_tn <| at_block ?_
   refine at_loop (ι := Nat) (fun k => [(1, .p 1 0), (3, nJ k)]) (fun k => ⟨[(1, some ([nJ l, nJ n, slA D]))]⟩) (fun k => (n ≤ k ∧ k ≤ 8 * D.length) ∧ ∀ t, n ≤ t → t < k → bitA D t = false) (fun k => 8 * D.length - k) ?_ ?_
   ·exact at_ex (n) (⟨⟨Nat.le_refl _, by omega⟩, fun t h1 h2 => absurd h1 (by omega)⟩) [(1, some 1)] hI rfl rfl ⟨⟨_, rfl, .p rfl⟩, ⟨_, rfl, .pure pu⟩, trivial⟩ ⟨.inr ⟨_, _, rfl, rfl, .pure pul⟩, trivial⟩
   rintro k ⟨⟨hk1, hk2⟩, hall⟩
   refine at_seq <| at_seq <| at_region <| s1 (y_p rfl) rfl <| s1 (y_fld Tryd.underlying50 rfl ti40 (by decide) rfl rfl) rfl <| s1 (y_load ti40 rfl rfl rfl) rfl <| s1 (y_len Tryd.underlying40 rfl rfl rfl) rfl <| s1 (mulN 8 _ rfl rfl rfl rfl (by omega)) rfl <| s1 (y_p rfl) rfl ?_
   refine at_nil <| x_tn ?_
   refine at_cond rfl (fun hc39 => ?_) (fun hc39 => ?_)
   ·have h39 : k < 8 * D.length := by have := of_decide_eq_true hc39; omega
    refine at_skip <| x_tn <| at_seq <| at_block <| at_seq <| at_region <| s1 (y_fld Tryd.underlying50 rfl ti40 (by decide) rfl rfl) rfl <| s1 (y_load ti40 rfl rfl rfl) rfl <| s1 (y_p rfl) rfl ?_
    refine at_op rfl (n_call false rfl (.cons (.pure pu) (.cons (.pure pu) (.nil))) (rbit_ok D k (by omega) hD) pu (.inl rfl) rfl ?_)
    refine at_nil <| x_tn ?_
    refine at_cond rfl (fun hc45 => ?_) (fun hc45 => ?_)
    ·skip
     refine at_seq <| at_region <| s1 ((y_p rfl).v (v' := .i .i64 330) rfl) rfl ?_
     refine at_nil <| x_tn <| at_ret <| x_br <| x_tr <| x_tr <| x_br <| x_tr ?_
     refine at_result (rs := [.tmp 2]) rfl (r_tmp rfl r_nil) ?_
     exact congrArg (A.i .i64) (by rw [chk_bad h1 h2 h3 hl hk1 h39 hc45]; rfl)
    ·skip
     refine at_skip <| x_bn <| x_tn <| at_region <| s1 (y_p rfl) rfl <| s1 (addN _ 1 rfl rfl rfl rfl (by omega)) rfl <| s1 (y_p rfl) rfl ?_
     refine at_nil ?_
     exact at_end (k + 1) (⟨⟨by omega, by omega⟩, tail_next hall hc45⟩) (by omega) [(1, some 1)] hI rfl rfl ⟨⟨_, rfl, .p rfl⟩, ⟨_, rfl, .pure pu⟩, trivial⟩ ⟨.inr ⟨_, _, rfl, rfl, .pure pul⟩, trivial⟩
   ·have h39 : k = 8 * D.length := by have := of_decide_eq_false hc39; omega
    subst h39
    refine at_exit <| x_te <| x_te <| x_be <| x_tn <| at_seq <| at_region <| s1 ((y_p rfl).v (v' := .i .i64 0) rfl) rfl ?_
    refine at_nil <| x_tn <| at_ret ?_
    refine at_result (rs := [.tmp 2]) rfl (r_tmp rfl r_nil) ?_
    exact congrArg (A.i .i64) (by rw [nat_chk h1 h2 h3 hl hall]; rfl)
theorem rnew_ok (lv nb : Int) : Con Tryd.prog 60 [.i .i64 lv, .i .i64 nb] (Ret (newA lv nb)) := by
 refine enter Tryd.func60 rfl Tryd.ntmps60 (by kernel_rfl) (Nat.le_of_ble_eq_true rfl) fun w0 X0 hI => ?_
 refine at_seq <| at_region ?_
 refine at_op rfl (n_alloc 4 rfl ti50 rfl rfl ?_)
 refine s1 ((y_p rfl).v (v' := .i .i64 0) rfl) rfl ?_
 refine at_nil <| x_tn <| at_seq <| at_seq <| at_region <| s1 (y_p rfl) rfl <| s1 (y_p rfl) rfl <| s1 (y_p rfl) rfl ?_
 refine g_or 2 rfl rfl rfl rfl (fun hb8 => .step (y_p rfl) rfl rfl <| .step (y_p rfl) rfl rfl <| .done) rfl rfl ?_
 refine s1 (y_p rfl) rfl ?_
 refine g_or 2 rfl rfl rfl rfl (fun hb12 => .step (y_p rfl) rfl rfl <| .step (y_p rfl) rfl rfl <| .done) rfl rfl ?_
 refine s1 (y_p rfl) rfl ?_
 refine g_or 2 rfl rfl rfl rfl (fun hb16 => .step (y_p rfl) rfl rfl <| .step (y_p rfl) rfl rfl <| .done) rfl rfl ?_
 refine at_nil <| x_tn ?_
 refine at_cond rfl (fun hc19 => ?_) (fun hc19 => ?_)
 ·have hcs : ¬ sizedP lv nb := by intro h; unfold sizedP at h; simp at hc19; omega
  refine at_seq <| at_region <| s1 (y_bld (out := [_, _, _]) [[evC (.int .i64 0)], [evC (.int .i64 0)], [evC (.slice none 0 0)]] ti50 rfl Tryd.underlying50 (by kernel_rfl) rfl rfl trivial rfl) rfl ?_
  refine at_op rfl (n_storeA ti50 rfl rfl rfl (by first | rfl | omega | (simp <;> omega) | (simp [*] <;> omega)) (by first | rfl | omega | (simp <;> omega) | (simp [*] <;> omega)) ?_)
  refine s1 ((y_p rfl).v (v' := .i .i64 330) rfl) rfl ?_
  refine at_nil <| x_tn <| at_ret <| x_tr ?_
  refine at_wkO 4 rfl (.cons (.eq rfl) (.cons (.eq rfl) (.cons .nl .nil))) ?_
  refine at_result (rs := [.cell 4 50, .tmp 5]) rfl (r_cellA ti50 rfl rfl rfl rfl (r_tmp rfl r_nil)) ?_
  show A.tu _ = _
  exact (new_no hcs).symm
 ·have hcs : sizedP lv nb := by simp at hc19; unfold sizedP; omega
  obtain ⟨l, n, rfl, rfl, h1, h2, h3⟩ := sized_nat hcs
  refine at_skip <| x_tn <| at_seq <| at_region <| s1 (y_p rfl) rfl <| s1 (y_p rfl) rfl <| s1 (y_p rfl) rfl <| s1 (addN n 7 rfl rfl rfl rfl (by omega)) rfl <| s1 (quoN (n + 7) 8 rfl rfl rfl rfl (by omega) (by omega)) rfl ?_
  refine at_op rfl (n_make 26 rfl _ _ Tryd.underlying40 ti5 rfl rfl rfl rfl rfl (by first | omega | (simp only [maxLen]; omega) | (simp [maxLen]; done) | (simp [maxLen]; omega) | (simp [maxLen, *]; omega)) (by first | omega | (simp only [maxLen]; omega) | (simp [maxLen]; done) | (simp [maxLen]; omega) | (simp [maxLen, *]; omega)) (by first | omega | (simp only [maxLen]; omega) | (simp [maxLen]; done) | (simp [maxLen]; omega) | (simp [maxLen, *]; omega)) rfl ?_)
  refine s1 (y_bld (out := [_, _, _]) [[evC (.int .i64 0)], [evC (.int .i64 0)], [evC (.slice none 0 0)]] ti50 rfl Tryd.underlying50 (by kernel_rfl) rfl rfl ⟨⟨by (first | rfl | omega | (simp; done) | (simp [*]; done) | (simp [cellsA, *]; done)), rfl⟩, ⟨⟨by (first | rfl | omega | (simp; done) | (simp [*]; done) | (simp [cellsA, *]; done)), rfl⟩, ⟨⟨by (first | rfl | omega | (simp; done) | (simp [*]; done) | (simp [cellsA, *]; done)), rfl⟩, trivial⟩⟩⟩ rfl) rfl ?_
  refine at_op rfl (n_storeA ti50 rfl rfl rfl (by first | rfl | omega | (simp <;> omega) | (simp [*] <;> omega)) (by first | rfl | omega | (simp <;> omega) | (simp [*] <;> omega)) ?_)
  refine s1 ((y_p rfl).v (v' := .i .i64 0) rfl) rfl ?_
  refine at_nil <| x_tn <| at_ret ?_
  refine at_frzO 4 2 rfl rfl rfl rfl pul (view_eq (by simp) (zmap _)) rfl ?_
  refine at_result (rs := [.cell 4 50, .tmp 5]) rfl (r_cellA ti50 rfl rfl rfl rfl (r_tmp rfl r_nil)) ?_
  show A.tu _ = _
  rw [new_yes hcs, filA, slA, List.length_replicate]; rfl
theorem rnum_ok (d : List UInt8) (o : Nat) (h : o + 4 ≤ d.length) : Con Tryd.prog 104 [.fz 4 (((d.map u8).drop o).take 4)] (Ret (nJ (numD d o 4))) := by
 refine enter Tryd.func104 rfl Tryd.ntmps104 (by kernel_rfl) (Nat.le_of_ble_eq_true rfl) fun w0 X0 hI => ?_
 refine at_seq <| at_region <| s1 ((y_p rfl).v (v' := .i .i64 0) rfl) rfl ?_
 refine at_nil <| x_tn <| at_seq <| at_region <| s1 ((y_p rfl).v (v' := .i .i64 0) rfl) rfl ?_
 refine at_nil <| x_tn <| at_seq <| at_seq <| at_region <| s1 ((y_p rfl).v (v' := .i .i64 0) rfl) rfl ?_
 refine at_nil <| x_tn <| at_block ?_
 refine at_loop (ι := Nat) (fun i => [(0, .fz 4 (((d.map u8).drop o).take 4)), (3, nJ (numD d o i)), (4, nJ i)]) (fun i => ⟨[]⟩) (fun i => i ≤ 4) (fun i => 4 - i) ?_ ?_
 ·exact at_ex (0) (Nat.zero_le _) [] hI rfl rfl ⟨⟨_, rfl, .pure pu⟩, ⟨_, rfl, .of (by rfl) (.pure pu)⟩, ⟨_, rfl, .pure pu⟩, trivial⟩ trivial
 rintro i hi
 have hnl := numD_lt d o i
 have h4 : 256 ^ i ≤ 256 ^ 4 := Nat.pow_le_pow_right (by omega) hi
 refine at_seq <| at_seq <| at_region <| s1 (y_p rfl) rfl <| s1 (y_p rfl) rfl ?_
 refine at_nil <| x_tn ?_
 refine at_cond rfl (fun hc6 => ?_) (fun hc6 => ?_)
 ·have h6 : i < 4 := by have := of_decide_eq_true hc6; omega
  have hb := (d.getD (o + i) 0).toNat_lt
  refine at_skip <| x_tn <| at_seq <| at_block <| at_region <| s1 (y_p rfl) rfl <| s1 (mulN 256 _ rfl rfl rfl rfl (by omega)) rfl <| s1 (y_p rfl) rfl <| s1 (y_p rfl) rfl <| s1 (y_ixf i Tryd.underlying40 ti5 rfl rfl rfl (by omega) rfl) rfl <| s1 (y_load ti5 rfl rfl (getT4 (by omega) h6)) rfl <| s1 ((y_conv Tryd.underlying5 Tryd.underlying3 rfl).v (conv8J _)) rfl <| s1 (addN _ _ rfl rfl rfl rfl (by omega)) rfl <| s1 (y_p rfl) rfl ?_
  refine at_nil <| x_bn <| x_tn <| at_region <| s1 (y_p rfl) rfl <| s1 (addN _ 1 rfl rfl rfl rfl (by omega)) rfl <| s1 (y_p rfl) rfl ?_
  refine at_nil ?_
  exact at_end (i + 1) (by omega) (by omega) [] hI rfl rfl ⟨⟨_, rfl, .pure pu⟩, ⟨_, rfl, .of (congrArg nJ (num_step d o i)) (.pure pu)⟩, ⟨_, rfl, .pure pu⟩, trivial⟩ trivial
 ·have h6 : i = 4 := by have := of_decide_eq_false hc6; omega
  subst h6
  refine at_exit <| x_te <| x_te <| x_be <| x_tn <| at_seq <| at_region <| s1 (y_p rfl) rfl <| s1 (y_p rfl) rfl ?_
  refine at_nil <| x_tn <| at_ret ?_
  refine at_result (rs := [.tmp 2]) rfl (r_tmp rfl (r_nil)) rfl
theorem rtag_filter (x : List UInt8) (l j : Nat) (hx : x.length = 32) : Con Tryd.prog 51 [.s [102, 105, 108, 116, 101, 114], .fz 37 ((x ++ UInt8.ofNat l :: be32 (BitVec.ofNat 32 j)).map u8)] (Ret (.ag ((filD x l j).map u8))) := by
  have e2 : (x ++ UInt8.ofNat l :: be32 (BitVec.ofNat 32 j)).length = 37 := by simp [be32, hx]
  rw [filD_eq, ← e2]; exact rtagged_ok _ _ (by omega) (by simp)
theorem rbits_ok (x : List UInt8) (lv nb id : Int) (D : List UInt8) (hx : x.length = 32) (hD : D.length ≤ 1000000) : Con Tryd.prog 80 [.ag (x.map u8), .ag [.i .i64 lv, .i .i64 nb, slA D], .i .i64 id] (Ret (bitsA x lv nb D id)) := by
 refine enter Tryd.func80 rfl Tryd.ntmps80 (by kernel_rfl) (Nat.le_of_ble_eq_true rfl) fun w0 X0 hI => ?_
 refine at_seq <| at_region ?_
 refine at_op rfl (n_boxA 3 rfl rfl rfl ?_)
 refine at_op rfl (n_boxA 4 rfl rfl rfl ?_)
 refine s1 (y_p rfl) rfl <| s1 ((y_p rfl).v (v' := .i .i64 0) rfl) rfl ?_
 refine at_nil <| x_tn <| at_seq ?_
 rcases tf (chkB lv nb D) with hcs | hcs
 ·skip
  refine at_region <| s1 (y_loadA0 ti50 rfl rfl (by first | rfl | omega | (simp <;> omega) | (simp [*] <;> omega))) rfl ?_
  refine at_op rfl (n_call false rfl (.cons (.pure pu) (.nil)) (Con.cast (rchk_ok _ _ _ hD) (congrArg (A.i .i64) (by rw [hcs]; rfl : errF (chkB lv nb D) = 330))) pu (.inl rfl) rfl ?_)
  refine s1 (y_p rfl) rfl ?_
  refine at_nil <| x_tn <| at_seq <| at_seq <| at_region <| s1 (y_p rfl) rfl <| s1 ((y_p rfl).v (v' := .b true) (rfl)) rfl ?_
  refine at_nil <| x_tn ?_
  refine at_then rfl ?_
  refine at_seq <| at_region <| s1 (y_p rfl) rfl <| s1 (y_p rfl) rfl <| s1 (y_p rfl) rfl ?_
  refine at_nil <| x_tn <| at_ret <| x_tr ?_
  refine at_result (rs := [.tmp 6, .tmp 7]) rfl (r_tmp rfl (r_tmp rfl r_nil)) ?_
  show A.tu _ = _
  exact (bits_no (ok_chk hcs)).symm
 ·skip
  refine at_region <| s1 (y_loadA0 ti50 rfl rfl (by first | rfl | omega | (simp <;> omega) | (simp [*] <;> omega))) rfl ?_
  refine at_op rfl (n_call false rfl (.cons (.pure pu) (.nil)) (Con.cast (rchk_ok _ _ _ hD) (congrArg (A.i .i64) (by rw [hcs]; rfl : errF (chkB lv nb D) = 0))) pu (.inl rfl) rfl ?_)
  refine s1 (y_p rfl) rfl ?_
  refine at_nil <| x_tn <| at_seq <| at_seq <| at_region <| s1 (y_p rfl) rfl <| s1 ((y_p rfl).v (v' := .b false) (rfl)) rfl ?_
  refine at_nil <| x_tn ?_
  refine at_else rfl ?_
  refine at_skip <| x_tn <| at_seq <| at_seq <| at_region <| s1 (y_p rfl) rfl <| s1 (y_p rfl) rfl <| s1 (y_p rfl) rfl ?_
  refine g_or 2 rfl rfl rfl rfl (fun hb18 => .step (y_p rfl) rfl rfl <| .step (y_p rfl) rfl rfl <| .done) rfl rfl ?_
  refine at_nil <| x_tn ?_
  refine at_cond rfl (fun hc21 => ?_) (fun hc21 => ?_)
  ·have h19 : ¬ (0 ≤ id ∧ id < 1024) := by simp at hc21; omega
   refine at_seq <| at_region <| s1 (y_p rfl) rfl <| s1 ((y_p rfl).v (v' := .i .i64 330) rfl) rfl ?_
   refine at_nil <| x_tn <| at_ret <| x_tr ?_
   refine at_result (rs := [.tmp 6, .tmp 7]) rfl (r_tmp rfl (r_tmp rfl r_nil)) ?_
   show A.tu _ = _
   exact (bits_no (ok_id h19)).symm
  ·have h19 : 0 ≤ id ∧ id < 1024 := by simp at hc21; omega
   have hk := ok_yes hcs h19
   obtain ⟨l, n, j, rfl, rfl, rfl, h1, h2, h3, h4, h5, h6⟩ := ok_nat hk
   refine at_skip <| x_tn <| at_seq <| at_region ?_
   refine at_op rfl (n_bs1 22 rfl Tryd.underlying40 ti5 rfl rfl rfl rfl rfl ?_)
   refine s1 (y_cuta0 Tryd.underlying23 ti5 rfl rfl (by simp [hx]) (by simp [maxLen])) rfl ?_
   refine at_op rfl (n_app 24 rfl Tryd.underlying40 ti5 rfl (.sl rfl (by first | rfl | omega | (simp <;> omega) | (simp [*] <;> omega))) rfl (SM_full rfl (by simp [hx])) (by simp [hx]) (by simp [maxLen]) (by simp) rfl rfl rfl ?_)
   refine s1 (y_p rfl) rfl ?_
   refine at_nil <| x_tn <| at_seq <| at_region <| s1 (y_p rfl) rfl <| s1 (y_fld Tryd.underlying50 rfl ti3 (by decide) rfl rfl) rfl <| s1 (y_load ti3 rfl rfl rfl) rfl <| s1 (ofN_u8 l Tryd.underlying3 Tryd.underlying5 rfl rfl) rfl <| s1 (y_p rfl) rfl <| s1 (quoN j 256 rfl rfl rfl rfl (by omega) (by omega)) rfl <| s1 (ofN_u8 (j / 256) Tryd.underlying3 Tryd.underlying5 rfl rfl) rfl <| s1 (y_p rfl) rfl <| s1 (remN j 256 rfl rfl rfl rfl (by omega)) rfl <| s1 (ofN_u8 (j % 256) Tryd.underlying3 Tryd.underlying5 rfl rfl) rfl ?_
   refine at_op rfl (n_bs1 35 rfl Tryd.underlying40 ti5 rfl rfl rfl rfl rfl ?_)
   refine at_op rfl (n_app 36 rfl Tryd.underlying40 ti5 rfl (.sl rfl (by simp [hx])) rfl (SM_full rfl (by rfl)) (by first | rfl | omega | (simp <;> omega) | (simp [*] <;> omega)) (by simp [maxLen]) (by simp) rfl rfl rfl ?_)
   refine s1 (y_p rfl) rfl ?_
   refine at_nil <| x_tn <| at_seq <| at_region <| s1 (y_p rfl) rfl ?_
   refine at_op rfl (n_call true rfl (.cons (.pure pu) (.cons (.sl rfl rfl rfl (view_eq (by simp [hx]) (head_bytes h4)) (VwL.pure pul) pul) .nil)) (rtag_filter x l j hx) pu (.inr fu) rfl ?_)
   refine at_op rfl (n_alloc 10 rfl ti23 rfl rfl ?_)
   refine at_op rfl (n_storeA ti23 rfl rfl rfl (by first | rfl | omega | (simp <;> omega) | (simp [*] <;> omega)) (by first | rfl | omega | (simp <;> omega) | (simp [*] <;> omega)) ?_)
   refine at_nil <| x_tn <| at_seq ?_
   refine at_fs ⟨_, [], []⟩ 11 4 hmix (le_refl rfl) ?_
   refine fs_q 0 [] [(10, none)] (y_cuta 4 Tryd.underlying23 ti5 rfl rfl (by simp) (by simp [maxLen]) bn (bs (v := 4) rfl rfl) (by omega) (by omega) rfl rfl) rfl rfl ?_
   refine fs_call true 1 [0] [(10, none)] gy0 rfl (.cons (.sl rfl rfl rfl rfl (VwL.pure pul) pul) .nil) (rnum_ok (filD x l j) 0 (by simp)) pu (.inr fu) rfl rfl ?_
   refine fs_q 2 [] [(4, none)] (y_fld Tryd.underlying50 rfl ti3 (by decide) rfl rfl) rfl rfl ?_
   refine fs_q 3 [2] [(4, none)] (y_load ti3 rfl rfl rfl) rfl rfl ?_
   refine fs_q 4 [1, 3] [] (remN (numD (filD x l j) 0 4) n rfl rfl rfl rfl (by omega)) rfl rfl ?_
   refine fs_q 5 [] [(10, none)] (y_cuta 4 Tryd.underlying23 ti5 rfl rfl (by simp) (by simp [maxLen]) (bs (v := 4) rfl rfl) (bs (v := 8) rfl rfl) (by omega) (by omega) rfl rfl) rfl rfl ?_
   refine fs_call true 6 [5] [(10, none)] gy0 rfl (.cons (.sl rfl rfl rfl rfl (VwL.pure pul) pul) .nil) (rnum_ok (filD x l j) 4 (by simp)) pu (.inr fu) rfl rfl ?_
   refine fs_q 7 [] [(4, none)] (y_fld Tryd.underlying50 rfl ti3 (by decide) rfl rfl) rfl rfl ?_
   refine fs_q 8 [7] [(4, none)] (y_load ti3 rfl rfl rfl) rfl rfl ?_
   refine fs_q 9 [6, 8] [] (remN (numD (filD x l j) 4 4) n rfl rfl rfl rfl (by omega)) rfl rfl ?_
   refine fs_bs1 49 10 [4, 9] gy0 Tryd.underlying24 ti3 rfl rfl rfl rfl rfl rfl ?_
   refine fs_end (by kernel_rfl) ?_
   refine s1 (y_p rfl) rfl <| s1 ((y_p rfl).v (v' := .i .i64 0) rfl) rfl ?_
   refine at_nil <| x_tn <| at_ret ?_
   refine at_frz 6 rfl rfl pul (view_eq rfl rfl) ?_
   refine at_result (rs := [.tmp 6, .tmp 7]) rfl (r_tmp rfl (r_tmp rfl r_nil)) ?_
   show A.tu _ = _
   rw [bits_yes hk, bitL_2, bN_eq, bN_eq]; rfl
theorem rset_ok (D : List UInt8) (k : Nat) (hk : k / 8 < D.length) (hD : D.length ≤ 1000000) : Con Tryd.prog 81 [slA D, nJ k] (Ret (slA (setA D k))) := by
 refine enter Tryd.func81 rfl Tryd.ntmps81 (by kernel_rfl) (Nat.le_of_ble_eq_true rfl) fun w0 X0 hI => ?_
 refine at_seq <| at_region <| s1 (y_p rfl) rfl ?_
 refine at_nil <| x_tn <| at_seq <| at_seq <| at_region <| s1 (y_p rfl) rfl <| s1 (y_p rfl) rfl ?_
 refine at_op rfl (n_call false rfl (.cons (.pure pu) (.cons (.pure pu) (.nil))) (rbit_ok D k hk hD) pu (.inl rfl) rfl ?_)
 refine at_nil <| x_tn ?_
 refine at_cond rfl (fun hc10 => ?_) (fun hc10 => ?_)
 ·skip
  refine at_seq <| at_region <| s1 (y_p rfl) rfl <| s1 (y_p rfl) rfl ?_
  refine at_nil <| x_tn <| at_ret <| x_tr ?_
  refine at_result (rs := [.tmp 4]) rfl (r_tmp rfl r_nil) ?_
  exact congrArg slA (set_same hc10).symm
 ·skip
  refine at_skip <| x_tn <| at_seq <| at_region ?_
  refine at_op rfl (n_bs1 12 rfl Tryd.underlying40 ti5 rfl rfl rfl rfl rfl ?_)
  refine s1 (y_p rfl) rfl ?_
  refine at_op rfl (n_app 14 rfl Tryd.underlying40 ti5 rfl (.sl rfl (by first | rfl | omega | (simp <;> omega) | (simp [*] <;> omega))) rfl rfl (by first | rfl | omega | (simp <;> omega) | (simp [*] <;> omega)) (by simp only [maxLen]; omega) (by first | omega | (simp only [maxLen]; omega) | (simp [maxLen]; done) | (simp [maxLen]; omega) | (simp [maxLen, *]; omega)) rfl rfl rfl ?_)
  refine s1 (y_p rfl) rfl ?_
  refine at_nil <| x_tn <| at_seq <| at_region <| s1 ((y_p rfl).v (v' := .i .i64 1) rfl) rfl ?_
  refine at_nil <| x_tn <| at_seq <| at_seq <| at_region <| s1 ((y_p rfl).v (v' := .i .i64 0) rfl) rfl ?_
  refine at_nil <| x_tn <| at_block ?_
  refine at_loop (ι := Nat) (fun i => [(1, nJ k), (5, .sl 14 1 0 D.length), (6, nJ (2 ^ i)), (7, nJ i)]) (fun i => ⟨[(14, some (D.map u8))]⟩) (fun i => i ≤ k % 8) (fun i => k % 8 - i) ?_ ?_
  ·exact at_ex (0) (Nat.zero_le _) [(14, some 14)] hI rfl rfl ⟨⟨_, rfl, .pure pu⟩, ⟨_, rfl, .sl rfl (by first | rfl | omega | (simp <;> omega) | (simp [*] <;> omega))⟩, ⟨_, rfl, .of (by rfl) (.pure pu)⟩, ⟨_, rfl, .pure pu⟩, trivial⟩ ⟨.inr ⟨_, _, rfl, rfl, .of (by rfl) (.pure pul)⟩, trivial⟩
  rintro i hi
  have hp : 2 ^ i ≤ 2 ^ 8 := Nat.pow_le_pow_right (by omega) (by omega)
  refine at_seq <| at_seq <| at_region <| s1 (y_p rfl) rfl <| s1 (y_p rfl) rfl <| s1 (remN k 8 rfl rfl rfl rfl (by omega)) rfl <| s1 (y_p rfl) rfl ?_
  refine at_nil <| x_tn ?_
  refine at_cond rfl (fun hc18 => ?_) (fun hc18 => ?_)
  ·have h18 : i < k % 8 := by have := of_decide_eq_true hc18; omega
   refine at_skip <| x_tn <| at_seq <| at_block <| at_region <| s1 (y_p rfl) rfl <| s1 (mulN 2 (2 ^ i) rfl rfl rfl rfl (by omega)) rfl <| s1 (y_p rfl) rfl ?_
   refine at_nil <| x_bn <| x_tn <| at_region <| s1 (y_p rfl) rfl <| s1 (addN _ 1 rfl rfl rfl rfl (by omega)) rfl <| s1 (y_p rfl) rfl ?_
   refine at_nil ?_
   exact at_end (i + 1) (by omega) (by omega) [(14, some 14)] hI rfl rfl ⟨⟨_, rfl, .pure pu⟩, ⟨_, rfl, .sl rfl (by first | rfl | omega | (simp <;> omega) | (simp [*] <;> omega))⟩, ⟨_, rfl, .of (congrArg nJ (pow_step i)) (.pure pu)⟩, ⟨_, rfl, .pure pu⟩, trivial⟩ ⟨.inr ⟨_, _, rfl, rfl, .pure pul⟩, trivial⟩
  ·have h18 : i = k % 8 := by have := of_decide_eq_false hc18; omega
   subst h18
   refine at_exit <| x_te <| x_te <| x_be <| x_tn <| at_seq <| at_region <| s1 (y_p rfl) rfl <| s1 (y_p rfl) rfl <| s1 (quoN k 8 rfl rfl rfl rfl (by omega) (by omega)) rfl <| s1 (y_p rfl) rfl <| s1 (y_p rfl) rfl <| s1 (quoN k 8 rfl rfl rfl rfl (by omega) (by omega)) rfl <| s1 (y_ixs (k / 8) Tryd.underlying40 ti5 rfl rfl rfl rfl hk rfl) rfl <| s1 (y_load ti5 rfl rfl (getO8 hk)) rfl <| s1 (y_p rfl) rfl <| s1 (ofN_u8 (2 ^ (k % 8)) Tryd.underlying3 Tryd.underlying5 rfl rfl) rfl ?_
   refine s1 ((y_p rfl).v (set_byte hc10)) rfl <| s1 (y_ixs (k / 8) Tryd.underlying40 ti5 rfl rfl rfl rfl hk rfl) rfl ?_
   refine at_op rfl (n_store1 ti5 rfl rfl rfl rfl (by simp; omega) (setD9 _ _) ?_)
   refine at_nil <| x_tn <| at_seq <| at_region <| s1 (y_p rfl) rfl <| s1 (y_p rfl) rfl ?_
   refine at_nil <| x_tn <| at_ret ?_
   refine at_frz 4 rfl rfl pul (view_eq (by simp) rfl) ?_
   refine at_result (rs := [.tmp 4]) rfl (r_tmp rfl r_nil) ?_
   exact congrArg (fun z => A.fz z ((setA D k).map u8)) (len_setA D k).symm
theorem radd_ok (x : List UInt8) (lv nb id : Int) (D : List UInt8) (hx : x.length = 32) (hD : D.length ≤ 1000000) : Con Tryd.prog 61 [.ag (x.map u8), .ag [.i .i64 lv, .i .i64 nb, slA D], .i .i64 id] (Ret (addA x lv nb D id)) := by
 refine enter Tryd.func61 rfl Tryd.ntmps61 (by kernel_rfl) (Nat.le_of_ble_eq_true rfl) fun w0 X0 hI => ?_
 refine at_seq <| at_region ?_
 refine at_op rfl (n_boxA 3 rfl rfl rfl ?_)
 refine at_op rfl (n_boxA 4 rfl rfl rfl ?_)
 refine at_op rfl (n_alloc 6 rfl ti50 rfl rfl ?_)
 refine s1 ((y_p rfl).v (v' := .i .i64 0) rfl) rfl ?_
 refine at_nil <| x_tn <| at_seq ?_
 rcases tf (okB lv nb D id) with hcs | hcs
 ·skip
  refine at_region <| s1 (y_loadA0 ti23 rfl rfl (by first | rfl | omega | (simp <;> omega) | (simp [*] <;> omega))) rfl <| s1 (y_loadA0 ti50 rfl rfl (by first | rfl | omega | (simp <;> omega) | (simp [*] <;> omega))) rfl <| s1 (y_p rfl) rfl ?_
  refine at_op rfl (n_call false rfl (.cons (.pure pu) (.cons (.pure pu) (.cons (.pure pu) (.nil)))) (Con.cast (rbits_ok x _ _ _ D hx hD) (bits_no hcs)) pu (.inl rfl) rfl ?_)
  refine s1 (y_p rfl) rfl <| s1 (y_p rfl) rfl <| s1 (y_p rfl) rfl <| s1 (y_p rfl) rfl <| s1 (y_p rfl) rfl ?_
  refine at_nil <| x_tn <| at_seq <| at_seq <| at_region <| s1 (y_p rfl) rfl <| s1 ((y_p rfl).v (v' := .b true) (rfl)) rfl ?_
  refine at_nil <| x_tn ?_
  refine at_then rfl ?_
  refine at_seq <| at_region <| s1 (y_bld (out := [_, _, _]) [[evC (.int .i64 0)], [evC (.int .i64 0)], [evC (.slice none 0 0)]] ti50 rfl Tryd.underlying50 (by kernel_rfl) rfl rfl trivial rfl) rfl <| s1 (y_p rfl) rfl ?_
  refine at_op rfl (n_storeA ti50 rfl rfl rfl (by first | rfl | omega | (simp <;> omega) | (simp [*] <;> omega)) (by first | rfl | omega | (simp <;> omega) | (simp [*] <;> omega)) ?_)
  refine s1 (y_p rfl) rfl ?_
  refine at_nil <| x_tn <| at_ret <| x_tr ?_
  refine at_wkO 6 rfl (.cons (.eq rfl) (.cons (.eq rfl) (.cons .nl .nil))) ?_
  refine at_result (rs := [.cell 6 50, .tmp 7]) rfl (r_cellA ti50 rfl rfl rfl rfl (r_tmp rfl r_nil)) ?_
  show A.tu _ = _
  exact (add_no hcs).symm
 ·obtain ⟨l, n, j, rfl, rfl, rfl, h1, h2, h3, h4, h5, h6⟩ := ok_nat hcs
  have hb0 := bN_lt (x := x) (lv := l) (id := j) (show 0 < n by omega) 0
  have hb1 := bN_lt (x := x) (lv := l) (id := j) (show 0 < n by omega) 1
  have hok := hcs
  refine at_region <| s1 (y_loadA0 ti23 rfl rfl (by first | rfl | omega | (simp <;> omega) | (simp [*] <;> omega))) rfl <| s1 (y_loadA0 ti50 rfl rfl (by first | rfl | omega | (simp <;> omega) | (simp [*] <;> omega))) rfl <| s1 (y_p rfl) rfl ?_
  refine at_op rfl (n_call false rfl (.cons (.pure pu) (.cons (.pure pu) (.cons (.pure pu) (.nil)))) (Con.cast (rbits_ok x _ _ _ D hx hD) (bits_yes hcs)) pu (.inl rfl) rfl ?_)
  refine s1 (y_p rfl) rfl <| s1 (y_p rfl) rfl <| s1 (y_p rfl) rfl <| s1 (y_p rfl) rfl <| s1 (y_p rfl) rfl ?_
  refine at_nil <| x_tn <| at_seq <| at_seq <| at_region <| s1 (y_p rfl) rfl <| s1 ((y_p rfl).v (v' := .b false) (rfl)) rfl ?_
  refine at_nil <| x_tn ?_
  refine at_else rfl ?_
  refine at_skip <| x_tn <| at_seq ?_
  refine at_fs ⟨_, [], []⟩ 11 4 hmix (le_refl rfl) ?_
  refine fs_q 0 [] [(4, none)] (y_fld Tryd.underlying50 rfl ti40 (by decide) rfl rfl) rfl rfl ?_
  refine fs_q 1 [0] [(4, none)] (y_load ti40 rfl rfl rfl) rfl rfl ?_
  refine fs_q 2 [] [] (y_p rfl) rfl rfl ?_
  refine fs_q 3 [2] [] (y_ixf 0 Tryd.underlying24 ti3 rfl rfl rfl (by omega) rfl) rfl rfl ?_
  refine fs_q 4 [3] [] (y_load ti3 rfl rfl (bitL_get x l n j 0 (by omega))) rfl rfl ?_
  refine fs_call false 5 [1, 4] [] gy0 rfl (.cons (.pure pu) (.cons (.pure pu) (.nil))) (rset_ok D (bN x l n j 0) (by omega) hD) pu (.inl rfl) rfl rfl ?_
  refine fs_q 6 [] [] (y_p rfl) rfl rfl ?_
  refine fs_q 7 [6] [] (y_ixf 1 Tryd.underlying24 ti3 rfl rfl rfl (by omega) rfl) rfl rfl ?_
  refine fs_q 8 [7] [] (y_load ti3 rfl rfl (bitL_get x l n j 1 (by omega))) rfl rfl ?_
  refine fs_call false 9 [5, 8] [] gy0 rfl (.cons (.pure pu) (.cons (.pure pu) (.nil))) (rset_ok (setA D (bN x l n j 0)) (bN x l n j 1) (by simp; omega) (by simp; omega)) pu (.inl rfl) rfl rfl ?_
  refine fs_q 10 [] [(4, none)] (y_fld Tryd.underlying50 rfl ti40 (by decide) rfl rfl) rfl rfl ?_
  refine fs_end (by kernel_rfl) ?_
  refine at_op rfl (n_store1 ti40 rfl rfl rfl rfl (by first | rfl | omega | (simp <;> omega) | (simp [*] <;> omega)) rfl ?_)
  refine at_nil <| x_tn <| at_seq <| at_region <| s1 (y_loadA0 ti50 rfl rfl (by first | rfl | omega | (simp <;> omega) | (simp [*] <;> omega))) rfl ?_
  refine at_op rfl (n_storeA ti50 rfl rfl rfl (by first | rfl | omega | (simp <;> omega) | (simp [*] <;> omega)) (by first | rfl | omega | (simp <;> omega) | (simp [*] <;> omega)) ?_)
  refine s1 ((y_p rfl).v (v' := .i .i64 0) rfl) rfl ?_
  refine at_nil <| x_tn <| at_ret ?_
  refine at_result (rs := [.cell 6 50, .tmp 7]) rfl (r_cellA ti50 rfl rfl rfl rfl (r_tmp rfl r_nil)) ?_
  show A.tu _ = _
  exact (add_yes hcs).symm
theorem rhas_ok (x : List UInt8) (lv nb id : Int) (D : List UInt8) (hx : x.length = 32) (hD : D.length ≤ 1000000) : Con Tryd.prog 62 [.ag (x.map u8), .ag [.i .i64 lv, .i .i64 nb, slA D], .i .i64 id] (Ret (hasA x lv nb D id)) := by
 refine enter Tryd.func62 rfl Tryd.ntmps62 (by kernel_rfl) (Nat.le_of_ble_eq_true rfl) fun w0 X0 hI => ?_
 refine at_seq <| at_region ?_
 refine at_op rfl (n_boxA 3 rfl rfl rfl ?_)
 refine at_op rfl (n_boxA 4 rfl rfl rfl ?_)
 refine s1 (y_p rfl) rfl <| s1 ((y_p rfl).v (v' := .i .i64 0) rfl) rfl ?_
 refine at_nil <| x_tn <| at_seq ?_
 rcases tf (okB lv nb D id) with hcs | hcs
 ·skip
  refine at_region <| s1 (y_loadA0 ti23 rfl rfl (by first | rfl | omega | (simp <;> omega) | (simp [*] <;> omega))) rfl <| s1 (y_loadA0 ti50 rfl rfl (by first | rfl | omega | (simp <;> omega) | (simp [*] <;> omega))) rfl <| s1 (y_p rfl) rfl ?_
  refine at_op rfl (n_call false rfl (.cons (.pure pu) (.cons (.pure pu) (.cons (.pure pu) (.nil)))) (Con.cast (rbits_ok x _ _ _ D hx hD) (bits_no hcs)) pu (.inl rfl) rfl ?_)
  refine s1 (y_p rfl) rfl <| s1 (y_p rfl) rfl <| s1 (y_p rfl) rfl <| s1 (y_p rfl) rfl <| s1 (y_p rfl) rfl ?_
  refine at_nil <| x_tn <| at_seq <| at_seq <| at_region <| s1 (y_p rfl) rfl <| s1 ((y_p rfl).v (v' := .b true) (rfl)) rfl ?_
  refine at_nil <| x_tn ?_
  refine at_then rfl ?_
  refine at_seq <| at_region <| s1 (y_p rfl) rfl <| s1 (y_p rfl) rfl <| s1 (y_p rfl) rfl ?_
  refine at_nil <| x_tn <| at_ret <| x_tr ?_
  refine at_result (rs := [.tmp 6, .tmp 7]) rfl (r_tmp rfl (r_tmp rfl r_nil)) ?_
  show A.tu _ = _
  exact (has_no hcs).symm
 ·obtain ⟨l, n, j, rfl, rfl, rfl, h1, h2, h3, h4, h5, h6⟩ := ok_nat hcs
  have hb0 := bN_lt (x := x) (lv := l) (id := j) (show 0 < n by omega) 0
  have hb1 := bN_lt (x := x) (lv := l) (id := j) (show 0 < n by omega) 1
  have hok := hcs
  refine at_region <| s1 (y_loadA0 ti23 rfl rfl (by first | rfl | omega | (simp <;> omega) | (simp [*] <;> omega))) rfl <| s1 (y_loadA0 ti50 rfl rfl (by first | rfl | omega | (simp <;> omega) | (simp [*] <;> omega))) rfl <| s1 (y_p rfl) rfl ?_
  refine at_op rfl (n_call false rfl (.cons (.pure pu) (.cons (.pure pu) (.cons (.pure pu) (.nil)))) (Con.cast (rbits_ok x _ _ _ D hx hD) (bits_yes hcs)) pu (.inl rfl) rfl ?_)
  refine s1 (y_p rfl) rfl <| s1 (y_p rfl) rfl <| s1 (y_p rfl) rfl <| s1 (y_p rfl) rfl <| s1 (y_p rfl) rfl ?_
  refine at_nil <| x_tn <| at_seq <| at_seq <| at_region <| s1 (y_p rfl) rfl <| s1 ((y_p rfl).v (v' := .b false) (rfl)) rfl ?_
  refine at_nil <| x_tn ?_
  refine at_else rfl ?_
  refine at_skip <| x_tn <| at_seq ?_
  rcases tf (bitA D (bN x l n j 0)) with hcs | hcs
  ·have h0 := hcs
   refine at_fs ⟨_, [], []⟩ 14 4 hmix (le_refl rfl) ?_
   refine fs_q 0 [] [(4, none)] (y_fld Tryd.underlying50 rfl ti40 (by decide) rfl rfl) rfl rfl ?_
   refine fs_q 1 [0] [(4, none)] (y_load ti40 rfl rfl rfl) rfl rfl ?_
   refine fs_q 2 [] [] (y_p rfl) rfl rfl ?_
   refine fs_q 3 [2] [] (y_ixf 0 Tryd.underlying24 ti3 rfl rfl rfl (by omega) rfl) rfl rfl ?_
   refine fs_q 4 [3] [] (y_load ti3 rfl rfl (bitL_get x l n j 0 (by omega))) rfl rfl ?_
   refine fs_call false 5 [1, 4] [] gy0 rfl (.cons (.pure pu) (.cons (.pure pu) (.nil))) (Con.cast (rbit_ok D (bN x l n j 0) (by omega) hD) (congrArg A.b hcs)) pu (.inl rfl) rfl rfl ?_
   refine fs_q 6 [5] [] (y_p rfl) rfl rfl ?_
   refine fs_q0 7 [6] rfl rfl rfl rfl rfl ?_
   refine fs_q0 8 [6, 7] rfl rfl rfl rfl rfl ?_
   refine fs_q0 9 [6] rfl rfl rfl rfl rfl ?_
   refine fs_q0 10 [6, 9] rfl rfl rfl rfl rfl ?_
   refine fs_q0 11 [6, 10] rfl rfl rfl rfl rfl ?_
   refine fs_q0 12 [6, 8, 11] rfl rfl rfl rfl rfl ?_
   refine fs_q 13 [6, 12] [] (y_p rfl) rfl rfl ?_
   refine fs_end (by kernel_rfl) ?_
   refine s1 (y_p rfl) rfl <| s1 ((y_p rfl).v (v' := .i .i64 0) rfl) rfl ?_
   refine at_nil <| x_tn <| at_ret ?_
   refine at_result (rs := [.tmp 6, .tmp 7]) rfl (r_tmp rfl (r_tmp rfl r_nil)) ?_
   show A.tu _ = _
   rw [has_yes hok, hasD, hcs]; rfl
  ·skip
   refine at_fs ⟨_, [], []⟩ 14 4 hmix (le_refl rfl) ?_
   refine fs_q 0 [] [(4, none)] (y_fld Tryd.underlying50 rfl ti40 (by decide) rfl rfl) rfl rfl ?_
   refine fs_q 1 [0] [(4, none)] (y_load ti40 rfl rfl rfl) rfl rfl ?_
   refine fs_q 2 [] [] (y_p rfl) rfl rfl ?_
   refine fs_q 3 [2] [] (y_ixf 0 Tryd.underlying24 ti3 rfl rfl rfl (by omega) rfl) rfl rfl ?_
   refine fs_q 4 [3] [] (y_load ti3 rfl rfl (bitL_get x l n j 0 (by omega))) rfl rfl ?_
   refine fs_call false 5 [1, 4] [] gy0 rfl (.cons (.pure pu) (.cons (.pure pu) (.nil))) (Con.cast (rbit_ok D (bN x l n j 0) (by omega) hD) (congrArg A.b hcs)) pu (.inl rfl) rfl rfl ?_
   refine fs_q 6 [5] [] (y_p rfl) rfl rfl ?_
   refine fs_qg 7 [6] [(4, none)] rfl rfl (y_fld Tryd.underlying50 rfl ti40 (by decide) rfl rfl) rfl rfl ?_
   refine fs_qg 8 [6, 7] [(4, none)] rfl rfl (y_load ti40 rfl rfl rfl) rfl rfl ?_
   refine fs_qg 9 [6] [] rfl rfl (y_p rfl) rfl rfl ?_
   refine fs_qg 10 [6, 9] [] rfl rfl (y_ixf 1 Tryd.underlying24 ti3 rfl rfl rfl (by omega) rfl) rfl rfl ?_
   refine fs_qg 11 [6, 10] [] rfl rfl (y_load ti3 rfl rfl (bitL_get x l n j 1 (by omega))) rfl rfl ?_
   refine fs_call false 12 [6, 8, 11] [] (gy1 rfl rfl) rfl (.cons (.pure pu) (.cons (.pure pu) (.nil))) (rbit_ok D (bN x l n j 1) (by omega) hD) pu (.inl rfl) rfl rfl ?_
   refine fs_q 13 [6, 12] [] (y_p rfl) rfl rfl ?_
   refine fs_end (by kernel_rfl) ?_
   refine s1 (y_p rfl) rfl <| s1 ((y_p rfl).v (v' := .i .i64 0) rfl) rfl ?_
   refine at_nil <| x_tn <| at_ret ?_
   refine at_result (rs := [.tmp 6, .tmp 7]) rfl (r_tmp rfl (r_tmp rfl r_nil)) ?_
   show A.tu _ = _
   rw [has_yes hok, hasD, hcs]; rfl
end Go.Abs.D2
