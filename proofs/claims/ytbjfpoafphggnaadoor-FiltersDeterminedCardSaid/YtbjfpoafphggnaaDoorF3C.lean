/-
  Layer 2: walks of the digest functions. Conditions: each theorem says its own.
-/
import Derived.Test.YtbjfpoafphggnaaDoorF3B
import Derived.Test.YtbjfpoafphggnaaDoorD2G
namespace Go.Abs.D2
open Go Go.Eng Go.Abs Go.Proofs 

theorem fjoin3 (x : List UInt8) (lv id : Nat) (hx : x.length = 32) : Con Tryd.prog 36 [.fz 3 [.ic 23 (.ag (x.map u8)), .ic 5 (u8 (UInt8.ofNat lv)), .ic 65 (w32 (BitVec.ofNat 32 id))]] (RetO 1 37 ((x ++ UInt8.ofNat lv :: be32 (BitVec.ofNat 32 id)).map u8)) := by
  have := fjoin_ok [.d x, .b (UInt8.ofNat lv), .w (BitVec.ofNat 32 id)] (by simp) (by simp [Part.ok, hx])
  have e : bytesP [.d x, .b (UInt8.ofNat lv), .w (BitVec.ofNat 32 id)] = (x ++ UInt8.ofNat lv :: be32 (BitVec.ofNat 32 id)) := by simp [bytesP, Part.bs]
  rw [e] at this
  have e2 : (x ++ UInt8.ofNat lv :: be32 (BitVec.ofNat 32 id)).length = 37 := by simp [be32, hx]
  rw [e2] at this
  exact this

theorem tag_filter (x : List UInt8) (lv id : Nat) (hx : x.length = 32) : Con Tryd.prog 24 [.s [102, 105, 108, 116, 101, 114], .fz 37 ((x ++ UInt8.ofNat lv :: be32 (BitVec.ofNat 32 id)).map u8)] (Ret (.ag ((filD x lv id).map u8))) := by
  have e2 : (x ++ UInt8.ofNat lv :: be32 (BitVec.ofNat 32 id)).length = 37 := by simp [be32, hx]
  rw [filD_eq, ← e2]; exact tagged_ok _ _ (by omega) (by simp)

set_option linter.unusedSimpArgs false in
set_option linter.unusedVariables false in
set_option maxHeartbeats 1000000 in
theorem appendSeq_ok (x : List UInt8) (lv nb id : Nat) (D : List UInt8) (hx : x.length = 32) (hnb : 0 < nb) : Con Tryd.prog 34 [.nl, .fn (.func 35) [] [.fp (x.map u8), .fp [nJ lv, nJ nb, slA D], .fp [nJ id]]] (RetO 1 2 ((bitL x lv nb id 2).map nJ)) := by
  refine enterM Tryd.func34 rfl Tryd.ntmps34 (by kernel_rfl) (Nat.le_of_ble_eq_true rfl) fun w0 X0 hI hS => ?_
  refine at_seq ?_
  refine at_region ?_
  refine at_op rfl (n_box1 2 rfl rfl rfl rfl ?_)
  refine s1 (y_p rfl) rfl <| ?_
  refine at_nil ?_
  refine x_tn ?_
  refine at_seq ?_
  refine at_seq ?_
  refine at_region ?_
  refine s1 (y_p rfl) rfl <| ?_
  refine at_nil ?_
  refine x_tn ?_
  refine at_block ?_
  refine at_range [2] [(0, _), (1, _), (2, _), (4, _), (6, _)] hI rfl ⟨rfl, ⟨rfl, ⟨rfl, ⟨rfl, ⟨rfl, trivial⟩⟩⟩⟩⟩ (by first | rfl | (simp [onlyE, refsE, refs, refsL, refsL_pul, refs_pu, memN]; done)) rfl Tryd.func35 rfl Tryd.ntmps35 (by kernel_rfl) (Nat.le_of_ble_eq_true rfl) fun w1 l1 D1 rc1 hR1 => ?_
  refine at_seq ?_
  refine at_region ?_
  refine s1 (y_loadA ti23 rfl rfl (List.take_of_length_le (by simp [hx])) (by simp [hx])) rfl <| s1 (y_mkic (by kernel_rfl) rfl) rfl <| s1 (y_fldf Tryd.underlying26 rfl ti3 (by decide) rfl rfl) rfl <| s1 (y_load ti3 rfl rfl rfl) rfl <| s1 (ofN_u8 lv Tryd.underlying3 Tryd.underlying5 rfl rfl) rfl <| s1 (y_mkic (by kernel_rfl) rfl) rfl <| s1 (y_load ti3 rfl rfl rfl) rfl <| s1 (ofN_32 _ Tryd.underlying3 Tryd.underlying65 rfl rfl) rfl <| s1 (y_mkic (by kernel_rfl) rfl) rfl <| ?_
  refine at_op rfl (n_bs1 1019 rfl Tryd.underlying72 ti20 rfl rfl rfl rfl rfl ?_)
  refine at_op rfl (n_callO 1020 rfl true rfl (.cons (.sl rfl rfl (by first | rfl | omega | (simp; done) | (simp [*]; done) | (simp; omega) | (simp [*]; omega) | (simp [D32.len, -List.length_flatten, *]; done) | (simp [D32.len, -List.length_flatten, *]; omega)) (view_eq (by first | rfl | omega | (simp; done) | (simp [*]; done) | (simp; omega) | (simp [*]; omega) | (simp [D32.len, -List.length_flatten, *]; done) | (simp [D32.len, -List.length_flatten, *]; omega)) (by first | rfl | (simp; done) | (simp [*]; done))) (VwL.pure pul) pul) (.nil)) (fjoin3 x lv id hx) pul (.inr ful) rfl ?_)
  refine at_op rfl (n_call true rfl (.cons (.pure pu) (.cons (.sl rfl rfl (by first | rfl | omega | (simp; done) | (simp [*]; done) | (simp; omega) | (simp [*]; omega) | (simp [D32.len, -List.length_flatten, *]; done) | (simp [D32.len, -List.length_flatten, *]; omega)) (view_eq (by first | rfl | omega | (simp; done) | (simp [*]; done) | (simp; omega) | (simp [*]; omega) | (simp [D32.len, -List.length_flatten, *]; done) | (simp [D32.len, -List.length_flatten, *]; omega)) (by first | rfl | (simp; done) | (simp [*]; done))) (VwL.pure pul) pul) (.nil))) (tag_filter x lv id hx) pu (.inr fu) rfl ?_)
  refine at_op rfl (n_alloc 1005 rfl ti23 rfl rfl ?_)
  refine at_op rfl (n_storeA ti23 rfl rfl rfl (by first | rfl | omega | (simp; done) | (simp [*]; done) | (simp; omega) | (simp [*]; omega) | (simp [D32.len, -List.length_flatten, *]; done) | (simp [D32.len, -List.length_flatten, *]; omega)) (by first | rfl | omega | (simp; done) | (simp [*]; done) | (simp; omega) | (simp [*]; omega) | (simp [D32.len, -List.length_flatten, *]; done) | (simp [D32.len, -List.length_flatten, *]; omega)) ?_)
  refine at_nil ?_
  refine x_tn ?_
  refine at_seq ?_
  refine at_region ?_
  refine s1 ((y_p rfl).v (v' := .i .i64 0) rfl) rfl <| ?_
  refine at_nil ?_
  refine x_tn ?_
  refine at_block ?_
  refine at_loop (ι := Nat) (fun i => [(0, yv l1), (1, .fp (x.map u8)), (2, .fp [nJ lv, nJ nb, slA D]), (3, .fp [nJ id]), (5, .p 1005 0), (22, nJ i)]) (fun i => ⟨[(2, some ([.sl 11 1 0 i])), (11, some (((bitL x lv nb id i).map nJ))), (1005, some ((filD x lv id).map u8))]⟩) (fun i => i ≤ 2) (fun i => 2 - i) ?_ ?_
  · exact at_ex (0) (Nat.zero_le _) [(2, some 2), (11, none), (1005, some 1005)] hR1.sub.ids rfl rfl ⟨⟨_, rfl, .pure trivial⟩, ⟨_, rfl, .pure pu⟩, ⟨_, rfl, .pure pu⟩, ⟨_, rfl, .pure pu⟩, ⟨_, rfl, .p rfl⟩, ⟨_, rfl, .pure pu⟩, trivial⟩ ⟨.inr ⟨_, _, rfl, rfl, .cons (.nl rfl) .nil⟩, .inl ⟨rfl, rfl⟩, .inr ⟨_, _, rfl, rfl, .pure pul⟩, trivial⟩
  rintro i hi
  refine at_seq ?_
  refine at_region ?_
  refine s1 (y_p rfl) rfl <| ?_
  refine at_nil ?_
  refine x_tn ?_
  refine at_seq ?_
  refine at_cond rfl (fun hc23 => ?_) (fun hc23 => ?_)
  · have h23 : i < 2 := by have := of_decide_eq_true hc23; omega
    refine at_skip ?_
    refine x_tn ?_
    refine at_seq ?_
    refine at_block ?_
    refine at_seq ?_
    refine at_region ?_
    refine s1 (y_p rfl) rfl <| s1 (y_p rfl) rfl <| ?_
    refine at_nil ?_
    refine x_tn ?_
    refine at_seq ?_
    refine at_region ?_
    refine s1 ((y_p rfl).v (v' := .i .i64 0) rfl) rfl <| ?_
    refine at_nil ?_
    refine x_tn ?_
    refine at_seq ?_
    refine at_seq ?_
    refine at_region ?_
    refine s1 (y_p rfl) rfl <| s1 (mulN 4 _ rfl rfl rfl rfl (by omega)) rfl <| s1 (y_p rfl) rfl <| s1 (mulN 4 _ rfl rfl rfl rfl (by omega)) rfl <| s1 (addN _ 4 rfl rfl rfl rfl (by omega)) rfl <| s1 (y_cuta (o' := 0 + 4 * i * 1) 4 Tryd.underlying23 ti5 rfl rfl (by simp) (by simp [maxLen]) (bs rfl rfl) (bs rfl rfl) (by omega) (by omega) (by omega) (by rw [if_neg (by omega)])) rfl <| s1 (y_len Tryd.underlying24 rfl rfl rfl) rfl <| s1 ((y_p rfl).v (v' := .i .i64 0) rfl) rfl <| ?_
    refine at_nil ?_
    refine x_tn ?_
    refine at_block ?_
    refine at_loop (ι := Nat) (fun k => [(0, yv l1), (1, .fp (x.map u8)), (2, .fp [nJ lv, nJ nb, slA D]), (3, .fp [nJ id]), (5, .p 1005 0), (6, nJ i), (7, nJ (numD (filD x lv id) (4 * i) k)), (22, nJ i), (30, .sl 1005 1 (0 + 4 * i * 1) 4), (31, nJ 4), (32, nJ k)]) (fun k => ⟨[(2, some ([.sl 11 1 0 i])), (11, some (((bitL x lv nb id i).map nJ))), (1005, some ((filD x lv id).map u8))]⟩) (fun k => k ≤ 4) (fun k => 4 - k) ?_ ?_
    · exact at_ex (0) (Nat.zero_le _) [(2, some 2), (11, some 11), (1005, some 1005)] hR1.sub.ids rfl rfl ⟨⟨_, rfl, .pure trivial⟩, ⟨_, rfl, .pure pu⟩, ⟨_, rfl, .pure pu⟩, ⟨_, rfl, .pure pu⟩, ⟨_, rfl, .p rfl⟩, ⟨_, rfl, .pure pu⟩, ⟨_, rfl, .of (by rfl) (.pure pu)⟩, ⟨_, rfl, .pure pu⟩, ⟨_, rfl, .sl rfl (by first | rfl | omega | (simp; done) | (simp [*]; done) | (simp; omega) | (simp [*]; omega) | (simp [D32.len, -List.length_flatten, *]; done) | (simp [D32.len, -List.length_flatten, *]; omega))⟩, ⟨_, rfl, .pure pu⟩, ⟨_, rfl, .pure pu⟩, trivial⟩ ⟨.inr ⟨_, _, rfl, rfl, .cons (.sl rfl rfl) .nil⟩, .inr ⟨_, _, rfl, rfl, .pure pul⟩, .inr ⟨_, _, rfl, rfl, .pure pul⟩, trivial⟩
    rintro k hk
    have hnl := numD_lt (filD x lv id) (4 * i) k
    have h4 : 256 ^ k ≤ 256 ^ 4 := Nat.pow_le_pow_right (by omega) hk
    refine at_seq ?_
    refine at_region ?_
    refine s1 (y_p rfl) rfl <| ?_
    refine at_nil ?_
    refine x_tn ?_
    refine at_seq ?_
    refine at_cond rfl (fun hc33 => ?_) (fun hc33 => ?_)
    · have h33 : k < 4 := by have := of_decide_eq_true hc33; omega
      have h3 : numD (filD x lv id) (4 * i) k < 16777216 := Nat.lt_of_lt_of_le hnl (Nat.pow_le_pow_right (by omega) (show k ≤ 3 by omega))
      refine at_skip ?_
      refine x_tn ?_
      refine at_seq ?_
      refine at_block ?_
      refine at_seq ?_
      refine at_region ?_
      refine s1 (y_ixs k Tryd.underlying24 ti5 rfl rfl rfl rfl (by omega) rfl) rfl <| s1 (y_load ti5 rfl rfl (getO3 k (by simp; omega) rfl)) rfl <| s1 (y_p rfl) rfl <| ?_
      refine at_nil ?_
      refine x_tn ?_
      refine at_region ?_
      refine s1 (y_p rfl) rfl <| s1 ((y_shl rfl rfl (by decide)).v (congrArg (A.i .i64) (shl_byte _ h3))) rfl <| s1 (y_p rfl) rfl <| s1 ((y_conv Tryd.underlying5 Tryd.underlying3 rfl).v (conv8J _)) rfl <| s1 ((y_bits rfl rfl (.inr (.inl rfl))).v (congrArg (A.i .i64) (or_byte _ _ h3))) rfl <| s1 (y_p rfl) rfl <| ?_
      refine at_nil ?_
      refine x_bn ?_
      refine x_tn ?_
      refine at_region ?_
      refine s1 (addN _ 1 rfl rfl rfl rfl (by omega)) rfl <| s1 (y_p rfl) rfl <| ?_
      refine at_nil ?_
      exact at_end (k + 1) (by omega) (by omega) [(2, some 2), (11, some 11), (1005, some 1005)] hR1.sub.ids rfl rfl ⟨⟨_, rfl, .pure trivial⟩, ⟨_, rfl, .pure pu⟩, ⟨_, rfl, .pure pu⟩, ⟨_, rfl, .pure pu⟩, ⟨_, rfl, .p rfl⟩, ⟨_, rfl, .pure pu⟩, ⟨_, rfl, .pure pu⟩, ⟨_, rfl, .pure pu⟩, ⟨_, rfl, .sl rfl (by first | rfl | omega | (simp; done) | (simp [*]; done) | (simp; omega) | (simp [*]; omega) | (simp [D32.len, -List.length_flatten, *]; done) | (simp [D32.len, -List.length_flatten, *]; omega))⟩, ⟨_, rfl, .pure pu⟩, ⟨_, rfl, .pure pu⟩, trivial⟩ ⟨.inr ⟨_, _, rfl, rfl, .cons (.sl rfl rfl) .nil⟩, .inr ⟨_, _, rfl, rfl, .pure pul⟩, .inr ⟨_, _, rfl, rfl, .pure pul⟩, trivial⟩
    · have h33 : k = 4 := by have := of_decide_eq_false hc33; omega
      subst h33
      refine at_exit ?_
      refine x_te ?_
      refine x_te ?_
      refine x_be ?_
      refine x_tn ?_
      refine at_seq ?_
      refine at_region ?_
      refine s1 (y_p rfl) rfl <| s1 (y_p rfl) rfl <| s1 (y_fldf Tryd.underlying26 rfl ti3 (by decide) rfl rfl) rfl <| s1 (y_load ti3 rfl rfl rfl) rfl <| s1 (remN (numD (filD x lv id) (4 * i) 4) nb rfl rfl rfl rfl hnb) rfl <| ?_
      refine at_yield [2, 1005] [(0, _), (1, _), (2, _), (3, _), (5, _), (6, _), (7, _), (22, _), (30, _), (31, _), (32, _), (33, _), (42, _), (43, _), (44, _), (45, _), (46, _)] hR1 hR1.sub.ids rfl ⟨rfl, ⟨rfl, ⟨rfl, ⟨rfl, ⟨rfl, ⟨rfl, ⟨rfl, ⟨rfl, ⟨rfl, ⟨rfl, ⟨rfl, ⟨rfl, ⟨rfl, ⟨rfl, ⟨rfl, ⟨rfl, ⟨rfl, trivial⟩⟩⟩⟩⟩⟩⟩⟩⟩⟩⟩⟩⟩⟩⟩⟩⟩ (by first | rfl | (simp [onlyE, refsE, refs, refsL, refsL_pul, refs_pu, memN]; done)) rfl rfl rfl rfl rfl fun w2 tm2 hd2 => ?_
      refine at_region ?_
      refine s1 (y_p rfl) rfl <| ?_
      refine at_nil ?_
      refine at_begin hd2 fun w3 hd3 => ?_
      refine at_block ?_
      refine at_region ?_
      refine s1 (y_load ti31 rfl rfl rfl) rfl <| s1 (y_p rfl) rfl <| ?_
      refine at_op rfl (n_bs1 10 rfl Tryd.underlying31 ti3 rfl rfl rfl rfl rfl ?_)
      refine at_op rfl (n_app 111 rfl Tryd.underlying31 ti3 rfl (.sl rfl (by simp)) rfl (SM_full rfl (by first | rfl | omega | (simp; done) | (simp [*]; done) | (simp; omega) | (simp [*]; omega) | (simp [D32.len, -List.length_flatten, *]; done) | (simp [D32.len, -List.length_flatten, *]; omega))) (by first | rfl | omega | (simp; done) | (simp [*]; done) | (simp; omega) | (simp [*]; omega) | (simp [D32.len, -List.length_flatten, *]; done) | (simp [D32.len, -List.length_flatten, *]; omega)) (by first | omega | (simp only [maxLen]; omega) | (simp [maxLen]; done) | (simp [maxLen]; omega) | (simp [maxLen, *]; omega)) (by first | omega | (simp only [maxLen]; omega) | (simp [maxLen]; done) | (simp [maxLen]; omega) | (simp [maxLen, *]; omega)) rfl rfl rfl ?_)
      refine at_op rfl (n_store1 ti31 rfl rfl rfl rfl (by first | rfl | omega | (simp; done) | (simp [*]; done) | (simp; omega) | (simp [*]; omega) | (simp [D32.len, -List.length_flatten, *]; done) | (simp [D32.len, -List.length_flatten, *]; omega)) rfl ?_)
      refine at_nil ?_
      refine x_bn ?_
      refine at_rend hR1 hd3 rfl ?_
      refine s1 (y_p rfl) rfl <| ?_
      refine at_nil ?_
      refine x_tn ?_
      refine at_else rfl ?_
      refine at_skip ?_
      refine x_bn ?_
      refine x_tn ?_
      refine at_region ?_
      refine s1 (addN _ 1 rfl rfl rfl rfl (by omega)) rfl <| s1 (y_p rfl) rfl <| ?_
      refine at_nil ?_
      exact at_end (i + 1) (by omega) (by omega) [(2, some 2), (11, some 111), (1005, some 1005)] hR1.sub.ids rfl rfl ⟨⟨_, rfl, .pure trivial⟩, ⟨_, rfl, .pure pu⟩, ⟨_, rfl, .pure pu⟩, ⟨_, rfl, .pure pu⟩, ⟨_, rfl, .p rfl⟩, ⟨_, rfl, .pure pu⟩, trivial⟩ ⟨.inr ⟨_, _, rfl, rfl, .cons (.sl rfl (by first | rfl | omega | (simp; done) | (simp [*]; done) | (simp; omega) | (simp [*]; omega) | (simp [D32.len, -List.length_flatten, *]; done) | (simp [D32.len, -List.length_flatten, *]; omega))) .nil⟩, .inr ⟨_, _, rfl, rfl, .of (by rw [bitL_succ]; simp) (.pure pul)⟩, .inr ⟨_, _, rfl, rfl, .pure pul⟩, trivial⟩
  · have h23 : i = 2 := by have := of_decide_eq_false hc23; omega
    subst h23
    refine at_exit ?_
    refine x_te ?_
    refine x_te ?_
    refine x_be ?_
    refine at_itnil rfl hR1 hS ?_
    refine x_bn ?_
    refine x_tn ?_
    refine at_seq ?_
    refine at_region ?_
    refine s1 (y_load ti31 rfl rfl rfl) rfl <| s1 (y_p rfl) rfl <| ?_
    refine at_nil ?_
    refine x_tn ?_
    refine at_ret ?_
    refine at_resultM (rs := [.tmp 4]) rfl rfl rfl hS rfl (by simp) rfl (r_tmp rfl r_nil) ⟨11, rfl, rfl⟩

set_option linter.unusedSimpArgs false in
set_option linter.unusedVariables false in
set_option maxHeartbeats 1000000 in
theorem collect_ok (x : List UInt8) (lv nb id : Nat) (D : List UInt8) (hx : x.length = 32) (hnb : 0 < nb) : Con Tryd.prog 26 [.fn (.func 35) [] [.fp (x.map u8), .fp [nJ lv, nJ nb, slA D], .fp [nJ id]]] (Ret (.fz 2 ((bitL x lv nb id 2).map nJ))) := by
  refine enter Tryd.func26 rfl Tryd.ntmps26 (by kernel_rfl) (Nat.le_of_ble_eq_true rfl) fun w0 X0 hI => ?_
  refine at_seq ?_
  refine at_region ?_
  refine s1 (y_p rfl) rfl <| ?_
  refine at_nil ?_
  refine x_tn ?_
  refine at_seq ?_
  refine at_region ?_
  refine s1 (y_p rfl) rfl <| ?_
  refine at_op rfl (n_callO 4 rfl false rfl (.cons (.pure pu) (.cons (.pure pu) .nil)) (appendSeq_ok x lv nb id D hx hnb) pul (.inl rfl) rfl ?_)
  refine s1 (y_p rfl) rfl <| ?_
  refine at_nil ?_
  refine x_tn ?_
  refine at_ret ?_
  refine at_frz 2 rfl rfl pul (view_eq (by simp) rfl) ?_
  refine at_result (rs := [.tmp 2]) rfl (r_tmp rfl r_nil) rfl

set_option linter.unusedSimpArgs false in
set_option linter.unusedVariables false in
set_option maxHeartbeats 1000000 in
theorem sized_ok (a b : Int) : Con Tryd.prog 25 [.i .i64 a, .i .i64 b] (Ret (.b (decide (sizedP a b)))) := by
  refine enter Tryd.func25 rfl Tryd.ntmps25 (by kernel_rfl) (Nat.le_of_ble_eq_true rfl) fun w0 X0 hI => ?_
  refine at_seq ?_
  refine at_region ?_
  refine s1 (y_p rfl) rfl <| ?_
  refine at_nil ?_
  refine x_tn ?_
  refine at_seq ?_
  refine at_region ?_
  refine s1 (y_p rfl) rfl <| s1 (y_p rfl) rfl <| s1 (y_p rfl) rfl <| ?_
  refine g_and 2 rfl rfl rfl rfl (fun hb7 => .step (y_p rfl) rfl rfl <| .step (y_p rfl) rfl rfl <| .done) rfl rfl ?_
  refine s1 (y_p rfl) rfl <| ?_
  refine g_and 2 rfl rfl rfl rfl (fun hb11 => .step (y_p rfl) rfl rfl <| .step (y_p rfl) rfl rfl <| .done) rfl rfl ?_
  refine s1 (y_p rfl) rfl <| ?_
  refine g_and 2 rfl rfl rfl rfl (fun hb15 => .step (y_p rfl) rfl rfl <| .step (y_p rfl) rfl rfl <| .done) rfl rfl ?_
  refine s1 (y_p rfl) rfl <| ?_
  refine at_nil ?_
  refine x_tn ?_
  refine at_ret ?_
  refine at_result (rs := [.tmp 4]) rfl (r_tmp rfl r_nil) ?_
  exact congrArg A.b (by rw [Bool.eq_iff_iff, decide_eq_true_eq]; simp [sizedP, and_assoc])

end Go.Abs.D2
