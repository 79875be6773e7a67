/-
  Layer 2: walks of the digest functions. Conditions: each theorem says its own.
-/
import Derived.Test.YtbjfpoafphggnaaDoorTy
import Derived.Test.YtbjfpoafphggnaaDoorF3A
namespace Go.Abs.D2
open Go Go.Eng Go.Abs Go.Proofs 

set_option linter.unusedSimpArgs false in
set_option linter.unusedVariables false in
set_option maxHeartbeats 1000000 in
theorem fjoin_ok (ps : List Part) (hk : ps.length ≤ 1000) (hok : ∀ p ∈ ps, p.ok) : Con Tryd.prog 36 [.fz ps.length (ps.map (Part.a 23 5 65))] (RetO 1 (bytesP ps).length ((bytesP ps).map u8)) := by
  refine enter Tryd.func36 rfl Tryd.ntmps36 (by kernel_rfl) (Nat.le_of_ble_eq_true rfl) fun w0 X0 hI => ?_
  refine at_seq ?_
  refine at_region ?_
  refine s1 (y_p rfl) rfl <| ?_
  refine at_nil ?_
  refine x_tn ?_
  refine at_seq ?_
  refine at_seq ?_
  refine at_region ?_
  refine s1 (y_p rfl) rfl <| s1 (y_len Tryd.underlying72 rfl rfl rfl) rfl <| s1 ((y_p rfl).v (v' := .i .i64 0) rfl) rfl <| ?_
  refine at_nil ?_
  refine x_tn ?_
  refine at_block ?_
  refine at_loop (ι := Nat) (fun i => [(2, .sl 2 1 0 (bytesP (ps.take i)).length), (8, .fz ps.length (ps.map (Part.a 23 5 65))), (9, .i .i64 (ps.length : Nat)), (10, .i .i64 (i : Nat))]) (fun i => ⟨[(2, some ((bytesP (ps.take i)).map u8))]⟩) (fun i => i ≤ ps.length) (fun i => ps.length - i) ?_ ?_
  · exact at_ex (0) (Nat.zero_le _) [(2, none)] hI rfl rfl ⟨⟨_, rfl, .nl rfl⟩, ⟨_, rfl, .pure pu⟩, ⟨_, rfl, .pure pu⟩, ⟨_, rfl, .pure pu⟩, trivial⟩ ⟨.inl ⟨rfl, rfl⟩, trivial⟩
  rintro i hi
  have hbl := len_bytesP (ps := ps.take i) fun q hq => hok q (List.mem_of_mem_take hq)
  rw [List.length_take] at hbl
  refine at_seq ?_
  refine at_region ?_
  refine s1 (y_p rfl) rfl <| ?_
  refine at_nil ?_
  refine x_tn ?_
  refine at_seq ?_
  refine at_cond rfl (fun hc11 => ?_) (fun hc11 => ?_)
  · have h11 : i < ps.length := by have := of_decide_eq_true hc11; omega
    obtain ⟨p, hp⟩ : ∃ p, ps[i]? = some p := ⟨_, List.getElem?_eq_getElem h11⟩
    have hpok := hok p (List.mem_of_getElem? hp)
    refine at_skip ?_
    refine x_tn ?_
    refine at_seq ?_
    refine at_block ?_
    refine at_seq ?_
    refine at_region ?_
    refine s1 (y_ixf i Tryd.underlying72 ti20 rfl rfl rfl (by omega) rfl) rfl <| s1 (y_load ti20 rfl rfl (getPa hp)) rfl <| s1 (y_p rfl) rfl <| ?_
    refine at_nil ?_
    refine x_tn ?_
    refine at_seq ?_
    rcases p with hcs | hcs | hcs
    · have hl32 : hcs.length = 32 := hpok
      have hnl := congrArg List.length (bytesP_next hp)
      simp only [List.length_append, Part.bs, be32, List.length_cons, List.length_nil] at hnl
      refine at_region ?_
      refine s1 (y_p rfl) rfl <| ?_
      refine at_nil ?_
      refine x_tn ?_
      refine at_block ?_
      refine at_seq ?_
      refine at_region ?_
      refine s1 (y_tayes Tryd.underlying23 rfl rfl) rfl <| s1 (y_p rfl) rfl <| s1 (y_p rfl) rfl <| ?_
      refine at_nil ?_
      refine x_tn ?_
      refine at_then rfl ?_
      refine at_seq ?_
      refine at_region ?_
      refine at_op rfl (n_alloc 5 rfl ti23 rfl rfl ?_)
      refine at_op rfl (n_storeA ti23 rfl rfl rfl (by simp [hl32]) (by simp) ?_)
      refine at_nil ?_
      refine x_tn ?_
      refine at_region ?_
      refine s1 (y_p rfl) rfl <| s1 (y_cuta0 Tryd.underlying23 ti5 rfl rfl (by first | rfl | omega | (simp; done) | (simp [*]; done) | (simp; omega) | (simp [*]; omega) | (simp [D32.len, -List.length_flatten, *]; done) | (simp [D32.len, -List.length_flatten, *]; omega)) (by simp [maxLen])) rfl <| ?_
      refine at_op rfl (n_app 20 rfl Tryd.underlying24 ti5 rfl (.sl rfl (by rw [List.length_map, Nat.mul_one])) rfl (SM_full rfl (by first | rfl | omega | (simp; done) | (simp [*]; done) | (simp; omega) | (simp [*]; omega) | (simp [D32.len, -List.length_flatten, *]; done) | (simp [D32.len, -List.length_flatten, *]; omega))) (by simp [hl32]) (by simp only [maxLen]; omega) (by omega) rfl rfl rfl ?_)
      refine s1 (y_p rfl) rfl <| ?_
      refine at_nil ?_
      refine x_bn ?_
      refine x_bn ?_
      refine x_tn ?_
      refine at_region ?_
      refine s1 (addN _ 1 rfl rfl rfl rfl (by omega)) rfl <| s1 (y_p rfl) rfl <| ?_
      refine at_nil ?_
      exact at_end (i + 1) (by omega) (by omega) [(2, some 20)] hI rfl rfl ⟨⟨_, rfl, .sl rfl (by first | rfl | omega | (simp; done) | (simp [*]; done) | (simp; omega) | (simp [*]; omega) | (simp [D32.len, -List.length_flatten, *]; done) | (simp [D32.len, -List.length_flatten, *]; omega))⟩, ⟨_, rfl, .pure pu⟩, ⟨_, rfl, .pure pu⟩, ⟨_, rfl, .pure pu⟩, trivial⟩ ⟨.inr ⟨_, _, rfl, rfl, .of (bytesP_step hp rfl) (.pure pul)⟩, trivial⟩
    · have hnl := congrArg List.length (bytesP_next hp)
      simp only [List.length_append, Part.bs, be32, List.length_cons, List.length_nil] at hnl
      refine at_region ?_
      refine s1 (y_p rfl) rfl <| ?_
      refine at_nil ?_
      refine x_tn ?_
      refine at_block ?_
      refine at_seq ?_
      refine at_region ?_
      refine s1 (y_tano (z := .agg (List.replicate 32 (.int .u8 0) : List Value).toArray) Tryd.underlying23 rfl (by kernel_rfl) rfl rfl) rfl <| s1 (y_p rfl) rfl <| s1 (y_p rfl) rfl <| ?_
      refine at_nil ?_
      refine x_tn ?_
      refine at_else rfl ?_
      refine at_seq ?_
      refine at_region ?_
      refine s1 (y_tayes Tryd.underlying5 rfl rfl) rfl <| s1 (y_p rfl) rfl <| s1 (y_p rfl) rfl <| ?_
      refine at_nil ?_
      refine x_tn ?_
      refine at_then rfl ?_
      refine at_seq ?_
      refine at_region ?_
      refine s1 (y_p rfl) rfl <| ?_
      refine at_nil ?_
      refine x_tn ?_
      refine at_region ?_
      refine s1 (y_p rfl) rfl <| s1 (y_p rfl) rfl <| ?_
      refine at_op rfl (n_bs1 26 rfl Tryd.underlying24 ti5 rfl rfl rfl rfl rfl ?_)
      refine at_op rfl (n_app 27 rfl Tryd.underlying24 ti5 rfl (.sl rfl (by rw [List.length_map, Nat.mul_one])) rfl (SM_full rfl (by first | rfl | omega | (simp; done) | (simp [*]; done) | (simp; omega) | (simp [*]; omega) | (simp [D32.len, -List.length_flatten, *]; done) | (simp [D32.len, -List.length_flatten, *]; omega))) (by first | rfl | omega | (simp; done) | (simp [*]; done) | (simp; omega) | (simp [*]; omega) | (simp [D32.len, -List.length_flatten, *]; done) | (simp [D32.len, -List.length_flatten, *]; omega)) (by simp only [maxLen]; omega) (by omega) rfl rfl rfl ?_)
      refine s1 (y_p rfl) rfl <| ?_
      refine at_nil ?_
      refine x_bn ?_
      refine x_bn ?_
      refine x_tn ?_
      refine at_region ?_
      refine s1 (addN _ 1 rfl rfl rfl rfl (by omega)) rfl <| s1 (y_p rfl) rfl <| ?_
      refine at_nil ?_
      exact at_end (i + 1) (by omega) (by omega) [(2, some 27)] hI rfl rfl ⟨⟨_, rfl, .sl rfl (by first | rfl | omega | (simp; done) | (simp [*]; done) | (simp; omega) | (simp [*]; omega) | (simp [D32.len, -List.length_flatten, *]; done) | (simp [D32.len, -List.length_flatten, *]; omega))⟩, ⟨_, rfl, .pure pu⟩, ⟨_, rfl, .pure pu⟩, ⟨_, rfl, .pure pu⟩, trivial⟩ ⟨.inr ⟨_, _, rfl, rfl, .of (bytesP_step hp rfl) (.pure pul)⟩, trivial⟩
    · have hnl := congrArg List.length (bytesP_next hp)
      simp only [List.length_append, Part.bs, be32, List.length_cons, List.length_nil] at hnl
      refine at_region ?_
      refine s1 (y_p rfl) rfl <| ?_
      refine at_nil ?_
      refine x_tn ?_
      refine at_block ?_
      refine at_seq ?_
      refine at_region ?_
      refine s1 (y_tano (z := .agg (List.replicate 32 (.int .u8 0) : List Value).toArray) Tryd.underlying23 rfl (by kernel_rfl) rfl rfl) rfl <| s1 (y_p rfl) rfl <| s1 (y_p rfl) rfl <| ?_
      refine at_nil ?_
      refine x_tn ?_
      refine at_else rfl ?_
      refine at_seq ?_
      refine at_region ?_
      refine s1 (y_tano (z := .int .u8 0) Tryd.underlying5 rfl (by kernel_rfl) rfl rfl) rfl <| s1 (y_p rfl) rfl <| s1 (y_p rfl) rfl <| ?_
      refine at_nil ?_
      refine x_tn ?_
      refine at_else rfl ?_
      refine at_seq ?_
      refine at_region ?_
      refine s1 (y_tayes Tryd.underlying65 rfl rfl) rfl <| s1 (y_p rfl) rfl <| s1 (y_p rfl) rfl <| ?_
      refine at_nil ?_
      refine x_tn ?_
      refine at_then rfl ?_
      refine at_seq ?_
      refine at_region ?_
      refine s1 (y_p rfl) rfl <| ?_
      refine at_nil ?_
      refine x_tn ?_
      refine at_region ?_
      refine s1 (y_p rfl) rfl <| s1 (y_p rfl) rfl <| s1 (shr32 _ 24 rfl rfl rfl (by decide)) rfl <| s1 (to8_32 _ Tryd.underlying65 Tryd.underlying5 rfl) rfl <| s1 (y_p rfl) rfl <| s1 (shr32 _ 16 rfl rfl rfl (by decide)) rfl <| s1 (to8_32 _ Tryd.underlying65 Tryd.underlying5 rfl) rfl <| s1 (y_p rfl) rfl <| s1 (shr32 _ 8 rfl rfl rfl (by decide)) rfl <| s1 (to8_32 _ Tryd.underlying65 Tryd.underlying5 rfl) rfl <| ?_
      refine s1 (y_p rfl) rfl <| s1 (to8_32 _ Tryd.underlying65 Tryd.underlying5 rfl) rfl <| ?_
      refine at_op rfl (n_bs1 43 rfl Tryd.underlying24 ti5 rfl rfl rfl rfl rfl ?_)
      refine at_op rfl (n_app 44 rfl Tryd.underlying24 ti5 rfl (.sl rfl (by rw [List.length_map, Nat.mul_one])) rfl (SM_full rfl (by first | rfl | omega | (simp; done) | (simp [*]; done) | (simp; omega) | (simp [*]; omega) | (simp [D32.len, -List.length_flatten, *]; done) | (simp [D32.len, -List.length_flatten, *]; omega))) (by first | rfl | omega | (simp; done) | (simp [*]; done) | (simp; omega) | (simp [*]; omega) | (simp [D32.len, -List.length_flatten, *]; done) | (simp [D32.len, -List.length_flatten, *]; omega)) (by simp only [maxLen]; omega) (by omega) rfl rfl rfl ?_)
      refine s1 (y_p rfl) rfl <| ?_
      refine at_nil ?_
      refine x_bn ?_
      refine x_bn ?_
      refine x_tn ?_
      refine at_region ?_
      refine s1 (addN _ 1 rfl rfl rfl rfl (by omega)) rfl <| s1 (y_p rfl) rfl <| ?_
      refine at_nil ?_
      exact at_end (i + 1) (by omega) (by omega) [(2, some 44)] hI rfl rfl ⟨⟨_, rfl, .sl rfl (by first | rfl | omega | (simp; done) | (simp [*]; done) | (simp; omega) | (simp [*]; omega) | (simp [D32.len, -List.length_flatten, *]; done) | (simp [D32.len, -List.length_flatten, *]; omega))⟩, ⟨_, rfl, .pure pu⟩, ⟨_, rfl, .pure pu⟩, ⟨_, rfl, .pure pu⟩, trivial⟩ ⟨.inr ⟨_, _, rfl, rfl, .of (bytesP_step hp rfl) (.pure pul)⟩, trivial⟩
  · have h11 : i = ps.length := by have := of_decide_eq_false hc11; omega
    subst h11
    refine at_exit ?_
    refine x_te ?_
    refine x_te ?_
    refine x_be ?_
    refine x_tn ?_
    refine at_seq ?_
    refine at_region ?_
    refine s1 (y_p rfl) rfl <| s1 (y_p rfl) rfl <| ?_
    refine at_nil ?_
    refine x_tn ?_
    refine at_ret ?_
    refine at_result (rs := [.tmp 2]) rfl (r_tmp rfl r_nil) ⟨2, ?_, ?_⟩
    · rw [List.take_length]; rfl
    · rw [List.take_length]; rfl

set_option linter.unusedSimpArgs false in
set_option linter.unusedVariables false in
set_option maxHeartbeats 1000000 in
theorem bitsOf_ok (x : List UInt8) (lv nb id : Int) (D : List UInt8) : Con Tryd.prog 27 [.ag (x.map u8), .ag [.i .i64 lv, .i .i64 nb, slA D], .i .i64 id] (Ret (.fn (.func 35) [] [.fp (x.map u8), .fp [.i .i64 lv, .i .i64 nb, slA D], .fp [.i .i64 id]])) := by
  refine enter Tryd.func27 rfl Tryd.ntmps27 (by kernel_rfl) (Nat.le_of_ble_eq_true rfl) fun w0 X0 hI => ?_
  refine at_seq ?_
  refine at_region ?_
  refine at_op rfl (n_boxA 3 rfl rfl rfl ?_)
  refine at_op rfl (n_boxA 4 rfl rfl rfl ?_)
  refine at_op rfl (n_box1 5 rfl rfl rfl rfl ?_)
  refine s1 (y_p rfl) rfl <| ?_
  refine at_nil ?_
  refine x_tn ?_
  refine at_seq ?_
  refine at_frzP 3 rfl rfl pul ?_
  refine at_frzP 4 rfl rfl pul ?_
  refine at_frzP 5 rfl rfl pul ?_
  refine at_region ?_
  refine s1 (y_func (us := []) (vs := [.fp (x.map u8), .fp [.i .i64 lv, .i .i64 nb, slA D], .fp [.i .i64 id]]) rfl rfl) rfl <| s1 (y_p rfl) rfl <| ?_
  refine at_nil ?_
  refine x_tn ?_
  refine at_ret ?_
  refine at_result (rs := [.tmp 6]) rfl (r_tmp rfl r_nil) rfl

end Go.Abs.D2
