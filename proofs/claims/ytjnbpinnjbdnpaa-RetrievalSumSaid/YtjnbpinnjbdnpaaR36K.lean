/-
  Layer 36: walks of the retrieval functions. Conditions: each theorem says its own.
-/
import Derived.Test.YtjnbpinnjbdnpaaR36J
import Derived.Test.YtjnbpinnjbdnpaaR36Q
namespace Go.Eng.R36
open Go Go.Eng Go.Proofs

theorem law6_a (w : World) (sd : SV) (rd : List SV) (db : List (List UInt8)) (hd : Rows w 0 sd rd db) (p q : SV) (lp lq : List UInt8) (_hp : Bytes w p lp) (_hq : Bytes w q lq) (hf : few db 100 = false) : Fn Try.prog 8 #[sd.v, p.v, q.v] w (fun v w' => v = .bool true ∧ RowKit.Below w.heap.size w w') := by
  refine enter Try.func8 rfl Try.ntmps8 (by kernel_rfl) rfl ?_
  refine at_seq ?_
  refine at_region ?_
  refine s1 (y_p rfl) rfl <| ?_
  refine at_nil ?_
  refine x_tn ?_
  refine at_seq ?_
  refine at_seq ?_
  refine at_region ?_
  refine at_op rfl (n_call rfl rfl fun w17 hG17 => Fn.mono (sane_ok w17) ?_)
  rintro _ w17' ⟨rfl, hB17⟩
  refine at_in (hG17.ext hB17) ?_
  refine s1 (y_p rfl) rfl <| ?_
  refine at_nil ?_
  refine x_tn ?_
  refine at_else rfl ?_
  refine at_skip ?_
  refine x_tn ?_
  refine at_seq ?_
  refine at_seq ?_
  refine at_region ?_
  refine s1 (y_p rfl) rfl <| ?_
  refine at_op rfl (n_call rfl rfl fun w20 hG20 => Fn.mono (few_ok w20 sd rd db (hG20.rows (by simp) hd (by simp; try omega)) 100) ?_)
  rintro _ w20' ⟨rfl, hB20⟩
  rw [hf]
  refine at_in (hG20.ext hB20) ?_
  refine s1 (y_p rfl) rfl <| s1 (y_p rfl) rfl <| g0 rfl rfl rfl rfl <| g0 rfl rfl rfl rfl <| g0 rfl rfl rfl rfl <| s1 (y_p rfl) rfl <| s1 (y_p rfl) rfl <| g0 rfl rfl rfl rfl <| g0 rfl rfl rfl rfl <| g0 rfl rfl rfl rfl <| g0 rfl rfl rfl rfl <| g0 rfl rfl rfl rfl <| ?_
  refine s1 (y_p rfl) rfl <| ?_
  refine at_nil ?_
  refine x_tn ?_
  refine at_then rfl ?_
  refine at_seq ?_
  refine at_region ?_
  refine s1 (y_p rfl) rfl <| ?_
  refine at_nil ?_
  refine x_tn ?_
  refine at_ret ?_
  refine x_tr ?_
  refine at_result (rs := [.tmp 6]) rfl (r_tmp rfl (r_nil)) fun w1 hG1 => ⟨rfl, hG1.below (by simp) (by simp; try omega)⟩

theorem law6_b (w : World) (sd : SV) (rd : List SV) (db : List (List UInt8)) (hd : Rows w 0 sd rd db) (p q : SV) (lp lq : List UInt8) (hp : Bytes w p lp) (_hq : Bytes w q lq) (hf : few db 100 = true) (h : 20 < lp.length) : Fn Try.prog 8 #[sd.v, p.v, q.v] w (fun v w' => v = .bool true ∧ RowKit.Below w.heap.size w w') := by
  refine enter Try.func8 rfl Try.ntmps8 (by kernel_rfl) rfl ?_
  refine at_seq ?_
  refine at_region ?_
  refine s1 (y_p rfl) rfl <| ?_
  refine at_nil ?_
  refine x_tn ?_
  refine at_seq ?_
  refine at_seq ?_
  refine at_region ?_
  refine at_op rfl (n_call rfl rfl fun w17 hG17 => Fn.mono (sane_ok w17) ?_)
  rintro _ w17' ⟨rfl, hB17⟩
  refine at_in (hG17.ext hB17) ?_
  refine s1 (y_p rfl) rfl <| ?_
  refine at_nil ?_
  refine x_tn ?_
  refine at_else rfl ?_
  refine at_skip ?_
  refine x_tn ?_
  refine at_seq ?_
  refine at_seq ?_
  refine at_region ?_
  refine s1 (y_p rfl) rfl <| ?_
  refine at_op rfl (n_call rfl rfl fun w20 hG20 => Fn.mono (few_ok w20 sd rd db (hG20.rows (by simp) hd (by simp; try omega)) 100) ?_)
  rintro _ w20' ⟨rfl, hB20⟩
  rw [hf]
  refine at_in (hG20.ext hB20) ?_
  refine s1 (y_p rfl) rfl <| s1 (y_p rfl) rfl <| ?_
  have hpn := hp.1
  refine g1 rfl rfl (y_p rfl) rfl <| g1 rfl rfl (y_len Try.underlying22 rfl rfl) rfl <| g1 rfl rfl ((y_p rfl).v (v' := .bool true) (congrArg Value.bool (decide_eq_true (by omega)))) rfl <| s1 (y_p rfl) rfl <| s1 (y_p rfl) rfl <| g0 rfl rfl rfl rfl <| g0 rfl rfl rfl rfl <| g0 rfl rfl rfl rfl <| g0 rfl rfl rfl rfl <| g0 rfl rfl rfl rfl <| s1 (y_p rfl) rfl <| ?_
  refine at_nil ?_
  refine x_tn ?_
  refine at_then rfl ?_
  refine at_seq ?_
  refine at_region ?_
  refine s1 (y_p rfl) rfl <| ?_
  refine at_nil ?_
  refine x_tn ?_
  refine at_ret ?_
  refine x_tr ?_
  refine at_result (rs := [.tmp 6]) rfl (r_tmp rfl (r_nil)) fun w1 hG1 => ⟨rfl, hG1.below (by simp) (by simp; try omega)⟩

theorem law6_c (w : World) (sd : SV) (rd : List SV) (db : List (List UInt8)) (hd : Rows w 0 sd rd db) (p q : SV) (lp lq : List UInt8) (hp : Bytes w p lp) (hq : Bytes w q lq) (hf : few db 100 = true) (h : lp.length ≤ 20) (h2 : lq.length ≠ lp.length) : Fn Try.prog 8 #[sd.v, p.v, q.v] w (fun v w' => v = .bool true ∧ RowKit.Below w.heap.size w w') := by
  refine enter Try.func8 rfl Try.ntmps8 (by kernel_rfl) rfl ?_
  refine at_seq ?_
  refine at_region ?_
  refine s1 (y_p rfl) rfl <| ?_
  refine at_nil ?_
  refine x_tn ?_
  refine at_seq ?_
  refine at_seq ?_
  refine at_region ?_
  refine at_op rfl (n_call rfl rfl fun w17 hG17 => Fn.mono (sane_ok w17) ?_)
  rintro _ w17' ⟨rfl, hB17⟩
  refine at_in (hG17.ext hB17) ?_
  refine s1 (y_p rfl) rfl <| ?_
  refine at_nil ?_
  refine x_tn ?_
  refine at_else rfl ?_
  refine at_skip ?_
  refine x_tn ?_
  refine at_seq ?_
  refine at_seq ?_
  refine at_region ?_
  refine s1 (y_p rfl) rfl <| ?_
  refine at_op rfl (n_call rfl rfl fun w20 hG20 => Fn.mono (few_ok w20 sd rd db (hG20.rows (by simp) hd (by simp; try omega)) 100) ?_)
  rintro _ w20' ⟨rfl, hB20⟩
  rw [hf]
  refine at_in (hG20.ext hB20) ?_
  refine s1 (y_p rfl) rfl <| s1 (y_p rfl) rfl <| ?_
  have hpn := hp.1
  have hqn := hq.1
  refine g1 rfl rfl (y_p rfl) rfl <| g1 rfl rfl (y_len Try.underlying22 rfl rfl) rfl <| g1 rfl rfl ((y_p rfl).v (v' := .bool false) (congrArg Value.bool (decide_eq_false (by omega)))) rfl <| s1 (y_p rfl) rfl <| s1 (y_p rfl) rfl <| g1 rfl rfl (y_p rfl) rfl <| g1 rfl rfl (y_len Try.underlying22 rfl rfl) rfl <| g1 rfl rfl (y_p rfl) rfl <| g1 rfl rfl (y_len Try.underlying22 rfl rfl) rfl <| g1 rfl rfl ((y_p rfl).v (v' := .bool true) (congrArg Value.bool (bne_iff_ne.2 (by omega)))) rfl <| s1 (y_p rfl) rfl <| ?_
  refine at_nil ?_
  refine x_tn ?_
  refine at_then rfl ?_
  refine at_seq ?_
  refine at_region ?_
  refine s1 (y_p rfl) rfl <| ?_
  refine at_nil ?_
  refine x_tn ?_
  refine at_ret ?_
  refine x_tr ?_
  refine at_result (rs := [.tmp 6]) rfl (r_tmp rfl (r_nil)) fun w1 hG1 => ⟨rfl, hG1.below (by simp) (by simp; try omega)⟩

theorem law6_e (w : World) (sd : SV) (rd : List SV) (db : List (List UInt8)) (hd : Rows w 0 sd rd db) (p q : SV) (lp lq : List UInt8) (hp : Bytes w p lp) (hq : Bytes w q lq) (hf : few db 100 = true) (h : lp.length ≤ 20) (h2 : lq.length = lp.length) (hA : answers db [lp, lq] = ([], 360)) : Fn Try.prog 8 #[sd.v, p.v, q.v] w (fun v w' => v = .bool true ∧ RowKit.Below w.heap.size w w') := by
  refine enter Try.func8 rfl Try.ntmps8 (by kernel_rfl) rfl ?_
  refine at_seq ?_
  refine at_region ?_
  refine s1 (y_p rfl) rfl <| ?_
  refine at_nil ?_
  refine x_tn ?_
  refine at_seq ?_
  refine at_seq ?_
  refine at_region ?_
  refine at_op rfl (n_call rfl rfl fun w17 hG17 => Fn.mono (sane_ok w17) ?_)
  rintro _ w17' ⟨rfl, hB17⟩
  refine at_in (hG17.ext hB17) ?_
  refine s1 (y_p rfl) rfl <| ?_
  refine at_nil ?_
  refine x_tn ?_
  refine at_else rfl ?_
  refine at_skip ?_
  refine x_tn ?_
  refine at_seq ?_
  refine at_seq ?_
  refine at_region ?_
  refine s1 (y_p rfl) rfl <| ?_
  refine at_op rfl (n_call rfl rfl fun w20 hG20 => Fn.mono (few_ok w20 sd rd db (hG20.rows (by simp) hd (by simp; try omega)) 100) ?_)
  rintro _ w20' ⟨rfl, hB20⟩
  rw [hf]
  refine at_in (hG20.ext hB20) ?_
  refine s1 (y_p rfl) rfl <| s1 (y_p rfl) rfl <| ?_
  have hpn := hp.1
  have hqn := hq.1
  refine g1 rfl rfl (y_p rfl) rfl <| g1 rfl rfl (y_len Try.underlying22 rfl rfl) rfl <| g1 rfl rfl ((y_p rfl).v (v' := .bool false) (congrArg Value.bool (decide_eq_false (by omega)))) rfl <| s1 (y_p rfl) rfl <| s1 (y_p rfl) rfl <| g1 rfl rfl (y_p rfl) rfl <| g1 rfl rfl (y_len Try.underlying22 rfl rfl) rfl <| g1 rfl rfl (y_p rfl) rfl <| g1 rfl rfl (y_len Try.underlying22 rfl rfl) rfl <| g1 rfl rfl ((y_p rfl).v (v' := .bool false) (congrArg Value.bool (bne_eq_false_iff_eq.2 (by omega)))) rfl <| s1 (y_p rfl) rfl <| ?_
  refine at_nil ?_
  refine x_tn ?_
  refine at_else rfl ?_
  refine at_skip ?_
  refine x_tn ?_
  refine at_seq ?_
  refine at_region ?_
  have hlen : lp.length = lq.length := h2.symm
  have hbig := Nat.le_trans hp.2.le hp.2.max
  simp only [maxLen] at hbig
  refine s1 (y_p rfl) rfl <| s1 ((y_len Try.underlying22 rfl rfl).v (v' := .int .i64 (lp.length : Nat)) (by rw [hpn])) rfl <| ?_
  refine at_op rfl (n_make lp.length lp.length Try.underlying22 ti5 rfl rfl rfl rfl (by omega) (by omega) (by omega) rfl fun b36 hS36 hH36 => ?_)
  simp only [leAll, ltAll, and_true] at hS36 hH36
  refine s1 (y_p rfl) rfl <| ?_
  refine at_nil ?_
  refine x_tn ?_
  refine at_seq ?_
  refine at_seq ?_
  refine at_region ?_
  refine s1 (y_p rfl) rfl <| s1 (y_len Try.underlying22 rfl rfl) rfl <| s1 (y_p rfl) rfl <| ?_
  refine at_nil ?_
  refine x_tn ?_
  refine at_block ?_
  refine at_loop (ι := Nat) (fun i => [(0, sd.v), (1, p.v), (2, q.v), (7, .slice (some ⟨b36, 0, none⟩) lp.length lp.length), (38, .int .i64 (p.n : Nat)), (39, .int .i64 (i : Nat))]) (fun i => [w]) (fun i => [(b36, row 5 ((fillTo lp lq i).map B ++ []))]) (fun i => i ≤ lp.length) (fun i => lp.length - i) ?_ ?_
  · exact at_ex 0 (Nat.zero_le _) ⟨rfl, rfl, rfl, rfl, rfl, rfl, trivial⟩ (fun _ h => by rw [fillTo_zero, List.append_nil, List.map_replicate]; exact h)
  intro i hi0
  refine at_seq ?_
  refine at_region ?_
  refine s1 (y_p rfl) rfl <| ?_
  refine at_nil ?_
  refine x_tn ?_
  refine at_seq ?_
  refine at_cond rfl (fun hc40 => ?_) (fun hc40 => ?_)
  · have hi : i < lp.length := by have := of_decide_eq_true hc40; omega
    have hfit : i < (fillTo lp lq i).length := by rw [len_fillTo hlen i hi0]; exact hi
    refine at_skip ?_
    refine x_tn ?_
    refine at_seq ?_
    refine at_block ?_
    refine at_seq ?_
    refine at_region ?_
    refine s1 (y_p rfl) rfl <| s1 (y_p rfl) rfl <| ?_
    refine at_nil ?_
    refine x_tn ?_
    refine at_draw_tail 12 hmix (by kernel_rfl) ?_
    refine t1 (y_p rfl) rfl <| t1 (y_p rfl) rfl <| t1 (y_p rfl) rfl <| t1 (y_p rfl) rfl <| t1 (y_idx1 i Try.underlying22 ti5 rfl rfl rfl (by omega) (hp.2.addr (by omega))) rfl <| t1 (y_load ti5 rfl (fun w1 hG1 => (hG1.bytesY (by simp) hp (by simp; omega)).at' (getD_get lp i hi))) rfl <| t1 (y_p rfl) rfl <| t1 (y_p rfl) rfl <| t1 (y_idx1 i Try.underlying22 ti5 rfl rfl rfl (by omega) (hq.2.addr (by omega))) rfl <| t1 (y_load ti5 rfl (fun w1 hG1 => (hG1.bytesY (by simp) hq (by simp; omega)).at' (getD_get lq i (by omega)))) rfl <| t1 (xorB _ _ rfl rfl) rfl <| t1 (y_idxo i i Try.underlying22 ti5 rfl rfl rfl (by omega) (by omega)) rfl <| ?_
    refine at_snil ?_
    refine at_op rfl (n_store1c 0 ti5 rfl rfl rfl rfl (by simp; omega) rfl ?_)
    refine at_nil ?_
    refine x_bn ?_
    refine x_tn ?_
    refine at_region ?_
    refine s1 (addN i 1 rfl rfl rfl rfl (by omega)) rfl <| s1 (y_p rfl) rfl <| ?_
    refine at_nil ?_
    exact at_end (i + 1) (by omega) (by omega) ⟨rfl, rfl, rfl, rfl, rfl, rfl, trivial⟩ (fun _ h => by rw [← fillTo_succ hlen hi, ← set_B _ _ _ _ hfit]; exact h)
  · have hi : i = lp.length := by have := of_decide_eq_false hc40; omega
    subst hi
    refine at_exit ?_
    refine x_te ?_
    refine x_te ?_
    refine x_be ?_
    refine x_tn ?_
    refine at_seq ?_
    refine at_region ?_
    rw [fillTo_all hlen]
    refine at_open fun u1 hGx a1 hR1 => ?_
    have hb : Bytes u1 ⟨some ⟨b36, 0, none⟩, lp.length, lp.length⟩ (xorL lp lq) := by
      have hx : (xorL lp lq).length = lp.length := by rw [len_xorL2]; omega
      have := Bytes.own (cap := lp.length) (hGx.block 0 rfl) (by omega) (by simp only [maxLen]; omega)
      rw [hx] at this
      exact this
    refine at_in (Good.now (Good.clear (S' := [w]) hGx (by simp; omega))) ?_ a1 hR1
    refine s1 (y_p rfl) rfl <| s1 (y_p rfl) rfl <| s1 (y_p rfl) rfl <| ?_
    refine at_op rfl (n_bs1 [_, _] Try.underlying30 ti22 rfl rfl rfl rfl rfl rfl fun b59 hS59 hH59 => ?_)
    simp only [leAll, ltAll, and_true] at hS59 hH59
    refine s1 (y_build (ps := [(0, 1)]) [.slice (some ⟨b59, 0, none⟩) 2 2] ti32 Try.underlying32 (by kernel_rfl) rfl rfl) rfl <| ?_
    refine at_op rfl (n_call rfl rfl fun w61 hG61 => Fn.mono (answer_ok w61 sd rd db (hG61.rows (by simp) hd (by simp; omega)) ⟨some ⟨b59, 0, none⟩, 2, 2⟩ [p, q] [lp, lq] ((((RowF.nil _).snoc (hG61.bytesY (by simp) hp (by simp; omega))).snoc (hG61.bytesY (by simp) hq (by simp; omega))).rows rfl (hG61.lit 0 rfl (by simp [maxLen])))) ?_)
    rintro _ w61' ⟨x, rx, rfl, hx, hB61⟩
    rw [hA] at hx ⊢
    refine at_in (Good.now (Good.clear (S' := [u1, w]) (hG61.ext hB61) (by simp; omega))) ?_
    refine s1 (y_p rfl) rfl <| s1 (y_p rfl) rfl <| s1 (y_p rfl) rfl <| ?_
    refine at_op rfl (n_alloc ti35 rfl fun b9 hS9 hH9 => ?_)
    simp only [leAll, ltAll, and_true] at hS9 hH9
    refine at_op rfl (stw0 (us := [x.v]) ti35 rfl rfl rfl rfl rfl rfl ?_)
    refine at_open fun u2 hGx a2 hR2 => ?_
    have c9 := cell_row (hGx.block 0 rfl) (j := 0) rfl
    refine at_in (Good.now (Good.clear (S' := [w61', u1, w]) hGx (by simp; omega))) ?_ a2 hR2
    refine s1 (y_p rfl) rfl <| ?_
    refine at_nil ?_
    refine x_tn ?_
    refine at_seq ?_
    refine at_region ?_
    refine s1 (y_p rfl) rfl <| s1 (y_p rfl) rfl <| ?_
    refine at_op rfl (n_bs1 [_] Try.underlying30 ti22 rfl rfl rfl rfl rfl rfl fun b67 hS67 hH67 => ?_)
    simp only [leAll, ltAll, and_true] at hS67 hH67
    refine s1 (y_build (ps := [(0, 1)]) [.slice (some ⟨b67, 0, none⟩) 1 1] ti32 Try.underlying32 (by kernel_rfl) rfl rfl) rfl <| ?_
    refine at_op rfl (n_call rfl rfl fun w69 hG69 => Fn.mono (answer_ok w69 sd rd db (hG69.rows (by simp) hd (by simp; omega)) ⟨some ⟨b67, 0, none⟩, 1, 1⟩ [⟨some ⟨b36, 0, none⟩, lp.length, lp.length⟩] [xorL lp lq] (((RowF.nil _).snoc (hG69.bytesY (by simp) hb (by simp; omega))).rows rfl (hG69.lit1 0 rfl))) ?_)
    rintro _ w69' ⟨y, ry', rfl, hy, hB69⟩
    refine at_in (Good.now (Good.clear (S' := [u2, w61', u1, w]) (hG69.ext hB69) (by simp; omega))) ?_
    refine s1 (y_p rfl) rfl <| s1 (y_p rfl) rfl <| s1 (y_p rfl) rfl <| ?_
    refine at_op rfl (n_alloc ti35 rfl fun b11 hS11 hH11 => ?_)
    simp only [leAll, ltAll, and_true] at hS11 hH11
    refine at_op rfl (stw0 (us := [y.v]) ti35 rfl rfl rfl rfl rfl rfl ?_)
    refine at_open fun u3 hGx a3 hR3 => ?_
    have c11 := cell_row (hGx.block 0 rfl) (j := 0) rfl
    refine at_in (Good.now (Good.clear (S' := [w69', u2, w61', u1, w]) hGx (by simp; omega))) ?_ a3 hR3
    refine s1 (y_p rfl) rfl <| ?_
    refine at_nil ?_
    refine x_tn ?_
    refine at_seq ?_
    refine at_seq ?_
    refine at_region ?_
    refine s1 (y_p rfl) rfl <| s1 ((y_p rfl).v (v' := .bool true) (rfl)) rfl <| ?_
    refine at_nil ?_
    refine x_tn ?_
    refine at_then rfl ?_
    refine at_seq ?_
    refine at_region ?_
    have hxn := hx.n
    have hxl := hx.len
    simp only [List.length_nil] at hxl
    refine s1 (y_fld Try.underlying35 rfl ti30 (by decide) rfl rfl) rfl <| s1 (y_load ti30 rfl (fun w1 hG1 => hG1.cell' (by simp) c9 trivial)) rfl <| s1 (y_len Try.underlying30 rfl rfl) rfl <| s1 ((y_p rfl).v (v' := .bool true) (congrArg Value.bool (beq_iff_eq.2 (by omega)))) rfl <| s1 (y_p rfl) rfl <| ?_
    refine at_nil ?_
    refine x_tn ?_
    refine at_ret ?_
    refine x_tr ?_
    refine at_result (rs := [.tmp 6]) rfl (r_tmp rfl (r_nil)) fun w1 hG1 => ⟨rfl, hG1.below (by simp) (by simp; try omega)⟩

theorem law6_in (w : World) (sd : SV) (rd : List SV) (db : List (List UInt8)) (hd : Rows w 0 sd rd db) (p q : SV) (lp lq : List UInt8) (hp : Bytes w p lp) (hq : Bytes w q lq) (hf : few db 100 = true) (h : lp.length ≤ 20) (h2 : lq.length = lp.length) (hA : answers db [lp, lq] = ([answer db lp, answer db lq], 0)) (hS : answers db [xorL lp lq] = ([xorL (answer db lp) (answer db lq)], 0)) (hj : join (answer db lp) (answer db lq) = (xorL (answer db lp) (answer db lq), 0)) (hj2 : join (answer db lq) (answer db lp) = (xorL (answer db lp) (answer db lq), 0)) : Fn Try.prog 8 #[sd.v, p.v, q.v] w (fun v w' => v = .bool true ∧ RowKit.Below w.heap.size w w') := by
  refine enter Try.func8 rfl Try.ntmps8 (by kernel_rfl) rfl ?_
  refine at_seq ?_
  refine at_region ?_
  refine s1 (y_p rfl) rfl <| ?_
  refine at_nil ?_
  refine x_tn ?_
  refine at_seq ?_
  refine at_seq ?_
  refine at_region ?_
  refine at_op rfl (n_call rfl rfl fun w17 hG17 => Fn.mono (sane_ok w17) ?_)
  rintro _ w17' ⟨rfl, hB17⟩
  refine at_in (hG17.ext hB17) ?_
  refine s1 (y_p rfl) rfl <| ?_
  refine at_nil ?_
  refine x_tn ?_
  refine at_else rfl ?_
  refine at_skip ?_
  refine x_tn ?_
  refine at_seq ?_
  refine at_seq ?_
  refine at_region ?_
  refine s1 (y_p rfl) rfl <| ?_
  refine at_op rfl (n_call rfl rfl fun w20 hG20 => Fn.mono (few_ok w20 sd rd db (hG20.rows (by simp) hd (by simp; try omega)) 100) ?_)
  rintro _ w20' ⟨rfl, hB20⟩
  rw [hf]
  refine at_in (hG20.ext hB20) ?_
  refine s1 (y_p rfl) rfl <| s1 (y_p rfl) rfl <| ?_
  have hpn := hp.1
  have hqn := hq.1
  refine g1 rfl rfl (y_p rfl) rfl <| g1 rfl rfl (y_len Try.underlying22 rfl rfl) rfl <| g1 rfl rfl ((y_p rfl).v (v' := .bool false) (congrArg Value.bool (decide_eq_false (by omega)))) rfl <| s1 (y_p rfl) rfl <| s1 (y_p rfl) rfl <| g1 rfl rfl (y_p rfl) rfl <| g1 rfl rfl (y_len Try.underlying22 rfl rfl) rfl <| g1 rfl rfl (y_p rfl) rfl <| g1 rfl rfl (y_len Try.underlying22 rfl rfl) rfl <| g1 rfl rfl ((y_p rfl).v (v' := .bool false) (congrArg Value.bool (bne_eq_false_iff_eq.2 (by omega)))) rfl <| s1 (y_p rfl) rfl <| ?_
  refine at_nil ?_
  refine x_tn ?_
  refine at_else rfl ?_
  refine at_skip ?_
  refine x_tn ?_
  refine at_seq ?_
  refine at_region ?_
  have hlen : lp.length = lq.length := h2.symm
  have hbig := Nat.le_trans hp.2.le hp.2.max
  simp only [maxLen] at hbig
  refine s1 (y_p rfl) rfl <| s1 ((y_len Try.underlying22 rfl rfl).v (v' := .int .i64 (lp.length : Nat)) (by rw [hpn])) rfl <| ?_
  refine at_op rfl (n_make lp.length lp.length Try.underlying22 ti5 rfl rfl rfl rfl (by omega) (by omega) (by omega) rfl fun b36 hS36 hH36 => ?_)
  simp only [leAll, ltAll, and_true] at hS36 hH36
  refine s1 (y_p rfl) rfl <| ?_
  refine at_nil ?_
  refine x_tn ?_
  refine at_seq ?_
  refine at_seq ?_
  refine at_region ?_
  refine s1 (y_p rfl) rfl <| s1 (y_len Try.underlying22 rfl rfl) rfl <| s1 (y_p rfl) rfl <| ?_
  refine at_nil ?_
  refine x_tn ?_
  refine at_block ?_
  refine at_loop (ι := Nat) (fun i => [(0, sd.v), (1, p.v), (2, q.v), (7, .slice (some ⟨b36, 0, none⟩) lp.length lp.length), (38, .int .i64 (p.n : Nat)), (39, .int .i64 (i : Nat))]) (fun i => [w]) (fun i => [(b36, row 5 ((fillTo lp lq i).map B ++ []))]) (fun i => i ≤ lp.length) (fun i => lp.length - i) ?_ ?_
  · exact at_ex 0 (Nat.zero_le _) ⟨rfl, rfl, rfl, rfl, rfl, rfl, trivial⟩ (fun _ h => by rw [fillTo_zero, List.append_nil, List.map_replicate]; exact h)
  intro i hi0
  refine at_seq ?_
  refine at_region ?_
  refine s1 (y_p rfl) rfl <| ?_
  refine at_nil ?_
  refine x_tn ?_
  refine at_seq ?_
  refine at_cond rfl (fun hc40 => ?_) (fun hc40 => ?_)
  · have hi : i < lp.length := by have := of_decide_eq_true hc40; omega
    have hfit : i < (fillTo lp lq i).length := by rw [len_fillTo hlen i hi0]; exact hi
    refine at_skip ?_
    refine x_tn ?_
    refine at_seq ?_
    refine at_block ?_
    refine at_seq ?_
    refine at_region ?_
    refine s1 (y_p rfl) rfl <| s1 (y_p rfl) rfl <| ?_
    refine at_nil ?_
    refine x_tn ?_
    refine at_draw_tail 12 hmix (by kernel_rfl) ?_
    refine t1 (y_p rfl) rfl <| t1 (y_p rfl) rfl <| t1 (y_p rfl) rfl <| t1 (y_p rfl) rfl <| t1 (y_idx1 i Try.underlying22 ti5 rfl rfl rfl (by omega) (hp.2.addr (by omega))) rfl <| t1 (y_load ti5 rfl (fun w1 hG1 => (hG1.bytesY (by simp) hp (by simp; omega)).at' (getD_get lp i hi))) rfl <| t1 (y_p rfl) rfl <| t1 (y_p rfl) rfl <| t1 (y_idx1 i Try.underlying22 ti5 rfl rfl rfl (by omega) (hq.2.addr (by omega))) rfl <| t1 (y_load ti5 rfl (fun w1 hG1 => (hG1.bytesY (by simp) hq (by simp; omega)).at' (getD_get lq i (by omega)))) rfl <| t1 (xorB _ _ rfl rfl) rfl <| t1 (y_idxo i i Try.underlying22 ti5 rfl rfl rfl (by omega) (by omega)) rfl <| ?_
    refine at_snil ?_
    refine at_op rfl (n_store1c 0 ti5 rfl rfl rfl rfl (by simp; omega) rfl ?_)
    refine at_nil ?_
    refine x_bn ?_
    refine x_tn ?_
    refine at_region ?_
    refine s1 (addN i 1 rfl rfl rfl rfl (by omega)) rfl <| s1 (y_p rfl) rfl <| ?_
    refine at_nil ?_
    exact at_end (i + 1) (by omega) (by omega) ⟨rfl, rfl, rfl, rfl, rfl, rfl, trivial⟩ (fun _ h => by rw [← fillTo_succ hlen hi, ← set_B _ _ _ _ hfit]; exact h)
  · have hi : i = lp.length := by have := of_decide_eq_false hc40; omega
    subst hi
    refine at_exit ?_
    refine x_te ?_
    refine x_te ?_
    refine x_be ?_
    refine x_tn ?_
    refine at_seq ?_
    refine at_region ?_
    rw [fillTo_all hlen]
    refine at_open fun u1 hGx a1 hR1 => ?_
    have hb : Bytes u1 ⟨some ⟨b36, 0, none⟩, lp.length, lp.length⟩ (xorL lp lq) := by
      have hx : (xorL lp lq).length = lp.length := by rw [len_xorL2]; omega
      have := Bytes.own (cap := lp.length) (hGx.block 0 rfl) (by omega) (by simp only [maxLen]; omega)
      rw [hx] at this
      exact this
    refine at_in (Good.now (Good.clear (S' := [w]) hGx (by simp; omega))) ?_ a1 hR1
    refine s1 (y_p rfl) rfl <| s1 (y_p rfl) rfl <| s1 (y_p rfl) rfl <| ?_
    refine at_op rfl (n_bs1 [_, _] Try.underlying30 ti22 rfl rfl rfl rfl rfl rfl fun b59 hS59 hH59 => ?_)
    simp only [leAll, ltAll, and_true] at hS59 hH59
    refine s1 (y_build (ps := [(0, 1)]) [.slice (some ⟨b59, 0, none⟩) 2 2] ti32 Try.underlying32 (by kernel_rfl) rfl rfl) rfl <| ?_
    refine at_op rfl (n_call rfl rfl fun w61 hG61 => Fn.mono (answer_ok w61 sd rd db (hG61.rows (by simp) hd (by simp; omega)) ⟨some ⟨b59, 0, none⟩, 2, 2⟩ [p, q] [lp, lq] ((((RowF.nil _).snoc (hG61.bytesY (by simp) hp (by simp; omega))).snoc (hG61.bytesY (by simp) hq (by simp; omega))).rows rfl (hG61.lit 0 rfl (by simp [maxLen])))) ?_)
    rintro _ w61' ⟨x, rx, rfl, hx, hB61⟩
    rw [hA] at hx ⊢
    refine at_in (Good.now (Good.clear (S' := [u1, w]) (hG61.ext hB61) (by simp; omega))) ?_
    refine s1 (y_p rfl) rfl <| s1 (y_p rfl) rfl <| s1 (y_p rfl) rfl <| ?_
    refine at_op rfl (n_alloc ti35 rfl fun b9 hS9 hH9 => ?_)
    simp only [leAll, ltAll, and_true] at hS9 hH9
    refine at_op rfl (stw0 (us := [x.v]) ti35 rfl rfl rfl rfl rfl rfl ?_)
    refine at_open fun u2 hGx a2 hR2 => ?_
    have c9 := cell_row (hGx.block 0 rfl) (j := 0) rfl
    refine at_in (Good.now (Good.clear (S' := [w61', u1, w]) hGx (by simp; omega))) ?_ a2 hR2
    refine s1 (y_p rfl) rfl <| ?_
    refine at_nil ?_
    refine x_tn ?_
    refine at_seq ?_
    refine at_region ?_
    refine s1 (y_p rfl) rfl <| s1 (y_p rfl) rfl <| ?_
    refine at_op rfl (n_bs1 [_] Try.underlying30 ti22 rfl rfl rfl rfl rfl rfl fun b67 hS67 hH67 => ?_)
    simp only [leAll, ltAll, and_true] at hS67 hH67
    refine s1 (y_build (ps := [(0, 1)]) [.slice (some ⟨b67, 0, none⟩) 1 1] ti32 Try.underlying32 (by kernel_rfl) rfl rfl) rfl <| ?_
    refine at_op rfl (n_call rfl rfl fun w69 hG69 => Fn.mono (answer_ok w69 sd rd db (hG69.rows (by simp) hd (by simp; omega)) ⟨some ⟨b67, 0, none⟩, 1, 1⟩ [⟨some ⟨b36, 0, none⟩, lp.length, lp.length⟩] [xorL lp lq] (((RowF.nil _).snoc (hG69.bytesY (by simp) hb (by simp; omega))).rows rfl (hG69.lit1 0 rfl))) ?_)
    rintro _ w69' ⟨y, ry', rfl, hy, hB69⟩
    rw [hS] at hy ⊢
    refine at_in (Good.now (Good.clear (S' := [u2, w61', u1, w]) (hG69.ext hB69) (by simp; omega))) ?_
    refine s1 (y_p rfl) rfl <| s1 (y_p rfl) rfl <| s1 (y_p rfl) rfl <| ?_
    refine at_op rfl (n_alloc ti35 rfl fun b11 hS11 hH11 => ?_)
    simp only [leAll, ltAll, and_true] at hS11 hH11
    refine at_op rfl (stw0 (us := [y.v]) ti35 rfl rfl rfl rfl rfl rfl ?_)
    refine at_open fun u3 hGx a3 hR3 => ?_
    have c11 := cell_row (hGx.block 0 rfl) (j := 0) rfl
    refine at_in (Good.now (Good.clear (S' := [w69', u2, w61', u1, w]) hGx (by simp; omega))) ?_ a3 hR3
    refine s1 (y_p rfl) rfl <| ?_
    refine at_nil ?_
    refine x_tn ?_
    refine at_seq ?_
    refine at_seq ?_
    refine at_region ?_
    refine s1 (y_p rfl) rfl <| s1 ((y_p rfl).v (v' := .bool false) (rfl)) rfl <| ?_
    refine at_nil ?_
    refine x_tn ?_
    refine at_else rfl ?_
    refine at_skip ?_
    refine x_tn ?_
    refine at_seq ?_
    refine at_seq ?_
    refine at_region ?_
    have hxn := hx.n
    have hxl := hx.len
    have hyn := hy.n
    have hyl := hy.len
    simp only [List.length_cons, List.length_nil] at hxl hyl
    obtain ⟨x0, x0_, hx0⟩ := hx.get (i := 0) (by simp)
    have hx0 : Bytes _ x0 (answer db lp) := hx0
    obtain ⟨x1, x1_, hx1⟩ := hx.get (i := 1) (by simp)
    have hx1 : Bytes _ x1 (answer db lq) := hx1
    obtain ⟨y0, y0_, hy0⟩ := hy.get (i := 0) (by simp)
    have hy0 : Bytes _ y0 (xorL (answer db lp) (answer db lq)) := hy0
    refine s1 (y_p rfl) rfl <| s1 ((y_p rfl).v (v' := .bool false) (rfl)) rfl <| s1 (y_p rfl) rfl <| g1 rfl rfl (y_fld Try.underlying35 rfl ti30 (by decide) rfl rfl) rfl <| g1 rfl rfl (y_load ti30 rfl (fun w1 hG1 => hG1.cell' (by simp) c9 trivial)) rfl <| g1 rfl rfl (y_len Try.underlying30 rfl rfl) rfl <| g1 rfl rfl ((y_p rfl).v (v' := .bool false) (congrArg Value.bool (bne_eq_false_iff_eq.2 (by omega)))) rfl <| s1 (y_p rfl) rfl <| s1 (y_p rfl) rfl <| g1 rfl rfl (y_fld Try.underlying35 rfl ti30 (by decide) rfl rfl) rfl <| g1 rfl rfl (y_load ti30 rfl (fun w1 hG1 => hG1.cell' (by simp) c11 trivial)) rfl <| g1 rfl rfl (y_len Try.underlying30 rfl rfl) rfl <| ?_
    refine g1 rfl rfl ((y_p rfl).v (v' := .bool false) (congrArg Value.bool (bne_eq_false_iff_eq.2 (by omega)))) rfl <| s1 (y_p rfl) rfl <| ?_
    refine at_nil ?_
    refine x_tn ?_
    refine at_else rfl ?_
    refine at_skip ?_
    refine x_tn ?_
    refine at_seq ?_
    refine at_mix 13 3 hmix (by kernel_rfl) (by kernel_rfl) ?_
    refine mq (y_fld Try.underlying35 rfl ti30 (by decide) rfl rfl) rfl rfl <| mq (y_load ti30 rfl (fun w1 hG1 => hG1.cell' (by simp) c9 trivial)) rfl rfl <| mq (y_idx1 0 Try.underlying30 ti22 rfl rfl rfl (by omega) (hx.sl.addr (by omega))) rfl rfl <| mq (y_load ti22 rfl (fun w1 hG1 => hG1.cell' (by simp) (hx.cell x0_) trivial)) rfl rfl <| mq (y_fld Try.underlying35 rfl ti30 (by decide) rfl rfl) rfl rfl <| mq (y_load ti30 rfl (fun w1 hG1 => hG1.cell' (by simp) c9 trivial)) rfl rfl <| mq (y_idx1 1 Try.underlying30 ti22 rfl rfl rfl (by omega) (hx.sl.addr (by omega))) rfl rfl <| mq (y_load ti22 rfl (fun w1 hG1 => hG1.cell' (by simp) (hx.cell x1_) trivial)) rfl rfl <| ?_
    refine mn rfl rfl (n_call rfl rfl fun w101 hG101 => Fn.mono (join_ok w101 x0 x1 (answer db lp) (answer db lq) (hG101.bytes (by simp) hx0 trivial) (hG101.bytes (by simp) hx1 trivial)) ?_)
    rintro v101 w101' hh
    rw [hj] at hh
    obtain ⟨z0, rfl, hz0, _, hB101⟩ := hh
    refine at_inC (hG101.call hB101) (fun _ h => h.sub (by simp)) ?_
    refine mq (y_p rfl) rfl rfl <| mq (y_p rfl) rfl rfl <| mq (y_p rfl) rfl rfl <| mq (y_p rfl) rfl rfl <| ?_
    refine mnil ?_
    refine s1 (y_p rfl) rfl <| ?_
    refine at_nil ?_
    refine x_tn ?_
    refine at_seq ?_
    refine at_mix 13 3 hmix (by kernel_rfl) (by kernel_rfl) ?_
    refine mq (y_fld Try.underlying35 rfl ti30 (by decide) rfl rfl) rfl rfl <| mq (y_load ti30 rfl (fun w1 hG1 => hG1.cell' (by simp) c9 trivial)) rfl rfl <| mq (y_idx1 1 Try.underlying30 ti22 rfl rfl rfl (by omega) (hx.sl.addr (by omega))) rfl rfl <| mq (y_load ti22 rfl (fun w1 hG1 => hG1.cell' (by simp) (hx.cell x1_) trivial)) rfl rfl <| mq (y_fld Try.underlying35 rfl ti30 (by decide) rfl rfl) rfl rfl <| mq (y_load ti30 rfl (fun w1 hG1 => hG1.cell' (by simp) c9 trivial)) rfl rfl <| mq (y_idx1 0 Try.underlying30 ti22 rfl rfl rfl (by omega) (hx.sl.addr (by omega))) rfl rfl <| mq (y_load ti22 rfl (fun w1 hG1 => hG1.cell' (by simp) (hx.cell x0_) trivial)) rfl rfl <| ?_
    refine mn rfl rfl (n_call rfl rfl fun w113 hG113 => Fn.mono (join_ok w113 x1 x0 (answer db lq) (answer db lp) (hG113.bytes (by simp) hx1 trivial) (hG113.bytes (by simp) hx0 trivial)) ?_)
    rintro v113 w113' hh
    rw [hj2] at hh
    obtain ⟨z1, rfl, hz1, _, hB113⟩ := hh
    refine at_inC (hG113.call hB113) (fun _ h => h.sub (by simp)) ?_
    refine mq (y_p rfl) rfl rfl <| mq (y_p rfl) rfl rfl <| mq (y_p rfl) rfl rfl <| mq (y_p rfl) rfl rfl <| ?_
    refine mnil ?_
    refine s1 (y_p rfl) rfl <| ?_
    refine at_nil ?_
    refine x_tn ?_
    refine at_seq ?_
    refine at_draw_tail 23 hmix (by kernel_rfl) ?_
    refine t1 (y_p rfl) rfl <| t1 ((y_p rfl).v (v' := .bool true) (rfl)) rfl <| t1 (y_p rfl) rfl <| t1g rfl rfl (y_p rfl) rfl <| t1g rfl rfl ((y_p rfl).v (v' := .bool true) (rfl)) rfl <| t1 (y_p rfl) rfl <| t1 (y_p rfl) rfl <| t1g rfl rfl (y_p rfl) rfl <| t1g rfl rfl (y_str (s := z0) Try.underlying22 Try.underlying5 Try.underlying9 rfl (fun w1 hG1 => hG1.bytesY (by simp) hz0 (by simp; try omega))) rfl <| t1g rfl rfl (y_fld Try.underlying35 rfl ti30 (by decide) rfl rfl) rfl <| t1g rfl rfl (y_load ti30 rfl (fun w1 hG1 => hG1.cell' (by simp) c11 trivial)) rfl <| t1g rfl rfl (y_idx1 0 Try.underlying30 ti22 rfl rfl rfl (by omega) (hy.sl.addr (by omega))) rfl <| ?_
    refine t1g rfl rfl (y_load ti22 rfl (fun w1 hG1 => hG1.cell' (by simp) (hy.cell y0_) trivial)) rfl <| t1g rfl rfl (y_str (s := y0) Try.underlying22 Try.underlying5 Try.underlying9 rfl (fun w1 hG1 => hG1.bytesY (by simp) hy0 (by simp; try omega))) rfl <| t1g rfl rfl ((y_p rfl).v (v' := .bool true) (congrArg Value.bool (beq_self_eq_true _))) rfl <| t1 (y_p rfl) rfl <| t1 (y_p rfl) rfl <| t1g rfl rfl (y_p rfl) rfl <| t1g rfl rfl (y_str (s := z1) Try.underlying22 Try.underlying5 Try.underlying9 rfl (fun w1 hG1 => hG1.bytesY (by simp) hz1 (by simp; try omega))) rfl <| t1g rfl rfl (y_p rfl) rfl <| t1g rfl rfl (y_str (s := z0) Try.underlying22 Try.underlying5 Try.underlying9 rfl (fun w1 hG1 => hG1.bytesY (by simp) hz0 (by simp; try omega))) rfl <| t1g rfl rfl ((y_p rfl).v (v' := .bool true) (congrArg Value.bool (beq_self_eq_true _))) rfl <| t1 (y_p rfl) rfl <| ?_
    refine at_snil ?_
    refine s1 (y_p rfl) rfl <| ?_
    refine at_nil ?_
    refine x_tn ?_
    refine at_ret ?_
    refine at_result (rs := [.tmp 6]) rfl (r_tmp rfl (r_nil)) fun w1 hG1 => ⟨rfl, hG1.below (by simp) (by simp; try omega)⟩

theorem law6 (w : World) (sd : SV) (rd : List SV) (db : List (List UInt8)) (hd : Rows w 0 sd rd db) (p q : SV) (lp lq : List UInt8) (hp : Bytes w p lp) (hq : Bytes w q lq) : Fn Try.prog 8 #[sd.v, p.v, q.v] w (fun v w' => v = .bool true ∧ RowKit.Below w.heap.size w w') := by
  cases hf : few db 100 with
  | false => exact law6_a w sd rd db hd p q lp lq hp hq hf
  | true =>
    by_cases h : 20 < lp.length
    · exact law6_b w sd rd db hd p q lp lq hp hq hf h
    by_cases h2 : lq.length = lp.length
    · rcases answers_or db [lp, lq] with hA | ⟨hA, h3, _, h4⟩
      · exact law6_e w sd rd db hd p q lp lq hp hq hf (by omega) h2 hA
      · obtain ⟨e1, e2, e3⟩ := sum_ok h3 (h4 lp (by simp)) (h4 lq (by simp))
        exact law6_in w sd rd db hd p q lp lq hp hq hf (by omega) h2 hA e1 e2 e3
    · exact law6_c w sd rd db hd p q lp lq hp hq hf (by omega) h2

end Go.Eng.R36
