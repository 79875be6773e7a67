/-
  Layer 36: walks of the retrieval functions. Conditions: each theorem says its own.
-/
import Derived.Test.YtjnbpinnjbdnpaaR36I
namespace Go.Eng.R36
open Go Go.Eng Go.Proofs

theorem law1_long (w : World) (many i j : Int) (s : SV) (l : List UInt8) (hb : Bytes w s l) (h : 200 < l.length) : Fn Try.prog 3 #[.int .i64 many, .int .i64 i, .int .i64 j, s.v] w (fun v w' => v = .bool true ∧ RowKit.Below w.heap.size w w') := by
  refine enter Try.func3 rfl Try.ntmps3 (by kernel_rfl) rfl ?_
  refine at_seq ?_
  refine at_region ?_
  refine s1 (y_p rfl) rfl <| ?_
  refine at_nil ?_
  refine x_tn ?_
  refine at_seq ?_
  refine at_seq ?_
  refine at_region ?_
  refine at_op rfl (n_call rfl rfl fun w19 hG19 => Fn.mono (sane_ok w19) ?_)
  rintro _ w19' ⟨rfl, hB19⟩
  refine at_in (hG19.ext hB19) ?_
  refine s1 (y_p rfl) rfl <| ?_
  refine at_nil ?_
  refine x_tn ?_
  refine at_else rfl ?_
  refine at_skip ?_
  refine x_tn ?_
  refine at_seq ?_
  refine at_seq ?_
  refine at_region ?_
  have hbn := hb.1
  refine s1 (y_p rfl) rfl <| s1 (y_len Try.underlying22 rfl rfl) rfl <| s1 ((y_p rfl).v (v' := .bool true) (congrArg Value.bool (decide_eq_true (by omega)))) rfl <| ?_
  refine at_nil ?_
  refine x_tn ?_
  refine at_then rfl ?_
  refine at_seq ?_
  refine at_region ?_
  refine s1 (y_p rfl) rfl <| ?_
  refine at_nil ?_
  refine x_tn ?_
  refine at_ret ?_
  refine x_tr ?_
  refine at_result (rs := [.tmp 8]) rfl (r_tmp rfl (r_nil)) fun w1 hG1 => ⟨rfl, hG1.below (by simp) (by simp)⟩

theorem law1_in (w : World) (many i j : Int) (s : SV) (l : List UInt8) (hb : Bytes w s l) (h : l.length ≤ 200) : Fn Try.prog 3 #[.int .i64 many, .int .i64 i, .int .i64 j, s.v] w (fun v w' => v = .bool true ∧ RowKit.Below w.heap.size w w') := by
  refine enter Try.func3 rfl Try.ntmps3 (by kernel_rfl) rfl ?_
  refine at_seq ?_
  refine at_region ?_
  refine s1 (y_p rfl) rfl <| ?_
  refine at_nil ?_
  refine x_tn ?_
  refine at_seq ?_
  refine at_seq ?_
  refine at_region ?_
  refine at_op rfl (n_call rfl rfl fun w19 hG19 => Fn.mono (sane_ok w19) ?_)
  rintro _ w19' ⟨rfl, hB19⟩
  refine at_in (hG19.ext hB19) ?_
  refine s1 (y_p rfl) rfl <| ?_
  refine at_nil ?_
  refine x_tn ?_
  refine at_else rfl ?_
  refine at_skip ?_
  refine x_tn ?_
  refine at_seq ?_
  refine at_seq ?_
  refine at_region ?_
  have hbn := hb.1
  refine s1 (y_p rfl) rfl <| s1 (y_len Try.underlying22 rfl rfl) rfl <| s1 ((y_p rfl).v (v' := .bool false) (congrArg Value.bool (decide_eq_false (by omega)))) rfl <| ?_
  refine at_nil ?_
  refine x_tn ?_
  refine at_else rfl ?_
  refine at_skip ?_
  refine x_tn ?_
  refine at_seq ?_
  refine at_region ?_
  refine s1 (y_p rfl) rfl <| s1 (y_p rfl) rfl <| s1 (y_p rfl) rfl <| ?_
  refine at_op rfl (n_call rfl rfl fun w28 hG28 => Fn.mono (masks_ok w28 many i s l (hG28.bytesY (by simp) hb (by simp))) ?_)
  rintro _ w28' ⟨m1, m2, rfl, hm1, _, hm2, _, hB28⟩
  refine at_in (hG28.call hB28) ?_
  refine s1 (y_p rfl) rfl <| s1 (y_p rfl) rfl <| s1 (y_p rfl) rfl <| s1 (y_p rfl) rfl <| s1 (y_p rfl) rfl <| s1 (y_p rfl) rfl <| s1 (y_p rfl) rfl <| ?_
  refine at_nil ?_
  refine x_tn ?_
  refine at_seq ?_
  refine at_region ?_
  refine s1 (y_p rfl) rfl <| s1 (y_p rfl) rfl <| s1 (y_p rfl) rfl <| ?_
  refine at_op rfl (n_call rfl rfl fun w36 hG36 => Fn.mono (rmasks_ok w36 many i s l (hG36.bytesY (by simp) hb (by simp))) ?_)
  rintro _ w36' ⟨n1, n2, rfl, hn1, _, hn2, _, hB36⟩
  refine at_in (hG36.call hB36) ?_
  refine s1 (y_p rfl) rfl <| s1 (y_p rfl) rfl <| s1 (y_p rfl) rfl <| s1 (y_p rfl) rfl <| s1 (y_p rfl) rfl <| s1 (y_p rfl) rfl <| s1 (y_p rfl) rfl <| ?_
  refine at_nil ?_
  refine x_tn ?_
  refine at_seq ?_
  refine at_region ?_
  refine s1 (y_p rfl) rfl <| s1 (y_p rfl) rfl <| s1 (y_p rfl) rfl <| s1 (y_p rfl) rfl <| ?_
  refine at_op rfl (n_call rfl rfl fun w45 hG45 => Fn.mono (twin_ok w45 many i j s l (hG45.bytesY (by simp) hb (by simp))) ?_)
  rintro _ w45' ⟨x1, rfl, hx1, _, hB45⟩
  refine at_in (hG45.call hB45) ?_
  refine s1 (y_p rfl) rfl <| s1 (y_p rfl) rfl <| s1 (y_p rfl) rfl <| s1 (y_p rfl) rfl <| s1 (y_p rfl) rfl <| ?_
  refine at_nil ?_
  refine x_tn ?_
  refine at_seq ?_
  refine at_region ?_
  refine s1 (y_p rfl) rfl <| s1 (y_p rfl) rfl <| s1 (y_p rfl) rfl <| s1 (y_p rfl) rfl <| ?_
  refine at_op rfl (n_call rfl rfl fun w53 hG53 => Fn.mono (rtwin_ok w53 many i j s l (hG53.bytesY (by simp) hb (by simp))) ?_)
  rintro _ w53' ⟨y1, rfl, hy1, _, hB53⟩
  refine at_in (hG53.call hB53) ?_
  refine s1 (y_p rfl) rfl <| s1 (y_p rfl) rfl <| s1 (y_p rfl) rfl <| s1 (y_p rfl) rfl <| s1 (y_p rfl) rfl <| ?_
  refine at_nil ?_
  refine x_tn ?_
  refine at_seq ?_
  refine at_region ?_
  refine s1 (y_p rfl) rfl <| s1 (y_str (s := m1) Try.underlying22 Try.underlying5 Try.underlying9 rfl (fun w1 hG1 => hG1.bytesY (by simp) hm1 (by simp; try omega))) rfl <| s1 (y_p rfl) rfl <| s1 (y_str (s := n1) Try.underlying22 Try.underlying5 Try.underlying9 rfl (fun w1 hG1 => hG1.bytesY (by simp) hn1 (by simp; try omega))) rfl <| s1 ((y_p rfl).v (v' := .bool true) (congrArg Value.bool (beq_self_eq_true _))) rfl <| s1 (y_p rfl) rfl <| g1 rfl rfl (y_p rfl) rfl <| g1 rfl rfl (y_str (s := m2) Try.underlying22 Try.underlying5 Try.underlying9 rfl (fun w1 hG1 => hG1.bytesY (by simp) hm2 (by simp; try omega))) rfl <| g1 rfl rfl (y_p rfl) rfl <| g1 rfl rfl (y_str (s := n2) Try.underlying22 Try.underlying5 Try.underlying9 rfl (fun w1 hG1 => hG1.bytesY (by simp) hn2 (by simp; try omega))) rfl <| g1 rfl rfl ((y_p rfl).v (v' := .bool true) (congrArg Value.bool (beq_self_eq_true _))) rfl <| s1 (y_p rfl) rfl <| ?_
  refine s1 (y_p rfl) rfl <| g1 rfl rfl (y_p rfl) rfl <| g1 rfl rfl (y_p rfl) rfl <| g1 rfl rfl ((y_p rfl).v (v' := .bool true) (congrArg Value.bool (beq_self_eq_true _))) rfl <| s1 (y_p rfl) rfl <| s1 (y_p rfl) rfl <| g1 rfl rfl (y_p rfl) rfl <| g1 rfl rfl (y_str (s := x1) Try.underlying22 Try.underlying5 Try.underlying9 rfl (fun w1 hG1 => hG1.bytesY (by simp) hx1 (by simp; try omega))) rfl <| g1 rfl rfl (y_p rfl) rfl <| g1 rfl rfl (y_str (s := y1) Try.underlying22 Try.underlying5 Try.underlying9 rfl (fun w1 hG1 => hG1.bytesY (by simp) hy1 (by simp; try omega))) rfl <| g1 rfl rfl ((y_p rfl).v (v' := .bool true) (congrArg Value.bool (beq_self_eq_true _))) rfl <| s1 (y_p rfl) rfl <| ?_
  refine s1 (y_p rfl) rfl <| g1 rfl rfl (y_p rfl) rfl <| g1 rfl rfl (y_p rfl) rfl <| g1 rfl rfl ((y_p rfl).v (v' := .bool true) (congrArg Value.bool (beq_self_eq_true _))) rfl <| s1 (y_p rfl) rfl <| s1 (y_p rfl) rfl <| ?_
  refine at_nil ?_
  refine x_tn ?_
  refine at_ret ?_
  refine at_result (rs := [.tmp 8]) rfl (r_tmp rfl (r_nil)) fun w1 hG1 => ⟨rfl, hG1.below (by simp) (by simp)⟩

theorem law1 (w : World) (many i j : Int) (s : SV) (l : List UInt8) (hb : Bytes w s l) : Fn Try.prog 3 #[.int .i64 many, .int .i64 i, .int .i64 j, s.v] w (fun v w' => v = .bool true ∧ RowKit.Below w.heap.size w w') := by
  by_cases h : 200 < l.length
  · exact law1_long w many i j s l hb h
  · exact law1_in w many i j s l hb (by omega)

theorem law2_a (w : World) (sd : SV) (rd : List SV) (db : List (List UInt8)) (hd : Rows w 0 sd rd db) (sq : SV) (rq : List SV) (ms : List (List UInt8)) (_hq : Rows w 0 sq rq ms) (a b : SV) (la lb : List UInt8) (_ha : Bytes w a la) (_hb : Bytes w b lb) (hf : few db 100 = false) : Fn Try.prog 4 #[sd.v, .agg #[sq.v], a.v, b.v] w (fun v w' => v = .bool true ∧ RowKit.Below w.heap.size w w') := by
  refine enter Try.func4 rfl Try.ntmps4 (by kernel_rfl) rfl ?_
  refine at_seq ?_
  refine at_region ?_
  refine at_op rfl (n_box (cs := [sq.v]) rfl rfl rfl fun b5 hS5 hH5 => ?_)
  simp only [leAll, ltAll, and_true] at hS5 hH5
  refine s1 (y_p rfl) rfl <| ?_
  refine at_nil ?_
  refine x_tn ?_
  refine at_seq ?_
  refine at_seq ?_
  refine at_region ?_
  refine at_op rfl (n_call rfl rfl fun w17 hG17 => Fn.mono (sane_ok w17) ?_)
  rintro _ w17' ⟨rfl, hB17⟩
  refine at_in (hG17.ext hB17) ?_
  refine s1 (y_p rfl) rfl <| ?_
  refine at_nil ?_
  refine x_tn ?_
  refine at_else rfl ?_
  refine at_skip ?_
  refine x_tn ?_
  refine at_seq ?_
  refine at_seq ?_
  refine at_region ?_
  refine s1 (y_p rfl) rfl <| ?_
  refine at_op rfl (n_call rfl rfl fun w20 hG20 => Fn.mono (few_ok w20 sd rd db (hG20.rows (by simp) hd (by simp; try omega)) 100) ?_)
  rintro _ w20' ⟨rfl, hB20⟩
  rw [hf]
  refine at_in (hG20.ext hB20) ?_
  refine s1 (y_p rfl) rfl <| s1 (y_p rfl) rfl <| g0 rfl rfl rfl rfl <| g0 rfl rfl rfl rfl <| g0 rfl rfl rfl rfl <| g0 rfl rfl rfl rfl <| s1 (y_p rfl) rfl <| ?_
  refine at_nil ?_
  refine x_tn ?_
  refine at_then rfl ?_
  refine at_seq ?_
  refine at_region ?_
  refine s1 (y_p rfl) rfl <| ?_
  refine at_nil ?_
  refine x_tn ?_
  refine at_ret ?_
  refine x_tr ?_
  refine at_result (rs := [.tmp 8]) rfl (r_tmp rfl (r_nil)) fun w1 hG1 => ⟨rfl, hG1.below (by simp) (by simp; try omega)⟩

theorem law2_b (w : World) (sd : SV) (rd : List SV) (db : List (List UInt8)) (hd : Rows w 0 sd rd db) (sq : SV) (rq : List SV) (ms : List (List UInt8)) (hq : Rows w 0 sq rq ms) (a b : SV) (la lb : List UInt8) (_ha : Bytes w a la) (_hb : Bytes w b lb) (hf : few db 100 = true) (hf2 : few ms 140 = false) : Fn Try.prog 4 #[sd.v, .agg #[sq.v], a.v, b.v] w (fun v w' => v = .bool true ∧ RowKit.Below w.heap.size w w') := by
  refine enter Try.func4 rfl Try.ntmps4 (by kernel_rfl) rfl ?_
  refine at_seq ?_
  refine at_region ?_
  refine at_op rfl (n_box (cs := [sq.v]) rfl rfl rfl fun b5 hS5 hH5 => ?_)
  simp only [leAll, ltAll, and_true] at hS5 hH5
  refine s1 (y_p rfl) rfl <| ?_
  refine at_nil ?_
  refine x_tn ?_
  refine at_seq ?_
  refine at_seq ?_
  refine at_region ?_
  refine at_op rfl (n_call rfl rfl fun w17 hG17 => Fn.mono (sane_ok w17) ?_)
  rintro _ w17' ⟨rfl, hB17⟩
  refine at_in (hG17.ext hB17) ?_
  refine s1 (y_p rfl) rfl <| ?_
  refine at_nil ?_
  refine x_tn ?_
  refine at_else rfl ?_
  refine at_skip ?_
  refine x_tn ?_
  refine at_seq ?_
  refine at_seq ?_
  refine at_region ?_
  refine s1 (y_p rfl) rfl <| ?_
  refine at_op rfl (n_call rfl rfl fun w20 hG20 => Fn.mono (few_ok w20 sd rd db (hG20.rows (by simp) hd (by simp; try omega)) 100) ?_)
  rintro _ w20' ⟨rfl, hB20⟩
  rw [hf]
  refine at_in (hG20.ext hB20) ?_
  refine s1 (y_p rfl) rfl <| s1 (y_p rfl) rfl <| g1 rfl rfl (y_fld Try.underlying32 rfl ti30 (by decide) rfl rfl) rfl <| g1 rfl rfl (y_own 0 ti30 rfl rfl rfl) rfl <| ?_
  refine at_opg rfl rfl rfl (n_call rfl rfl fun w25 hG25 => Fn.mono (few_ok w25 sq rq ms (hG25.rows (by simp) hq (by simp; try omega)) 140) ?_)
  rintro _ w25' ⟨rfl, hB25⟩
  rw [hf2]
  refine at_in (hG25.ext hB25) ?_
  refine g1 rfl rfl (y_p rfl) rfl <| s1 (y_p rfl) rfl <| ?_
  refine at_nil ?_
  refine x_tn ?_
  refine at_then rfl ?_
  refine at_seq ?_
  refine at_region ?_
  refine s1 (y_p rfl) rfl <| ?_
  refine at_nil ?_
  refine x_tn ?_
  refine at_ret ?_
  refine x_tr ?_
  refine at_result (rs := [.tmp 8]) rfl (r_tmp rfl (r_nil)) fun w1 hG1 => ⟨rfl, hG1.below (by simp) (by simp; try omega)⟩

theorem law2_in (w : World) (sd : SV) (rd : List SV) (db : List (List UInt8)) (hd : Rows w 0 sd rd db) (sq : SV) (rq : List SV) (ms : List (List UInt8)) (hq : Rows w 0 sq rq ms) (a b : SV) (la lb : List UInt8) (ha : Bytes w a la) (hb : Bytes w b lb) (hf : few db 100 = true) (hf2 : few ms 140 = true) : Fn Try.prog 4 #[sd.v, .agg #[sq.v], a.v, b.v] w (fun v w' => v = .bool true ∧ RowKit.Below w.heap.size w w') := by
  refine enter Try.func4 rfl Try.ntmps4 (by kernel_rfl) rfl ?_
  refine at_seq ?_
  refine at_region ?_
  refine at_op rfl (n_box (cs := [sq.v]) rfl rfl rfl fun b5 hS5 hH5 => ?_)
  simp only [leAll, ltAll, and_true] at hS5 hH5
  refine s1 (y_p rfl) rfl <| ?_
  refine at_nil ?_
  refine x_tn ?_
  refine at_seq ?_
  refine at_seq ?_
  refine at_region ?_
  refine at_op rfl (n_call rfl rfl fun w17 hG17 => Fn.mono (sane_ok w17) ?_)
  rintro _ w17' ⟨rfl, hB17⟩
  refine at_in (hG17.ext hB17) ?_
  refine s1 (y_p rfl) rfl <| ?_
  refine at_nil ?_
  refine x_tn ?_
  refine at_else rfl ?_
  refine at_skip ?_
  refine x_tn ?_
  refine at_seq ?_
  refine at_seq ?_
  refine at_region ?_
  refine s1 (y_p rfl) rfl <| ?_
  refine at_op rfl (n_call rfl rfl fun w20 hG20 => Fn.mono (few_ok w20 sd rd db (hG20.rows (by simp) hd (by simp; try omega)) 100) ?_)
  rintro _ w20' ⟨rfl, hB20⟩
  rw [hf]
  refine at_in (hG20.ext hB20) ?_
  refine s1 (y_p rfl) rfl <| s1 (y_p rfl) rfl <| g1 rfl rfl (y_fld Try.underlying32 rfl ti30 (by decide) rfl rfl) rfl <| g1 rfl rfl (y_own 0 ti30 rfl rfl rfl) rfl <| ?_
  refine at_opg rfl rfl rfl (n_call rfl rfl fun w25 hG25 => Fn.mono (few_ok w25 sq rq ms (hG25.rows (by simp) hq (by simp; try omega)) 140) ?_)
  rintro _ w25' ⟨rfl, hB25⟩
  rw [hf2]
  refine at_in (hG25.ext hB25) ?_
  refine g1 rfl rfl (y_p rfl) rfl <| s1 (y_p rfl) rfl <| ?_
  refine at_nil ?_
  refine x_tn ?_
  refine at_else rfl ?_
  refine at_skip ?_
  refine x_tn ?_
  refine at_seq ?_
  refine at_region ?_
  refine at_open fun u0 hGx a0 hR0 => ?_
  have c5 := cell_row (hGx.block 0 rfl) (j := 0) rfl
  refine at_in (Good.now (Good.clear (S' := [w]) hGx (by simp; omega))) ?_ a0 hR0
  refine s1 (y_p rfl) rfl <| s1 (y_loadagg (us := [sq.v]) ti32 rfl rfl (fun w1 hG1 j v hj => by rcases j with _ | j; (simp only [List.getElem?_cons_zero, Option.some.injEq] at hj; subst hj; exact hG1.cell' (by simp) c5 trivial); simp at hj)) rfl <| ?_
  refine at_op rfl (n_call rfl rfl fun w31 hG31 => Fn.mono (answer_ok w31 sd rd db (hG31.rows (by simp) hd (by simp)) sq rq ms (hG31.rows (by simp) hq (by simp))) ?_)
  rintro _ w31' ⟨x, rx, rfl, hx, hB31⟩
  refine at_in (hG31.call hB31) ?_
  refine s1 (y_p rfl) rfl <| s1 (y_p rfl) rfl <| s1 (y_p rfl) rfl <| ?_
  refine at_op rfl (n_alloc ti35 rfl fun b9 hS9 hH9 => ?_)
  simp only [leAll, ltAll, and_true] at hS9 hH9
  refine at_op rfl (stw0 (us := [x.v]) ti35 rfl rfl rfl rfl rfl rfl ?_)
  refine at_open fun u1 hGx a1 hR1 => ?_
  have c9 := cell_row (hGx.block 0 rfl) (j := 0) rfl
  refine at_in (Good.now (Good.clear (S' := [w31', u0, w]) hGx (by simp; omega))) ?_ a1 hR1
  refine s1 (y_p rfl) rfl <| ?_
  refine at_nil ?_
  refine x_tn ?_
  refine at_seq ?_
  refine at_region ?_
  refine s1 (y_p rfl) rfl <| s1 (y_loadagg (us := [sq.v]) ti32 rfl rfl (fun w1 hG1 j v hj => by rcases j with _ | j; (simp only [List.getElem?_cons_zero, Option.some.injEq] at hj; subst hj; exact hG1.cell' (by simp) c5 trivial); simp at hj)) rfl <| ?_
  refine at_op rfl (n_call rfl rfl fun w37 hG37 => Fn.mono (ranswer_ok w37 sd rd db (hG37.rows (by simp) hd (by simp)) sq rq ms (hG37.rows (by simp) hq (by simp))) ?_)
  rintro _ w37' ⟨y, ry, rfl, hy, hB37⟩
  refine at_in (hG37.call hB37) ?_
  refine s1 (y_p rfl) rfl <| s1 (y_p rfl) rfl <| s1 (y_p rfl) rfl <| ?_
  refine at_op rfl (n_alloc ti35 rfl fun b11 hS11 hH11 => ?_)
  simp only [leAll, ltAll, and_true] at hS11 hH11
  refine at_op rfl (stw0 (us := [y.v]) ti35 rfl rfl rfl rfl rfl rfl ?_)
  refine at_open fun u2 hGx a2 hR2 => ?_
  have c11 := cell_row (hGx.block 0 rfl) (j := 0) rfl
  refine at_in (Good.now (Good.clear (S' := [w37', u1, w31', u0, w]) hGx (by simp; omega))) ?_ a2 hR2
  refine s1 (y_p rfl) rfl <| ?_
  refine at_nil ?_
  refine x_tn ?_
  refine at_seq ?_
  refine at_region ?_
  refine s1 (y_p rfl) rfl <| s1 (y_p rfl) rfl <| ?_
  refine at_op rfl (n_call rfl rfl fun w43 hG43 => Fn.mono (join_ok w43 a b la lb (hG43.bytesY (by simp) ha (by simp)) (hG43.bytesY (by simp) hb (by simp))) ?_)
  rintro _ w43' ⟨xj, rfl, hxj, _, hB⟩
  refine at_in (hG43.call hB) ?_
  refine s1 (y_p rfl) rfl <| s1 (y_p rfl) rfl <| s1 (y_p rfl) rfl <| s1 (y_p rfl) rfl <| s1 (y_p rfl) rfl <| ?_
  refine at_nil ?_
  refine x_tn ?_
  refine at_seq ?_
  refine at_region ?_
  refine s1 (y_p rfl) rfl <| s1 (y_p rfl) rfl <| ?_
  refine at_op rfl (n_call rfl rfl fun w49 hG49 => Fn.mono (rjoin_ok w49 a b la lb (hG49.bytesY (by simp) ha (by simp)) (hG49.bytesY (by simp) hb (by simp))) ?_)
  rintro _ w49' ⟨yj, rfl, hyj, _, hB⟩
  refine at_in (hG49.call hB) ?_
  refine s1 (y_p rfl) rfl <| s1 (y_p rfl) rfl <| s1 (y_p rfl) rfl <| s1 (y_p rfl) rfl <| s1 (y_p rfl) rfl <| ?_
  refine at_nil ?_
  refine x_tn ?_
  refine at_seq ?_
  refine at_region ?_
  refine s1 (y_fld Try.underlying35 rfl ti30 (by decide) rfl rfl) rfl <| s1 (y_load ti30 rfl (fun w1 hG1 => hG1.cell' (by simp) c9 trivial)) rfl <| s1 (y_fld Try.underlying35 rfl ti30 (by decide) rfl rfl) rfl <| s1 (y_load ti30 rfl (fun w1 hG1 => hG1.cell' (by simp) c11 trivial)) rfl <| ?_
  refine at_op rfl (n_call rfl rfl fun w56 hG56 => Fn.mono (same_ok w56 x rx _ (hG56.rows (by simp) hx (by simp)) y ry _ (hG56.rows (by simp) hy (by simp))) ?_)
  rintro _ w56' ⟨rfl, hB⟩
  rw [beq_self_eq_true]
  refine at_in (hG56.call hB) ?_
  refine s1 (y_p rfl) rfl <| g1 rfl rfl (y_p rfl) rfl <| g1 rfl rfl (y_p rfl) rfl <| g1 rfl rfl ((y_p rfl).v (v' := .bool true) (congrArg Value.bool (beq_self_eq_true _))) rfl <| s1 (y_p rfl) rfl <| s1 (y_p rfl) rfl <| g1 rfl rfl (y_p rfl) rfl <| g1 rfl rfl (y_str (s := xj) Try.underlying22 Try.underlying5 Try.underlying9 rfl (fun w1 hG1 => hG1.bytesY (by simp) hxj (by simp; try omega))) rfl <| g1 rfl rfl (y_p rfl) rfl <| g1 rfl rfl (y_str (s := yj) Try.underlying22 Try.underlying5 Try.underlying9 rfl (fun w1 hG1 => hG1.bytesY (by simp) hyj (by simp; try omega))) rfl <| g1 rfl rfl ((y_p rfl).v (v' := .bool true) (congrArg Value.bool (beq_self_eq_true _))) rfl <| s1 (y_p rfl) rfl <| ?_
  refine s1 (y_p rfl) rfl <| g1 rfl rfl (y_p rfl) rfl <| g1 rfl rfl (y_p rfl) rfl <| g1 rfl rfl ((y_p rfl).v (v' := .bool true) (congrArg Value.bool (beq_self_eq_true _))) rfl <| s1 (y_p rfl) rfl <| s1 (y_p rfl) rfl <| ?_
  refine at_nil ?_
  refine x_tn ?_
  refine at_ret ?_
  refine at_result (rs := [.tmp 8]) rfl (r_tmp rfl (r_nil)) fun w1 hG1 => ⟨rfl, hG1.below (by simp) (by simp; try omega)⟩

theorem law2 (w : World) (sd : SV) (rd : List SV) (db : List (List UInt8)) (hd : Rows w 0 sd rd db) (sq : SV) (rq : List SV) (ms : List (List UInt8)) (hq : Rows w 0 sq rq ms) (a b : SV) (la lb : List UInt8) (ha : Bytes w a la) (hb : Bytes w b lb) : Fn Try.prog 4 #[sd.v, .agg #[sq.v], a.v, b.v] w (fun v w' => v = .bool true ∧ RowKit.Below w.heap.size w w') := by
  cases hf : few db 100 with
  | false => exact law2_a w sd rd db hd sq rq ms hq a b la lb ha hb hf
  | true =>
    cases hf2 : few ms 140 with
    | false => exact law2_b w sd rd db hd sq rq ms hq a b la lb ha hb hf hf2
    | true => exact law2_in w sd rd db hd sq rq ms hq a b la lb ha hb hf hf2

theorem law3_a (w : World) (many : Int) (sa : SV) (at' : List Int) (batch : Int) (sc : SV) (rc : List SV) (coins : List (List UInt8)) (_hat : Ints w sa at') (hc : Rows w 0 sc rc coins) (hf : few coins 140 = false) : Fn Try.prog 5 #[.int .i64 many, sa.v, .int .i64 batch, sc.v] w (fun v w' => v = .bool true ∧ RowKit.Below w.heap.size w w') := by
  refine enter Try.func5 rfl Try.ntmps5 (by kernel_rfl) rfl ?_
  refine at_seq ?_
  refine at_region ?_
  refine s1 (y_p rfl) rfl <| ?_
  refine at_nil ?_
  refine x_tn ?_
  refine at_seq ?_
  refine at_seq ?_
  refine at_region ?_
  refine at_op rfl (n_call rfl rfl fun w15 hG15 => Fn.mono (sane_ok w15) ?_)
  rintro _ w15' ⟨rfl, hB15⟩
  refine at_in (hG15.ext hB15) ?_
  refine s1 (y_p rfl) rfl <| ?_
  refine at_nil ?_
  refine x_tn ?_
  refine at_else rfl ?_
  refine at_skip ?_
  refine x_tn ?_
  refine at_seq ?_
  refine at_seq ?_
  refine at_region ?_
  refine s1 (y_p rfl) rfl <| ?_
  refine at_op rfl (n_call rfl rfl fun w18 hG18 => Fn.mono (few_ok w18 sc rc coins (hG18.rows (by simp) hc (by simp; try omega)) 140) ?_)
  rintro _ w18' ⟨rfl, hB18⟩
  rw [hf]
  refine at_in (hG18.ext hB18) ?_
  refine s1 (y_p rfl) rfl <| s1 (y_p rfl) rfl <| g0 rfl rfl rfl rfl <| g0 rfl rfl rfl rfl <| g0 rfl rfl rfl rfl <| s1 (y_p rfl) rfl <| ?_
  refine at_nil ?_
  refine x_tn ?_
  refine at_then rfl ?_
  refine at_seq ?_
  refine at_region ?_
  refine s1 (y_p rfl) rfl <| ?_
  refine at_nil ?_
  refine x_tn ?_
  refine at_ret ?_
  refine x_tr ?_
  refine at_result (rs := [.tmp 8]) rfl (r_tmp rfl (r_nil)) fun w1 hG1 => ⟨rfl, hG1.below (by simp) (by simp; try omega)⟩

theorem law3_b (w : World) (many : Int) (sa : SV) (at' : List Int) (batch : Int) (sc : SV) (rc : List SV) (coins : List (List UInt8)) (hat : Ints w sa at') (hc : Rows w 0 sc rc coins) (hf : few coins 140 = true) (h : 140 < at'.length) : Fn Try.prog 5 #[.int .i64 many, sa.v, .int .i64 batch, sc.v] w (fun v w' => v = .bool true ∧ RowKit.Below w.heap.size w w') := by
  refine enter Try.func5 rfl Try.ntmps5 (by kernel_rfl) rfl ?_
  refine at_seq ?_
  refine at_region ?_
  refine s1 (y_p rfl) rfl <| ?_
  refine at_nil ?_
  refine x_tn ?_
  refine at_seq ?_
  refine at_seq ?_
  refine at_region ?_
  refine at_op rfl (n_call rfl rfl fun w15 hG15 => Fn.mono (sane_ok w15) ?_)
  rintro _ w15' ⟨rfl, hB15⟩
  refine at_in (hG15.ext hB15) ?_
  refine s1 (y_p rfl) rfl <| ?_
  refine at_nil ?_
  refine x_tn ?_
  refine at_else rfl ?_
  refine at_skip ?_
  refine x_tn ?_
  refine at_seq ?_
  refine at_seq ?_
  refine at_region ?_
  refine s1 (y_p rfl) rfl <| ?_
  refine at_op rfl (n_call rfl rfl fun w18 hG18 => Fn.mono (few_ok w18 sc rc coins (hG18.rows (by simp) hc (by simp; try omega)) 140) ?_)
  rintro _ w18' ⟨rfl, hB18⟩
  rw [hf]
  refine at_in (hG18.ext hB18) ?_
  refine s1 (y_p rfl) rfl <| s1 (y_p rfl) rfl <| ?_
  have han := hat.1
  refine g1 rfl rfl (y_p rfl) rfl <| g1 rfl rfl (y_len Try.underlying41 rfl rfl) rfl <| g1 rfl rfl ((y_p rfl).v (v' := .bool true) (congrArg Value.bool (decide_eq_true (by omega)))) rfl <| s1 (y_p rfl) rfl <| ?_
  refine at_nil ?_
  refine x_tn ?_
  refine at_then rfl ?_
  refine at_seq ?_
  refine at_region ?_
  refine s1 (y_p rfl) rfl <| ?_
  refine at_nil ?_
  refine x_tn ?_
  refine at_ret ?_
  refine x_tr ?_
  refine at_result (rs := [.tmp 8]) rfl (r_tmp rfl (r_nil)) fun w1 hG1 => ⟨rfl, hG1.below (by simp) (by simp; try omega)⟩

theorem law3_in (w : World) (many : Int) (sa : SV) (at' : List Int) (batch : Int) (sc : SV) (rc : List SV) (coins : List (List UInt8)) (hat : Ints w sa at') (hc : Rows w 0 sc rc coins) (hf : few coins 140 = true) (h : at'.length ≤ 140) : Fn Try.prog 5 #[.int .i64 many, sa.v, .int .i64 batch, sc.v] w (fun v w' => v = .bool true ∧ RowKit.Below w.heap.size w w') := by
  refine enter Try.func5 rfl Try.ntmps5 (by kernel_rfl) rfl ?_
  refine at_seq ?_
  refine at_region ?_
  refine s1 (y_p rfl) rfl <| ?_
  refine at_nil ?_
  refine x_tn ?_
  refine at_seq ?_
  refine at_seq ?_
  refine at_region ?_
  refine at_op rfl (n_call rfl rfl fun w15 hG15 => Fn.mono (sane_ok w15) ?_)
  rintro _ w15' ⟨rfl, hB15⟩
  refine at_in (hG15.ext hB15) ?_
  refine s1 (y_p rfl) rfl <| ?_
  refine at_nil ?_
  refine x_tn ?_
  refine at_else rfl ?_
  refine at_skip ?_
  refine x_tn ?_
  refine at_seq ?_
  refine at_seq ?_
  refine at_region ?_
  refine s1 (y_p rfl) rfl <| ?_
  refine at_op rfl (n_call rfl rfl fun w18 hG18 => Fn.mono (few_ok w18 sc rc coins (hG18.rows (by simp) hc (by simp; try omega)) 140) ?_)
  rintro _ w18' ⟨rfl, hB18⟩
  rw [hf]
  refine at_in (hG18.ext hB18) ?_
  refine s1 (y_p rfl) rfl <| s1 (y_p rfl) rfl <| ?_
  have han := hat.1
  refine g1 rfl rfl (y_p rfl) rfl <| g1 rfl rfl (y_len Try.underlying41 rfl rfl) rfl <| g1 rfl rfl ((y_p rfl).v (v' := .bool false) (congrArg Value.bool (decide_eq_false (by omega)))) rfl <| s1 (y_p rfl) rfl <| ?_
  refine at_nil ?_
  refine x_tn ?_
  refine at_else rfl ?_
  refine at_skip ?_
  refine x_tn ?_
  refine at_seq ?_
  refine at_region ?_
  refine s1 (y_p rfl) rfl <| s1 (y_p rfl) rfl <| s1 (y_p rfl) rfl <| s1 (y_p rfl) rfl <| ?_
  refine at_op rfl (n_call rfl rfl fun w30 hG30 => Fn.mono (ask_ok w30 many sa at' batch sc rc coins (hG30.ints (by simp) hat trivial) (hG30.rows (by simp) hc (by simp))) ?_)
  rintro _ w30' ⟨x, x', rx, rx', rfl, hx, hx', hB30⟩
  refine at_in (hG30.call hB30) ?_
  refine s1 (y_p rfl) rfl <| s1 (y_p rfl) rfl <| s1 (y_p rfl) rfl <| s1 (y_p rfl) rfl <| ?_
  refine at_op rfl (n_alloc ti32 rfl fun b9 hS9 hH9 => ?_)
  simp only [leAll, ltAll, and_true] at hS9 hH9
  refine at_op rfl (n_alloc ti32 rfl fun b10 hS10 hH10 => ?_)
  simp only [leAll, ltAll, and_true] at hS10 hH10
  refine at_op rfl (stw1 (us := [x.v]) ti32 rfl rfl rfl rfl rfl rfl ?_)
  refine at_op rfl (stw0 (us := [x'.v]) ti32 rfl rfl rfl rfl rfl rfl ?_)
  refine at_open fun u1 hGx a1 hR1 => ?_
  have c9 := cell_row (hGx.block 1 rfl) (j := 0) rfl
  have c10 := cell_row (hGx.block 0 rfl) (j := 0) rfl
  refine at_in (Good.now (Good.clear (S' := [w30', w]) hGx (by simp; omega))) ?_ a1 hR1
  refine s1 (y_p rfl) rfl <| ?_
  refine at_nil ?_
  refine x_tn ?_
  refine at_seq ?_
  refine at_region ?_
  refine s1 (y_p rfl) rfl <| s1 (y_p rfl) rfl <| s1 (y_p rfl) rfl <| s1 (y_p rfl) rfl <| ?_
  refine at_op rfl (n_call rfl rfl fun w39 hG39 => Fn.mono (rask_ok w39 many sa at' batch sc rc coins (hG39.ints (by simp) hat trivial) (hG39.rows (by simp) hc (by simp))) ?_)
  rintro _ w39' ⟨y, y', ry, ry', rfl, hy, hy', hB39⟩
  refine at_in (hG39.call hB39) ?_
  refine s1 (y_p rfl) rfl <| s1 (y_p rfl) rfl <| s1 (y_p rfl) rfl <| s1 (y_p rfl) rfl <| ?_
  refine at_op rfl (n_alloc ti32 rfl fun b12 hS12 hH12 => ?_)
  simp only [leAll, ltAll, and_true] at hS12 hH12
  refine at_op rfl (n_alloc ti32 rfl fun b13 hS13 hH13 => ?_)
  simp only [leAll, ltAll, and_true] at hS13 hH13
  refine at_op rfl (stw1 (us := [y.v]) ti32 rfl rfl rfl rfl rfl rfl ?_)
  refine at_op rfl (stw0 (us := [y'.v]) ti32 rfl rfl rfl rfl rfl rfl ?_)
  refine at_open fun u2 hGx a2 hR2 => ?_
  have c12 := cell_row (hGx.block 1 rfl) (j := 0) rfl
  have c13 := cell_row (hGx.block 0 rfl) (j := 0) rfl
  refine at_in (Good.now (Good.clear (S' := [w39', u1, w30', w]) hGx (by simp; omega))) ?_ a2 hR2
  refine s1 (y_p rfl) rfl <| ?_
  refine at_nil ?_
  refine x_tn ?_
  refine at_seq ?_
  refine at_region ?_
  refine s1 (y_fld Try.underlying32 rfl ti30 (by decide) rfl rfl) rfl <| s1 (y_load ti30 rfl (fun w1 hG1 => hG1.cell' (by simp) c9 trivial)) rfl <| s1 (y_fld Try.underlying32 rfl ti30 (by decide) rfl rfl) rfl <| s1 (y_load ti30 rfl (fun w1 hG1 => hG1.cell' (by simp) c12 trivial)) rfl <| ?_
  refine at_op rfl (n_call rfl rfl fun w47 hG47 => Fn.mono (same_ok w47 x rx _ (hG47.rows (by simp) hx (by simp)) y ry _ (hG47.rows (by simp) hy (by simp))) ?_)
  rintro _ w47' ⟨rfl, hB47⟩
  rw [beq_self_eq_true]
  refine at_in (hG47.call hB47) ?_
  refine s1 (y_p rfl) rfl <| g1 rfl rfl (y_fld Try.underlying32 rfl ti30 (by decide) rfl rfl) rfl <| g1 rfl rfl (y_load ti30 rfl (fun w1 hG1 => hG1.cell' (by simp) c10 trivial)) rfl <| g1 rfl rfl (y_fld Try.underlying32 rfl ti30 (by decide) rfl rfl) rfl <| g1 rfl rfl (y_load ti30 rfl (fun w1 hG1 => hG1.cell' (by simp) c13 trivial)) rfl <| ?_
  refine at_opg rfl rfl rfl (n_call rfl rfl fun w53 hG53 => Fn.mono (same_ok w53 x' rx' _ (hG53.rows (by simp) hx' (by simp)) y' ry' _ (hG53.rows (by simp) hy' (by simp))) ?_)
  rintro _ w53' ⟨rfl, hB53⟩
  rw [beq_self_eq_true]
  refine at_in (hG53.call hB53) ?_
  refine s1 (y_p rfl) rfl <| s1 (y_p rfl) rfl <| g1 rfl rfl (y_p rfl) rfl <| g1 rfl rfl (y_p rfl) rfl <| g1 rfl rfl ((y_p rfl).v (v' := .bool true) (congrArg Value.bool (beq_self_eq_true _))) rfl <| s1 (y_p rfl) rfl <| s1 (y_p rfl) rfl <| ?_
  refine at_nil ?_
  refine x_tn ?_
  refine at_ret ?_
  refine at_result (rs := [.tmp 8]) rfl (r_tmp rfl (r_nil)) fun w1 hG1 => ⟨rfl, hG1.below (by simp) (by simp; try omega)⟩

theorem law3 (w : World) (many : Int) (sa : SV) (at' : List Int) (batch : Int) (sc : SV) (rc : List SV) (coins : List (List UInt8)) (hat : Ints w sa at') (hc : Rows w 0 sc rc coins) : Fn Try.prog 5 #[.int .i64 many, sa.v, .int .i64 batch, sc.v] w (fun v w' => v = .bool true ∧ RowKit.Below w.heap.size w w') := by
  cases hf : few coins 140 with
  | false => exact law3_a w many sa at' batch sc rc coins hat hc hf
  | true =>
    by_cases h : 140 < at'.length
    · exact law3_b w many sa at' batch sc rc coins hat hc hf h
    · exact law3_in w many sa at' batch sc rc coins hat hc hf (by omega)

end Go.Eng.R36
