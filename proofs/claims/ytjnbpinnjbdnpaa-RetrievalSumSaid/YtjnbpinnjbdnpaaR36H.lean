/-
  Layer 36: walks of the retrieval functions. Conditions: each theorem says its own.
-/
import Derived.Test.YtjnbpinnjbdnpaaR36G
namespace Go.Eng.R36
open Go Go.Eng Go.Proofs

theorem answer_e1 (w : World) (sd : SV) (rd : List SV) (db : List (List UInt8)) (hd : Rows w 0 sd rd db) (sq : SV) (rq : List SV) (ms : List (List UInt8)) (hq : Rows w 0 sq rq ms) (h : db.length < 1) : Fn Try.prog 15 #[sd.v, .agg #[sq.v]] w (fun v w' => PR w w' v (answers db ms)) := by
  refine enter Try.func15 rfl Try.ntmps15 (by kernel_rfl) rfl ?_
  refine at_seq ?_
  refine at_region ?_
  refine at_op rfl (n_box (cs := [_]) rfl rfl rfl fun b2 hS2 hH2 => ?_)
  simp only [leAll, ltAll, and_true] at hS2 hH2
  refine at_op rfl (n_box (cs := [sq.v]) rfl rfl rfl fun b3 hS3 hH3 => ?_)
  simp only [leAll, ltAll, and_true] at hS3 hH3
  refine at_op rfl (n_alloc ti35 rfl fun b4 hS4 hH4 => ?_)
  simp only [leAll, ltAll, and_true] at hS4 hH4
  refine s1 (y_p rfl) rfl <| ?_
  refine at_nil ?_
  refine x_tn ?_
  refine at_seq ?_
  refine at_seq ?_
  refine at_region ?_
  have hdn := hd.n
  have hdl := hd.len
  have hqn := hq.n
  have hql := hq.len
  have hdm := Nat.le_trans hd.sl.le hd.sl.max
  have hqm := Nat.le_trans hq.sl.le hq.sl.max
  simp only [maxLen] at hdm hqm
  refine s1 (y_own 2 ti30 rfl rfl rfl) rfl <| s1 (y_len Try.underlying30 rfl rfl) rfl <| s1 ((y_p rfl).v (v' := .bool true) (congrArg Value.bool (decide_eq_true (by omega)))) rfl <| s1 (y_p rfl) rfl <| g0 rfl rfl rfl rfl <| g0 rfl rfl rfl rfl <| g0 rfl rfl rfl rfl <| s1 (y_p rfl) rfl <| s1 (y_p rfl) rfl <| g0 rfl rfl rfl rfl <| g0 rfl rfl rfl rfl <| g0 rfl rfl rfl rfl <| ?_
  refine g0 rfl rfl rfl rfl <| s1 (y_p rfl) rfl <| ?_
  refine at_nil ?_
  refine x_tn ?_
  refine at_then rfl ?_
  refine at_seq ?_
  refine at_region ?_
  refine s1 (y_ownagg (us := _) 0 ti35 rfl rfl rfl rfl) rfl <| ?_
  refine at_op rfl (stw0 (us := [.slice none 0 0]) ti35 rfl rfl rfl rfl rfl rfl ?_)
  refine s1 (y_p rfl) rfl <| ?_
  refine at_nil ?_
  refine x_tn ?_
  refine at_ret ?_
  refine x_tr ?_
  refine at_result (rs := [.cell 4 35, .tmp 5]) rfl (r_cello 0 ti35 rfl rfl rfl (r_tmp rfl r_nil)) fun w1 hG1 => ?_
  rw [answers_size (by omega)]; exact PR.nil w w1 360 (hG1.below (s := w) (.head _) (by simp; omega))

theorem answer_e2 (w : World) (sd : SV) (rd : List SV) (db : List (List UInt8)) (hd : Rows w 0 sd rd db) (sq : SV) (rq : List SV) (ms : List (List UInt8)) (hq : Rows w 0 sq rq ms) (h : 1024 < db.length) : Fn Try.prog 15 #[sd.v, .agg #[sq.v]] w (fun v w' => PR w w' v (answers db ms)) := by
  refine enter Try.func15 rfl Try.ntmps15 (by kernel_rfl) rfl ?_
  refine at_seq ?_
  refine at_region ?_
  refine at_op rfl (n_box (cs := [_]) rfl rfl rfl fun b2 hS2 hH2 => ?_)
  simp only [leAll, ltAll, and_true] at hS2 hH2
  refine at_op rfl (n_box (cs := [sq.v]) rfl rfl rfl fun b3 hS3 hH3 => ?_)
  simp only [leAll, ltAll, and_true] at hS3 hH3
  refine at_op rfl (n_alloc ti35 rfl fun b4 hS4 hH4 => ?_)
  simp only [leAll, ltAll, and_true] at hS4 hH4
  refine s1 (y_p rfl) rfl <| ?_
  refine at_nil ?_
  refine x_tn ?_
  refine at_seq ?_
  refine at_seq ?_
  refine at_region ?_
  have hdn := hd.n
  have hdl := hd.len
  have hqn := hq.n
  have hql := hq.len
  have hdm := Nat.le_trans hd.sl.le hd.sl.max
  have hqm := Nat.le_trans hq.sl.le hq.sl.max
  simp only [maxLen] at hdm hqm
  refine s1 (y_own 2 ti30 rfl rfl rfl) rfl <| s1 (y_len Try.underlying30 rfl rfl) rfl <| s1 ((y_p rfl).v (v' := .bool false) (congrArg Value.bool (decide_eq_false (by omega)))) rfl <| s1 (y_p rfl) rfl <| g1 rfl rfl (y_own 2 ti30 rfl rfl rfl) rfl <| g1 rfl rfl (y_len Try.underlying30 rfl rfl) rfl <| g1 rfl rfl ((y_p rfl).v (v' := .bool true) (congrArg Value.bool (decide_eq_true (by omega)))) rfl <| s1 (y_p rfl) rfl <| s1 (y_p rfl) rfl <| g0 rfl rfl rfl rfl <| g0 rfl rfl rfl rfl <| g0 rfl rfl rfl rfl <| ?_
  refine g0 rfl rfl rfl rfl <| s1 (y_p rfl) rfl <| ?_
  refine at_nil ?_
  refine x_tn ?_
  refine at_then rfl ?_
  refine at_seq ?_
  refine at_region ?_
  refine s1 (y_ownagg (us := _) 0 ti35 rfl rfl rfl rfl) rfl <| ?_
  refine at_op rfl (stw0 (us := [.slice none 0 0]) ti35 rfl rfl rfl rfl rfl rfl ?_)
  refine s1 (y_p rfl) rfl <| ?_
  refine at_nil ?_
  refine x_tn ?_
  refine at_ret ?_
  refine x_tr ?_
  refine at_result (rs := [.cell 4 35, .tmp 5]) rfl (r_cello 0 ti35 rfl rfl rfl (r_tmp rfl r_nil)) fun w1 hG1 => ?_
  rw [answers_size (by omega)]; exact PR.nil w w1 360 (hG1.below (s := w) (.head _) (by simp; omega))

theorem answer_e3 (w : World) (sd : SV) (rd : List SV) (db : List (List UInt8)) (hd : Rows w 0 sd rd db) (sq : SV) (rq : List SV) (ms : List (List UInt8)) (hq : Rows w 0 sq rq ms) (h0 : 1 ≤ db.length) (h1 : db.length ≤ 1024) (h : 132 < ms.length) : Fn Try.prog 15 #[sd.v, .agg #[sq.v]] w (fun v w' => PR w w' v (answers db ms)) := by
  refine enter Try.func15 rfl Try.ntmps15 (by kernel_rfl) rfl ?_
  refine at_seq ?_
  refine at_region ?_
  refine at_op rfl (n_box (cs := [_]) rfl rfl rfl fun b2 hS2 hH2 => ?_)
  simp only [leAll, ltAll, and_true] at hS2 hH2
  refine at_op rfl (n_box (cs := [sq.v]) rfl rfl rfl fun b3 hS3 hH3 => ?_)
  simp only [leAll, ltAll, and_true] at hS3 hH3
  refine at_op rfl (n_alloc ti35 rfl fun b4 hS4 hH4 => ?_)
  simp only [leAll, ltAll, and_true] at hS4 hH4
  refine s1 (y_p rfl) rfl <| ?_
  refine at_nil ?_
  refine x_tn ?_
  refine at_seq ?_
  refine at_seq ?_
  refine at_region ?_
  have hdn := hd.n
  have hdl := hd.len
  have hqn := hq.n
  have hql := hq.len
  have hdm := Nat.le_trans hd.sl.le hd.sl.max
  have hqm := Nat.le_trans hq.sl.le hq.sl.max
  simp only [maxLen] at hdm hqm
  refine s1 (y_own 2 ti30 rfl rfl rfl) rfl <| s1 (y_len Try.underlying30 rfl rfl) rfl <| s1 ((y_p rfl).v (v' := .bool false) (congrArg Value.bool (decide_eq_false (by omega)))) rfl <| s1 (y_p rfl) rfl <| g1 rfl rfl (y_own 2 ti30 rfl rfl rfl) rfl <| g1 rfl rfl (y_len Try.underlying30 rfl rfl) rfl <| g1 rfl rfl ((y_p rfl).v (v' := .bool false) (congrArg Value.bool (decide_eq_false (by omega)))) rfl <| s1 (y_p rfl) rfl <| s1 (y_p rfl) rfl <| g1 rfl rfl (y_fld Try.underlying32 rfl ti30 (by decide) rfl rfl) rfl <| g1 rfl rfl (y_own 1 ti30 rfl rfl rfl) rfl <| g1 rfl rfl (y_len Try.underlying30 rfl rfl) rfl <| ?_
  refine g1 rfl rfl ((y_p rfl).v (v' := .bool true) (congrArg Value.bool (decide_eq_true (by omega)))) rfl <| s1 (y_p rfl) rfl <| ?_
  refine at_nil ?_
  refine x_tn ?_
  refine at_then rfl ?_
  refine at_seq ?_
  refine at_region ?_
  refine s1 (y_ownagg (us := _) 0 ti35 rfl rfl rfl rfl) rfl <| ?_
  refine at_op rfl (stw0 (us := [.slice none 0 0]) ti35 rfl rfl rfl rfl rfl rfl ?_)
  refine s1 (y_p rfl) rfl <| ?_
  refine at_nil ?_
  refine x_tn ?_
  refine at_ret ?_
  refine x_tr ?_
  refine at_result (rs := [.cell 4 35, .tmp 5]) rfl (r_cello 0 ti35 rfl rfl rfl (r_tmp rfl r_nil)) fun w1 hG1 => ?_
  rw [answers_many (by omega)]; exact PR.nil w w1 360 (hG1.below (s := w) (.head _) (by simp; omega))

theorem answer_e4 (w : World) (sd : SV) (rd : List SV) (db : List (List UInt8)) (hd : Rows w 0 sd rd db) (sq : SV) (rq : List SV) (ms : List (List UInt8)) (hq : Rows w 0 sq rq ms) (h0 : 1 ≤ db.length) (h1 : db.length ≤ 1024) (h2 : ms.length ≤ 132) (hlong : (db.any fun l => !(l.length == 16)) = true) : Fn Try.prog 15 #[sd.v, .agg #[sq.v]] w (fun v w' => PR w w' v (answers db ms)) := by
  refine enter Try.func15 rfl Try.ntmps15 (by kernel_rfl) rfl ?_
  refine at_seq ?_
  refine at_region ?_
  refine at_op rfl (n_box (cs := [_]) rfl rfl rfl fun b2 hS2 hH2 => ?_)
  simp only [leAll, ltAll, and_true] at hS2 hH2
  refine at_op rfl (n_box (cs := [sq.v]) rfl rfl rfl fun b3 hS3 hH3 => ?_)
  simp only [leAll, ltAll, and_true] at hS3 hH3
  refine at_op rfl (n_alloc ti35 rfl fun b4 hS4 hH4 => ?_)
  simp only [leAll, ltAll, and_true] at hS4 hH4
  refine s1 (y_p rfl) rfl <| ?_
  refine at_nil ?_
  refine x_tn ?_
  refine at_seq ?_
  refine at_seq ?_
  refine at_region ?_
  have hdn := hd.n
  have hdl := hd.len
  have hqn := hq.n
  have hql := hq.len
  have hdm := Nat.le_trans hd.sl.le hd.sl.max
  have hqm := Nat.le_trans hq.sl.le hq.sl.max
  simp only [maxLen] at hdm hqm
  refine s1 (y_own 2 ti30 rfl rfl rfl) rfl <| s1 (y_len Try.underlying30 rfl rfl) rfl <| s1 ((y_p rfl).v (v' := .bool false) (congrArg Value.bool (decide_eq_false (by omega)))) rfl <| s1 (y_p rfl) rfl <| g1 rfl rfl (y_own 2 ti30 rfl rfl rfl) rfl <| g1 rfl rfl (y_len Try.underlying30 rfl rfl) rfl <| g1 rfl rfl ((y_p rfl).v (v' := .bool false) (congrArg Value.bool (decide_eq_false (by omega)))) rfl <| s1 (y_p rfl) rfl <| s1 (y_p rfl) rfl <| g1 rfl rfl (y_fld Try.underlying32 rfl ti30 (by decide) rfl rfl) rfl <| g1 rfl rfl (y_own 1 ti30 rfl rfl rfl) rfl <| g1 rfl rfl (y_len Try.underlying30 rfl rfl) rfl <| ?_
  refine g1 rfl rfl ((y_p rfl).v (v' := .bool false) (congrArg Value.bool (decide_eq_false (by omega)))) rfl <| s1 (y_p rfl) rfl <| ?_
  refine at_nil ?_
  refine x_tn ?_
  refine at_else rfl ?_
  refine at_skip ?_
  refine x_tn ?_
  refine at_seq ?_
  refine at_seq ?_
  refine at_region ?_
  refine s1 (y_own 2 ti30 rfl rfl rfl) rfl <| ?_
  refine at_op rfl (n_call rfl rfl fun w28 hG28 => Fn.mono (containsf_ok w28 sd rd db (hG28.rows (.head _) hd (by simp; omega)) 31 #[] #[] (fun l => !(l.length == 16)) (fun w1 r l _ _ hb => (long_ok w1 r l hb).args (by simp))) ?_)
  rintro _ w29 ⟨rfl, hB28⟩
  rw [hlong]
  refine at_in (hG28.ext hB28) ?_
  refine s1 (y_p rfl) rfl <| g0 rfl rfl rfl rfl <| g0 rfl rfl rfl rfl <| g0 rfl rfl rfl rfl <| g0 rfl rfl rfl rfl <| s1 (y_p rfl) rfl <| ?_
  refine at_nil ?_
  refine x_tn ?_
  refine at_then rfl ?_
  refine at_seq ?_
  refine at_region ?_
  refine s1 (y_ownagg (us := _) 0 ti35 rfl rfl rfl rfl) rfl <| ?_
  refine at_op rfl (stw0 (us := [.slice none 0 0]) ti35 rfl rfl rfl rfl rfl rfl ?_)
  refine s1 (y_p rfl) rfl <| ?_
  refine at_nil ?_
  refine x_tn ?_
  refine at_ret ?_
  refine x_tr ?_
  refine at_result (rs := [.cell 4 35, .tmp 5]) rfl (r_cello 0 ti35 rfl rfl rfl (r_tmp rfl r_nil)) fun w1 hG1 => ?_
  rw [answers_len hlong]; exact PR.nil w w1 360 (hG1.below (s := w) (.head _) (by simp; omega))

theorem answer_e5 (w : World) (sd : SV) (rd : List SV) (db : List (List UInt8)) (hd : Rows w 0 sd rd db) (sq : SV) (rq : List SV) (ms : List (List UInt8)) (hq : Rows w 0 sq rq ms) (h0 : 1 ≤ db.length) (h1 : db.length ≤ 1024) (h2 : ms.length ≤ 132) (hlong : (db.any fun l => !(l.length == 16)) = false) (halien : (ms.any fun l => !(masked db.length l)) = true) : Fn Try.prog 15 #[sd.v, .agg #[sq.v]] w (fun v w' => PR w w' v (answers db ms)) := by
  refine enter Try.func15 rfl Try.ntmps15 (by kernel_rfl) rfl ?_
  refine at_seq ?_
  refine at_region ?_
  refine at_op rfl (n_box (cs := [_]) rfl rfl rfl fun b2 hS2 hH2 => ?_)
  simp only [leAll, ltAll, and_true] at hS2 hH2
  refine at_op rfl (n_box (cs := [sq.v]) rfl rfl rfl fun b3 hS3 hH3 => ?_)
  simp only [leAll, ltAll, and_true] at hS3 hH3
  refine at_op rfl (n_alloc ti35 rfl fun b4 hS4 hH4 => ?_)
  simp only [leAll, ltAll, and_true] at hS4 hH4
  refine s1 (y_p rfl) rfl <| ?_
  refine at_nil ?_
  refine x_tn ?_
  refine at_seq ?_
  refine at_seq ?_
  refine at_region ?_
  have hdn := hd.n
  have hdl := hd.len
  have hqn := hq.n
  have hql := hq.len
  have hdm := Nat.le_trans hd.sl.le hd.sl.max
  have hqm := Nat.le_trans hq.sl.le hq.sl.max
  simp only [maxLen] at hdm hqm
  refine s1 (y_own 2 ti30 rfl rfl rfl) rfl <| s1 (y_len Try.underlying30 rfl rfl) rfl <| s1 ((y_p rfl).v (v' := .bool false) (congrArg Value.bool (decide_eq_false (by omega)))) rfl <| s1 (y_p rfl) rfl <| g1 rfl rfl (y_own 2 ti30 rfl rfl rfl) rfl <| g1 rfl rfl (y_len Try.underlying30 rfl rfl) rfl <| g1 rfl rfl ((y_p rfl).v (v' := .bool false) (congrArg Value.bool (decide_eq_false (by omega)))) rfl <| s1 (y_p rfl) rfl <| s1 (y_p rfl) rfl <| g1 rfl rfl (y_fld Try.underlying32 rfl ti30 (by decide) rfl rfl) rfl <| g1 rfl rfl (y_own 1 ti30 rfl rfl rfl) rfl <| g1 rfl rfl (y_len Try.underlying30 rfl rfl) rfl <| ?_
  refine g1 rfl rfl ((y_p rfl).v (v' := .bool false) (congrArg Value.bool (decide_eq_false (by omega)))) rfl <| s1 (y_p rfl) rfl <| ?_
  refine at_nil ?_
  refine x_tn ?_
  refine at_else rfl ?_
  refine at_skip ?_
  refine x_tn ?_
  refine at_seq ?_
  refine at_seq ?_
  refine at_region ?_
  refine s1 (y_own 2 ti30 rfl rfl rfl) rfl <| ?_
  refine at_op rfl (n_call rfl rfl fun w28 hG28 => Fn.mono (containsf_ok w28 sd rd db (hG28.rows (.head _) hd (by simp; omega)) 31 #[] #[] (fun l => !(l.length == 16)) (fun w1 r l _ _ hb => (long_ok w1 r l hb).args (by simp))) ?_)
  rintro _ w29 ⟨rfl, hB28⟩
  rw [hlong]
  refine at_in (hG28.ext hB28) ?_
  refine s1 (y_p rfl) rfl <| g1 rfl rfl (y_fld Try.underlying32 rfl ti30 (by decide) rfl rfl) rfl <| g1 rfl rfl (y_own 1 ti30 rfl rfl rfl) rfl <| g1 rfl rfl (y_func rfl rfl) rfl <| ?_
  refine at_opg rfl rfl rfl (n_call rfl rfl fun w33 hG33 => Fn.mono (containsf_ok w33 sq rq ms (hG33.rows (.head _) hq (by simp; omega)) 32 #[] #[.pointer (some ⟨b2, 0, none⟩)] (fun l => !(masked sd.n l)) (fun w1 r l hB _ hb => (alien_ok w1 r l hb b2 sd (cell_row ((hB.block _ (hG33.ownlt (p := (b2, _)) (.tail _ (.tail _ (.head _))))).trans (hG33.block 2 rfl)) rfl)).args (by simp))) ?_)
  rintro _ w34 ⟨rfl, hB33⟩
  rw [hdn, hdl, halien]
  refine at_in (hG33.ext hB33) ?_
  refine s1 (y_p rfl) rfl <| ?_
  refine at_nil ?_
  refine x_tn ?_
  refine at_then rfl ?_
  refine at_seq ?_
  refine at_region ?_
  refine s1 (y_ownagg (us := _) 0 ti35 rfl rfl rfl rfl) rfl <| ?_
  refine at_op rfl (stw0 (us := [.slice none 0 0]) ti35 rfl rfl rfl rfl rfl rfl ?_)
  refine s1 (y_p rfl) rfl <| ?_
  refine at_nil ?_
  refine x_tn ?_
  refine at_ret ?_
  refine x_tr ?_
  refine at_result (rs := [.cell 4 35, .tmp 5]) rfl (r_cello 0 ti35 rfl rfl rfl (r_tmp rfl r_nil)) fun w1 hG1 => ?_
  rw [answers_alien halien]; exact PR.nil w w1 360 (hG1.below (s := w) (.head _) (by simp; omega))

theorem answer_in (w : World) (sd : SV) (rd : List SV) (db : List (List UInt8)) (hd : Rows w 0 sd rd db) (sq : SV) (rq : List SV) (ms : List (List UInt8)) (hq : Rows w 0 sq rq ms) (h0 : 1 ≤ db.length) (h1 : db.length ≤ 1024) (h2 : ms.length ≤ 132) (hlong : (db.any fun l => !(l.length == 16)) = false) (halien : (ms.any fun l => !(masked db.length l)) = false) : Fn Try.prog 15 #[sd.v, .agg #[sq.v]] w (fun v w' => PR w w' v (answers db ms)) := by
  refine enter Try.func15 rfl Try.ntmps15 (by kernel_rfl) rfl ?_
  refine at_seq ?_
  refine at_region ?_
  refine at_op rfl (n_box (cs := [_]) rfl rfl rfl fun b2 hS2 hH2 => ?_)
  simp only [leAll, ltAll, and_true] at hS2 hH2
  refine at_op rfl (n_box (cs := [sq.v]) rfl rfl rfl fun b3 hS3 hH3 => ?_)
  simp only [leAll, ltAll, and_true] at hS3 hH3
  refine at_op rfl (n_alloc ti35 rfl fun b4 hS4 hH4 => ?_)
  simp only [leAll, ltAll, and_true] at hS4 hH4
  refine s1 (y_p rfl) rfl <| ?_
  refine at_nil ?_
  refine x_tn ?_
  refine at_seq ?_
  refine at_seq ?_
  refine at_region ?_
  have hdn := hd.n
  have hdl := hd.len
  have hqn := hq.n
  have hql := hq.len
  have hdm := Nat.le_trans hd.sl.le hd.sl.max
  have hqm := Nat.le_trans hq.sl.le hq.sl.max
  simp only [maxLen] at hdm hqm
  refine s1 (y_own 2 ti30 rfl rfl rfl) rfl <| s1 (y_len Try.underlying30 rfl rfl) rfl <| s1 ((y_p rfl).v (v' := .bool false) (congrArg Value.bool (decide_eq_false (by omega)))) rfl <| s1 (y_p rfl) rfl <| g1 rfl rfl (y_own 2 ti30 rfl rfl rfl) rfl <| g1 rfl rfl (y_len Try.underlying30 rfl rfl) rfl <| g1 rfl rfl ((y_p rfl).v (v' := .bool false) (congrArg Value.bool (decide_eq_false (by omega)))) rfl <| s1 (y_p rfl) rfl <| s1 (y_p rfl) rfl <| g1 rfl rfl (y_fld Try.underlying32 rfl ti30 (by decide) rfl rfl) rfl <| g1 rfl rfl (y_own 1 ti30 rfl rfl rfl) rfl <| g1 rfl rfl (y_len Try.underlying30 rfl rfl) rfl <| ?_
  refine g1 rfl rfl ((y_p rfl).v (v' := .bool false) (congrArg Value.bool (decide_eq_false (by omega)))) rfl <| s1 (y_p rfl) rfl <| ?_
  refine at_nil ?_
  refine x_tn ?_
  refine at_else rfl ?_
  refine at_skip ?_
  refine x_tn ?_
  refine at_seq ?_
  refine at_seq ?_
  refine at_region ?_
  refine s1 (y_own 2 ti30 rfl rfl rfl) rfl <| ?_
  refine at_op rfl (n_call rfl rfl fun w28 hG28 => Fn.mono (containsf_ok w28 sd rd db (hG28.rows (.head _) hd (by simp; omega)) 31 #[] #[] (fun l => !(l.length == 16)) (fun w1 r l _ _ hb => (long_ok w1 r l hb).args (by simp))) ?_)
  rintro _ w29 ⟨rfl, hB28⟩
  rw [hlong]
  refine at_in (hG28.ext hB28) ?_
  refine s1 (y_p rfl) rfl <| g1 rfl rfl (y_fld Try.underlying32 rfl ti30 (by decide) rfl rfl) rfl <| g1 rfl rfl (y_own 1 ti30 rfl rfl rfl) rfl <| g1 rfl rfl (y_func rfl rfl) rfl <| ?_
  refine at_opg rfl rfl rfl (n_call rfl rfl fun w33 hG33 => Fn.mono (containsf_ok w33 sq rq ms (hG33.rows (.head _) hq (by simp; omega)) 32 #[] #[.pointer (some ⟨b2, 0, none⟩)] (fun l => !(masked sd.n l)) (fun w1 r l hB _ hb => (alien_ok w1 r l hb b2 sd (cell_row ((hB.block _ (hG33.ownlt (p := (b2, _)) (.tail _ (.tail _ (.head _))))).trans (hG33.block 2 rfl)) rfl)).args (by simp))) ?_)
  rintro _ w34 ⟨rfl, hB33⟩
  rw [hdn, hdl, halien]
  refine at_in (hG33.ext hB33) ?_
  refine s1 (y_p rfl) rfl <| ?_
  refine at_nil ?_
  refine x_tn ?_
  refine at_else rfl ?_
  refine at_skip ?_
  refine x_tn ?_
  refine at_seq ?_
  refine at_seq ?_
  refine at_region ?_
  have hdb := any_len hlong
  refine s1 (y_fld Try.underlying32 rfl ti30 (by decide) rfl rfl) rfl <| s1 (y_own 1 ti30 rfl rfl rfl) rfl <| s1 (y_len Try.underlying30 rfl rfl) rfl <| s1 (y_p rfl) rfl <| ?_
  refine at_nil ?_
  refine x_tn ?_
  refine at_block ?_
  refine at_loop (ι := AnsSt) (fun ⟨u, a1, c1, x1, r1, k⟩ => [(2, .pointer (some ⟨b2, 0, none⟩)), (4, .pointer (some ⟨b4, 0, none⟩)), (37, sq.v), (38, .int .i64 (sq.n : Nat)), (39, .int .i64 (k : Nat))]) (fun ⟨u, a1, c1, x1, r1, k⟩ => [u, w]) (fun ⟨u, a1, c1, x1, r1, k⟩ => (b4, row 35 [.slice a1 k c1]) :: (b3, row 32 [sq.v]) :: (b2, row 30 [sd.v]) :: (ownS 22 a1 x1 ++ [])) (fun ⟨u, a1, c1, x1, r1, k⟩ => k ≤ ms.length ∧ Fam ((b4, row 35 [.slice a1 k c1]) :: (b3, row 32 [sq.v]) :: (b2, row 30 [sd.v]) :: (ownS 22 a1 x1 ++ [])) u r1 ((ms.take k).map (answer db)) ∧ OS 1 a1 k c1 x1 (r1.map SV.v) ∧ (∀ x, a1 = some x → w.heap.size ≤ x.block)) (fun ⟨u, a1, c1, x1, r1, k⟩ => ms.length - k) ?_ ?_
  · exact at_exw fun u hG => ⟨⟨u, none, 0, [], [], 0⟩, ⟨Nat.zero_le _, Fam.nil _ u, OS.nilv 1 [], (fun x h => by cases h)⟩, ⟨rfl, rfl, rfl, rfl, rfl, trivial⟩, hG.now⟩
  rintro ⟨u, a1, c1, x1, r1, k⟩ ⟨hk0, hf1, ho1, hl1⟩
  dsimp only
  have old : ∀ (b : Nat) (p : Nat × Obj), b < w.heap.size → p ∈ ((b4, row 35 [.slice a1 k c1]) :: (b3, row 32 [sq.v]) :: (b2, row 30 [sd.v]) :: (ownS 22 a1 x1 ++ []) : List (Nat × Obj)) → p.1 ≠ b := by
    intro b p hlt hp e
    simp only [List.mem_cons, List.mem_append, List.not_mem_nil, or_false] at hp
    rcases hp with rfl | rfl | rfl | hp
    · simp only at e; omega
    · simp only at e; omega
    · simp only at e; omega
    · obtain ⟨x, hx, rfl⟩ := mem_ownS hp; have := hl1 x hx; simp only at e; omega
  refine at_seq ?_
  refine at_region ?_
  refine s1 (y_p rfl) rfl <| ?_
  refine at_nil ?_
  refine x_tn ?_
  refine at_seq ?_
  refine at_cond rfl (fun hc40 => ?_) (fun hc40 => ?_)
  · have hk : k < ms.length := by have := of_decide_eq_true hc40; omega
    obtain ⟨r, hr, hb⟩ := hq.get hk
    have hrn := hb.1
    have hml := masked_len (any_masked halien hk)
    refine at_skip ?_
    refine x_tn ?_
    refine at_seq ?_
    refine at_block ?_
    refine at_seq ?_
    refine at_region ?_
    refine s1 (y_idx1 k Try.underlying30 ti22 rfl rfl rfl (by omega) (hq.sl.addr (by omega))) rfl <| s1 (y_load ti22 rfl (fun w1 hG1 => hG1.cell (.tail _ (.head _)) (hq.cell hr) fun p hp => old _ p (World.block_lt_of_cell? _ _ (hq.cell hr)) hp)) rfl <| s1 (y_p rfl) rfl <| ?_
    refine at_nil ?_
    refine x_tn ?_
    refine at_seq ?_
    refine at_region ?_
    refine s1 (y_p rfl) rfl <| ?_
    refine at_op rfl (n_alloc ti51 rfl fun b8 hS8 hH8 => ?_)
    simp only [leAll, ltAll, and_true] at hS8 hH8
    refine at_op rfl (stv0 ti51 rfl rfl rfl ?_)
    refine at_nil ?_
    refine x_tn ?_
    refine at_seq ?_
    refine at_region ?_
    refine at_op rfl (n_make 16 16 Try.underlying22 ti5 rfl rfl rfl rfl (by omega) (by omega) (by omega) rfl fun b44 hS44 hH44 => ?_)
    simp only [leAll, ltAll, and_true] at hS44 hH44
    refine s1 (y_func rfl rfl) rfl <| s1 (y_p rfl) rfl <| s1 (y_p rfl) rfl <| ?_
    refine at_nil ?_
    refine x_tn ?_
    refine at_seq ?_
    refine at_seq ?_
    refine at_region ?_
    refine s1 (y_own 4 ti30 rfl rfl rfl) rfl <| s1 (y_len Try.underlying30 rfl rfl) rfl <| s1 (y_p rfl) rfl <| ?_
    refine at_nil ?_
    refine x_tn ?_
    refine at_block ?_
    refine at_loop (ι := Nat) (fun n => [(2, .pointer (some ⟨b2, 0, none⟩)), (4, .pointer (some ⟨b4, 0, none⟩)), (9, .slice (some ⟨b44, 0, none⟩) 16 16), (10, .func (.func 34) #[.pointer (some ⟨b8, 0, none⟩)] #[]), (37, sq.v), (38, .int .i64 (sq.n : Nat)), (39, .int .i64 (k : Nat)), (47, .int .i64 (sd.n : Nat)), (48, .int .i64 (n : Nat))]) (fun n => [u, w]) (fun n => (b44, row 5 ((answerTo db (ms.getD k []) n).map B ++ [])) :: (b8, row 51 [r.v]) :: (b4, row 35 [.slice a1 k c1]) :: (b3, row 32 [sq.v]) :: (b2, row 30 [sd.v]) :: (ownS 22 a1 x1 ++ [])) (fun n => n ≤ db.length) (fun n => db.length - n) ?_ ?_
    · exact at_ex 0 (Nat.zero_le _) ⟨rfl, rfl, rfl, rfl, rfl, rfl, rfl, rfl, rfl, trivial⟩ (fun _ h => h)
    intro n hn0
    have hlen := len_answerTo hdb (ms.getD k []) n hn0
    have old2 : ∀ (b : Nat) (p : Nat × Obj), b < w.heap.size → p ∈ ((b44, row 5 ((answerTo db (ms.getD k []) n).map B ++ [])) :: (b8, row 51 [r.v]) :: (b4, row 35 [.slice a1 k c1]) :: (b3, row 32 [sq.v]) :: (b2, row 30 [sd.v]) :: (ownS 22 a1 x1 ++ []) : List (Nat × Obj)) → p.1 ≠ b := by
      intro b p hlt hp e
      simp only [List.mem_cons, List.mem_append, List.not_mem_nil, or_false] at hp
      rcases hp with rfl | rfl | rfl | rfl | rfl | hp
      · simp only at e; omega
      · simp only at e; omega
      · simp only at e; omega
      · simp only at e; omega
      · simp only at e; omega
      · obtain ⟨x, hx, rfl⟩ := mem_ownS hp; have := hl1 x hx; simp only at e; omega
    refine at_seq ?_
    refine at_region ?_
    refine s1 (y_p rfl) rfl <| ?_
    refine at_nil ?_
    refine x_tn ?_
    refine at_seq ?_
    refine at_cond rfl (fun hc49 => ?_) (fun hc49 => ?_)
    · have hn : n < db.length := by have := of_decide_eq_true hc49; omega
      obtain ⟨rb, hrb, hbn⟩ := hd.get hn
      have hrbn := hbn.1
      have hb16 : (db.getD n []).length = 16 := hdb _ (by simp [List.getD, hn])
      refine at_skip ?_
      refine x_tn ?_
      refine at_seq ?_
      refine at_block ?_
      refine at_seq ?_
      refine at_region ?_
      refine s1 (y_p rfl) rfl <| s1 (y_p rfl) rfl <| ?_
      refine at_nil ?_
      refine x_tn ?_
      refine at_seq ?_
      refine at_region ?_
      refine s1 (y_p rfl) rfl <| s1 (y_p rfl) rfl <| ?_
      refine at_op rfl (n_callv rfl rfl rfl fun w53 hG53 => Fn.mono ((chooses_ok w53 b8 r (ms.getD k []) (cell_row (hG53.block 1 rfl) rfl) (hb.move fun hlt => (hG53.snap w (.tail _ (.head _))).blk _ hlt fun p hp => old2 _ p hlt hp) n (by omega) (by omega)).args (by simp)) ?_)
      rintro _ w54 ⟨rfl, hB53⟩
      refine at_in (hG53.ext hB53) ?_
      refine at_nil ?_
      refine x_tn ?_
      refine at_cond rfl (fun hc53 => ?_) (fun hc53 => ?_)
      · skip
        refine at_region ?_
        refine s1 (y_p rfl) rfl <| s1 (y_own 4 ti30 rfl rfl rfl) rfl <| s1 (y_p rfl) rfl <| s1 (y_idx1 n Try.underlying30 ti22 rfl rfl rfl (by omega) (hd.sl.addr (by omega))) rfl <| s1 (y_load ti22 rfl (fun w1 hG1 => hG1.cell (.tail _ (.head _)) (hd.cell hrb) fun p hp => old2 _ p (World.block_lt_of_cell? _ _ (hd.cell hrb)) hp)) rfl <| ?_
        refine at_op rfl (n_bs1 [_] Try.underlying30 ti22 rfl rfl rfl rfl rfl rfl fun b59 hS59 hH59 => ?_)
        simp only [leAll, ltAll, and_true] at hS59 hH59
        refine at_op rfl (n_call rfl rfl fun w60 hG60 => Fn.mono (add_ok w60 b44 16 16 (answerTo db (ms.getD k []) n) [] ⟨some ⟨b59, 0, none⟩, 1, 1⟩ [rb] [db.getD n []] (hG60.block 1 rfl) hlen.symm ((RowF.snoc (RowF.nil w60) (hbn.move fun hlt => (hG60.snap w (.tail _ (.head _))).blk _ hlt fun p hp => by rcases List.mem_cons.1 hp with rfl | hp; (simp only; omega); exact old2 _ p hlt hp)).rows rfl (hG60.lit1 0 rfl)) (by show b44 ≠ b59; omega) (by intro r hr; simp only [List.mem_singleton] at hr; subst hr; have := bytes_lt hbn (by omega); omega) (by intro b hb; simp only [List.mem_singleton] at hb; subst hb; omega) (by simp [maxLen])) ?_)
        rintro _ w61 ⟨rfl, hg', hM⟩
        refine at_in (hG60.upd 1 rfl hM hg') ?_
        refine at_nil ?_
        refine x_bn ?_
        refine x_tn ?_
        refine at_region ?_
        refine s1 (addN n 1 rfl rfl rfl rfl (by omega)) rfl <| s1 (y_p rfl) rfl <| ?_
        refine at_nil ?_
        exact at_endw (x := n) fun w3 hG3 => ⟨n + 1, (by omega), (by omega), ⟨rfl, rfl, rfl, rfl, rfl, rfl, rfl, rfl, rfl, trivial⟩, by rw [answerTo_succ, if_pos hc53]; exact hG3.drop1 (by simp [hS59])⟩
      · skip
        refine at_skip ?_
        refine x_bn ?_
        refine x_tn ?_
        refine at_region ?_
        refine s1 (addN n 1 rfl rfl rfl rfl (by omega)) rfl <| s1 (y_p rfl) rfl <| ?_
        refine at_nil ?_
        exact at_end (n + 1) (by omega) (by omega) ⟨rfl, rfl, rfl, rfl, rfl, rfl, rfl, rfl, rfl, trivial⟩ (fun _ h => by rw [answerTo_succ, if_neg (by rw [hc53]; simp)]; exact h)
    · have hn : n = db.length := by have := of_decide_eq_false hc49; omega
      subst hn
      refine at_exit ?_
      refine x_te ?_
      refine x_te ?_
      refine x_be ?_
      refine x_tn ?_
      refine at_region ?_
      refine s1 (y_fld Try.underlying35 rfl ti30 (by decide) rfl rfl) rfl <| s1 (y_own 2 ti30 rfl rfl rfl) rfl <| s1 (y_p rfl) rfl <| ?_
      refine at_op rfl (n_bs1 [_] Try.underlying30 ti22 rfl rfl rfl rfl rfl rfl fun b65 hS65 hH65 => ?_)
      simp only [leAll, ltAll, and_true] at hS65 hH65
      refine at_op rfl (n_app [_, _, _, _, _, _] [] [w] (cells := x1) (xs := r1.map SV.v) Try.underlying30 ti22 rfl rfl rfl ho1 ?_ (fun w1 hG1 => hG1.lit1 0 rfl) (by simp [Value.oneCell']) ?_ ?_ rfl rfl fun wA hGA a1' c1' x1' hOS1 hn1 => ?_)
      · intro s hs; simp only [List.mem_singleton] at hs; subst hs; exact ⟨by simp, hl1⟩
      · simp only [maxLen]; omega
      · omega
      have m1 := hf1.step hGA (.head _) (Ks.new hS65.1 (.new hS44.1 (.new hS8.1 (Ks.refl _ _))))
      have hsA := (hGA.snap w (by simp)).size
      refine s1 (y_fld Try.underlying35 rfl ti30 (by decide) rfl rfl) rfl <| ?_
      refine at_op rfl (stv3 ti30 rfl rfl rfl ?_)
      refine at_nil ?_
      refine x_bn ?_
      refine x_tn ?_
      refine at_region ?_
      refine s1 (addN k 1 rfl rfl rfl rfl (by omega)) rfl <| s1 (y_p rfl) rfl <| ?_
      refine at_nil ?_
      refine at_endw (x := (⟨u, a1, c1, x1, r1, k⟩ : AnsSt)) fun w3 hG3 => ?_
      have q1 := m1.step hG3 (.head _) (.cons (.cons (.cons (.cons (.cons (.cons (Ks.own hn1 (Nat.le_refl _) .nil)))))))
      have hG4 : Good [w] ((b44, row 5 ((answer db (ms.getD k [])).map B ++ [])) :: (b4, row 35 [.slice a1' (k + 1) c1']) :: (b3, row 32 [sq.v]) :: (b2, row 30 [sd.v]) :: (ownS 22 a1' x1' ++ [])) w3 := Good.forget hG3 (by simp) (.cons _ (.cons_cons _ (.cons _ (List.Sublist.refl _)))) (by
        intro s hs p hp hnp
        simp only [List.mem_singleton] at hs; subst hs
        rcases List.mem_cons.1 hp with rfl | hp
        · exact hS65.2
        rcases List.mem_cons.1 hp with rfl | hp
        · exact absurd (.head _) hnp
        rcases List.mem_cons.1 hp with rfl | hp
        · exact hS8.2
        exact absurd (.tail _ hp) hnp)
      have hla := len_answer hdb (ms.getD k [])
      have q2 := (q1.sub (H' := (b4, row 35 [.slice a1' (k + 1) c1']) :: (b3, row 32 [sq.v]) :: (b2, row 30 [sd.v]) :: (ownS 22 a1' x1' ++ [])) (.cons _ (.cons _ (.cons _ (List.Sublist.refl _))))).bear (cap := 16) hG4 (by omega) (by simp [maxLen])
      rw [hla] at q2
      exact ⟨⟨w3, a1', c1', x1', r1 ++ [⟨some ⟨b44, 0, none⟩, 16, 16⟩], k + 1⟩, ⟨hk, by rw [take_map_next _ _ _ hk]; exact q2, by rw [List.map_append]; exact hOS1, app_lo hn1 hl1 hsA⟩, (show ms.length - (k + 1) < ms.length - k by omega), ⟨rfl, rfl, rfl, rfl, rfl, trivial⟩, (hG4.drop1 (by simp [hS44])).now⟩
  · have hk : k = ms.length := by have := of_decide_eq_false hc40; omega
    subst hk
    refine at_exit ?_
    refine x_te ?_
    refine x_te ?_
    refine x_be ?_
    refine x_tn ?_
    refine at_seq ?_
    refine at_region ?_
    refine s1 (y_ownagg (us := _) 0 ti35 rfl rfl rfl rfl) rfl <| ?_
    refine at_op rfl (stw0 (us := [.slice a1 ms.length c1]) ti35 rfl rfl rfl rfl rfl rfl ?_)
    refine s1 (y_p rfl) rfl <| ?_
    refine at_nil ?_
    refine x_tn ?_
    refine at_ret ?_
    refine at_result (rs := [.cell 4 35, .tmp 5]) rfl (r_cello 0 ti35 rfl rfl rfl (r_tmp rfl r_nil)) fun w1 hG1 => ?_
    rw [answers_yes h0 h1 hdb h2 halien]
    rw [List.take_length] at hf1
    have q1 := hf1.step hG1 (.head _) (Ks.refl _ _)
    refine ⟨⟨a1, ms.length, c1⟩, r1, rfl, q1.out (e := 22) ho1 (fun p hp => hG1.own p (by simp [hp])), hG1.below (.tail _ (.head _)) (by
      intro p hp
      simp only [List.mem_cons, List.mem_append, List.not_mem_nil, or_false] at hp
      rcases hp with rfl | rfl | rfl | hp
      · simp only; omega
      · simp only; omega
      · simp only; omega
      · obtain ⟨x, hx, rfl⟩ := mem_ownS hp; exact hl1 x hx)⟩

theorem answer_ok (w : World) (sd : SV) (rd : List SV) (db : List (List UInt8)) (hd : Rows w 0 sd rd db) (sq : SV) (rq : List SV) (ms : List (List UInt8)) (hq : Rows w 0 sq rq ms) : Fn Try.prog 15 #[sd.v, .agg #[sq.v]] w (fun v w' => PR w w' v (answers db ms)) := by
  by_cases h0 : db.length < 1
  · exact answer_e1 w sd rd db hd sq rq ms hq h0
  by_cases h1 : 1024 < db.length
  · exact answer_e2 w sd rd db hd sq rq ms hq h1
  by_cases h2 : 132 < ms.length
  · exact answer_e3 w sd rd db hd sq rq ms hq (by omega) (by omega) h2
  cases hlong : db.any fun l => !(l.length == 16) with
  | true => exact answer_e4 w sd rd db hd sq rq ms hq (by omega) (by omega) (by omega) hlong
  | false =>
    cases halien : ms.any fun l => !(masked db.length l) with
    | true => exact answer_e5 w sd rd db hd sq rq ms hq (by omega) (by omega) (by omega) hlong halien
    | false => exact answer_in w sd rd db hd sq rq ms hq (by omega) (by omega) (by omega) hlong halien

theorem ranswer_e1 (w : World) (sd : SV) (rd : List SV) (db : List (List UInt8)) (hd : Rows w 0 sd rd db) (sq : SV) (rq : List SV) (ms : List (List UInt8)) (hq : Rows w 0 sq rq ms) (hdb : database db = false) : Fn Try.prog 16 #[sd.v, .agg #[sq.v]] w (fun v w' => PR w w' v (answers db ms)) := by
  refine enter Try.func16 rfl Try.ntmps16 (by kernel_rfl) rfl ?_
  refine at_seq ?_
  refine at_region ?_
  refine at_op rfl (n_box (cs := [sq.v]) rfl rfl rfl fun b3 hS3 hH3 => ?_)
  simp only [leAll, ltAll, and_true] at hS3 hH3
  refine at_op rfl (n_alloc ti35 rfl fun b4 hS4 hH4 => ?_)
  simp only [leAll, ltAll, and_true] at hS4 hH4
  refine s1 (y_p rfl) rfl <| ?_
  refine at_nil ?_
  refine x_tn ?_
  refine at_seq ?_
  refine at_seq ?_
  refine at_region ?_
  have hdn := hd.n
  have hdl := hd.len
  have hqn := hq.n
  have hql := hq.len
  have hdm := Nat.le_trans hd.sl.le hd.sl.max
  have hqm := Nat.le_trans hq.sl.le hq.sl.max
  simp only [maxLen] at hdm hqm
  refine s1 (y_p rfl) rfl <| ?_
  refine at_op rfl (n_call rfl rfl fun w11 hG11 => Fn.mono (database_ok w11 sd rd db (hG11.rows (.head _) hd (by simp; omega))) ?_)
  rintro _ w12 ⟨rfl, hB11⟩
  rw [hdb]
  refine at_in (hG11.ext hB11) ?_
  refine s1 (y_p rfl) rfl <| s1 (y_p rfl) rfl <| g0 rfl rfl rfl rfl <| g0 rfl rfl rfl rfl <| g0 rfl rfl rfl rfl <| g0 rfl rfl rfl rfl <| s1 (y_p rfl) rfl <| ?_
  refine at_nil ?_
  refine x_tn ?_
  refine at_then rfl ?_
  refine at_seq ?_
  refine at_region ?_
  refine s1 (y_build0 ti35 Try.underlying35 rfl) rfl <| ?_
  refine at_op rfl (stw0 (us := [.slice none 0 0]) ti35 rfl rfl rfl rfl rfl rfl ?_)
  refine s1 (y_p rfl) rfl <| ?_
  refine at_nil ?_
  refine x_tn ?_
  refine at_ret ?_
  refine x_tr ?_
  refine at_result (rs := [.cell 4 35, .tmp 5]) rfl (r_cello 0 ti35 rfl rfl rfl (r_tmp rfl r_nil)) fun w1 hG1 => ?_
  rw [answers_db hdb]; exact PR.nil w w1 360 (hG1.below (s := w) (.head _) (by simp; omega))

theorem ranswer_e2 (w : World) (sd : SV) (rd : List SV) (db : List (List UInt8)) (hd : Rows w 0 sd rd db) (sq : SV) (rq : List SV) (ms : List (List UInt8)) (hq : Rows w 0 sq rq ms) (hdb : database db = true) (h : 132 < ms.length) : Fn Try.prog 16 #[sd.v, .agg #[sq.v]] w (fun v w' => PR w w' v (answers db ms)) := by
  refine enter Try.func16 rfl Try.ntmps16 (by kernel_rfl) rfl ?_
  refine at_seq ?_
  refine at_region ?_
  refine at_op rfl (n_box (cs := [sq.v]) rfl rfl rfl fun b3 hS3 hH3 => ?_)
  simp only [leAll, ltAll, and_true] at hS3 hH3
  refine at_op rfl (n_alloc ti35 rfl fun b4 hS4 hH4 => ?_)
  simp only [leAll, ltAll, and_true] at hS4 hH4
  refine s1 (y_p rfl) rfl <| ?_
  refine at_nil ?_
  refine x_tn ?_
  refine at_seq ?_
  refine at_seq ?_
  refine at_region ?_
  have hdn := hd.n
  have hdl := hd.len
  have hqn := hq.n
  have hql := hq.len
  have hdm := Nat.le_trans hd.sl.le hd.sl.max
  have hqm := Nat.le_trans hq.sl.le hq.sl.max
  simp only [maxLen] at hdm hqm
  refine s1 (y_p rfl) rfl <| ?_
  refine at_op rfl (n_call rfl rfl fun w11 hG11 => Fn.mono (database_ok w11 sd rd db (hG11.rows (.head _) hd (by simp; omega))) ?_)
  rintro _ w12 ⟨rfl, hB11⟩
  rw [hdb]
  refine at_in (hG11.ext hB11) ?_
  refine s1 (y_p rfl) rfl <| s1 (y_p rfl) rfl <| g1 rfl rfl (y_fld Try.underlying32 rfl ti30 (by decide) rfl rfl) rfl <| g1 rfl rfl (y_own 1 ti30 rfl rfl rfl) rfl <| g1 rfl rfl (y_len Try.underlying30 rfl rfl) rfl <| g1 rfl rfl ((y_p rfl).v (v' := .bool true) (congrArg Value.bool (decide_eq_true (by omega)))) rfl <| s1 (y_p rfl) rfl <| ?_
  refine at_nil ?_
  refine x_tn ?_
  refine at_then rfl ?_
  refine at_seq ?_
  refine at_region ?_
  refine s1 (y_build0 ti35 Try.underlying35 rfl) rfl <| ?_
  refine at_op rfl (stw0 (us := [.slice none 0 0]) ti35 rfl rfl rfl rfl rfl rfl ?_)
  refine s1 (y_p rfl) rfl <| ?_
  refine at_nil ?_
  refine x_tn ?_
  refine at_ret ?_
  refine x_tr ?_
  refine at_result (rs := [.cell 4 35, .tmp 5]) rfl (r_cello 0 ti35 rfl rfl rfl (r_tmp rfl r_nil)) fun w1 hG1 => ?_
  rw [answers_many (by omega)]; exact PR.nil w w1 360 (hG1.below (s := w) (.head _) (by simp; omega))

theorem ranswer_in (w : World) (sd : SV) (rd : List SV) (db : List (List UInt8)) (hd : Rows w 0 sd rd db) (sq : SV) (rq : List SV) (ms : List (List UInt8)) (hq : Rows w 0 sq rq ms) (hdb : database db = true) (h2 : ms.length ≤ 132) : Fn Try.prog 16 #[sd.v, .agg #[sq.v]] w (fun v w' => PR w w' v (answers db ms)) := by
  refine enter Try.func16 rfl Try.ntmps16 (by kernel_rfl) rfl ?_
  refine at_seq ?_
  refine at_region ?_
  refine at_op rfl (n_box (cs := [sq.v]) rfl rfl rfl fun b3 hS3 hH3 => ?_)
  simp only [leAll, ltAll, and_true] at hS3 hH3
  refine at_op rfl (n_alloc ti35 rfl fun b4 hS4 hH4 => ?_)
  simp only [leAll, ltAll, and_true] at hS4 hH4
  refine s1 (y_p rfl) rfl <| ?_
  refine at_nil ?_
  refine x_tn ?_
  refine at_seq ?_
  refine at_seq ?_
  refine at_region ?_
  have hdn := hd.n
  have hdl := hd.len
  have hqn := hq.n
  have hql := hq.len
  have hdm := Nat.le_trans hd.sl.le hd.sl.max
  have hqm := Nat.le_trans hq.sl.le hq.sl.max
  simp only [maxLen] at hdm hqm
  refine s1 (y_p rfl) rfl <| ?_
  refine at_op rfl (n_call rfl rfl fun w11 hG11 => Fn.mono (database_ok w11 sd rd db (hG11.rows (.head _) hd (by simp; omega))) ?_)
  rintro _ w12 ⟨rfl, hB11⟩
  rw [hdb]
  refine at_in (hG11.ext hB11) ?_
  refine s1 (y_p rfl) rfl <| s1 (y_p rfl) rfl <| g1 rfl rfl (y_fld Try.underlying32 rfl ti30 (by decide) rfl rfl) rfl <| g1 rfl rfl (y_own 1 ti30 rfl rfl rfl) rfl <| g1 rfl rfl (y_len Try.underlying30 rfl rfl) rfl <| g1 rfl rfl ((y_p rfl).v (v' := .bool false) (congrArg Value.bool (decide_eq_false (by omega)))) rfl <| s1 (y_p rfl) rfl <| ?_
  refine at_nil ?_
  refine x_tn ?_
  refine at_else rfl ?_
  refine at_skip ?_
  refine x_tn ?_
  refine at_seq ?_
  refine at_region ?_
  obtain ⟨hd16, h0, h1⟩ := database_spec hdb
  have hsd : sd.n = db.length := by omega
  refine s1 (y_build0 ti35 Try.underlying35 rfl) rfl <| ?_
  refine at_op rfl (n_alloc ti35 rfl fun b6 hS6 hH6 => ?_)
  simp only [leAll, ltAll, and_true] at hS6 hH6
  refine at_op rfl (stw0 (us := [.slice none 0 0]) ti35 rfl rfl rfl rfl rfl rfl ?_)
  refine at_nil ?_
  refine x_tn ?_
  refine at_seq ?_
  refine at_seq ?_
  refine at_region ?_
  refine s1 (y_p rfl) rfl <| ?_
  refine at_nil ?_
  refine x_tn ?_
  refine at_block ?_
  refine at_loop (ι := AnsSt) (fun ⟨u, a1, c1, x1, r1, k⟩ => [(0, sd.v), (3, .pointer (some ⟨b3, 0, none⟩)), (4, .pointer (some ⟨b4, 0, none⟩)), (6, .pointer (some ⟨b6, 0, none⟩)), (7, .int .i64 (k : Nat))]) (fun ⟨u, a1, c1, x1, r1, k⟩ => [u, w]) (fun ⟨u, a1, c1, x1, r1, k⟩ => (b6, row 35 [.slice a1 k c1]) :: (b4, row 35 [.slice none 0 0]) :: (b3, row 32 [sq.v]) :: (ownS 22 a1 x1 ++ [])) (fun ⟨u, a1, c1, x1, r1, k⟩ => k ≤ ms.length ∧ Fam ((b6, row 35 [.slice a1 k c1]) :: (b4, row 35 [.slice none 0 0]) :: (b3, row 32 [sq.v]) :: (ownS 22 a1 x1 ++ [])) u r1 ((ms.take k).map (answer db)) ∧ OS 1 a1 k c1 x1 (r1.map SV.v) ∧ (∀ x, a1 = some x → w.heap.size ≤ x.block) ∧ (∀ j, j < k → masked db.length (ms.getD j []) = true)) (fun ⟨u, a1, c1, x1, r1, k⟩ => ms.length - k) ?_ ?_
  · exact at_exw fun u hG => ⟨⟨u, none, 0, [], [], 0⟩, ⟨Nat.zero_le _, Fam.nil _ u, OS.nilv 1 [], (fun x h => by cases h), fun j hj => absurd hj (by omega)⟩, ⟨rfl, rfl, rfl, rfl, rfl, trivial⟩, hG.now⟩
  rintro ⟨u, a1, c1, x1, r1, k⟩ ⟨hk0, hf1, ho1, hl1, hall⟩
  dsimp only
  have old : ∀ (b : Nat) (p : Nat × Obj), b < w.heap.size → p ∈ ((b6, row 35 [.slice a1 k c1]) :: (b4, row 35 [.slice none 0 0]) :: (b3, row 32 [sq.v]) :: (ownS 22 a1 x1 ++ []) : List (Nat × Obj)) → p.1 ≠ b := by
    intro b p hlt hp e
    simp only [List.mem_cons, List.mem_append, List.not_mem_nil, or_false] at hp
    rcases hp with rfl | rfl | rfl | hp
    · simp only at e; omega
    · simp only at e; omega
    · simp only at e; omega
    · obtain ⟨x, hx, rfl⟩ := mem_ownS hp; have := hl1 x hx; simp only at e; omega
  refine at_seq ?_
  refine at_seq ?_
  refine at_region ?_
  refine s1 (y_p rfl) rfl <| s1 (y_fld Try.underlying32 rfl ti30 (by decide) rfl rfl) rfl <| s1 (y_own 2 ti30 rfl rfl rfl) rfl <| s1 (y_len Try.underlying30 rfl rfl) rfl <| s1 (y_p rfl) rfl <| ?_
  refine at_nil ?_
  refine x_tn ?_
  refine at_cond rfl (fun hc25 => ?_) (fun hc25 => ?_)
  · have hk : k < ms.length := by have := of_decide_eq_true hc25; omega
    obtain ⟨r, hr, hb⟩ := hq.get hk
    have hrn := hb.1
    refine at_skip ?_
    refine x_tn ?_
    refine at_seq ?_
    refine at_block ?_
    refine at_seq ?_
    refine at_seq ?_
    refine at_region ?_
    refine s1 (y_p rfl) rfl <| s1 (y_len Try.underlying30 rfl rfl) rfl <| s1 (y_fld Try.underlying32 rfl ti30 (by decide) rfl rfl) rfl <| s1 (y_own 2 ti30 rfl rfl rfl) rfl <| s1 (y_p rfl) rfl <| s1 (y_idx1 k Try.underlying30 ti22 rfl rfl rfl (by omega) (hq.sl.addr (by omega))) rfl <| s1 (y_load ti22 rfl (fun w1 hG1 => hG1.cell (.tail _ (.head _)) (hq.cell hr) fun p hp => old _ p (World.block_lt_of_cell? _ _ (hq.cell hr)) hp)) rfl <| ?_
    refine at_op rfl (n_call rfl rfl fun w35 hG35 => Fn.mono (rmask_ok w35 sd.n r (ms.getD k []) (hb.move fun hlt => (hG35.snap w (.tail _ (.head _))).blk _ hlt fun p hp => old _ p hlt hp) (by omega) (by omega)) ?_)
    rintro _ w36 ⟨rfl, hB35⟩
    refine at_in (hG35.ext hB35) ?_
    refine s1 (y_p rfl) rfl <| ?_
    refine at_nil ?_
    refine x_tn ?_
    refine at_cond rfl (fun hc36 => ?_) (fun hc36 => ?_)
    · have hmk : masked db.length (ms.getD k []) = false := by rw [hsd] at hc36; simpa using hc36
      refine at_seq ?_
      refine at_region ?_
      refine s1 (y_build0 ti35 Try.underlying35 rfl) rfl <| ?_
      refine at_op rfl (stw1 (us := [.slice none 0 0]) ti35 rfl rfl rfl rfl rfl rfl ?_)
      refine s1 (y_p rfl) rfl <| ?_
      refine at_nil ?_
      refine x_tn ?_
      refine at_ret ?_
      refine x_tr ?_
      refine x_br ?_
      refine x_tr ?_
      refine x_tr ?_
      refine x_br ?_
      refine x_tr ?_
      refine at_result (rs := [.cell 4 35, .tmp 5]) rfl (r_cello 1 ti35 rfl rfl rfl (r_tmp rfl r_nil)) fun w1 hG1 => ?_
      rw [answers_alien1 hk hmk]; exact PR.nil w w1 360 (hG1.below (.tail _ (.head _)) (by
        intro p hp
        simp only [List.mem_cons, List.mem_append, List.not_mem_nil, or_false] at hp
        rcases hp with rfl | rfl | rfl | hp
        · simp only; omega
        · simp only; omega
        · simp only; omega
        · obtain ⟨x, hx, rfl⟩ := mem_ownS hp; exact hl1 x hx))
    · have hmk : masked db.length (ms.getD k []) = true := by rw [hsd] at hc36; simpa using hc36
      have hml := masked_len hmk
      refine at_skip ?_
      refine x_tn ?_
      refine at_seq ?_
      refine at_region ?_
      refine at_op rfl (n_make 16 16 Try.underlying22 ti5 rfl rfl rfl rfl (by omega) (by omega) (by omega) rfl fun b38 hS38 hH38 => ?_)
      simp only [leAll, ltAll, and_true] at hS38 hH38
      refine s1 (y_p rfl) rfl <| ?_
      refine at_nil ?_
      refine x_tn ?_
      refine at_seq ?_
      refine at_seq ?_
      refine at_region ?_
      refine s1 (y_p rfl) rfl <| ?_
      refine at_nil ?_
      refine x_tn ?_
      refine at_block ?_
      refine at_loop (ι := SumSt) (fun ⟨v, sc, n⟩ => [(0, sd.v), (3, .pointer (some ⟨b3, 0, none⟩)), (4, .pointer (some ⟨b4, 0, none⟩)), (6, .pointer (some ⟨b6, 0, none⟩)), (7, .int .i64 (k : Nat)), (8, sc.v), (9, .int .i64 (n : Nat))]) (fun ⟨v, sc, n⟩ => [v, u, w]) (fun ⟨v, sc, n⟩ => (b6, row 35 [.slice a1 k c1]) :: (b4, row 35 [.slice none 0 0]) :: (b3, row 32 [sq.v]) :: (ownS 22 a1 x1 ++ [])) (fun ⟨v, sc, n⟩ => n ≤ db.length ∧ Fam ((b6, row 35 [.slice a1 k c1]) :: (b4, row 35 [.slice none 0 0]) :: (b3, row 32 [sq.v]) :: (ownS 22 a1 x1 ++ [])) v [sc] [answerTo db (ms.getD k []) n]) (fun ⟨v, sc, n⟩ => db.length - n) ?_ ?_
      · exact at_exw fun v hG => ⟨⟨v, ⟨some ⟨b38, 0, none⟩, 16, 16⟩, 0⟩, ⟨Nat.zero_le _, Fam.bear (l := zero16) (rest := []) (Fam.nil _ v) hG (Nat.le_refl _) (by simp [maxLen])⟩, ⟨rfl, rfl, rfl, rfl, rfl, rfl, rfl, trivial⟩, (hG.drop1 (by simp [hS38])).now⟩
      rintro ⟨v, sc, n⟩ ⟨hn0, hsc⟩
      dsimp only
      have hlen := len_answerTo hd16 (ms.getD k []) n hn0
      refine at_seq ?_
      refine at_seq ?_
      refine at_region ?_
      refine s1 (y_p rfl) rfl <| s1 (y_p rfl) rfl <| s1 (y_len Try.underlying30 rfl rfl) rfl <| s1 (y_p rfl) rfl <| ?_
      refine at_nil ?_
      refine x_tn ?_
      refine at_cond rfl (fun hc42 => ?_) (fun hc42 => ?_)
      · have hn : n < db.length := by have := of_decide_eq_true hc42; omega
        obtain ⟨rb, hrb, hbn⟩ := hd.get hn
        have hrbn := hbn.1
        have hb16 : (db.getD n []).length = 16 := hd16 _ (by simp [List.getD, hn])
        refine at_skip ?_
        refine x_tn ?_
        refine at_seq ?_
        refine at_block ?_
        refine at_seq ?_
        refine at_region ?_
        refine s1 (y_fld Try.underlying32 rfl ti30 (by decide) rfl rfl) rfl <| s1 (y_own 2 ti30 rfl rfl rfl) rfl <| s1 (y_p rfl) rfl <| s1 (y_idx1 k Try.underlying30 ti22 rfl rfl rfl (by omega) (hq.sl.addr (by omega))) rfl <| s1 (y_load ti22 rfl (fun w1 hG1 => hG1.cell (.tail _ (.tail _ (.head _))) (hq.cell hr) fun p hp => old _ p (World.block_lt_of_cell? _ _ (hq.cell hr)) hp)) rfl <| s1 (y_p rfl) rfl <| ?_
        refine at_op rfl (n_call rfl rfl fun w51 hG51 => Fn.mono (rchooses_ok w51 r (ms.getD k []) (hb.move fun hlt => (hG51.snap w (.tail _ (.tail _ (.head _)))).blk _ hlt fun p hp => old _ p hlt hp) n (by omega) (by omega)) ?_)
        rintro _ w52 ⟨rfl, hB51⟩
        refine at_in (hG51.ext hB51) ?_
        refine at_nil ?_
        refine x_tn ?_
        refine at_cond rfl (fun hc51 => ?_) (fun hc51 => ?_)
        · skip
          refine at_region ?_
          refine s1 (y_p rfl) rfl <| s1 (y_p rfl) rfl <| s1 (y_p rfl) rfl <| s1 (y_idx1 n Try.underlying30 ti22 rfl rfl rfl (by omega) (hd.sl.addr (by omega))) rfl <| s1 (y_load ti22 rfl (fun w1 hG1 => hG1.cell (.tail _ (.tail _ (.head _))) (hd.cell hrb) fun p hp => old _ p (World.block_lt_of_cell? _ _ (hd.cell hrb)) hp)) rfl <| ?_
          refine at_op rfl (n_call rfl rfl fun w58 hG58 => Fn.mono (rjoin_ok w58 sc rb (answerTo db (ms.getD k []) n) (db.getD n []) (hsc.step hG58 (.head _) (Ks.refl _ _)).one (hbn.move fun hlt => (hG58.snap w (.tail _ (.tail _ (.head _)))).blk _ hlt fun p hp => old _ p hlt hp)) ?_)
          rintro _ w59' ⟨s2, rfl, hb2, hf2, hB58⟩
          refine at_in (hG58.call hB58) ?_
          refine s1 (y_p rfl) rfl <| s1 (y_p rfl) rfl <| s1 (y_p rfl) rfl <| s1 (y_p rfl) rfl <| ?_
          refine at_nil ?_
          refine x_bn ?_
          refine x_tn ?_
          refine at_region ?_
          refine s1 (y_p rfl) rfl <| s1 (addN n 1 rfl rfl rfl rfl (by omega)) rfl <| s1 (y_p rfl) rfl <| ?_
          refine at_nil ?_
          refine at_endw (x := (⟨v, sc, n⟩ : SumSt)) fun w3 hG3 => ⟨⟨w59', s2, n + 1⟩, ⟨by show n + 1 ≤ _; omega, ?_⟩, (show db.length - (n + 1) < db.length - n by omega), ⟨rfl, rfl, rfl, rfl, rfl, rfl, rfl, trivial⟩, hG3.sub (by simp)⟩
          rw [answerTo_succ, if_pos hc51]
          rw [join, if_pos ⟨hlen, hb16⟩] at hb2 hf2
          exact Fam.fresh (Fam.nil _ _) hG58 hb2 hf2
        · skip
          refine at_skip ?_
          refine x_bn ?_
          refine x_tn ?_
          refine at_region ?_
          refine s1 (y_p rfl) rfl <| s1 (addN n 1 rfl rfl rfl rfl (by omega)) rfl <| s1 (y_p rfl) rfl <| ?_
          refine at_nil ?_
          exact at_end (x := (⟨v, sc, n⟩ : SumSt)) ⟨v, sc, n + 1⟩ ⟨by show n + 1 ≤ _; omega, by rw [answerTo_succ, if_neg (by rw [hc51]; simp)]; exact hsc⟩ (show db.length - (n + 1) < db.length - n by omega) ⟨rfl, rfl, rfl, rfl, rfl, rfl, rfl, trivial⟩ (fun _ h => h)
      · have hn : n = db.length := by have := of_decide_eq_false hc42; omega
        subst hn
        refine at_exit ?_
        refine x_te ?_
        refine x_te ?_
        refine x_be ?_
        refine x_tn ?_
        refine at_region ?_
        refine s1 (y_fld Try.underlying35 rfl ti30 (by decide) rfl rfl) rfl <| s1 (y_own 0 ti30 rfl rfl rfl) rfl <| s1 (y_p rfl) rfl <| ?_
        refine at_op rfl (n_bs1 [_] Try.underlying30 ti22 rfl rfl rfl rfl rfl rfl fun b64 hS64 hH64 => ?_)
        simp only [leAll, ltAll, and_true] at hS64 hH64
        refine at_op rfl (n_app [_, _, _, _] [] [w] (cells := x1) (xs := r1.map SV.v) Try.underlying30 ti22 rfl rfl rfl ho1 ?_ (fun w1 hG1 => hG1.lit1 0 rfl) (by simp [Value.oneCell', SV.v]) ?_ ?_ rfl rfl fun wA hGA a1' c1' x1' hOS1 hn1 => ?_)
        · intro s hs; simp only [List.mem_singleton] at hs; subst hs; exact ⟨by simp, hl1⟩
        · simp only [maxLen]; omega
        · omega
        have m1 := hf1.step hGA (.tail _ (.head _)) (Ks.new hS64.2.1 (Ks.refl _ _))
        have hsc2 := hsc.step hGA (.head _) (Ks.new hS64.1 (Ks.refl _ _))
        have m2 := m1.snoc hsc2.one fun hn => (hsc2.apt sc (by simp) hn).2
        have hsA := (hGA.snap w (by simp)).size
        refine s1 (y_fld Try.underlying35 rfl ti30 (by decide) rfl rfl) rfl <| ?_
        refine at_op rfl (stv1 ti30 rfl rfl rfl ?_)
        refine at_nil ?_
        refine x_bn ?_
        refine x_tn ?_
        refine at_region ?_
        refine s1 (y_p rfl) rfl <| s1 (addN k 1 rfl rfl rfl rfl (by omega)) rfl <| s1 (y_p rfl) rfl <| ?_
        refine at_nil ?_
        refine at_endw (x := (⟨u, a1, c1, x1, r1, k⟩ : AnsSt)) fun w3 hG3 => ?_
        have q1 := m2.step hG3 (.head _) (.cons (.cons (.cons (.cons (Ks.own hn1 (Nat.le_refl _) .nil)))))
        have q2 := q1.sub (H' := (b6, row 35 [.slice a1' (k + 1) c1']) :: (b4, row 35 [.slice none 0 0]) :: (b3, row 32 [sq.v]) :: (ownS 22 a1' x1' ++ [])) (.cons _ (List.Sublist.refl _))
        exact ⟨⟨w3, a1', c1', x1', r1 ++ [sc], k + 1⟩, ⟨hk, by rw [take_map_next _ _ _ hk]; exact q2, by rw [List.map_append]; exact hOS1, app_lo hn1 hl1 hsA, lt_succ_all hall hmk⟩, (show ms.length - (k + 1) < ms.length - k by omega), ⟨rfl, rfl, rfl, rfl, rfl, trivial⟩, (Good.drop1 hG3 (by simp [hS64])).now⟩
  · have hk : k = ms.length := by have := of_decide_eq_false hc25; omega
    subst hk
    refine at_exit ?_
    refine x_te ?_
    refine x_te ?_
    refine x_be ?_
    refine x_tn ?_
    refine at_seq ?_
    refine at_region ?_
    refine s1 (y_ownagg (us := _) 0 ti35 rfl rfl rfl rfl) rfl <| ?_
    refine at_op rfl (stw1 (us := [.slice a1 ms.length c1]) ti35 rfl rfl rfl rfl rfl rfl ?_)
    refine s1 (y_p rfl) rfl <| ?_
    refine at_nil ?_
    refine x_tn ?_
    refine at_ret ?_
    refine at_result (rs := [.cell 4 35, .tmp 5]) rfl (r_cello 1 ti35 rfl rfl rfl (r_tmp rfl r_nil)) fun w1 hG1 => ?_
    rw [answers_yes h0 h1 hd16 (by omega) (any_of_all hall)]
    rw [List.take_length] at hf1
    have q1 := hf1.step hG1 (.head _) (.cons (.cons (Ks.refl _ _)))
    refine ⟨⟨a1, ms.length, c1⟩, r1, rfl, q1.out (e := 22) ho1 (fun p hp => hG1.own p (by simp [hp])), hG1.below (.tail _ (.head _)) (by
      intro p hp
      simp only [List.mem_cons, List.mem_append, List.not_mem_nil, or_false] at hp
      rcases hp with rfl | rfl | rfl | hp
      · simp only; omega
      · simp only; omega
      · simp only; omega
      · obtain ⟨x, hx, rfl⟩ := mem_ownS hp; exact hl1 x hx)⟩

theorem ranswer_ok (w : World) (sd : SV) (rd : List SV) (db : List (List UInt8)) (hd : Rows w 0 sd rd db) (sq : SV) (rq : List SV) (ms : List (List UInt8)) (hq : Rows w 0 sq rq ms) : Fn Try.prog 16 #[sd.v, .agg #[sq.v]] w (fun v w' => PR w w' v (answers db ms)) := by
  cases hdb : database db with
  | false => exact ranswer_e1 w sd rd db hd sq rq ms hq hdb
  | true =>
    by_cases h2 : 132 < ms.length
    · exact ranswer_e2 w sd rd db hd sq rq ms hq hdb h2
    · exact ranswer_in w sd rd db hd sq rq ms hq hdb (by omega)

end Go.Eng.R36
