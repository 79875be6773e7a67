/-
  Layer 36: walks of the retrieval functions. Conditions: each theorem says its own.
-/
import Derived.Test.YtjnbpinnjbdnpaaTy
import Derived.Test.YtjnbpinnjbdnpaaR36P
namespace Go.Eng.R36
open Go Go.Eng Go.Proofs

theorem sized_lo (w : World) (many : Int) (s : SV) (h : many < 1) : Fn Try.prog 24 #[.int .i64 many, s.v] w (fun v w' => v = .bool (sized many s.n) ∧ RowKit.Below w.heap.size w w') := by
  refine enter Try.func24 rfl Try.ntmps24 (by kernel_rfl) rfl ?_
  refine at_seq ?_
  refine at_region ?_
  refine s1 (y_p rfl) rfl <| ?_
  refine at_nil ?_
  refine x_tn ?_
  refine at_seq ?_
  refine at_region ?_
  refine s1 (y_p rfl) rfl <| s1 ((y_p rfl).v (v' := .bool false) (congrArg Value.bool (decide_eq_false (by omega)))) rfl <| s1 (y_p rfl) rfl <| g0 rfl rfl rfl rfl <| g0 rfl rfl rfl rfl <| s1 (y_p rfl) rfl <| s1 (y_p rfl) rfl <| g0 rfl rfl rfl rfl <| g0 rfl rfl rfl rfl <| g0 rfl rfl rfl rfl <| g0 rfl rfl rfl rfl <| g0 rfl rfl rfl rfl <| ?_
  refine g0 rfl rfl rfl rfl <| s1 (y_p rfl) rfl <| s1 (y_p rfl) rfl <| ?_
  refine at_nil ?_
  refine x_tn ?_
  refine at_ret ?_
  refine at_result (rs := [.tmp 4]) rfl (r_tmp rfl r_nil) fun w' hG => ⟨?_, (hG.below (.head _) (by simp))⟩
  rw [sized_no (by omega)]; rfl

theorem sized_hi (w : World) (many : Int) (s : SV) (h0 : 1 ≤ many) (h : 1024 < many) : Fn Try.prog 24 #[.int .i64 many, s.v] w (fun v w' => v = .bool (sized many s.n) ∧ RowKit.Below w.heap.size w w') := by
  refine enter Try.func24 rfl Try.ntmps24 (by kernel_rfl) rfl ?_
  refine at_seq ?_
  refine at_region ?_
  refine s1 (y_p rfl) rfl <| ?_
  refine at_nil ?_
  refine x_tn ?_
  refine at_seq ?_
  refine at_region ?_
  refine s1 (y_p rfl) rfl <| s1 ((y_p rfl).v (v' := .bool true) (congrArg Value.bool (decide_eq_true (by omega)))) rfl <| s1 (y_p rfl) rfl <| g1 rfl rfl (y_p rfl) rfl <| g1 rfl rfl ((y_p rfl).v (v' := .bool false) (congrArg Value.bool (decide_eq_false (by omega)))) rfl <| s1 (y_p rfl) rfl <| s1 (y_p rfl) rfl <| g0 rfl rfl rfl rfl <| g0 rfl rfl rfl rfl <| g0 rfl rfl rfl rfl <| g0 rfl rfl rfl rfl <| g0 rfl rfl rfl rfl <| ?_
  refine g0 rfl rfl rfl rfl <| s1 (y_p rfl) rfl <| s1 (y_p rfl) rfl <| ?_
  refine at_nil ?_
  refine x_tn ?_
  refine at_ret ?_
  refine at_result (rs := [.tmp 4]) rfl (r_tmp rfl r_nil) fun w' hG => ⟨?_, (hG.below (.head _) (by simp))⟩
  rw [sized_no (by omega)]; rfl

theorem sized_in (w : World) (many : Int) (s : SV) (h0 : 1 ≤ many) (h : many ≤ 1024) : Fn Try.prog 24 #[.int .i64 many, s.v] w (fun v w' => v = .bool (sized many s.n) ∧ RowKit.Below w.heap.size w w') := by
  refine enter Try.func24 rfl Try.ntmps24 (by kernel_rfl) rfl ?_
  refine at_seq ?_
  refine at_region ?_
  refine s1 (y_p rfl) rfl <| ?_
  refine at_nil ?_
  refine x_tn ?_
  refine at_seq ?_
  refine at_region ?_
  refine s1 (y_p rfl) rfl <| s1 ((y_p rfl).v (v' := .bool true) (congrArg Value.bool (decide_eq_true (by omega)))) rfl <| s1 (y_p rfl) rfl <| g1 rfl rfl (y_p rfl) rfl <| g1 rfl rfl ((y_p rfl).v (v' := .bool true) (congrArg Value.bool (decide_eq_true (by omega)))) rfl <| s1 (y_p rfl) rfl <| s1 (y_p rfl) rfl <| g1 rfl rfl (y_p rfl) rfl <| g1 rfl rfl (y_len Try.underlying22 rfl rfl) rfl <| g1 rfl rfl (y_p rfl) rfl <| g1 rfl rfl (addI rfl rfl (by omega) (by omega)) rfl <| g1 rfl rfl ((y_quo rfl rfl (by decide)).v (v' := .int .i64 ((many + 7) / 8)) (by rw [Int.tdiv_eq_ediv_of_nonneg (by omega), wrapI _ (by omega) (by omega)])) rfl <| ?_
  refine g1 rfl rfl (y_p rfl) rfl <| s1 (y_p rfl) rfl <| s1 (y_p rfl) rfl <| ?_
  refine at_nil ?_
  refine x_tn ?_
  refine at_ret ?_
  refine at_result (rs := [.tmp 4]) rfl (r_tmp rfl r_nil) fun w' hG => ⟨?_, (hG.below (.head _) (by simp))⟩
  rw [sized_yes h0 h]; rfl

theorem sized_ok (w : World) (many : Int) (s : SV) : Fn Try.prog 24 #[.int .i64 many, s.v] w (fun v w' => v = .bool (sized many s.n) ∧ RowKit.Below w.heap.size w w') := by
  by_cases h0 : many < 1
  · exact sized_lo w many s h0
  · by_cases h1 : 1024 < many
    · exact sized_hi w many s (by omega) h1
    · exact sized_in w many s (by omega) (by omega)

theorem clone_ok (w : World) (s : SV) (l : List UInt8) (hb : Bytes w s l) (hne : l ≠ []) (hsz : l.length ≤ 140737488355328) : Fn Try.prog 39 #[s.v] w (fun v w' => FreshB 5 w w' v l ∧ RowKit.Below w.heap.size w w') := by
  refine enter Try.func39 rfl Try.ntmps39 (by kernel_rfl) rfl ?_
  refine at_seq ?_
  refine at_region ?_
  refine s1 (y_p rfl) rfl <| ?_
  refine at_nil ?_
  refine x_tn ?_
  refine at_seq ?_
  refine at_seq ?_
  refine at_region ?_
  refine s1 (y_p rfl) rfl <| s1 ((y_nil Try.underlying22 rfl rfl).v (v' := .bool false) (by rw [(hb.2.addr (by have := hb.1; have := List.length_pos_iff.2 hne; omega))]; rfl)) rfl <| ?_
  refine at_nil ?_
  refine x_tn ?_
  refine at_else rfl ?_
  refine at_skip ?_
  refine x_tn ?_
  refine at_seq ?_
  refine at_region ?_
  refine at_op rfl (n_bs1 [] Try.underlying22 ti5 rfl rfl rfl rfl rfl rfl fun b5 hS5 hH5 => ?_)
  simp only [leAll, ltAll, and_true] at hS5 hH5
  refine s1 (y_p rfl) rfl <| ?_
  refine at_op rfl (n_app [] [] [w] (cells := []) (xs := []) Try.underlying22 ti5 rfl rfl rfl (OS.mk' b5 rfl (Nat.le_refl _) (Nat.zero_le _)) ?_ (fun w1 hG1 => (hG1.bytes (.head _) hb ⟨.inr hS5, trivial⟩).2) (by simp [Value.oneCell']) ?_ ?_ rfl rfl fun w1 hG1 a' c' cells' hOS hnew => ?_)
  · simp; exact hS5
  · have := hb.1; simp only [maxLen]; omega
  · have := hb.1; omega
  refine s1 (y_p rfl) rfl <| ?_
  refine at_nil ?_
  refine x_tn ?_
  refine at_ret ?_
  refine at_result (rs := [.tmp 2]) rfl (r_tmp rfl r_nil) fun w2 hG2 => ?_
  have hge := app_ge (w := w) hnew hS5 (hG1.snap w (.head _)).size
  exact ⟨freshB_of (by simpa using hOS) (app_some hnew) (fun p hp => hG2.own p (by simpa using hp)) hge, hG2.below (.tail _ (.head _)) (by intro p hp; obtain ⟨x, hx, rfl⟩ := mem_ownS (by simpa using hp); exact hge x hx)⟩

theorem change_ok (w : World) (b g : Nat) (n cap : Nat) (l : List UInt8) (rest : List Value) (hp : w.cell? ⟨b, 0, none⟩ = some (.slice (some ⟨g, 0, none⟩) n cap)) (hg : w.heap[g]? = some (row 5 (l.map B ++ rest))) (hn : n = l.length) (hne : g ≠ b) (at' : Nat) (hat : at' / 8 < n) (hbg : at' < 9223372036854775808) : Fn Try.prog 26 #[.pointer (some ⟨b, 0, none⟩), .int .i64 at'] w (fun v w' => v = .tuple #[] ∧ w'.heap[g]? = some (row 5 ((change l at').map B ++ rest)) ∧ Mod [g] w w') := by
  refine enter Try.func26 rfl Try.ntmps26 (by kernel_rfl) rfl ?_
  refine at_draw_tail 12 hmix (by kernel_rfl) ?_
  refine at_good (fun w1 hG1 => hG1.adopt (hG1.obj (.head _) hg (by simp)) (by simp)) ?_
  have hk : at' / 8 < l.length := by omega
  have hbig : at' < 9223372036854775808 := hbg
  refine t1 (y_p rfl) rfl <| t1 (y_nilc rfl) rfl <| t1 (y_load ti51 rfl (fun w1 hG1 => hG1.cell' (.head _) hp ⟨.inl hne, trivial⟩)) rfl <| t1 (y_p rfl) rfl <| t1 (quoN at' 8 rfl rfl rfl rfl (by omega) hbig) rfl <| t1 (y_idxo (at' / 8) (at' / 8) Try.underlying51 ti5 rfl rfl rfl hat (by omega)) rfl <| t1 (y_own 0 ti5 rfl rfl (by rw [List.getElem?_append_left (by simpa using hk), List.getElem?_map, getD_get l _ hk]; rfl)) rfl <| t1 (y_p rfl) rfl <| t1 (remN at' 8 rfl rfl rfl rfl (by omega)) rfl <| t1 (shl1B (at' % 8) rfl rfl rfl (by omega)) rfl <| t1 (xorB (l.getD (at' / 8) 0) (bitB (at' % 8)) rfl rfl) rfl <| t1 (y_idxo (at' / 8) (at' / 8) Try.underlying51 ti5 rfl rfl rfl hat (by omega)) rfl <| ?_
  refine at_snil ?_
  refine at_op rfl (n_store1c 0 ti5 rfl rfl rfl rfl (by simp; omega) (cs' := (l.set (at' / 8) (l.getD (at' / 8) 0 ^^^ bitB (at' % 8))).map B ++ rest) (by rw [set_B _ _ _ _ hk]) ?_)
  refine at_nil ?_
  refine at_result' (rs := []) rfl r_nil fun w1 hG1 => ⟨rfl, hG1.block 0 rfl, hG1.mod (.head _)⟩

theorem cut_no (w : World) (b g : Nat) (l : List UInt8) (rest : List Value) (hg : w.heap[g]? = some (row 5 (l.map B ++ rest))) (many : Nat) (hm : many % 8 = 0) : Fn Try.prog 40 #[.pointer (some ⟨b, 0, none⟩), .int .i64 many] w (fun v w' => v = .tuple #[] ∧ w'.heap[g]? = some (row 5 ((cut many l).map B ++ rest)) ∧ Mod [g] w w') := by
  refine enter Try.func40 rfl Try.ntmps40 (by kernel_rfl) rfl ?_
  refine at_seq ?_
  refine at_region ?_
  refine s1 (y_p rfl) rfl <| s1 ((remN many 8 rfl rfl rfl rfl (by omega)).v (v' := .int .i64 0) (by rw [hm]; rfl)) rfl <| s1 (y_p rfl) rfl <| ?_
  refine at_nil ?_
  refine x_tn ?_
  refine at_seq ?_
  refine at_region ?_
  refine s1 (y_p rfl) rfl <| s1 ((y_p rfl).v (v' := .bool false) (rfl)) rfl <| ?_
  refine at_nil ?_
  refine x_tn ?_
  refine at_else rfl ?_
  refine at_skip ?_
  refine at_result' (rs := []) rfl r_nil fun w1 hG1 => ⟨rfl, ?_, ?_⟩
  · rw [show cut many l = l from if_pos hm]; exact hG1.obj (.head _) hg (by simp)
  · have h := hG1.mod (.head _); exact ⟨h.os, h.tape, h.output, h.size, fun k hk _ => h.blk k hk (by simp)⟩

theorem cut_yes (w : World) (b g : Nat) (n cap : Nat) (l : List UInt8) (rest : List Value) (hp : w.cell? ⟨b, 0, none⟩ = some (.slice (some ⟨g, 0, none⟩) n cap)) (hg : w.heap[g]? = some (row 5 (l.map B ++ rest))) (hn : n = l.length) (hne : g ≠ b) (many : Nat) (hm : many % 8 ≠ 0) (hat : many / 8 < n) (hbg : many < 9223372036854775808) : Fn Try.prog 40 #[.pointer (some ⟨b, 0, none⟩), .int .i64 many] w (fun v w' => v = .tuple #[] ∧ w'.heap[g]? = some (row 5 ((cut many l).map B ++ rest)) ∧ Mod [g] w w') := by
  refine enter Try.func40 rfl Try.ntmps40 (by kernel_rfl) rfl ?_
  refine at_seq ?_
  refine at_region ?_
  refine s1 (y_p rfl) rfl <| s1 (remN many 8 rfl rfl rfl rfl (by omega)) rfl <| s1 (y_p rfl) rfl <| ?_
  refine at_nil ?_
  refine x_tn ?_
  refine at_seq ?_
  refine at_region ?_
  refine s1 (y_p rfl) rfl <| s1 ((y_p rfl).v (v' := .bool true) (congrArg Value.bool (bne_iff_ne.2 (by omega)))) rfl <| ?_
  refine at_nil ?_
  refine x_tn ?_
  refine at_then rfl ?_
  refine at_draw_tail 12 hmix (by kernel_rfl) ?_
  refine at_good (fun w1 hG1 => hG1.adopt (hG1.obj (.head _) hg (by simp)) (by simp)) ?_
  have hk : many / 8 < l.length := by omega
  refine t1 (y_p rfl) rfl <| t1 (y_nilc rfl) rfl <| t1 (y_load ti51 rfl (fun w1 hG1 => hG1.cell' (.head _) hp ⟨.inl hne, trivial⟩)) rfl <| t1 (y_p rfl) rfl <| t1 (quoN many 8 rfl rfl rfl rfl (by omega) hbg) rfl <| t1 (y_idxo (many / 8) (many / 8) Try.underlying51 ti5 rfl rfl rfl hat (by omega)) rfl <| t1 (y_own 0 ti5 rfl rfl (by rw [List.getElem?_append_left (by simpa using hk), List.getElem?_map, getD_get l _ hk]; rfl)) rfl <| t1 (y_p rfl) rfl <| t1 (shl1B (many % 8) rfl rfl rfl (by omega)) rfl <| t1 ((y_p rfl).v (v' := B (bitB (many % 8) - 1)) (congrArg (Value.int .u8) (subB _ (by omega)))) rfl <| t1 (andB (l.getD (many / 8) 0) (bitB (many % 8) - 1) rfl rfl) rfl <| t1 (y_idxo (many / 8) (many / 8) Try.underlying51 ti5 rfl rfl rfl hat (by omega)) rfl <| ?_
  refine at_snil ?_
  refine at_op rfl (n_store1c 0 ti5 rfl rfl rfl rfl (by simp; omega) (cs' := (l.set (many / 8) (l.getD (many / 8) 0 &&& (bitB (many % 8) - 1))).map B ++ rest) (by rw [set_B _ _ _ _ hk]) ?_)
  refine at_nil ?_
  refine at_result' (rs := []) rfl r_nil fun w1 hG1 => ⟨rfl, ?_, hG1.mod (.head _)⟩
  rw [show cut many l = _ from if_neg hm]; exact hG1.block 0 rfl

theorem cut_ok (w : World) (b g : Nat) (n cap : Nat) (l : List UInt8) (rest : List Value) (hp : w.cell? ⟨b, 0, none⟩ = some (.slice (some ⟨g, 0, none⟩) n cap)) (hg : w.heap[g]? = some (row 5 (l.map B ++ rest))) (hn : n = l.length) (hne : g ≠ b) (many : Nat) (hat : many % 8 ≠ 0 → many / 8 < n) (hbg : many < 9223372036854775808) : Fn Try.prog 40 #[.pointer (some ⟨b, 0, none⟩), .int .i64 many] w (fun v w' => v = .tuple #[] ∧ w'.heap[g]? = some (row 5 ((cut many l).map B ++ rest)) ∧ Mod [g] w w') := by
  by_cases hm : many % 8 = 0
  · exact cut_no w b g l rest hg many hm
  · exact cut_yes w b g n cap l rest hp hg hn hne many hm (hat hm) hbg

theorem chooses_ok (w : World) (b : Nat) (s : SV) (l : List UInt8) (hp : w.cell? ⟨b, 0, none⟩ = some s.v) (hb : Bytes w s l) (k : Nat) (hk : k / 8 < l.length) (hbg : k < 9223372036854775808) : Fn Try.prog 34 #[.pointer (some ⟨b, 0, none⟩), .int .i64 k] w (fun v w' => v = .bool (chooses l k) ∧ RowKit.Below w.heap.size w w') := by
  refine enter Try.func34 rfl Try.ntmps34 (by kernel_rfl) rfl ?_
  refine at_seq ?_
  refine at_region ?_
  refine s1 (y_p rfl) rfl <| ?_
  refine at_nil ?_
  refine x_tn ?_
  refine at_seq ?_
  refine at_region ?_
  refine s1 (y_p rfl) rfl <| s1 (y_nilc rfl) rfl <| s1 (y_load ti51 rfl (fun w1 hG1 => hG1.cell' (.head _) hp trivial)) rfl <| s1 (y_p rfl) rfl <| s1 (quoN k 8 rfl rfl rfl rfl (by omega) hbg) rfl <| s1 (y_idx1 (k / 8) Try.underlying51 ti5 rfl rfl rfl (by have := hb.1; omega) (hb.2.addr (by have := hb.1; omega))) rfl <| s1 (y_load ti5 rfl (fun w1 hG1 => (hG1.bytes (.head _) hb trivial).at' (getD_get l _ hk))) rfl <| s1 (y_p rfl) rfl <| s1 (remN k 8 rfl rfl rfl rfl (by omega)) rfl <| s1 (shrB (l.getD (k / 8) 0) (k % 8) rfl rfl rfl (by omega)) rfl <| s1 (andB _ 1 rfl rfl) rfl <| s1 ((y_p rfl).v (v' := .bool (chooses l k)) (congrArg Value.bool (eqB _ _))) rfl <| ?_
  refine s1 (y_p rfl) rfl <| ?_
  refine at_nil ?_
  refine x_tn ?_
  refine at_ret ?_
  exact at_result (rs := [.tmp 4]) rfl (r_tmp rfl r_nil) fun w' hG => ⟨rfl, (hG.below (.head _) (by simp))⟩

theorem maskOf_ok (w : World) (many : Nat) (s : SV) (l : List UInt8) (hb : Bytes w s l) (h1 : 1 ≤ many) (h2 : many ≤ 1024) (hl : l.length = (many + 7) / 8) : Fn Try.prog 25 #[.int .i64 many, s.v] w (fun v w' => FreshB 5 w w' v (cut many l) ∧ RowKit.Below w.heap.size w w') := by
  refine enter Try.func25 rfl Try.ntmps25 (by kernel_rfl) rfl ?_
  refine at_seq ?_
  refine at_region ?_
  refine s1 (y_p rfl) rfl <| ?_
  refine at_nil ?_
  refine x_tn ?_
  refine at_seq ?_
  refine at_region ?_
  refine s1 (y_p rfl) rfl <| ?_
  refine at_op rfl (n_call rfl rfl fun w7 hG7 => Fn.mono (clone_ok w7 s l (hG7.bytes (.head _) hb trivial) (fun h => by rw [h] at hl; simp at hl; omega) (by omega)) ?_)
  rintro _ w8 ⟨⟨g, cap, rest, rfl, hge, hg, hcap, hmax⟩, hB⟩
  have hge0 : w.heap.size ≤ g := Nat.le_trans (hG7.snap w (.head _)).size hge
  have hglt : g < w8.heap.size := (Array.getElem?_eq_some_iff.1 hg).1
  refine at_in ((hG7.ext hB).adopt hg (by simp)) ?_
  refine at_op rfl (n_alloc ti51 rfl fun b5 hS5 hH5 => ?_)
  simp only [leAll, ltAll, and_true] at hS5 hH5
  refine at_op rfl (stv0 ti51 rfl rfl rfl ?_)
  refine at_nil ?_
  refine x_tn ?_
  refine at_seq ?_
  refine at_region ?_
  refine s1 (y_p rfl) rfl <| ?_
  refine at_op rfl (n_call rfl rfl fun w9 hG9 => Fn.mono (cut_ok w9 b5 g l.length cap l rest (cell_row (hG9.block 0 rfl) rfl) (hG9.block 1 rfl) rfl (by omega) many (by omega) (by omega)) ?_)
  rintro _ w10 ⟨rfl, hg', hM⟩
  refine at_in ((hG9.upd 1 rfl hM hg')) ?_
  refine at_nil ?_
  refine x_tn ?_
  refine at_seq ?_
  refine at_region ?_
  refine s1 (y_own 0 ti51 rfl rfl rfl) rfl <| s1 (y_p rfl) rfl <| ?_
  refine at_nil ?_
  refine x_tn ?_
  refine at_ret ?_
  refine at_result (rs := [.tmp 4]) rfl (r_tmp rfl r_nil) fun w1 hG1 => ⟨⟨g, cap, rest, ?_, hge0, hG1.block 1 rfl, ?_, hmax⟩, ?_⟩
  · rw [len_cut]; rfl
  · rw [len_cut]; exact hcap
  · exact hG1.below (.head _) (by simp; exact ⟨hS5, hge0⟩)

end Go.Eng.R36
