/-
  Layer 36: walks of the retrieval functions. Conditions: each theorem says its own.
-/
import Derived.Test.YtjnbpinnjbdnpaaR36D
namespace Go.Eng.R36
open Go Go.Eng Go.Proofs

theorem twin_ok (w : World) (many i j : Int) (s : SV) (l : List UInt8) (hb : Bytes w s l) : Fn Try.prog 12 #[.int .i64 many, .int .i64 i, .int .i64 j, s.v] w (fun v w' => P2 w w' v (twin many i j l)) := by
  refine enter Try.func12 rfl Try.ntmps12 (by kernel_rfl) rfl ?_
  refine at_seq ?_
  refine at_region ?_
  refine s1 (y_p rfl) rfl <| s1 (y_p rfl) rfl <| ?_
  refine at_nil ?_
  refine x_tn ?_
  refine at_seq ?_
  refine at_seq ?_
  refine at_region ?_
  refine s1 (y_p rfl) rfl <| s1 (y_p rfl) rfl <| ?_
  refine at_op rfl (n_bs1 [.int .i64 i, .int .i64 j] Try.underlying41 ti3 rfl rfl rfl rfl rfl rfl fun b18 hS18 hH18 => ?_)
  simp only [leAll, ltAll, and_true] at hS18 hH18
  refine s1 (y_len Try.underlying41 rfl rfl) rfl <| s1 (y_p rfl) rfl <| ?_
  refine at_nil ?_
  refine x_tn ?_
  refine at_block ?_
  refine at_loop (ι := Nat) (fun q => [(0, .int .i64 many), (1, .int .i64 i), (2, .int .i64 j), (3, s.v), (18, .slice (some ⟨b18, 0, none⟩) 2 2), (19, .int .i64 2), (20, .int .i64 (q : Int))]) (fun q => [w]) (fun q => [(b18, row 3 [.int .i64 i, .int .i64 j])]) (fun q => q ≤ 2 ∧ (0 < q → (masks many i l).2.2 = 0) ∧ (1 < q → (masks many j l).2.2 = 0)) (fun q => 2 - q) ?_ ?_
  · exact at_ex 0 ⟨by omega, fun h => absurd h (by omega), fun h => absurd h (by omega)⟩ ⟨rfl, rfl, rfl, rfl, rfl, rfl, rfl, trivial⟩ (fun _ h => h)
  rintro q ⟨hq, hq1, hq2⟩
  refine at_seq ?_
  refine at_region ?_
  refine s1 (y_p rfl) rfl <| ?_
  refine at_nil ?_
  refine x_tn ?_
  refine at_seq ?_
  refine at_cond rfl (fun hc21 => ?_) (fun hc21 => ?_)
  · have hq3 : q < 2 := by have := of_decide_eq_true hc21; omega
    obtain ⟨cur, hcur, hcd⟩ : ∃ cur, ([Value.int .i64 i, Value.int .i64 j] : List Value)[q]? = some (Value.int .i64 cur) ∧ cur = (if q = 0 then i else j) := by
      have : q = 0 ∨ q = 1 := by omega
      rcases this with rfl | rfl
      · exact ⟨i, rfl, rfl⟩
      · exact ⟨j, rfl, rfl⟩
    refine at_skip ?_
    refine x_tn ?_
    refine at_seq ?_
    refine at_block ?_
    refine at_seq ?_
    refine at_region ?_
    refine s1 (y_idxo q q Try.underlying41 ti3 rfl rfl rfl hq3 (by omega)) rfl <| s1 (y_own 0 ti3 rfl rfl hcur) rfl <| s1 (y_p rfl) rfl <| ?_
    refine at_nil ?_
    refine x_tn ?_
    refine at_seq ?_
    refine at_region ?_
    refine s1 (y_p rfl) rfl <| s1 (y_p rfl) rfl <| s1 (y_p rfl) rfl <| ?_
    refine at_op rfl (n_call rfl rfl fun w28 hG28 => Fn.mono (masks_ok w28 many cur s l (hG28.bytes (.head _) hb ⟨.inr (by omega), trivial⟩)) ?_)
    rintro _ w29 ⟨sa, sb, rfl, _, _, _, _, hB28⟩
    refine at_in (hG28.ext hB28) ?_
    refine s1 (y_p rfl) rfl <| s1 (y_p rfl) rfl <| s1 (y_p rfl) rfl <| s1 (y_p rfl) rfl <| s1 (y_p rfl) rfl <| s1 (y_p rfl) rfl <| s1 (y_p rfl) rfl <| ?_
    refine at_nil ?_
    refine x_tn ?_
    refine at_seq ?_
    refine at_region ?_
    refine s1 (y_p rfl) rfl <| s1 (y_p rfl) rfl <| ?_
    refine at_nil ?_
    refine x_tn ?_
    refine at_cond rfl (fun hc33 => ?_) (fun hc33 => ?_)
    · have hne := bne_iff_ne.1 hc33
      subst hcd
      refine at_seq ?_
      refine at_region ?_
      refine s1 (y_p rfl) rfl <| s1 (y_p rfl) rfl <| s1 (y_p rfl) rfl <| ?_
      refine at_nil ?_
      refine x_tn ?_
      refine at_ret ?_
      refine x_br ?_
      refine x_tr ?_
      refine x_tr ?_
      refine x_br ?_
      refine x_tr ?_
      refine at_result (rs := [.tmp 8, .tmp 9]) rfl (r_tmp rfl (r_tmp rfl (r_nil))) fun w1 hG1 => ?_
      have hb0 := hG1.below (s := w) (.head _) (by simp; omega)
      have : twin many i j l = ([], (masks many (if q = 0 then i else j) l).2.2) := by
        unfold twin
        by_cases h0 : q = 0
        · subst h0; exact if_pos hne
        · rw [if_neg h0] at hne ⊢; rw [if_neg (by rw [hq1 (by omega)]; simp), if_pos hne]
      rw [this]
      exact P2.nil w w1 _ hb0
    · have he0 := bne_eq_false_iff_eq.1 hc33
      subst hcd
      refine at_skip ?_
      refine x_bn ?_
      refine x_tn ?_
      refine at_region ?_
      refine s1 (addN q 1 rfl rfl rfl rfl (by omega)) rfl <| s1 (y_p rfl) rfl <| ?_
      refine at_nil ?_
      refine at_end (q + 1) ⟨by omega, fun _ => ?_, fun h1 => ?_⟩ (by omega) ⟨rfl, rfl, rfl, rfl, rfl, rfl, rfl, trivial⟩ (fun _ h => h)
      · by_cases h0 : q = 0
        · subst h0; exact he0
        · exact hq1 (by omega)
      · have h0 : q = 1 := by omega
        subst h0; exact he0
  · have hq3 : q = 2 := by have := of_decide_eq_false hc21; omega
    subst hq3
    obtain ⟨m, i, rfl, rfl, g1, g2, g3, g4⟩ := masks_zero (hq1 (by omega))
    obtain ⟨m2, j, hm2, rfl, _, _, _, g5⟩ := masks_zero (hq2 (by omega))
    obtain rfl : m = m2 := by omega
    have e1 := hq1 (by omega)
    have e2 := hq2 (by omega)
    refine at_exit ?_
    refine x_te ?_
    refine x_te ?_
    refine x_be ?_
    refine x_tn ?_
    refine at_seq ?_
    refine at_region ?_
    refine s1 (y_p rfl) rfl <| s1 (y_p rfl) rfl <| ?_
    refine at_op rfl (n_call rfl rfl fun w38 hG38 => Fn.mono (maskOf_ok w38 m s l (hG38.bytes (.head _) hb ⟨.inr (by omega), trivial⟩) g1 g2 g3) ?_)
    rintro _ w39 ⟨⟨g, cap, rest, rfl, hge, hg, hcap, hmax⟩, hB38⟩
    have hge0 : w.heap.size ≤ g := Nat.le_trans (hG38.snap w (.head _)).size hge
    have hlt18 := hG38.ownlt (p := (b18, _)) (.head _)
    refine at_in ((hG38.ext hB38).adopt hg (by simp; omega)) ?_
    refine at_op rfl (n_alloc ti51 rfl fun b15 hS15 hH15 => ?_)
    simp only [leAll, ltAll, and_true] at hS15 hH15
    refine at_op rfl (stv0 ti51 rfl rfl rfl ?_)
    refine at_nil ?_
    refine x_tn ?_
    refine at_seq ?_
    refine at_region ?_
    refine s1 (y_p rfl) rfl <| ?_
    refine at_op rfl (n_call rfl rfl fun w40 hG40 => Fn.mono (change_ok w40 b15 g (cut m l).length cap (cut m l) rest (cell_row (hG40.block 0 rfl) rfl) (hG40.block 1 rfl) rfl (by omega) i (by rw [len_cut]; omega) (by omega)) ?_)
    rintro _ w41 ⟨rfl, hg', hM⟩
    refine at_in ((hG40.upd 1 rfl hM hg')) ?_
    refine at_nil ?_
    refine x_tn ?_
    refine at_seq ?_
    refine at_region ?_
    refine s1 (y_p rfl) rfl <| ?_
    refine at_op rfl (n_call rfl rfl fun w42 hG42 => Fn.mono (change_ok w42 b15 g (cut m l).length cap (change (cut m l) i) rest (cell_row (hG42.block 0 rfl) rfl) (hG42.block 1 rfl) (by rw [len_change]) (by omega) j (by rw [len_cut]; omega) (by omega)) ?_)
    rintro _ w43 ⟨rfl, hg'', hM2⟩
    refine at_in ((hG42.upd 1 rfl hM2 hg'')) ?_
    refine at_nil ?_
    refine x_tn ?_
    refine at_seq ?_
    refine at_region ?_
    refine s1 (y_own 0 ti51 rfl rfl rfl) rfl <| s1 (y_p rfl) rfl <| s1 (y_p rfl) rfl <| ?_
    refine at_nil ?_
    refine x_tn ?_
    refine at_ret ?_
    refine at_result (rs := [.tmp 8, .tmp 9]) rfl (r_tmp rfl (r_tmp rfl (r_nil))) fun w1 hG1 => ?_
    have ht : twin m i j l = (change (change (cut m l) i) j, 0) := by
      unfold twin
      rw [if_neg (by rw [e1]; simp), if_neg (by rw [e2]; simp)]; simp
    rw [ht]
    have hbb := Bytes.own (l := change (change (cut m l) i) j) (cap := cap) (hG1.block 1 rfl) (by simp only [len_change]; omega) hmax
    rw [len_change, len_change] at hbb
    exact ⟨⟨some ⟨g, 0, none⟩, (cut m l).length, cap⟩, rfl, hbb, fun _ => hge0, hG1.below (.head _) (by simp; omega)⟩

theorem rtwin_e1 (w : World) (many i j : Int) (s : SV) (l : List UInt8) (hb : Bytes w s l) (h : (masks many i l).2.2 ≠ 0) : Fn Try.prog 13 #[.int .i64 many, .int .i64 i, .int .i64 j, s.v] w (fun v w' => P2 w w' v (twin many i j l)) := by
  refine enter Try.func13 rfl Try.ntmps13 (by kernel_rfl) rfl ?_
  refine at_seq ?_
  refine at_region ?_
  refine s1 (y_p rfl) rfl <| s1 (y_p rfl) rfl <| ?_
  refine at_nil ?_
  refine x_tn ?_
  refine at_seq ?_
  refine at_region ?_
  refine s1 (y_p rfl) rfl <| s1 (y_p rfl) rfl <| s1 (y_p rfl) rfl <| ?_
  refine at_op rfl (n_call rfl rfl fun w17 hG17 => Fn.mono (rmasks_ok w17 many i s l (hG17.bytes (.head _) hb trivial)) ?_)
  rintro _ w18 ⟨sa, sb, rfl, hba, hfa, hbb, hfb, hB17⟩
  refine at_in (hG17.call hB17) ?_
  refine s1 (y_p rfl) rfl <| s1 (y_p rfl) rfl <| s1 (y_p rfl) rfl <| s1 (y_p rfl) rfl <| s1 (y_p rfl) rfl <| s1 (y_p rfl) rfl <| s1 (y_p rfl) rfl <| ?_
  refine at_nil ?_
  refine x_tn ?_
  refine at_seq ?_
  refine at_seq ?_
  refine at_region ?_
  refine s1 (y_p rfl) rfl <| s1 ((y_p rfl).v (v' := .bool true) (congrArg Value.bool (bne_iff_ne.2 h))) rfl <| ?_
  refine at_nil ?_
  refine x_tn ?_
  refine at_then rfl ?_
  refine at_seq ?_
  refine at_region ?_
  refine s1 (y_p rfl) rfl <| s1 (y_p rfl) rfl <| s1 (y_p rfl) rfl <| ?_
  refine at_nil ?_
  refine x_tn ?_
  refine at_ret ?_
  refine x_tr ?_
  refine at_result (rs := [.tmp 8, .tmp 9]) rfl (r_tmp rfl (r_tmp rfl (r_nil))) fun w1 hG1 => ?_
  rw [twin, if_pos h]; exact P2.nil w w1 _ (hG1.below (.tail _ (.head _)) (by simp))

theorem rtwin_e2 (w : World) (m i : Nat) (j : Int) (s : SV) (l : List UInt8) (hb : Bytes w s l) (h : (masks m i l).2.2 = 0) (h0 : sized m l.length = true) (hj : j < 0) : Fn Try.prog 13 #[.int .i64 m, .int .i64 i, .int .i64 j, s.v] w (fun v w' => P2 w w' v (twin m i j l)) := by
  refine enter Try.func13 rfl Try.ntmps13 (by kernel_rfl) rfl ?_
  refine at_seq ?_
  refine at_region ?_
  refine s1 (y_p rfl) rfl <| s1 (y_p rfl) rfl <| ?_
  refine at_nil ?_
  refine x_tn ?_
  refine at_seq ?_
  refine at_region ?_
  refine s1 (y_p rfl) rfl <| s1 (y_p rfl) rfl <| s1 (y_p rfl) rfl <| ?_
  refine at_op rfl (n_call rfl rfl fun w17 hG17 => Fn.mono (rmasks_ok w17 m i s l (hG17.bytes (.head _) hb trivial)) ?_)
  rintro _ w18 ⟨sa, sb, rfl, hba, hfa, hbb, hfb, hB17⟩
  refine at_in (hG17.call hB17) ?_
  refine s1 (y_p rfl) rfl <| s1 (y_p rfl) rfl <| s1 (y_p rfl) rfl <| s1 (y_p rfl) rfl <| s1 (y_p rfl) rfl <| s1 (y_p rfl) rfl <| s1 (y_p rfl) rfl <| ?_
  refine at_nil ?_
  refine x_tn ?_
  refine at_seq ?_
  refine at_seq ?_
  refine at_region ?_
  refine s1 (y_p rfl) rfl <| s1 ((y_p rfl).v (v' := .bool false) (congrArg Value.bool (bne_eq_false_iff_eq.2 h))) rfl <| ?_
  refine at_nil ?_
  refine x_tn ?_
  refine at_else rfl ?_
  refine at_skip ?_
  refine x_tn ?_
  refine at_seq ?_
  refine at_seq ?_
  refine at_region ?_
  refine s1 (y_p rfl) rfl <| s1 ((y_p rfl).v (v' := .bool true) (congrArg Value.bool (decide_eq_true (by omega)))) rfl <| s1 (y_p rfl) rfl <| g0 rfl rfl rfl rfl <| g0 rfl rfl rfl rfl <| g0 rfl rfl rfl rfl <| s1 (y_p rfl) rfl <| ?_
  refine at_nil ?_
  refine x_tn ?_
  refine at_then rfl ?_
  refine at_seq ?_
  refine at_region ?_
  refine s1 (y_p rfl) rfl <| s1 (y_p rfl) rfl <| ?_
  refine at_nil ?_
  refine x_tn ?_
  refine at_ret ?_
  refine x_tr ?_
  refine at_result (rs := [.tmp 8, .tmp 9]) rfl (r_tmp rfl (r_tmp rfl (r_nil))) fun w1 hG1 => ?_
  rw [twin, if_neg (by rw [h]; simp), masks_arg h0 (by omega), if_pos (by simp)]; exact P2.nil w w1 1 (hG1.below (.tail _ (.head _)) (by simp))

theorem rtwin_e3 (w : World) (m i : Nat) (j : Int) (s : SV) (l : List UInt8) (hb : Bytes w s l) (h : (masks m i l).2.2 = 0) (h0 : sized m l.length = true) (hj0 : 0 ≤ j) (hj : m ≤ j) : Fn Try.prog 13 #[.int .i64 m, .int .i64 i, .int .i64 j, s.v] w (fun v w' => P2 w w' v (twin m i j l)) := by
  refine enter Try.func13 rfl Try.ntmps13 (by kernel_rfl) rfl ?_
  refine at_seq ?_
  refine at_region ?_
  refine s1 (y_p rfl) rfl <| s1 (y_p rfl) rfl <| ?_
  refine at_nil ?_
  refine x_tn ?_
  refine at_seq ?_
  refine at_region ?_
  refine s1 (y_p rfl) rfl <| s1 (y_p rfl) rfl <| s1 (y_p rfl) rfl <| ?_
  refine at_op rfl (n_call rfl rfl fun w17 hG17 => Fn.mono (rmasks_ok w17 m i s l (hG17.bytes (.head _) hb trivial)) ?_)
  rintro _ w18 ⟨sa, sb, rfl, hba, hfa, hbb, hfb, hB17⟩
  refine at_in (hG17.call hB17) ?_
  refine s1 (y_p rfl) rfl <| s1 (y_p rfl) rfl <| s1 (y_p rfl) rfl <| s1 (y_p rfl) rfl <| s1 (y_p rfl) rfl <| s1 (y_p rfl) rfl <| s1 (y_p rfl) rfl <| ?_
  refine at_nil ?_
  refine x_tn ?_
  refine at_seq ?_
  refine at_seq ?_
  refine at_region ?_
  refine s1 (y_p rfl) rfl <| s1 ((y_p rfl).v (v' := .bool false) (congrArg Value.bool (bne_eq_false_iff_eq.2 h))) rfl <| ?_
  refine at_nil ?_
  refine x_tn ?_
  refine at_else rfl ?_
  refine at_skip ?_
  refine x_tn ?_
  refine at_seq ?_
  refine at_seq ?_
  refine at_region ?_
  refine s1 (y_p rfl) rfl <| s1 ((y_p rfl).v (v' := .bool false) (congrArg Value.bool (decide_eq_false (by omega)))) rfl <| s1 (y_p rfl) rfl <| g1 rfl rfl (y_p rfl) rfl <| g1 rfl rfl (y_p rfl) rfl <| g1 rfl rfl ((y_p rfl).v (v' := .bool true) (congrArg Value.bool (decide_eq_true (by omega)))) rfl <| s1 (y_p rfl) rfl <| ?_
  refine at_nil ?_
  refine x_tn ?_
  refine at_then rfl ?_
  refine at_seq ?_
  refine at_region ?_
  refine s1 (y_p rfl) rfl <| s1 (y_p rfl) rfl <| ?_
  refine at_nil ?_
  refine x_tn ?_
  refine at_ret ?_
  refine x_tr ?_
  refine at_result (rs := [.tmp 8, .tmp 9]) rfl (r_tmp rfl (r_tmp rfl (r_nil))) fun w1 hG1 => ?_
  rw [twin, if_neg (by rw [h]; simp), masks_arg h0 (by omega), if_pos (by simp)]; exact P2.nil w w1 1 (hG1.below (.tail _ (.head _)) (by simp))

theorem rtwin_e4 (w : World) (m i j : Nat) (s : SV) (l : List UInt8) (hb : Bytes w s l) (h : (masks m i l).2.2 = 0) (h0 : sized m l.length = true) (h1 : i < m) (hj : j < m) : Fn Try.prog 13 #[.int .i64 m, .int .i64 i, .int .i64 j, s.v] w (fun v w' => P2 w w' v (twin m i j l)) := by
  refine enter Try.func13 rfl Try.ntmps13 (by kernel_rfl) rfl ?_
  refine at_seq ?_
  refine at_region ?_
  refine s1 (y_p rfl) rfl <| s1 (y_p rfl) rfl <| ?_
  refine at_nil ?_
  refine x_tn ?_
  refine at_seq ?_
  refine at_region ?_
  refine s1 (y_p rfl) rfl <| s1 (y_p rfl) rfl <| s1 (y_p rfl) rfl <| ?_
  refine at_op rfl (n_call rfl rfl fun w17 hG17 => Fn.mono (rmasks_ok w17 m i s l (hG17.bytes (.head _) hb trivial)) ?_)
  rintro _ w18 ⟨sa, sb, rfl, hba, hfa, hbb, hfb, hB17⟩
  refine at_in (hG17.call hB17) ?_
  refine s1 (y_p rfl) rfl <| s1 (y_p rfl) rfl <| s1 (y_p rfl) rfl <| s1 (y_p rfl) rfl <| s1 (y_p rfl) rfl <| s1 (y_p rfl) rfl <| s1 (y_p rfl) rfl <| ?_
  refine at_nil ?_
  refine x_tn ?_
  refine at_seq ?_
  refine at_seq ?_
  refine at_region ?_
  refine s1 (y_p rfl) rfl <| s1 ((y_p rfl).v (v' := .bool false) (congrArg Value.bool (bne_eq_false_iff_eq.2 h))) rfl <| ?_
  refine at_nil ?_
  refine x_tn ?_
  refine at_else rfl ?_
  refine at_skip ?_
  refine x_tn ?_
  refine at_seq ?_
  refine at_seq ?_
  refine at_region ?_
  refine s1 (y_p rfl) rfl <| s1 ((y_p rfl).v (v' := .bool false) (congrArg Value.bool (decide_eq_false (by omega)))) rfl <| s1 (y_p rfl) rfl <| g1 rfl rfl (y_p rfl) rfl <| g1 rfl rfl (y_p rfl) rfl <| g1 rfl rfl ((y_p rfl).v (v' := .bool false) (congrArg Value.bool (decide_eq_false (by omega)))) rfl <| s1 (y_p rfl) rfl <| ?_
  refine at_nil ?_
  refine x_tn ?_
  refine at_else rfl ?_
  refine at_skip ?_
  refine x_tn ?_
  refine at_seq ?_
  refine at_region ?_
  obtain ⟨m', hm', g1, g2, g3⟩ := sized_spec h0
  obtain rfl : m = m' := by omega
  have hbb2 : Bytes w18 sb (change (cut m l) i) := by rw [masks_yes h0 h1] at hbb; exact hbb
  refine s1 (y_p rfl) rfl <| s1 (y_p rfl) rfl <| ?_
  refine at_op rfl (n_call rfl rfl fun w33 hG33 => Fn.mono (rchange_ok w33 sb (change (cut m l) i) (hG33.bytes (.head _) hbb2 trivial) j (by simp only [len_change, len_cut]; omega) (by omega) (by simp only [len_change, len_cut]; omega)) ?_)
  rintro v33 w34 ⟨hF, hB33⟩
  obtain ⟨sc, rfl, hbc, hfc⟩ := hF.bytes
  refine at_in (hG33.call hB33) ?_
  refine s1 (y_p rfl) rfl <| s1 (y_p rfl) rfl <| ?_
  refine at_nil ?_
  refine x_tn ?_
  refine at_ret ?_
  refine at_result (rs := [.tmp 8, .tmp 9]) rfl (r_tmp rfl (r_tmp rfl (r_nil))) fun w1 hG1 => ?_
  have ht : twin m i j l = (change (change (cut m l) i) j, 0) := by
    unfold twin
    rw [if_neg (by rw [h]; simp), if_neg (by rw [masks_yes h0 hj]; simp)]; simp
  rw [ht]
  have e3 := (hG33.snap w (.tail _ (.head _))).size
  exact ⟨sc, rfl, hG1.bytes (.head _) hbc trivial, fun hh => Nat.le_trans e3 (hfc hh), hG1.below (.tail _ (.tail _ (.head _))) (by simp)⟩

theorem rtwin_ok (w : World) (many i j : Int) (s : SV) (l : List UInt8) (hb : Bytes w s l) : Fn Try.prog 13 #[.int .i64 many, .int .i64 i, .int .i64 j, s.v] w (fun v w' => P2 w w' v (twin many i j l)) := by
  by_cases h : (masks many i l).2.2 = 0
  · obtain ⟨m, i, rfl, rfl, g1, g2, g3, g4⟩ := masks_zero h
    have h0 : sized m l.length = true := by simp only [sized, decide_eq_true_eq]; omega
    by_cases h1 : j < 0
    · exact rtwin_e2 w m i j s l hb h h0 h1
    · by_cases h2 : (m : Int) ≤ j
      · exact rtwin_e3 w m i j s l hb h h0 (by omega) h2
      · obtain ⟨j, rfl⟩ := Int.eq_ofNat_of_zero_le (by omega : 0 ≤ j)
        exact rtwin_e4 w m i j s l hb h h0 g4 (by omega)
  · exact rtwin_e1 w many i j s l hb h

theorem few_ok (w : World) (sv : SV) (rs : List SV) (ls : List (List UInt8)) (hs : Rows w 0 sv rs ls) (most : Int) : Fn Try.prog 14 #[sv.v, .int .i64 most] w (fun v w' => v = .bool (few ls most) ∧ RowKit.Below w.heap.size w w') := by
  refine enter Try.func14 rfl Try.ntmps14 (by kernel_rfl) rfl ?_
  refine at_seq ?_
  refine at_region ?_
  refine s1 (y_p rfl) rfl <| ?_
  refine at_nil ?_
  refine x_tn ?_
  refine at_seq ?_
  refine at_seq ?_
  refine at_region ?_
  refine s1 (y_p rfl) rfl <| ?_
  refine at_nil ?_
  refine x_tn ?_
  refine at_block ?_
  refine at_loop (ι := Nat) (fun i => [(0, sv.v), (1, .int .i64 most), (5, .int .i64 (i : Int))]) (fun i => [w]) (fun i => []) (fun i => i ≤ ls.length ∧ ∀ k, k < i → (ls.getD k []).length ≤ 130) (fun i => ls.length - i) ?_ ?_
  · have hsn := hs.n
    have hsl := hs.len
    have hsm := Nat.le_trans hs.sl.le hs.sl.max
    simp only [maxLen] at hsm
    exact at_ex 0 ⟨Nat.zero_le _, fun k hk => absurd hk (by omega)⟩ ⟨rfl, rfl, rfl, trivial⟩ (fun _ h => h)
  rintro i ⟨hi0, hall⟩
  have hsn := hs.n
  have hsl := hs.len
  have hsm := Nat.le_trans hs.sl.le hs.sl.max
  simp only [maxLen] at hsm
  refine at_seq ?_
  refine at_seq ?_
  refine at_region ?_
  refine s1 (y_p rfl) rfl <| s1 (y_p rfl) rfl <| s1 (y_len Try.underlying30 rfl rfl) rfl <| s1 (y_p rfl) rfl <| ?_
  refine at_nil ?_
  refine x_tn ?_
  refine at_cond rfl (fun hc9 => ?_) (fun hc9 => ?_)
  · have hi : i < ls.length := by have := of_decide_eq_true hc9; omega
    obtain ⟨r, hr, hb⟩ := hs.get hi
    have hrn := hb.1
    refine at_skip ?_
    refine x_tn ?_
    refine at_seq ?_
    refine at_block ?_
    refine at_seq ?_
    refine at_region ?_
    refine s1 (y_p rfl) rfl <| s1 (y_p rfl) rfl <| s1 (y_idx1 i Try.underlying30 ti22 rfl rfl rfl (by omega) (hs.sl.addr (by omega))) rfl <| s1 (y_load ti22 rfl (fun w1 hG1 => hG1.cell' (.head _) (hs.cell hr) trivial)) rfl <| s1 (y_len Try.underlying22 rfl rfl) rfl <| s1 (y_p rfl) rfl <| ?_
    refine at_nil ?_
    refine x_tn ?_
    refine at_cond rfl (fun hc17 => ?_) (fun hc17 => ?_)
    · skip
      refine at_seq ?_
      refine at_region ?_
      refine s1 (y_p rfl) rfl <| ?_
      refine at_nil ?_
      refine x_tn ?_
      refine at_ret ?_
      refine x_br ?_
      refine x_tr ?_
      refine x_tr ?_
      refine x_br ?_
      refine x_tr ?_
      refine at_result (rs := [.tmp 4]) rfl (r_tmp rfl (r_nil)) fun w1 hG1 => ⟨?_, (hG1.below (.head _) (by simp))⟩
      rw [few_no hi (by have := of_decide_eq_true hc17; omega)]; rfl
    · skip
      refine at_skip ?_
      refine x_bn ?_
      refine x_tn ?_
      refine at_region ?_
      refine s1 (y_p rfl) rfl <| s1 (addN i 1 rfl rfl rfl rfl (by omega)) rfl <| s1 (y_p rfl) rfl <| ?_
      refine at_nil ?_
      exact at_end (i + 1) ⟨by omega, lt_succ_all hall (by have := of_decide_eq_false hc17; omega)⟩ (by omega) ⟨rfl, rfl, rfl, trivial⟩ (fun _ h => h)
  · have hi : i = ls.length := by have := of_decide_eq_false hc9; omega
    refine at_exit ?_
    refine x_te ?_
    refine x_te ?_
    refine x_be ?_
    refine x_tn ?_
    refine at_seq ?_
    refine at_region ?_
    refine s1 (y_p rfl) rfl <| s1 (y_len Try.underlying30 rfl rfl) rfl <| s1 (y_p rfl) rfl <| s1 ((y_p rfl).v (v' := .bool (decide ((sv.n : Int) ≤ most))) (rfl)) rfl <| s1 (y_p rfl) rfl <| ?_
    refine at_nil ?_
    refine x_tn ?_
    refine at_ret ?_
    refine at_result (rs := [.tmp 4]) rfl (r_tmp rfl (r_nil)) fun w1 hG1 => ⟨?_, (hG1.below (.head _) (by simp))⟩
    rw [few_yes (fun k hk => hall k (by omega)), ← hsl, ← hsn]; rfl

theorem same_ok (w : World) (sv : SV) (rs : List SV) (ls : List (List UInt8)) (hs : Rows w 0 sv rs ls) (sv2 : SV) (rs2 : List SV) (ls2 : List (List UInt8)) (hs2 : Rows w 0 sv2 rs2 ls2) : Fn Try.prog 19 #[sv.v, sv2.v] w (fun v w' => v = .bool (ls == ls2) ∧ RowKit.Below w.heap.size w w') := by
  refine enter Try.func19 rfl Try.ntmps19 (by kernel_rfl) rfl ?_
  refine at_seq ?_
  refine at_region ?_
  refine s1 (y_p rfl) rfl <| ?_
  refine at_nil ?_
  refine x_tn ?_
  refine at_seq ?_
  refine at_seq ?_
  refine at_region ?_
  have hsn := hs.n
  have hsl := hs.len
  have hsm := Nat.le_trans hs.sl.le hs.sl.max
  simp only [maxLen] at hsm
  have hsn2 := hs2.n
  have hsl2 := hs2.len
  refine s1 (y_p rfl) rfl <| s1 (y_len Try.underlying30 rfl rfl) rfl <| s1 (y_p rfl) rfl <| s1 (y_len Try.underlying30 rfl rfl) rfl <| s1 (y_p rfl) rfl <| ?_
  refine at_nil ?_
  refine x_tn ?_
  refine at_cond rfl (fun hc10 => ?_) (fun hc10 => ?_)
  · have hne : ls ≠ ls2 := by have := bne_iff_ne.1 hc10; intro e; subst e; omega
    refine at_seq ?_
    refine at_region ?_
    refine s1 (y_p rfl) rfl <| ?_
    refine at_nil ?_
    refine x_tn ?_
    refine at_ret ?_
    refine x_tr ?_
    refine at_result (rs := [.tmp 4]) rfl (r_tmp rfl (r_nil)) fun w1 hG1 => ⟨?_, (hG1.below (.head _) (by simp))⟩
    rw [show (ls == ls2) = false from by simpa using hne]; rfl
  · have hlen : ls.length = ls2.length := by have := bne_eq_false_iff_eq.1 hc10; omega
    refine at_skip ?_
    refine x_tn ?_
    refine at_seq ?_
    refine at_seq ?_
    refine at_region ?_
    refine s1 (y_p rfl) rfl <| ?_
    refine at_nil ?_
    refine x_tn ?_
    refine at_block ?_
    refine at_loop (ι := Nat) (fun i => [(0, sv.v), (1, sv2.v), (5, .int .i64 (i : Int))]) (fun i => [w]) (fun i => []) (fun i => i ≤ ls.length ∧ ls.take i = ls2.take i) (fun i => ls.length - i) ?_ ?_
    · exact at_ex 0 ⟨Nat.zero_le _, rfl⟩ ⟨rfl, rfl, rfl, trivial⟩ (fun _ h => h)
    rintro i ⟨hi0, heq⟩
    refine at_seq ?_
    refine at_seq ?_
    refine at_region ?_
    refine s1 (y_p rfl) rfl <| s1 (y_p rfl) rfl <| s1 (y_len Try.underlying30 rfl rfl) rfl <| s1 (y_p rfl) rfl <| ?_
    refine at_nil ?_
    refine x_tn ?_
    refine at_cond rfl (fun hc14 => ?_) (fun hc14 => ?_)
    · have hi : i < ls.length := by have := of_decide_eq_true hc14; omega
      obtain ⟨r, hr, hb⟩ := hs.get hi
      have hrn := hb.1
      obtain ⟨r2, hr2, hb2⟩ := hs2.get (i := i) (by omega)
      have hrn2 := hb2.1
      refine at_skip ?_
      refine x_tn ?_
      refine at_seq ?_
      refine at_block ?_
      refine at_seq ?_
      refine at_draw_tail 10 hmix (by kernel_rfl) ?_
      refine t1 (y_p rfl) rfl <| t1 (y_p rfl) rfl <| t1 (y_idx1 i Try.underlying30 ti22 rfl rfl rfl (by omega) (hs.sl.addr (by omega))) rfl <| t1 (y_load ti22 rfl (fun w1 hG1 => hG1.cell' (.head _) (hs.cell hr) trivial)) rfl <| t1 (y_str (s := r) Try.underlying22 Try.underlying5 Try.underlying9 rfl (fun w1 hG1 => hG1.bytes (.head _) hb trivial)) rfl <| t1 (y_p rfl) rfl <| t1 (y_p rfl) rfl <| t1 (y_idx1 i Try.underlying30 ti22 rfl rfl rfl (by omega) (hs2.sl.addr (by omega))) rfl <| t1 (y_load ti22 rfl (fun w1 hG1 => hG1.cell' (.head _) (hs2.cell hr2) trivial)) rfl <| t1 (y_str (s := r2) Try.underlying22 Try.underlying5 Try.underlying9 rfl (fun w1 hG1 => hG1.bytes (.head _) hb2 trivial)) rfl <| ?_
      refine at_snil ?_
      refine s1 ((y_p rfl).v (v' := .bool (!(ls.getD i [] == ls2.getD i []))) (by rw [str_toList, str_toList])) rfl <| ?_
      refine at_nil ?_
      refine x_tn ?_
      refine at_cond rfl (fun hc27 => ?_) (fun hc27 => ?_)
      · have hne : ls ≠ ls2 := by intro e; subst e; simp at hc27
        refine at_seq ?_
        refine at_region ?_
        refine s1 (y_p rfl) rfl <| ?_
        refine at_nil ?_
        refine x_tn ?_
        refine at_ret ?_
        refine x_br ?_
        refine x_tr ?_
        refine x_tr ?_
        refine x_br ?_
        refine x_tr ?_
        refine at_result (rs := [.tmp 4]) rfl (r_tmp rfl (r_nil)) fun w1 hG1 => ⟨?_, (hG1.below (.head _) (by simp))⟩
        rw [show (ls == ls2) = false from by simpa using hne]; rfl
      · have hx : ls.getD i [] = ls2.getD i [] := by simpa using hc27
        refine at_skip ?_
        refine x_bn ?_
        refine x_tn ?_
        refine at_region ?_
        refine s1 (y_p rfl) rfl <| s1 (addN i 1 rfl rfl rfl rfl (by omega)) rfl <| s1 (y_p rfl) rfl <| ?_
        refine at_nil ?_
        exact at_end (i + 1) ⟨by omega, by rw [take_nextR ls i hi, take_nextR ls2 i (by omega), heq, hx]⟩ (by omega) ⟨rfl, rfl, rfl, trivial⟩ (fun _ h => h)
    · have hi : i = ls.length := by have := of_decide_eq_false hc14; omega
      refine at_exit ?_
      refine x_te ?_
      refine x_te ?_
      refine x_be ?_
      refine x_tn ?_
      refine at_seq ?_
      refine at_region ?_
      refine s1 (y_p rfl) rfl <| ?_
      refine at_nil ?_
      refine x_tn ?_
      refine at_ret ?_
      refine at_result (rs := [.tmp 4]) rfl (r_tmp rfl (r_nil)) fun w1 hG1 => ⟨?_, (hG1.below (.head _) (by simp))⟩
      rw [show (ls == ls2) = true from by rw [hi] at heq; rw [List.take_length, hlen, List.take_length] at heq; simpa using heq]; rfl

theorem database_ok (w : World) (sv : SV) (rs : List SV) (ls : List (List UInt8)) (hs : Rows w 0 sv rs ls) : Fn Try.prog 36 #[sv.v] w (fun v w' => v = .bool (database ls) ∧ RowKit.Below w.heap.size w w') := by
  refine enter Try.func36 rfl Try.ntmps36 (by kernel_rfl) rfl ?_
  refine at_seq ?_
  refine at_region ?_
  refine s1 (y_p rfl) rfl <| ?_
  refine at_nil ?_
  refine x_tn ?_
  refine at_seq ?_
  refine at_seq ?_
  refine at_region ?_
  refine s1 (y_p rfl) rfl <| ?_
  refine at_nil ?_
  refine x_tn ?_
  refine at_block ?_
  refine at_loop (ι := Nat) (fun i => [(0, sv.v), (3, .int .i64 (i : Int))]) (fun i => [w]) (fun i => []) (fun i => i ≤ ls.length ∧ ∀ k, k < i → (ls.getD k []).length = 16) (fun i => ls.length - i) ?_ ?_
  · have hsn := hs.n
    have hsl := hs.len
    have hsm := Nat.le_trans hs.sl.le hs.sl.max
    simp only [maxLen] at hsm
    exact at_ex 0 ⟨Nat.zero_le _, fun k hk => absurd hk (by omega)⟩ ⟨rfl, rfl, trivial⟩ (fun _ h => h)
  rintro i ⟨hi0, hall⟩
  have hsn := hs.n
  have hsl := hs.len
  have hsm := Nat.le_trans hs.sl.le hs.sl.max
  simp only [maxLen] at hsm
  refine at_seq ?_
  refine at_seq ?_
  refine at_region ?_
  refine s1 (y_p rfl) rfl <| s1 (y_p rfl) rfl <| s1 (y_len Try.underlying30 rfl rfl) rfl <| s1 (y_p rfl) rfl <| ?_
  refine at_nil ?_
  refine x_tn ?_
  refine at_cond rfl (fun hc7 => ?_) (fun hc7 => ?_)
  · have hi : i < ls.length := by have := of_decide_eq_true hc7; omega
    obtain ⟨r, hr, hb⟩ := hs.get hi
    have hrn := hb.1
    refine at_skip ?_
    refine x_tn ?_
    refine at_seq ?_
    refine at_block ?_
    refine at_seq ?_
    refine at_region ?_
    refine s1 (y_p rfl) rfl <| s1 (y_p rfl) rfl <| s1 (y_idx1 i Try.underlying30 ti22 rfl rfl rfl (by omega) (hs.sl.addr (by omega))) rfl <| s1 (y_load ti22 rfl (fun w1 hG1 => hG1.cell' (.head _) (hs.cell hr) trivial)) rfl <| s1 (y_len Try.underlying22 rfl rfl) rfl <| s1 (y_p rfl) rfl <| ?_
    refine at_nil ?_
    refine x_tn ?_
    refine at_cond rfl (fun hc15 => ?_) (fun hc15 => ?_)
    · skip
      refine at_seq ?_
      refine at_region ?_
      refine s1 (y_p rfl) rfl <| ?_
      refine at_nil ?_
      refine x_tn ?_
      refine at_ret ?_
      refine x_br ?_
      refine x_tr ?_
      refine x_tr ?_
      refine x_br ?_
      refine x_tr ?_
      refine at_result (rs := [.tmp 2]) rfl (r_tmp rfl (r_nil)) fun w1 hG1 => ⟨?_, (hG1.below (.head _) (by simp))⟩
      rw [database_no hi (by have := bne_iff_ne.1 hc15; omega)]; rfl
    · skip
      refine at_skip ?_
      refine x_bn ?_
      refine x_tn ?_
      refine at_region ?_
      refine s1 (y_p rfl) rfl <| s1 (addN i 1 rfl rfl rfl rfl (by omega)) rfl <| s1 (y_p rfl) rfl <| ?_
      refine at_nil ?_
      exact at_end (i + 1) ⟨by omega, lt_succ_all hall (by have := bne_eq_false_iff_eq.1 hc15; omega)⟩ (by omega) ⟨rfl, rfl, trivial⟩ (fun _ h => h)
  · have hi : i = ls.length := by have := of_decide_eq_false hc7; omega
    by_cases h1 : 1 ≤ ls.length
    · by_cases h2 : ls.length ≤ 1024
      · refine at_exit ?_
        refine x_te ?_
        refine x_te ?_
        refine x_be ?_
        refine x_tn ?_
        refine at_seq ?_
        refine at_region ?_
        refine s1 (y_p rfl) rfl <| s1 (y_len Try.underlying30 rfl rfl) rfl <| s1 ((y_p rfl).v (v' := .bool true) (congrArg Value.bool (decide_eq_true (by omega)))) rfl <| s1 (y_p rfl) rfl <| g1 rfl rfl (y_p rfl) rfl <| g1 rfl rfl (y_len Try.underlying30 rfl rfl) rfl <| g1 rfl rfl ((y_p rfl).v (v' := .bool true) (congrArg Value.bool (decide_eq_true (by omega)))) rfl <| s1 (y_p rfl) rfl <| s1 (y_p rfl) rfl <| ?_
        refine at_nil ?_
        refine x_tn ?_
        refine at_ret ?_
        refine at_result (rs := [.tmp 2]) rfl (r_tmp rfl (r_nil)) fun w1 hG1 => ⟨?_, (hG1.below (.head _) (by simp))⟩
        rw [database_end (fun k hk => hall k (by omega))]; first | rw [decide_eq_true (by omega)]; rfl | rw [decide_eq_false (by omega)]; rfl
      · refine at_exit ?_
        refine x_te ?_
        refine x_te ?_
        refine x_be ?_
        refine x_tn ?_
        refine at_seq ?_
        refine at_region ?_
        refine s1 (y_p rfl) rfl <| s1 (y_len Try.underlying30 rfl rfl) rfl <| s1 ((y_p rfl).v (v' := .bool true) (congrArg Value.bool (decide_eq_true (by omega)))) rfl <| s1 (y_p rfl) rfl <| g1 rfl rfl (y_p rfl) rfl <| g1 rfl rfl (y_len Try.underlying30 rfl rfl) rfl <| g1 rfl rfl ((y_p rfl).v (v' := .bool false) (congrArg Value.bool (decide_eq_false (by omega)))) rfl <| s1 (y_p rfl) rfl <| s1 (y_p rfl) rfl <| ?_
        refine at_nil ?_
        refine x_tn ?_
        refine at_ret ?_
        refine at_result (rs := [.tmp 2]) rfl (r_tmp rfl (r_nil)) fun w1 hG1 => ⟨?_, (hG1.below (.head _) (by simp))⟩
        rw [database_end (fun k hk => hall k (by omega))]; first | rw [decide_eq_true (by omega)]; rfl | rw [decide_eq_false (by omega)]; rfl
    · refine at_exit ?_
      refine x_te ?_
      refine x_te ?_
      refine x_be ?_
      refine x_tn ?_
      refine at_seq ?_
      refine at_region ?_
      refine s1 (y_p rfl) rfl <| s1 (y_len Try.underlying30 rfl rfl) rfl <| s1 ((y_p rfl).v (v' := .bool false) (congrArg Value.bool (decide_eq_false (by omega)))) rfl <| s1 (y_p rfl) rfl <| g0 rfl rfl rfl rfl <| g0 rfl rfl rfl rfl <| g0 rfl rfl rfl rfl <| s1 (y_p rfl) rfl <| s1 (y_p rfl) rfl <| ?_
      refine at_nil ?_
      refine x_tn ?_
      refine at_ret ?_
      refine at_result (rs := [.tmp 2]) rfl (r_tmp rfl (r_nil)) fun w1 hG1 => ⟨?_, (hG1.below (.head _) (by simp))⟩
      rw [database_end (fun k hk => hall k (by omega))]; first | rw [decide_eq_true (by omega)]; rfl | rw [decide_eq_false (by omega)]; rfl

end Go.Eng.R36
