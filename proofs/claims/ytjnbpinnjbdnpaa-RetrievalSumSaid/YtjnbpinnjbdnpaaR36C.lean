/-
  Layer 36: walks of the retrieval functions. Conditions: each theorem says its own.
-/
import Derived.Test.YtjnbpinnjbdnpaaR36B
namespace Go.Eng.R36
open Go Go.Eng Go.Proofs

theorem rsize_ok (w : World) (m : Nat) (h : m ≤ 1024) : Fn Try.prog 27 #[.int .i64 m] w (fun v w' => v = .int .i64 (((m + 7) / 8 : Nat) : Int) ∧ RowKit.Below w.heap.size w w') := by
  refine enter Try.func27 rfl Try.ntmps27 (by kernel_rfl) rfl ?_
  refine at_seq ?_
  refine at_region ?_
  refine s1 (y_p rfl) rfl <| ?_
  refine at_nil ?_
  refine x_tn ?_
  refine at_seq ?_
  refine at_region ?_
  refine s1 (y_p rfl) rfl <| s1 (addN m 7 rfl rfl rfl rfl (by omega)) rfl <| s1 (quoN (m + 7) 8 rfl rfl rfl rfl (by omega) (by omega)) rfl <| s1 (y_p rfl) rfl <| ?_
  refine at_nil ?_
  refine x_tn ?_
  refine at_ret ?_
  refine at_result (rs := [.tmp 2]) rfl (r_tmp rfl (r_nil)) fun w1 hG1 => ⟨rfl, (hG1.below (.head _) (by simp))⟩

theorem rchooses_ok (w : World) (s : SV) (l : List UInt8) (hb : Bytes w s l) (k : Nat) (hk : k / 8 < l.length) (hbg : k < 9223372036854775808) : Fn Try.prog 38 #[s.v, .int .i64 k] w (fun v w' => v = .bool (chooses l k) ∧ RowKit.Below w.heap.size w w') := by
  refine enter Try.func38 rfl Try.ntmps38 (by kernel_rfl) rfl ?_
  refine at_seq ?_
  refine at_region ?_
  refine s1 (y_p rfl) rfl <| ?_
  refine at_nil ?_
  refine x_tn ?_
  refine at_seq ?_
  refine at_region ?_
  refine s1 (y_p rfl) rfl <| s1 (y_p rfl) rfl <| s1 (quoN k 8 rfl rfl rfl rfl (by omega) hbg) rfl <| s1 (y_idx1 (k / 8) Try.underlying22 ti5 rfl rfl rfl (by have := hb.1; omega) (hb.2.addr (by have := hb.1; omega))) rfl <| s1 (y_load ti5 rfl (fun w1 hG1 => (hG1.bytes (.head _) hb trivial).at' (getD_get l _ hk))) rfl <| s1 (y_p rfl) rfl <| s1 (remN k 8 rfl rfl rfl rfl (by omega)) rfl <| s1 (shrB (l.getD (k / 8) 0) (k % 8) rfl rfl rfl (by omega)) rfl <| s1 (andB _ 1 rfl rfl) rfl <| s1 ((y_p rfl).v (v' := .bool (chooses l k)) (congrArg Value.bool (eqB _ _))) rfl <| s1 (y_p rfl) rfl <| ?_
  refine at_nil ?_
  refine x_tn ?_
  refine at_ret ?_
  refine at_result (rs := [.tmp 4]) rfl (r_tmp rfl (r_nil)) fun w1 hG1 => ⟨rfl, (hG1.below (.head _) (by simp))⟩

theorem rchange_ok (w : World) (s : SV) (l : List UInt8) (hb : Bytes w s l) (k : Nat) (hk : k / 8 < l.length) (hbg : k < 9223372036854775808) (hsz : l.length ≤ 140737488355328) : Fn Try.prog 29 #[s.v, .int .i64 k] w (fun v w' => FreshB 5 w w' v (change l k) ∧ RowKit.Below w.heap.size w w') := by
  refine enter Try.func29 rfl Try.ntmps29 (by kernel_rfl) rfl ?_
  refine at_seq ?_
  refine at_region ?_
  refine s1 (y_p rfl) rfl <| ?_
  refine at_nil ?_
  refine x_tn ?_
  refine at_seq ?_
  refine at_region ?_
  refine at_op rfl (n_bs1 [] Try.underlying22 ti5 rfl rfl rfl rfl rfl rfl fun b6 hS6 hH6 => ?_)
  simp only [leAll, ltAll, and_true] at hS6 hH6
  refine s1 (y_p rfl) rfl <| ?_
  refine at_op rfl (n_app [] [] [w] (cells := []) (xs := []) Try.underlying22 ti5 rfl rfl rfl (OS.mk' b6 rfl (Nat.le_refl _) (Nat.zero_le _)) ?_ (fun w1 hG1 => (hG1.bytes (.head _) hb ⟨.inr hS6, trivial⟩).2) (by simp [Value.oneCell']) ?_ ?_ rfl rfl fun w1 hG1 a' c' cells' hOS hnew => ?_)
  · simp; exact hS6
  · have := hb.1; simp only [maxLen]; omega
  · have := hb.1; omega
  have hge := app_ge (w := w) hnew hS6 (hG1.snap w (.head _)).size
  rw [List.nil_append] at hOS
  obtain ⟨x, rfl⟩ : ∃ x, a' = some x := by
    cases a' with
    | none => exact absurd rfl (app_some hnew)
    | some x => exact ⟨x, rfl⟩
  obtain ⟨hx, hcl, htk⟩ := hOS.some x rfl
  have hl := hb.1
  have hlen : (l.map B).length = l.length := by simp
  have hle := hOS.le
  obtain ⟨rest, rfl⟩ : ∃ rest, cells' = l.map B ++ rest := ⟨cells'.drop ((0 + s.n) * 1), by rw [← htk]; exact (List.take_append_drop _ _).symm⟩
  have hget : (l.map B ++ rest)[k / 8]? = some (B (l.getD (k / 8) 0)) := by rw [List.getElem?_append_left (by simpa using hk), List.getElem?_map, getD_get l _ hk]; rfl
  have hset := set_B l rest (k / 8) (l.getD (k / 8) 0 ^^^ bitB (k % 8)) hk
  generalize x.block = g at *
  subst hx
  refine s1 (y_p rfl) rfl <| ?_
  refine at_nil ?_
  refine x_tn ?_
  refine at_seq ?_
  refine at_draw_tail 13 hmix (by kernel_rfl) ?_
  refine t1 (y_p rfl) rfl <| t1 (y_p rfl) rfl <| t1 (quoN k 8 rfl rfl rfl rfl (by omega) hbg) rfl <| t1 (y_p rfl) rfl <| t1 (y_p rfl) rfl <| t1 (quoN k 8 rfl rfl rfl rfl (by omega) hbg) rfl <| t1 (y_idxo (k / 8) (k / 8) Try.underlying22 ti5 rfl rfl rfl (by omega) (by omega)) rfl <| t1 (y_own 0 ti5 rfl rfl hget) rfl <| t1 (y_p rfl) rfl <| t1 (remN k 8 rfl rfl rfl rfl (by omega)) rfl <| t1 (shl1B (k % 8) rfl rfl rfl (by omega)) rfl <| t1 (xorB _ _ rfl rfl) rfl <| ?_
  refine t1 (y_idxo (k / 8) (k / 8) Try.underlying22 ti5 rfl rfl rfl (by omega) (by omega)) rfl <| ?_
  refine at_snil ?_
  refine at_op rfl (n_store1c 0 ti5 rfl rfl rfl rfl (by simp; omega) hset ?_)
  refine at_nil ?_
  refine x_tn ?_
  refine at_seq ?_
  refine at_region ?_
  refine s1 (y_p rfl) rfl <| s1 (y_p rfl) rfl <| ?_
  refine at_nil ?_
  refine x_tn ?_
  refine at_ret ?_
  refine at_result (rs := [.tmp 4]) rfl (r_tmp rfl (r_nil)) fun w2 hG2 => ?_
  have hgw := hge ⟨g, 0, none⟩ rfl
  refine ⟨⟨g, c', rest, ?_, hgw, hG2.block 0 rfl, ?_, hOS.max⟩, hG2.below (.tail _ (.head _)) (by simpa [ownS] using hgw)⟩
  · rw [len_change, ← hl, Nat.zero_add]; rfl
  · simp only [List.length_append, hlen] at hcl; rw [len_change]; omega

theorem rmaskOf_ok (w : World) (many : Nat) (s : SV) (l : List UInt8) (hb : Bytes w s l) (h1 : 1 ≤ many) (h2 : many ≤ 1024) (hl : l.length = (many + 7) / 8) : Fn Try.prog 28 #[.int .i64 many, s.v] w (fun v w' => FreshB 5 w w' v (cut many l) ∧ RowKit.Below w.heap.size w w') := by
  refine enter Try.func28 rfl Try.ntmps28 (by kernel_rfl) rfl ?_
  refine at_seq ?_
  refine at_region ?_
  refine s1 (y_p rfl) rfl <| ?_
  refine at_nil ?_
  refine x_tn ?_
  refine at_seq ?_
  refine at_region ?_
  refine at_op rfl (n_bs1 [] Try.underlying22 ti5 rfl rfl rfl rfl rfl rfl fun b7 hS7 hH7 => ?_)
  simp only [leAll, ltAll, and_true] at hS7 hH7
  refine s1 (y_p rfl) rfl <| ?_
  refine at_op rfl (n_app [] [] [w] (cells := []) (xs := []) Try.underlying22 ti5 rfl rfl rfl (OS.mk' b7 rfl (Nat.le_refl _) (Nat.zero_le _)) ?_ (fun w1 hG1 => (hG1.bytes (.head _) hb ⟨.inr hS7, trivial⟩).2) (by simp [Value.oneCell']) ?_ ?_ rfl rfl fun w1 hG1 a' c' cells' hOS hnew => ?_)
  · simp; exact hS7
  · have := hb.1; simp only [maxLen]; omega
  · have := hb.1; omega
  have hge := app_ge (w := w) hnew hS7 (hG1.snap w (.head _)).size
  rw [List.nil_append] at hOS
  refine at_open fun w2 hG2 => ?_
  have hF : FreshB 5 w w2 (.slice a' (0 + s.n) c') l := freshB_of hOS (app_some hnew) (fun p hp => hG2.own p (by simpa using hp)) hge
  obtain ⟨g, cap, rest, hv, hgw, hg, hcap, hmax⟩ := hF
  rw [hv]
  have hB2 := hG2.below (s := w) (.tail _ (.head _)) (by intro p hp; obtain ⟨x, hx, rfl⟩ := mem_ownS (by simpa using hp); exact hge x hx)
  have hby : Bytes w2 ⟨some ⟨g, 0, none⟩, l.length, cap⟩ l := Bytes.own hg (by omega) hmax
  refine at_in (S := [w2, w]) (H := []) ⟨?_, (fun p hp => by cases hp), List.Pairwise.nil⟩ ?_
  · intro s' hs'
    simp only [List.mem_cons, List.not_mem_nil, or_false] at hs'
    rcases hs' with rfl | rfl
    · exact ⟨rfl, rfl, rfl, Nat.le_refl _, fun _ _ _ => rfl⟩
    · exact ⟨hB2.os, hB2.tape, hB2.output, hB2.size, fun k hk _ => hB2.block k hk⟩
  refine s1 (y_p rfl) rfl <| ?_
  refine at_nil ?_
  refine x_tn ?_
  refine at_seq ?_
  refine at_seq ?_
  refine at_region ?_
  refine s1 (y_p rfl) rfl <| s1 (y_p rfl) rfl <| ?_
  refine at_nil ?_
  refine x_tn ?_
  refine at_block ?_
  refine at_loop (ι := World × Value × Nat) (fun ⟨u, v, k⟩ => [(0, .int .i64 (many : Int)), (1, s.v), (5, v), (6, .int .i64 ((many + k : Nat) : Int))]) (fun ⟨u, v, k⟩ => [u, w]) (fun ⟨u, v, k⟩ => []) (fun ⟨u, v, k⟩ => many + k ≤ 8 * l.length ∧ FreshB 5 w u v (clrs l many k)) (fun ⟨u, v, k⟩ => 8 * l.length - k) ?_ ?_
  · exact at_ex (w2, _, 0) ⟨by omega, ⟨g, cap, rest, rfl, hgw, hg, hcap, hmax⟩⟩ ⟨rfl, rfl, rfl, rfl, trivial⟩ (fun _ h => h)
  rintro ⟨u, v, k⟩ ⟨hk0, hF⟩
  dsimp only
  obtain ⟨g1, cap1, rest1, rfl, hg1, hgb1, hc1, hm1⟩ := hF
  have hlk := len_clrs l many k
  have hby1 : Bytes u ⟨some ⟨g1, 0, none⟩, (clrs l many k).length, cap1⟩ (clrs l many k) := Bytes.own hgb1 (by omega) hm1
  refine at_seq ?_
  refine at_seq ?_
  refine at_region ?_
  refine s1 (y_p rfl) rfl <| s1 (y_p rfl) rfl <| s1 (y_len Try.underlying22 rfl rfl) rfl <| s1 (mulN 8 (clrs l many k).length rfl rfl rfl rfl (by omega)) rfl <| s1 (y_p rfl) rfl <| ?_
  refine at_nil ?_
  refine x_tn ?_
  refine at_cond rfl (fun hc15 => ?_) (fun hc15 => ?_)
  · have hlt : many + k < 8 * (clrs l many k).length := by have := of_decide_eq_true hc15; omega
    refine at_skip ?_
    refine x_tn ?_
    refine at_seq ?_
    refine at_block ?_
    refine at_seq ?_
    refine at_region ?_
    refine s1 (y_p rfl) rfl <| s1 (y_p rfl) rfl <| ?_
    refine at_op rfl (n_call rfl rfl fun w20 hG20 => Fn.mono (rchooses_ok w20 ⟨some ⟨g1, 0, none⟩, (clrs l many k).length, cap1⟩ (clrs l many k) (hG20.bytes (.head _) hby1 trivial) (many + k) (by omega) (by omega)) ?_)
    rintro _ w21 ⟨rfl, hB21⟩
    refine at_in ((hG20.ext hB21)) ?_
    refine at_nil ?_
    refine x_tn ?_
    refine at_cond rfl (fun hc20 => ?_) (fun hc20 => ?_)
    · skip
      refine at_region ?_
      refine s1 (y_p rfl) rfl <| s1 (y_p rfl) rfl <| ?_
      refine at_op rfl (n_call rfl rfl fun w23 hG23 => Fn.mono (rchange_ok w23 ⟨some ⟨g1, 0, none⟩, (clrs l many k).length, cap1⟩ (clrs l many k) (hG23.bytes (.head _) hby1 trivial) (many + k) (by omega) (by omega) (by omega)) ?_)
      rintro v2 w24 ⟨hF1, hB24⟩
      have hF2 : FreshB 5 w w24 v2 (change (clrs l many k) (many + k)) := hF1.lower (hG23.snap w (.tail _ (.head _))).size
      refine at_in (hG23.call hB24) ?_
      refine s1 (y_p rfl) rfl <| ?_
      refine at_nil ?_
      refine x_bn ?_
      refine x_tn ?_
      refine at_region ?_
      refine s1 (y_p rfl) rfl <| s1 (addN (many + k) 1 rfl rfl rfl rfl (by omega)) rfl <| s1 (y_p rfl) rfl <| ?_
      refine at_nil ?_
      exact at_end (x := (u, .slice (some ⟨g1, 0, none⟩) (clrs l many k).length cap1, k)) (w24, v2, k + 1) ⟨(show many + (k + 1) ≤ 8 * l.length from by omega), by rw [clrs, clr, if_pos hc20]; exact hF2⟩ (show 8 * l.length - (k + 1) < 8 * l.length - k from by omega) ⟨rfl, rfl, rfl, rfl, trivial⟩ (fun _ h => h.sub (by simp))
    · skip
      refine at_skip ?_
      refine x_bn ?_
      refine x_tn ?_
      refine at_region ?_
      refine s1 (y_p rfl) rfl <| s1 (addN (many + k) 1 rfl rfl rfl rfl (by omega)) rfl <| s1 (y_p rfl) rfl <| ?_
      refine at_nil ?_
      exact at_end (x := (u, .slice (some ⟨g1, 0, none⟩) (clrs l many k).length cap1, k)) (u, .slice (some ⟨g1, 0, none⟩) (clrs l many k).length cap1, k + 1) ⟨(show many + (k + 1) ≤ 8 * l.length from by omega), by rw [clrs, clr, if_neg (by rw [hc20]; simp)]; exact ⟨g1, cap1, rest1, rfl, hg1, hgb1, hc1, hm1⟩⟩ (show 8 * l.length - (k + 1) < 8 * l.length - k from by omega) ⟨rfl, rfl, rfl, rfl, trivial⟩ (fun _ h => h.sub (by simp))
  · have hge1 : many + k = 8 * l.length := by have := of_decide_eq_false hc15; omega
    refine at_exit ?_
    refine x_te ?_
    refine x_te ?_
    refine x_be ?_
    refine x_tn ?_
    refine at_seq ?_
    refine at_region ?_
    refine s1 (y_p rfl) rfl <| s1 (y_p rfl) rfl <| ?_
    refine at_nil ?_
    refine x_tn ?_
    refine at_ret ?_
    refine at_result (rs := [.tmp 4]) rfl (r_tmp rfl (r_nil)) fun w3 hG3 => ?_
    have hkk : k = 8 * l.length - many := by omega
    rw [hkk, clrs_cut l many hl] at hgb1 hc1
    refine ⟨⟨g1, cap1, rest1, ?_, hg1, hG3.obj (.head _) hgb1 (by simp), ?_, hm1⟩, hG3.below (.tail _ (.head _)) (by simp)⟩
    · rw [hlk, len_cut]; rfl
    · rw [← hc1]

end Go.Eng.R36
