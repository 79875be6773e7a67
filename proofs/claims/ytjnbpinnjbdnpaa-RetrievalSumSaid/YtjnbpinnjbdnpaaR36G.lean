/-
  Layer 36: walks of the retrieval functions. Conditions: each theorem says its own.
-/
import Derived.Test.YtjnbpinnjbdnpaaR36F
namespace Go.Eng.R36
open Go Go.Eng Go.Proofs

theorem indexf_ok (w : World) (sv : SV) (rs : List SV) (ls : List (List UInt8)) (hs : Rows w 0 sv rs ls) (f : FuncId) (fst cap : Array Value) (p : List UInt8 → Bool) (hcb : ∀ (w1 : World) (r : SV) (l : List UInt8), RowKit.Below w.heap.size w w1 → l ∈ ls → Bytes w1 r l → Fn Try.prog f (fst ++ #[r.v] ++ cap) w1 fun v w' => v = .bool (p l) ∧ RowKit.Below w1.heap.size w1 w') : Fn Try.prog 41 #[sv.v, .func (.func f) fst cap] w (fun v w' => (∃ i : Int, v = .int .i64 i ∧ (decide (i ≥ 0)) = ls.any p) ∧ RowKit.Below w.heap.size w w') := by
  refine enter Try.func41 rfl Try.ntmps41 (by kernel_rfl) rfl ?_
  refine at_seq ?_
  refine at_region ?_
  refine s1 (y_p rfl) rfl <| ?_
  refine at_nil ?_
  refine x_tn ?_
  refine at_seq ?_
  refine at_seq ?_
  refine at_region ?_
  refine s1 (y_p rfl) rfl <| s1 (y_len Try.underlying30 rfl rfl) rfl <| s1 (y_p rfl) rfl <| ?_
  refine at_nil ?_
  refine x_tn ?_
  refine at_block ?_
  refine at_loop (ι := Nat) (fun i => [(0, sv.v), (1, .func (.func f) fst cap), (7, .int .i64 (sv.n : Nat)), (8, .int .i64 (i : Nat))]) (fun i => [w]) (fun i => []) (fun i => i ≤ ls.length ∧ ∀ k, k < i → p (ls.getD k []) = false) (fun i => ls.length - i) ?_ ?_
  · exact at_ex 0 ⟨Nat.zero_le _, fun k hk => absurd hk (by omega)⟩ ⟨rfl, rfl, rfl, rfl, trivial⟩ (fun _ h => h)
  rintro i ⟨hi0, hall⟩
  have hsn := hs.n
  have hsl := hs.len
  have hsm := Nat.le_trans hs.sl.le hs.sl.max
  simp only [maxLen] at hsm
  refine at_seq ?_
  refine at_region ?_
  refine s1 (y_p rfl) rfl <| ?_
  refine at_nil ?_
  refine x_tn ?_
  refine at_seq ?_
  refine at_cond rfl (fun hc9 => ?_) (fun hc9 => ?_)
  · have hi : i < ls.length := by have := of_decide_eq_true hc9; omega
    obtain ⟨r, hr, hb⟩ := hs.get hi
    have hrn := hb.1
    have hmem : ls.getD i [] ∈ ls := by simp [List.getD, hi]
    refine at_skip ?_
    refine x_tn ?_
    refine at_seq ?_
    refine at_block ?_
    refine at_seq ?_
    refine at_region ?_
    refine s1 (y_p rfl) rfl <| s1 (y_p rfl) rfl <| ?_
    refine at_nil ?_
    refine x_tn ?_
    refine at_seq ?_
    refine at_region ?_
    refine s1 (y_p rfl) rfl <| s1 (y_p rfl) rfl <| s1 (y_p rfl) rfl <| s1 (y_idx1 i Try.underlying30 ti22 rfl rfl rfl (by omega) (hs.sl.addr (by omega))) rfl <| s1 (y_load ti22 rfl (fun w1 hG1 => hG1.cell' (.head _) (hs.cell hr) trivial)) rfl <| ?_
    refine at_op rfl (n_callv rfl rfl rfl fun w16 hG16 => Fn.mono (hcb w16 r _ (hG16.below (.head _) (by simp)) hmem (hG16.bytes (.head _) hb trivial)) ?_)
    rintro _ w17 ⟨rfl, hB⟩
    refine at_in (hG16.call hB) ?_
    refine at_nil ?_
    refine x_tn ?_
    refine at_cond rfl (fun hc16 => ?_) (fun hc16 => ?_)
    · skip
      refine at_seq ?_
      refine at_region ?_
      refine s1 (y_p rfl) rfl <| s1 (y_p rfl) rfl <| ?_
      refine at_nil ?_
      refine x_tn ?_
      refine at_ret ?_
      refine x_br ?_
      refine x_tr ?_
      refine x_tr ?_
      refine x_br ?_
      refine x_tr ?_
      refine at_result (rs := [.tmp 4]) rfl (r_tmp rfl (r_nil)) fun w1 hG1 => ⟨⟨_, rfl, ?_⟩, hG1.below (.tail _ (.head _)) (by simp)⟩
      rw [decide_eq_true (by omega)]
      exact (List.any_eq_true.2 ⟨_, hmem, hc16⟩).symm
    · skip
      refine at_skip ?_
      refine x_bn ?_
      refine x_tn ?_
      refine at_region ?_
      refine s1 (addN i 1 rfl rfl rfl rfl (by omega)) rfl <| s1 (y_p rfl) rfl <| ?_
      refine at_nil ?_
      exact at_end (i + 1) ⟨by omega, lt_succ_all hall hc16⟩ (by omega) ⟨rfl, rfl, rfl, rfl, trivial⟩ (fun _ h => h.sub (by simp))
  · have hi : i = ls.length := by have := of_decide_eq_false hc9; omega
    refine at_exit ?_
    refine x_te ?_
    refine x_te ?_
    refine x_be ?_
    refine x_tn ?_
    refine at_seq ?_
    refine at_region ?_
    refine s1 (y_p rfl) rfl <| ?_
    refine at_nil ?_
    refine x_tn ?_
    refine at_ret ?_
    refine at_result (rs := [.tmp 4]) rfl (r_tmp rfl (r_nil)) fun w1 hG1 => ⟨⟨_, rfl, ?_⟩, hG1.below (.head _) (by simp)⟩
    rw [decide_eq_false (by omega), eq_comm, List.any_eq_false]
    intro l hl
    have := all_of_getD (p := fun l => p l = false) (fun k hk => hall k (by omega)) l hl
    simpa using this

theorem containsf_ok (w : World) (sv : SV) (rs : List SV) (ls : List (List UInt8)) (hs : Rows w 0 sv rs ls) (f : FuncId) (fst cap : Array Value) (p : List UInt8 → Bool) (hcb : ∀ (w1 : World) (r : SV) (l : List UInt8), RowKit.Below w.heap.size w w1 → l ∈ ls → Bytes w1 r l → Fn Try.prog f (fst ++ #[r.v] ++ cap) w1 fun v w' => v = .bool (p l) ∧ RowKit.Below w1.heap.size w1 w') : Fn Try.prog 30 #[sv.v, .func (.func f) fst cap] w (fun v w' => v = .bool (ls.any p) ∧ RowKit.Below w.heap.size w w') := by
  refine enter Try.func30 rfl Try.ntmps30 (by kernel_rfl) rfl ?_
  refine at_seq ?_
  refine at_region ?_
  refine s1 (y_p rfl) rfl <| ?_
  refine at_nil ?_
  refine x_tn ?_
  refine at_seq ?_
  refine at_region ?_
  refine s1 (y_p rfl) rfl <| s1 (y_p rfl) rfl <| ?_
  refine at_op rfl (n_call rfl rfl fun w7 hG7 => Fn.mono (indexf_ok w7 sv rs ls (hG7.rows (.head _) hs (by simp)) f fst cap p (fun w1 r l hB hl hb => hcb w1 r l ((hG7.ext hB).below (.head _) (by simp)) hl hb)) ?_)
  rintro _ w8 ⟨⟨i, rfl, hi⟩, hB⟩
  refine at_in (hG7.call hB) ?_
  refine s1 (y_p rfl) rfl <| s1 (y_p rfl) rfl <| ?_
  refine at_nil ?_
  refine x_tn ?_
  refine at_ret ?_
  refine at_result (rs := [.tmp 4]) rfl (r_tmp rfl (r_nil)) fun w1 hG1 => ⟨?_, hG1.below (.tail _ (.head _)) (by simp)⟩
  exact congrArg Value.bool hi

theorem long_ok (w : World) (s : SV) (l : List UInt8) (hb : Bytes w s l) : Fn Try.prog 31 #[s.v] w (fun v w' => v = .bool (!(l.length == 16)) ∧ RowKit.Below w.heap.size w w') := by
  refine enter Try.func31 rfl Try.ntmps31 (by kernel_rfl) rfl ?_
  refine at_seq ?_
  refine at_region ?_
  refine s1 (y_p rfl) rfl <| ?_
  refine at_nil ?_
  refine x_tn ?_
  refine at_seq ?_
  refine at_region ?_
  have hbn := hb.1
  refine s1 (y_p rfl) rfl <| s1 (y_len Try.underlying22 rfl rfl) rfl <| s1 ((y_p rfl).v (v' := .bool (!(l.length == 16))) (congrArg Value.bool (by rw [hbn, Bool.eq_iff_iff]; simp; omega))) rfl <| s1 (y_p rfl) rfl <| ?_
  refine at_nil ?_
  refine x_tn ?_
  refine at_ret ?_
  refine at_result (rs := [.tmp 2]) rfl (r_tmp rfl (r_nil)) fun w1 hG1 => ⟨rfl, (hG1.below (.head _) (by simp))⟩

theorem alien_ok (w : World) (s : SV) (l : List UInt8) (hb : Bytes w s l) (b : Nat) (sd : SV) (hp : w.cell? ⟨b, 0, none⟩ = some sd.v) : Fn Try.prog 32 #[s.v, .pointer (some ⟨b, 0, none⟩)] w (fun v w' => v = .bool (!(masked sd.n l)) ∧ RowKit.Below w.heap.size w w') := by
  refine enter Try.func32 rfl Try.ntmps32 (by kernel_rfl) rfl ?_
  refine at_seq ?_
  refine at_region ?_
  refine s1 (y_p rfl) rfl <| ?_
  refine at_nil ?_
  refine x_tn ?_
  refine at_seq ?_
  refine at_region ?_
  refine s1 (y_load ti30 rfl (fun w1 hG1 => hG1.cell' (.head _) hp trivial)) rfl <| s1 (y_len Try.underlying30 rfl rfl) rfl <| s1 (y_p rfl) rfl <| ?_
  refine at_op rfl (n_call rfl rfl fun w7 hG7 => Fn.mono (masked_ok w7 sd.n s l (hG7.bytes (.head _) hb trivial)) ?_)
  rintro _ w8 ⟨rfl, hB⟩
  refine at_in (hG7.call hB) ?_
  refine s1 (y_p rfl) rfl <| s1 (y_p rfl) rfl <| ?_
  refine at_nil ?_
  refine x_tn ?_
  refine at_ret ?_
  refine at_result (rs := [.tmp 3]) rfl (r_tmp rfl (r_nil)) fun w1 hG1 => ⟨rfl, hG1.below (.tail _ (.head _)) (by simp)⟩

theorem rmask_no (w : World) (m : Nat) (s : SV) (l : List UInt8) (hb : Bytes w s l) (_h1 : 1 ≤ m) (h2 : m ≤ 1024) (hl : l.length ≠ (m + 7) / 8) : Fn Try.prog 37 #[.int .i64 m, s.v] w (fun v w' => v = .bool (masked m l) ∧ RowKit.Below w.heap.size w w') := by
  refine enter Try.func37 rfl Try.ntmps37 (by kernel_rfl) rfl ?_
  refine at_seq ?_
  refine at_region ?_
  refine s1 (y_p rfl) rfl <| ?_
  refine at_nil ?_
  refine x_tn ?_
  refine at_seq ?_
  refine at_mixD [14] ([w]) ([]) 14 3 hmix (by kernel_rfl) (by kernel_rfl) (fun _ h => h) ?_
  have hbn := hb.1
  have hbm := Nat.le_trans hb.2.le hb.2.max
  simp only [maxLen] at hbm
  refine mq (y_p rfl) rfl rfl <| mq (y_len Try.underlying22 rfl rfl) rfl rfl <| mq (y_p rfl) rfl rfl <| ?_
  refine mn rfl rfl (n_call rfl rfl fun w8 hG8 => Fn.mono (rsize_ok w8 m h2) ?_)
  rintro _ w9 ⟨rfl, hB8⟩
  refine at_inC (hG8.call hB8) (fun _ h => h.sub (by simp)) ?_
  refine mq ((y_p rfl).v (v' := .bool false) (congrArg Value.bool (beq_eq_false_iff_ne.2 (by omega)))) rfl rfl <| mq (y_p rfl) rfl rfl <| mq0 rfl rfl rfl rfl <| mq0 rfl rfl rfl rfl <| mq0 rfl rfl rfl rfl <| mq0 rfl rfl rfl rfl <| mq0 rfl rfl rfl rfl <| mq0 rfl rfl rfl rfl <| mq0 rfl rfl rfl rfl <| mq (y_p rfl) rfl rfl <| ?_
  refine mnil ?_
  refine s1 (y_p rfl) rfl <| ?_
  refine at_nil ?_
  refine x_tn ?_
  refine at_ret ?_
  refine at_result (rs := [.tmp 4]) rfl (r_tmp rfl (r_nil)) fun w1 hG1 => ⟨?_, hG1.below (.tail _ (.head _)) (by simp)⟩
  have : sized m l.length = false := by simp only [sized, decide_eq_false_iff_not]; omega
  rw [masked, this]; rfl

theorem rmask_yes (w : World) (m : Nat) (s : SV) (l : List UInt8) (hb : Bytes w s l) (h1 : 1 ≤ m) (h2 : m ≤ 1024) (hl : l.length = (m + 7) / 8) : Fn Try.prog 37 #[.int .i64 m, s.v] w (fun v w' => v = .bool (masked m l) ∧ RowKit.Below w.heap.size w w') := by
  refine enter Try.func37 rfl Try.ntmps37 (by kernel_rfl) rfl ?_
  refine at_seq ?_
  refine at_region ?_
  refine s1 (y_p rfl) rfl <| ?_
  refine at_nil ?_
  refine x_tn ?_
  refine at_seq ?_
  refine at_mixD [14] ([w]) ([]) 14 3 hmix (by kernel_rfl) (by kernel_rfl) (fun _ h => h) ?_
  have hbn := hb.1
  have hbm := Nat.le_trans hb.2.le hb.2.max
  simp only [maxLen] at hbm
  refine mq (y_p rfl) rfl rfl <| mq (y_len Try.underlying22 rfl rfl) rfl rfl <| mq (y_p rfl) rfl rfl <| ?_
  refine mn rfl rfl (n_call rfl rfl fun w8 hG8 => Fn.mono (rsize_ok w8 m h2) ?_)
  rintro _ w9 ⟨rfl, hB8⟩
  refine at_inC (hG8.call hB8) (fun _ h => h.sub (by simp)) ?_
  refine mq ((y_p rfl).v (v' := .bool true) (congrArg Value.bool (beq_iff_eq.2 (by omega)))) rfl rfl <| mq (y_p rfl) rfl rfl <| mqg rfl rfl (y_p rfl) rfl rfl <| mqg rfl rfl (y_p rfl) rfl rfl <| ?_
  refine mng rfl rfl rfl rfl (n_call rfl rfl fun w13 hG13 => Fn.mono (rmaskOf_ok w13 m s l (hG13.bytes (.tail _ (.head _)) hb trivial) h1 h2 hl) ?_)
  rintro v13 w14 ⟨hF, hB13⟩
  obtain ⟨sc, rfl, hbc, hfc⟩ := hF.bytes
  refine at_inC (hG13.call hB13) (fun _ h => h.sub (by simp)) ?_
  refine mng rfl rfl rfl rfl (at_y ((y_str (S := [w14, w9, w]) (H := []) (s := sc) Try.underlying22 Try.underlying5 Try.underlying9 rfl (fun w1 hG1 => hG1.bytes (.head _) hbc trivial)) _ _ _ _) rfl ?_)
  refine at_and (fun _ h => h.sub (by simp)) ?_
  refine mqg rfl rfl (y_p rfl) rfl rfl <| mqg rfl rfl (y_str (s := s) Try.underlying22 Try.underlying5 Try.underlying9 rfl (fun w1 hG1 => hG1.bytes (.head _) hb trivial)) rfl rfl <| mqg rfl rfl ((y_p rfl).v (v' := .bool (cut m l == l)) (by rw [str_toList, str_toList])) rfl rfl <| mq (y_p rfl) rfl rfl <| ?_
  refine mnil ?_
  refine s1 (y_p rfl) rfl <| ?_
  refine at_nil ?_
  refine x_tn ?_
  refine at_ret ?_
  refine at_result (rs := [.tmp 4]) rfl (r_tmp rfl (r_nil)) fun w1 hG1 => ⟨?_, hG1.below (.tail _ (.tail _ (.head _))) (by simp)⟩
  have : sized m l.length = true := by simp only [sized, decide_eq_true_eq]; omega
  rw [masked, this, Int.toNat_natCast, Bool.true_and, Bool.beq_comm]; rfl

theorem rmask_ok (w : World) (m : Nat) (s : SV) (l : List UInt8) (hb : Bytes w s l) (h1 : 1 ≤ m) (h2 : m ≤ 1024) : Fn Try.prog 37 #[.int .i64 m, s.v] w (fun v w' => v = .bool (masked m l) ∧ RowKit.Below w.heap.size w w') := by
  by_cases hl : l.length = (m + 7) / 8
  · exact rmask_yes w m s l hb h1 h2 hl
  · exact rmask_no w m s l hb h1 h2 hl

end Go.Eng.R36
