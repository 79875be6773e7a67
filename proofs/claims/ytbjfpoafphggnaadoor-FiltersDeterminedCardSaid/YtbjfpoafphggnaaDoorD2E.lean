/-
  Layer 2: walks of the digest functions. Conditions: each theorem says its own.
-/
import Derived.Test.YtbjfpoafphggnaaDoorD2C
import Derived.Test.YtbjfpoafphggnaaDoorD2Q
namespace Go.Abs.D2
open Go Go.Eng Go.Abs Go.Proofs 

set_option linter.unusedSimpArgs false in
set_option linter.unusedVariables false in
set_option maxHeartbeats 1000000 in
theorem absorb_ok (s : S8) (b : List UInt8) (hb : b.length = 64) : ConS Tryd.prog 39 [.p 3 0, .fz 64 (b.map u8)] ⟨[(3, some (s.l.map w32))]⟩ (RetS (.tu []) [(3, (comp s b).l.map w32)]) := by
  refine enterS Tryd.func39 rfl Tryd.ntmps39 (by kernel_rfl) (Nat.le_of_ble_eq_true rfl) fun w0 X0 hI => ?_
  refine at_seq ?_
  refine at_region ?_
  refine at_op rfl (n_alloc 4 rfl ti77 rfl rfl ?_)
  refine at_nil ?_
  refine x_tn ?_
  refine at_seq ?_
  refine at_seq ?_
  refine at_region ?_
  refine s1 ((y_p rfl).v (v' := .i .i64 0) rfl) rfl <| ?_
  refine at_nil ?_
  refine x_tn ?_
  refine at_block ?_
  refine at_loop (ι := Nat) (fun i => [(0, .p 3 0), (1, .fz 64 (b.map u8)), (4, .p 4 0), (23, .i .i64 (i : Nat))]) (fun i => ⟨[(3, some (s.l.map w32)), (4, some ((words b i).map w32 ++ List.replicate (64 - i) (w32 0)))]⟩) (fun i => i ≤ 16) (fun i => 16 - i) ?_ ?_
  · exact at_ex (0) (Nat.zero_le _) [(3, some 3), (4, some 4)] hI rfl rfl ⟨⟨_, rfl, .p rfl⟩, ⟨_, rfl, .pure pu⟩, ⟨_, rfl, .p rfl⟩, ⟨_, rfl, .pure pu⟩, trivial⟩ ⟨.inr ⟨_, _, rfl, rfl, .pure pul⟩, .inr ⟨_, _, rfl, rfl, .of (by rfl) (.pure pul)⟩, trivial⟩
  rintro i hi
  refine at_seq ?_
  refine at_region ?_
  refine s1 (y_p rfl) rfl <| ?_
  refine at_nil ?_
  refine x_tn ?_
  refine at_seq ?_
  refine at_cond rfl (fun hc24 => ?_) (fun hc24 => ?_)
  · have hi16 : i < 16 := by have := of_decide_eq_true hc24; omega
    refine at_skip ?_
    refine x_tn ?_
    refine at_seq ?_
    refine at_block ?_
    refine at_seq ?_
    refine at_region ?_
    refine s1 (y_p rfl) rfl <| s1 (y_p rfl) rfl <| ?_
    refine at_nil ?_
    refine x_tn ?_
    refine at_seq ?_
    refine at_region ?_
    refine s1 ((y_p rfl).v (v' := .i .i64 0) rfl) rfl <| ?_
    refine at_nil ?_
    refine x_tn ?_
    refine at_block ?_
    refine at_loop (ι := Nat) (fun j => [(0, .p 3 0), (1, .fz 64 (b.map u8)), (4, .p 4 0), (5, .i .i64 (i : Nat)), (23, .i .i64 (i : Nat)), (26, .i .i64 (j : Nat))]) (fun j => ⟨[(3, some (s.l.map w32)), (4, some ((words b i).map w32 ++ [w32 (wpart b (4 * i) j)] ++ List.replicate (63 - i) (w32 0)))]⟩) (fun j => j ≤ 4) (fun j => 4 - j) ?_ ?_
    · skip
      refine at_sayO 4 rfl (part_0 b i (by omega)) ?_
      exact at_ex (0) (Nat.zero_le _) [(3, some 3), (4, some 4)] hI rfl rfl ⟨⟨_, rfl, .p rfl⟩, ⟨_, rfl, .pure pu⟩, ⟨_, rfl, .p rfl⟩, ⟨_, rfl, .pure pu⟩, ⟨_, rfl, .pure pu⟩, ⟨_, rfl, .pure pu⟩, trivial⟩ ⟨.inr ⟨_, _, rfl, rfl, .pure pul⟩, .inr ⟨_, _, rfl, rfl, .pure pul⟩, trivial⟩
    rintro j hj
    refine at_seq ?_
    refine at_region ?_
    refine s1 (y_p rfl) rfl <| ?_
    refine at_nil ?_
    refine x_tn ?_
    refine at_seq ?_
    refine at_cond rfl (fun hc27 => ?_) (fun hc27 => ?_)
    · have hj4 : j < 4 := by have := of_decide_eq_true hc27; omega
      refine at_skip ?_
      refine x_tn ?_
      refine at_seq ?_
      refine at_block ?_
      refine at_seq ?_
      refine at_region ?_
      refine s1 (y_p rfl) rfl <| s1 (y_p rfl) rfl <| ?_
      refine at_nil ?_
      refine x_tn ?_
      refine at_draw_tail 15 hmix (by kernel_rfl) ?_
      refine t1 (y_p rfl) rfl <| t1 (y_p rfl) rfl <| t1 (y_ixa i Tryd.underlying77 ti65 rfl rfl rfl (by omega) rfl) rfl <| t1 (y_load ti65 rfl rfl (get_part b i j)) rfl <| t1 (shl32 _ 8 rfl rfl rfl (by decide)) rfl <| t1 (y_p rfl) rfl <| t1 (y_p rfl) rfl <| t1 (mulN 4 i rfl rfl rfl rfl (by omega)) rfl <| t1 (y_p rfl) rfl <| t1 (addN (4 * i) j rfl rfl rfl rfl (by omega)) rfl <| ?_
      refine t1 (y_ixf (4 * i + j) Tryd.underlying24 ti5 rfl rfl rfl (by omega) rfl) rfl <| t1 (y_load ti5 rfl rfl (getB (4 * i + j) (by omega) rfl)) rfl <| t1 (of8_32 _ Tryd.underlying5 Tryd.underlying65 rfl) rfl <| t1 ((or32 _ _ rfl rfl).v (v' := w32 (wpart b (4 * i) (j + 1))) rfl) rfl <| t1 (y_ixa i Tryd.underlying77 ti65 rfl rfl rfl (by omega) rfl) rfl <| ?_
      refine at_snil ?_
      refine at_op rfl (n_store1 ti65 rfl rfl rfl rfl (by simp only [List.length_append, List.length_map, List.length_replicate, List.length_cons, List.length_nil, len_words]; omega) (set_part b i j) ?_)
      refine at_nil ?_
      refine x_bn ?_
      refine x_tn ?_
      refine at_region ?_
      refine s1 (addN _ 1 rfl rfl rfl rfl (by omega)) rfl <| s1 (y_p rfl) rfl <| ?_
      refine at_nil ?_
      exact at_end (j + 1) (by omega) (by omega) [(3, some 3), (4, some 4)] hI rfl rfl ⟨⟨_, rfl, .p rfl⟩, ⟨_, rfl, .pure pu⟩, ⟨_, rfl, .p rfl⟩, ⟨_, rfl, .pure pu⟩, ⟨_, rfl, .pure pu⟩, ⟨_, rfl, .pure pu⟩, trivial⟩ ⟨.inr ⟨_, _, rfl, rfl, .pure pul⟩, .inr ⟨_, _, rfl, rfl, .pure pul⟩, trivial⟩
    · have hj4 : j = 4 := by have := of_decide_eq_false hc27; omega
      subst hj4
      refine at_exit ?_
      refine x_te ?_
      refine x_te ?_
      refine x_be ?_
      refine x_bn ?_
      refine x_tn ?_
      refine at_region ?_
      refine s1 (addN _ 1 rfl rfl rfl rfl (by omega)) rfl <| s1 (y_p rfl) rfl <| ?_
      refine at_nil ?_
      exact at_end (i + 1) (by omega) (by omega) [(3, some 3), (4, some 4)] hI rfl rfl ⟨⟨_, rfl, .p rfl⟩, ⟨_, rfl, .pure pu⟩, ⟨_, rfl, .p rfl⟩, ⟨_, rfl, .pure pu⟩, trivial⟩ ⟨.inr ⟨_, _, rfl, rfl, .pure pul⟩, .inr ⟨_, _, rfl, rfl, .of (part_end b i (by omega)) (.pure pul)⟩, trivial⟩
  · have hi16 : i = 16 := by have := of_decide_eq_false hc24; omega
    subst hi16
    refine at_exit ?_
    refine x_te ?_
    refine x_te ?_
    refine x_be ?_
    refine x_tn ?_
    refine at_seq ?_
    refine at_seq ?_
    refine at_region ?_
    refine s1 ((y_p rfl).v (v' := .i .i64 16) rfl) rfl <| ?_
    refine at_nil ?_
    refine x_tn ?_
    refine at_block ?_
    refine at_loop (ι := Nat) (fun k => [(0, .p 3 0), (1, .fz 64 (b.map u8)), (4, .p 4 0), (7, .i .i64 ((16 + k : Nat) : Int))]) (fun k => ⟨[(3, some (s.l.map w32)), (4, some ((sched b k).map w32 ++ List.replicate (48 - k) (w32 0)))]⟩) (fun k => k ≤ 48) (fun k => 48 - k) ?_ ?_
    · skip
      refine at_sayO 4 rfl (cs' := (sched b 0).map w32 ++ List.replicate (48 - 0) (w32 0)) (by rw [sched_0]) ?_
      exact at_ex (0) (Nat.zero_le _) [(3, some 3), (4, some 4)] hI rfl rfl ⟨⟨_, rfl, .p rfl⟩, ⟨_, rfl, .pure pu⟩, ⟨_, rfl, .p rfl⟩, ⟨_, rfl, .pure pu⟩, trivial⟩ ⟨.inr ⟨_, _, rfl, rfl, .pure pul⟩, .inr ⟨_, _, rfl, rfl, .pure pul⟩, trivial⟩
    rintro k hk
    refine at_seq ?_
    refine at_seq ?_
    refine at_region ?_
    refine s1 (y_p rfl) rfl <| s1 (y_p rfl) rfl <| ?_
    refine at_nil ?_
    refine x_tn ?_
    refine at_cond rfl (fun hc47 => ?_) (fun hc47 => ?_)
    · have hk48 : k < 48 := by have := of_decide_eq_true hc47; omega
      refine at_skip ?_
      refine x_tn ?_
      refine at_seq ?_
      refine at_block ?_
      refine at_seq ?_
      refine at_draw_tail 9 hmix (by kernel_rfl) ?_
      refine t1 (y_p rfl) rfl <| t1 (subN (16 + k) 15 rfl rfl rfl rfl (by omega) (by omega)) rfl <| t1 (y_ixa (16 + k - 15) Tryd.underlying77 ti65 rfl rfl rfl (by omega) rfl) rfl <| t1 (y_load ti65 rfl rfl (getW (16 + k - 15) (by first | rfl | omega | (simp; done) | (simp [*]; done) | (simp; omega) | (simp [*]; omega) | (simp [D32.len, -List.length_flatten, *]; done) | (simp [D32.len, -List.length_flatten, *]; omega)) rfl)) rfl <| t1 (y_p rfl) rfl <| t1 (subN (16 + k) 2 rfl rfl rfl rfl (by omega) (by omega)) rfl <| t1 (y_ixa (16 + k - 2) Tryd.underlying77 ti65 rfl rfl rfl (by omega) rfl) rfl <| t1 (y_load ti65 rfl rfl (getW (16 + k - 2) (by first | rfl | omega | (simp; done) | (simp [*]; done) | (simp; omega) | (simp [*]; omega) | (simp [D32.len, -List.length_flatten, *]; done) | (simp [D32.len, -List.length_flatten, *]; omega)) rfl)) rfl <| t1 (y_p rfl) rfl <| ?_
      refine at_snil ?_
      refine s1 (y_p rfl) rfl <| ?_
      refine at_nil ?_
      refine x_tn ?_
      refine at_seq ?_
      refine at_region ?_
      refine s1 (y_p rfl) rfl <| ?_
      refine at_op rfl (n_call false rfl (.cons (.pure pu) (.cons (.pure pu) (.nil))) (rot7 _) pu (.inl rfl) rfl ?_)
      refine s1 (y_p rfl) rfl <| ?_
      refine at_op rfl (n_call false rfl (.cons (.pure pu) (.cons (.pure pu) (.nil))) (rot18 _) pu (.inl rfl) rfl ?_)
      refine s1 (xor32 _ _ rfl rfl) rfl <| s1 (y_p rfl) rfl <| s1 (shr32 _ 3 rfl rfl rfl (by decide)) rfl <| s1 (xor32 _ _ rfl rfl) rfl <| s1 (y_p rfl) rfl <| ?_
      refine at_nil ?_
      refine x_tn ?_
      refine at_seq ?_
      refine at_region ?_
      refine s1 (y_p rfl) rfl <| ?_
      refine at_op rfl (n_call false rfl (.cons (.pure pu) (.cons (.pure pu) (.nil))) (rot17 _) pu (.inl rfl) rfl ?_)
      refine s1 (y_p rfl) rfl <| ?_
      refine at_op rfl (n_call false rfl (.cons (.pure pu) (.cons (.pure pu) (.nil))) (rot19 _) pu (.inl rfl) rfl ?_)
      refine s1 (xor32 _ _ rfl rfl) rfl <| s1 (y_p rfl) rfl <| s1 (shr32 _ 10 rfl rfl rfl (by decide)) rfl <| s1 (xor32 _ _ rfl rfl) rfl <| s1 (y_p rfl) rfl <| ?_
      refine at_nil ?_
      refine x_tn ?_
      refine at_draw_tail 15 hmix (by kernel_rfl) ?_
      refine t1 (y_p rfl) rfl <| t1 (y_p rfl) rfl <| t1 (subN (16 + k) 16 rfl rfl rfl rfl (by omega) (by omega)) rfl <| t1 (y_ixa (16 + k - 16) Tryd.underlying77 ti65 rfl rfl rfl (by omega) rfl) rfl <| t1 (y_load ti65 rfl rfl (getW (16 + k - 16) (by first | rfl | omega | (simp; done) | (simp [*]; done) | (simp; omega) | (simp [*]; omega) | (simp [D32.len, -List.length_flatten, *]; done) | (simp [D32.len, -List.length_flatten, *]; omega)) rfl)) rfl <| t1 (y_p rfl) rfl <| t1 (add32 _ _ rfl rfl) rfl <| t1 (y_p rfl) rfl <| t1 (subN (16 + k) 7 rfl rfl rfl rfl (by omega) (by omega)) rfl <| t1 (y_ixa (16 + k - 7) Tryd.underlying77 ti65 rfl rfl rfl (by omega) rfl) rfl <| ?_
      refine t1 (y_load ti65 rfl rfl (getW (16 + k - 7) (by first | rfl | omega | (simp; done) | (simp [*]; done) | (simp; omega) | (simp [*]; omega) | (simp [D32.len, -List.length_flatten, *]; done) | (simp [D32.len, -List.length_flatten, *]; omega)) rfl)) rfl <| t1 (add32 _ _ rfl rfl) rfl <| t1 (y_p rfl) rfl <| t1 (add32 _ _ rfl rfl) rfl <| t1 (y_ixa (16 + k) Tryd.underlying77 ti65 rfl rfl rfl (by omega) rfl) rfl <| ?_
      refine at_snil ?_
      refine at_op rfl (n_store1 ti65 rfl rfl rfl rfl (by first | rfl | omega | (simp; done) | (simp [*]; done) | (simp; omega) | (simp [*]; omega) | (simp [D32.len, -List.length_flatten, *]; done) | (simp [D32.len, -List.length_flatten, *]; omega)) (set_sched b k _ (by omega) rfl) ?_)
      refine at_nil ?_
      refine x_bn ?_
      refine x_tn ?_
      refine at_region ?_
      refine s1 (y_p rfl) rfl <| s1 (addN _ 1 rfl rfl rfl rfl (by omega)) rfl <| s1 (y_p rfl) rfl <| ?_
      refine at_nil ?_
      exact at_end (k + 1) (by omega) (by omega) [(3, some 3), (4, some 4)] hI rfl rfl ⟨⟨_, rfl, .p rfl⟩, ⟨_, rfl, .pure pu⟩, ⟨_, rfl, .p rfl⟩, ⟨_, rfl, .pure pu⟩, trivial⟩ ⟨.inr ⟨_, _, rfl, rfl, .pure pul⟩, .inr ⟨_, _, rfl, rfl, .pure pul⟩, trivial⟩
    · have hk48 : k = 48 := by have := of_decide_eq_false hc47; omega
      subst hk48
      refine at_exit ?_
      refine x_te ?_
      refine x_te ?_
      refine x_be ?_
      refine x_tn ?_
      refine at_seq ?_
      refine at_region ?_
      refine s1 (y_p rfl) rfl <| s1 (y_nilc rfl rfl) rfl <| s1 (y_loadA0 ti69 rfl rfl (by first | rfl | omega | (simp; done) | (simp [*]; done) | (simp; omega) | (simp [*]; omega) | (simp [D32.len, -List.length_flatten, *]; done) | (simp [D32.len, -List.length_flatten, *]; omega))) rfl <| ?_
      refine at_op rfl (n_alloc 12 rfl ti69 rfl rfl ?_)
      refine at_op rfl (n_storeA ti69 rfl rfl rfl (by simp) (by simp) ?_)
      refine at_nil ?_
      refine x_tn ?_
      refine at_seq ?_
      refine at_seq ?_
      refine at_region ?_
      refine s1 ((y_p rfl).v (v' := .i .i64 0) rfl) rfl <| ?_
      refine at_nil ?_
      refine x_tn ?_
      refine at_block ?_
      refine at_loop (ι := Nat) (fun t => [(0, .p 3 0), (4, .p 4 0), (12, .p 12 0), (92, .i .i64 (t : Nat))]) (fun t => ⟨[(3, some (s.l.map w32)), (4, some ((sched b 48).map w32)), (12, some ((rounds (sched b 48) s t).l.map w32))]⟩) (fun t => t ≤ 64) (fun t => 64 - t) ?_ ?_
      · skip
        refine at_sayO 4 rfl (cs' := (sched b 48).map w32) (by simp) ?_
        exact at_ex (0) (Nat.zero_le _) [(3, some 3), (4, some 4), (12, some 12)] hI rfl rfl ⟨⟨_, rfl, .p rfl⟩, ⟨_, rfl, .p rfl⟩, ⟨_, rfl, .p rfl⟩, ⟨_, rfl, .pure pu⟩, trivial⟩ ⟨.inr ⟨_, _, rfl, rfl, .pure pul⟩, .inr ⟨_, _, rfl, rfl, .pure pul⟩, .inr ⟨_, _, rfl, rfl, .pure pul⟩, trivial⟩
      rintro t ht
      refine at_seq ?_
      refine at_region ?_
      refine s1 (y_p rfl) rfl <| ?_
      refine at_nil ?_
      refine x_tn ?_
      refine at_seq ?_
      refine at_cond rfl (fun hc93 => ?_) (fun hc93 => ?_)
      · have ht64 : t < 64 := by have := of_decide_eq_true hc93; omega
        refine at_skip ?_
        refine x_tn ?_
        refine at_seq ?_
        refine at_block ?_
        refine at_seq ?_
        refine at_region ?_
        refine s1 (y_p rfl) rfl <| s1 (y_p rfl) rfl <| ?_
        refine at_nil ?_
        refine x_tn ?_
        refine at_seq ?_
        refine at_draw_tail 11 hmix (by kernel_rfl) ?_
        refine t1 (y_ixa 0 Tryd.underlying69 ti65 rfl rfl rfl (by omega) rfl) rfl <| t1 (y_load ti65 rfl rfl rfl) rfl <| t1 (y_ixa 1 Tryd.underlying69 ti65 rfl rfl rfl (by omega) rfl) rfl <| t1 (y_load ti65 rfl rfl rfl) rfl <| t1 (y_ixa 2 Tryd.underlying69 ti65 rfl rfl rfl (by omega) rfl) rfl <| t1 (y_load ti65 rfl rfl rfl) rfl <| t1 (y_ixa 4 Tryd.underlying69 ti65 rfl rfl rfl (by omega) rfl) rfl <| t1 (y_load ti65 rfl rfl rfl) rfl <| t1 (y_p rfl) rfl <| t1 (y_p rfl) rfl <| ?_
        refine t1 (y_p rfl) rfl <| ?_
        refine at_snil ?_
        refine s1 (y_p rfl) rfl <| ?_
        refine at_nil ?_
        refine x_tn ?_
        refine at_seq ?_
        refine at_region ?_
        refine s1 (y_p rfl) rfl <| ?_
        refine at_op rfl (n_call false rfl (.cons (.pure pu) (.cons (.pure pu) (.nil))) (rot6 _) pu (.inl rfl) rfl ?_)
        refine s1 (y_p rfl) rfl <| ?_
        refine at_op rfl (n_call false rfl (.cons (.pure pu) (.cons (.pure pu) (.nil))) (rot11 _) pu (.inl rfl) rfl ?_)
        refine s1 (xor32 _ _ rfl rfl) rfl <| s1 (y_p rfl) rfl <| ?_
        refine at_op rfl (n_call false rfl (.cons (.pure pu) (.cons (.pure pu) (.nil))) (rot25 _) pu (.inl rfl) rfl ?_)
        refine s1 (xor32 _ _ rfl rfl) rfl <| s1 (y_p rfl) rfl <| ?_
        refine at_nil ?_
        refine x_tn ?_
        refine at_seq ?_
        refine at_draw_tail 23 hmix (by kernel_rfl) ?_
        refine t1 (y_ixa 7 Tryd.underlying69 ti65 rfl rfl rfl (by omega) rfl) rfl <| t1 (y_load ti65 rfl rfl rfl) rfl <| t1 (y_p rfl) rfl <| t1 (add32 _ _ rfl rfl) rfl <| t1 (y_p rfl) rfl <| t1 (y_ixa 5 Tryd.underlying69 ti65 rfl rfl rfl (by omega) rfl) rfl <| t1 (y_load ti65 rfl rfl rfl) rfl <| t1 (and32 _ _ rfl rfl) rfl <| t1 (y_p rfl) rfl <| t1 (not32 _ rfl) rfl <| ?_
        refine t1 (y_ixa 6 Tryd.underlying69 ti65 rfl rfl rfl (by omega) rfl) rfl <| t1 (y_load ti65 rfl rfl rfl) rfl <| t1 (and32 _ _ rfl rfl) rfl <| t1 (xor32 _ _ rfl rfl) rfl <| t1 (add32 _ _ rfl rfl) rfl <| t1 (y_p rfl) rfl <| t1 (y_ixfa t Tryd.underlying77 ti65 rfl rfl rfl (by omega) rfl) rfl <| t1 (y_load ti65 rfl rfl (getK t ht64)) rfl <| t1 (add32 _ _ rfl rfl) rfl <| t1 (y_p rfl) rfl <| ?_
        refine t1 (y_ixa t Tryd.underlying77 ti65 rfl rfl rfl (by omega) rfl) rfl <| t1 (y_load ti65 rfl rfl (getW2 t (by first | rfl | omega | (simp; done) | (simp [*]; done) | (simp; omega) | (simp [*]; omega) | (simp [D32.len, -List.length_flatten, *]; done) | (simp [D32.len, -List.length_flatten, *]; omega)) rfl)) rfl <| t1 (add32 _ _ rfl rfl) rfl <| ?_
        refine at_snil ?_
        refine s1 (y_p rfl) rfl <| ?_
        refine at_nil ?_
        refine x_tn ?_
        refine at_seq ?_
        refine at_region ?_
        refine s1 (y_p rfl) rfl <| ?_
        refine at_op rfl (n_call false rfl (.cons (.pure pu) (.cons (.pure pu) (.nil))) (rot2 _) pu (.inl rfl) rfl ?_)
        refine s1 (y_p rfl) rfl <| ?_
        refine at_op rfl (n_call false rfl (.cons (.pure pu) (.cons (.pure pu) (.nil))) (rot13 _) pu (.inl rfl) rfl ?_)
        refine s1 (xor32 _ _ rfl rfl) rfl <| s1 (y_p rfl) rfl <| ?_
        refine at_op rfl (n_call false rfl (.cons (.pure pu) (.cons (.pure pu) (.nil))) (rot22 _) pu (.inl rfl) rfl ?_)
        refine s1 (xor32 _ _ rfl rfl) rfl <| s1 (y_p rfl) rfl <| ?_
        refine at_nil ?_
        refine x_tn ?_
        refine at_seq ?_
        refine at_region ?_
        refine s1 (y_p rfl) rfl <| s1 (y_p rfl) rfl <| s1 (y_p rfl) rfl <| s1 (and32 _ _ rfl rfl) rfl <| s1 (y_p rfl) rfl <| s1 (y_p rfl) rfl <| s1 (and32 _ _ rfl rfl) rfl <| s1 (xor32 _ _ rfl rfl) rfl <| s1 (y_p rfl) rfl <| s1 (y_p rfl) rfl <| ?_
        refine s1 (and32 _ _ rfl rfl) rfl <| s1 (xor32 _ _ rfl rfl) rfl <| s1 (add32 _ _ rfl rfl) rfl <| s1 (y_p rfl) rfl <| ?_
        refine at_nil ?_
        refine x_tn ?_
        refine at_region ?_
        refine s1 (y_p rfl) rfl <| s1 (y_p rfl) rfl <| s1 (add32 _ _ rfl rfl) rfl <| s1 (y_p rfl) rfl <| s1 (y_p rfl) rfl <| s1 (y_p rfl) rfl <| s1 (y_ixa 3 Tryd.underlying69 ti65 rfl rfl rfl (by omega) rfl) rfl <| s1 (y_load ti65 rfl rfl rfl) rfl <| s1 (y_p rfl) rfl <| s1 (add32 _ _ rfl rfl) rfl <| ?_
        refine s1 (y_p rfl) rfl <| s1 (y_ixa 5 Tryd.underlying69 ti65 rfl rfl rfl (by omega) rfl) rfl <| s1 (y_load ti65 rfl rfl rfl) rfl <| s1 (y_ixa 6 Tryd.underlying69 ti65 rfl rfl rfl (by omega) rfl) rfl <| s1 (y_load ti65 rfl rfl rfl) rfl <| s1 (y_bldA (vs := [_, _, _, _, _, _, _, _]) ti69 rfl Tryd.underlying69 ti65 rfl rfl rfl rfl) rfl <| ?_
        refine at_op rfl (n_storeA ti69 rfl rfl rfl (by simp) (by simp) ?_)
        refine at_nil ?_
        refine x_bn ?_
        refine x_tn ?_
        refine at_region ?_
        refine s1 (addN _ 1 rfl rfl rfl rfl (by omega)) rfl <| s1 (y_p rfl) rfl <| ?_
        refine at_nil ?_
        exact at_end (t + 1) (by omega) (by omega) [(3, some 3), (4, some 4), (12, some 12)] hI rfl rfl ⟨⟨_, rfl, .p rfl⟩, ⟨_, rfl, .p rfl⟩, ⟨_, rfl, .p rfl⟩, ⟨_, rfl, .pure pu⟩, trivial⟩ ⟨.inr ⟨_, _, rfl, rfl, .pure pul⟩, .inr ⟨_, _, rfl, rfl, .pure pul⟩, .inr ⟨_, _, rfl, rfl, .pure pul⟩, trivial⟩
      · have ht64 : t = 64 := by have := of_decide_eq_false hc93; omega
        subst ht64
        refine at_exit ?_
        refine x_te ?_
        refine x_te ?_
        refine x_be ?_
        refine x_tn ?_
        refine at_seq ?_
        refine at_region ?_
        refine s1 ((y_p rfl).v (v' := .i .i64 0) rfl) rfl <| ?_
        refine at_nil ?_
        refine x_tn ?_
        refine at_block ?_
        refine at_loop (ι := Nat) (fun i => [(0, .p 3 0), (12, .p 12 0), (172, .i .i64 (i : Nat))]) (fun i => ⟨[(3, some ((sumS s (rounds (sched b 48) s 64) i).map w32)), (12, some ((rounds (sched b 48) s 64).l.map w32))]⟩) (fun i => i ≤ 8) (fun i => 8 - i) ?_ ?_
        · exact at_ex (0) (Nat.zero_le _) [(3, some 3), (12, some 12)] hI rfl rfl ⟨⟨_, rfl, .p rfl⟩, ⟨_, rfl, .p rfl⟩, ⟨_, rfl, .pure pu⟩, trivial⟩ ⟨.inr ⟨_, _, rfl, rfl, .pure pul⟩, .inr ⟨_, _, rfl, rfl, .pure pul⟩, trivial⟩
        rintro i hi
        refine at_seq ?_
        refine at_region ?_
        refine s1 (y_p rfl) rfl <| ?_
        refine at_nil ?_
        refine x_tn ?_
        refine at_seq ?_
        refine at_cond rfl (fun hc173 => ?_) (fun hc173 => ?_)
        · have hi8 : i < 8 := by have := of_decide_eq_true hc173; omega
          refine at_skip ?_
          refine x_tn ?_
          refine at_seq ?_
          refine at_block ?_
          refine at_seq ?_
          refine at_region ?_
          refine s1 (y_p rfl) rfl <| s1 (y_p rfl) rfl <| ?_
          refine at_nil ?_
          refine x_tn ?_
          refine at_draw_tail 11 hmix (by kernel_rfl) ?_
          refine t1 (y_p rfl) rfl <| t1 (y_p rfl) rfl <| t1 (y_nilc rfl rfl) rfl <| t1 (y_ixa i Tryd.underlying69 ti65 rfl rfl rfl (by omega) rfl) rfl <| t1 (y_load ti65 rfl rfl (getW2 i (by rw [len_sumS]; omega) rfl)) rfl <| t1 (y_p rfl) rfl <| t1 (y_ixa i Tryd.underlying69 ti65 rfl rfl rfl (by omega) rfl) rfl <| t1 (y_load ti65 rfl rfl (getW2 i (by rw [len_l]; omega) rfl)) rfl <| t1 (add32 _ _ rfl rfl) rfl <| t1 (y_nilc rfl rfl) rfl <| ?_
          refine t1 (y_ixa i Tryd.underlying69 ti65 rfl rfl rfl (by omega) rfl) rfl <| ?_
          refine at_snil ?_
          refine at_op rfl (n_store1 ti65 rfl rfl rfl rfl (by rw [List.length_map, len_sumS]; omega) (set_sum s _ i (by omega)) ?_)
          refine at_nil ?_
          refine x_bn ?_
          refine x_tn ?_
          refine at_region ?_
          refine s1 (addN _ 1 rfl rfl rfl rfl (by omega)) rfl <| s1 (y_p rfl) rfl <| ?_
          refine at_nil ?_
          exact at_end (i + 1) (by omega) (by omega) [(3, some 3), (12, some 12)] hI rfl rfl ⟨⟨_, rfl, .p rfl⟩, ⟨_, rfl, .p rfl⟩, ⟨_, rfl, .pure pu⟩, trivial⟩ ⟨.inr ⟨_, _, rfl, rfl, .pure pul⟩, .inr ⟨_, _, rfl, rfl, .pure pul⟩, trivial⟩
        · have hi8 : i = 8 := by have := of_decide_eq_false hc173; omega
          subst hi8
          refine at_exit ?_
          refine x_te ?_
          refine x_te ?_
          refine x_be ?_
          refine at_result' (rs := []) rfl r_nil (retS_1 (congrArg (fun l => some (List.map w32 l)) (sum_8 _ _)))

end Go.Abs.D2
