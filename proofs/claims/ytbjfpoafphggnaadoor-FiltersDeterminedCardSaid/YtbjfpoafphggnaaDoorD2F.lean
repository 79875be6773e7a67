/-
  Layer 2: walks of the digest functions. Conditions: each theorem says its own.
-/
import Derived.Test.YtbjfpoafphggnaaDoorD2E
import Derived.Test.YtbjfpoafphggnaaDoorD2D
namespace Go.Abs.D2
open Go Go.Eng Go.Abs Go.Proofs 

set_option linter.unusedSimpArgs false in
set_option linter.unusedVariables false in
set_option maxHeartbeats 1000000 in
theorem blocks_ok (parts : List (List UInt8)) (hk : parts.length ≤ 1048576) (ht : parts.flatten.length ≤ 140737488300000) : ConS Tryd.prog 38 [.fn (.func 39) [.p 3 0] [], .fz parts.length (parts.map slA)] ⟨[(3, some (h0.l.map w32))]⟩ (RetS (.tu []) [(3, (fin parts.flatten).l.map w32)]) := by
  refine enterS Tryd.func38 rfl Tryd.ntmps38 (by kernel_rfl) (Nat.le_of_ble_eq_true rfl) fun w0 X0 hI => ?_
  refine at_seq ?_
  refine at_region ?_
  refine at_op rfl (n_alloc 4 rfl ti74 rfl rfl ?_)
  refine at_nil ?_
  refine x_tn ?_
  refine at_seq ?_
  refine at_region ?_
  refine s1 ((y_p rfl).v (v' := .i .i64 0) rfl) rfl <| s1 ((y_p rfl).v (v' := .i .u64 0) rfl) rfl <| ?_
  refine at_nil ?_
  refine x_tn ?_
  refine at_seq ?_
  refine at_seq ?_
  refine at_region ?_
  refine s1 (y_p rfl) rfl <| s1 (y_len Tryd.underlying67 rfl rfl rfl) rfl <| s1 ((y_p rfl).v (v' := .i .i64 0) rfl) rfl <| ?_
  refine at_nil ?_
  refine x_tn ?_
  refine at_block ?_
  refine at_loop (ι := List UInt8 × List UInt8 × Nat) (fun ⟨s, tl, i⟩ => [(0, .fn (.func 39) [.p 3 0] []), (4, .p 4 0), (5, .i .i64 ((s.length % 64) : Nat)), (6, w64 (c64 s.length)), (11, .fz parts.length (parts.map slA)), (12, .i .i64 (parts.length : Nat)), (13, .i .i64 (i : Nat))]) (fun ⟨s, tl, i⟩ => ⟨[(3, some ((hs s).l.map w32)), (4, some ((rem s ++ tl).map u8))]⟩) (fun ⟨s, tl, i⟩ => s = (parts.take i).flatten ∧ i ≤ parts.length ∧ tl.length = 64 - (s.length % 64)) (fun ⟨s, tl, i⟩ => parts.length - i) ?_ ?_
  · exact at_ex (([], List.replicate 64 0, 0)) (⟨by simp, Nat.zero_le _, by simp⟩) [(3, some 3), (4, some 4)] hI rfl rfl ⟨⟨_, rfl, .fn (.cons (.p rfl) .nil) .nil⟩, ⟨_, rfl, .p rfl⟩, ⟨_, rfl, .of rfl (.pure pu)⟩, ⟨_, rfl, .of rfl (.pure pu)⟩, ⟨_, rfl, .pure pu⟩, ⟨_, rfl, .pure pu⟩, ⟨_, rfl, .pure pu⟩, trivial⟩ ⟨.inr ⟨_, _, rfl, rfl, .of rfl (.pure pul)⟩, .inr ⟨_, _, rfl, rfl, .of zeros_64 (.pure pul)⟩, trivial⟩
  rintro ⟨s, tl, i⟩ ⟨hs0, hi, htl⟩
  dsimp only
  have hmod := Nat.mod_lt s.length (show 0 < 64 by decide)
  refine at_seq ?_
  refine at_region ?_
  refine s1 (y_p rfl) rfl <| ?_
  refine at_nil ?_
  refine x_tn ?_
  refine at_seq ?_
  refine at_cond rfl (fun hc14 => ?_) (fun hc14 => ?_)
  · have hi2 : i < parts.length := by have := of_decide_eq_true hc14; omega
    obtain ⟨p, hp⟩ : ∃ p, parts[i]? = some p := ⟨_, List.getElem?_eq_getElem hi2⟩
    have hpl := len_part (List.mem_of_getElem? hp)
    refine at_skip ?_
    refine x_tn ?_
    refine at_seq ?_
    refine at_block ?_
    refine at_seq ?_
    refine at_region ?_
    refine s1 (y_ixf i Tryd.underlying67 ti24 rfl rfl rfl (by omega) rfl) rfl <| s1 (y_load ti24 rfl rfl (getP hp)) rfl <| s1 (y_p rfl) rfl <| ?_
    refine at_nil ?_
    refine x_tn ?_
    refine at_seq ?_
    refine at_region ?_
    refine s1 (y_p rfl) rfl <| s1 (y_p rfl) rfl <| s1 (y_len Tryd.underlying24 rfl rfl rfl) rfl <| s1 (ofN_64 p.length Tryd.underlying3 Tryd.underlying75 rfl rfl) rfl <| s1 (add64 (c64 s.length) (c64 p.length) rfl rfl) rfl <| s1 (y_p rfl) rfl <| ?_
    refine at_nil ?_
    refine x_tn ?_
    refine at_block ?_
    refine at_loop (ι := Nat × List UInt8) (fun ⟨j, tl2⟩ => [(0, .fn (.func 39) [.p 3 0] []), (4, .p 4 0), (5, .i .i64 (((s ++ p.take j).length % 64) : Nat)), (6, w64 (c64 s.length + c64 p.length)), (8, .fz (p.length - j) ((p.drop j).map u8)), (11, .fz parts.length (parts.map slA)), (12, .i .i64 (parts.length : Nat)), (13, .i .i64 (i : Nat))]) (fun ⟨j, tl2⟩ => ⟨[(3, some ((hs (s ++ p.take j)).l.map w32)), (4, some ((rem (s ++ p.take j) ++ tl2).map u8))]⟩) (fun ⟨j, tl2⟩ => j ≤ p.length ∧ tl2.length = 64 - ((s ++ p.take j).length % 64)) (fun ⟨j, tl2⟩ => p.length - j) ?_ ?_
    · exact at_ex ((0, tl)) (⟨Nat.zero_le _, by rw [at0]; exact htl⟩) [(3, some 3), (4, some 4)] hI rfl rfl ⟨⟨_, rfl, .fn (.cons (.p rfl) .nil) .nil⟩, ⟨_, rfl, .p rfl⟩, ⟨_, rfl, .of (by rw [at0]) (.pure pu)⟩, ⟨_, rfl, .pure pu⟩, ⟨_, rfl, .pure pu⟩, ⟨_, rfl, .pure pu⟩, ⟨_, rfl, .pure pu⟩, ⟨_, rfl, .pure pu⟩, trivial⟩ ⟨.inr ⟨_, _, rfl, rfl, .of (by rw [at0]) (.pure pul)⟩, .inr ⟨_, _, rfl, rfl, .of (by rw [at0]) (.pure pul)⟩, trivial⟩
    rintro ⟨j, tl2⟩ ⟨hj, htl2⟩
    dsimp only
    have hSL : (s ++ p.take j).length = s.length + min j p.length := by rw [List.length_append, List.length_take]
    have hmod1 := Nat.mod_lt (s ++ p.take j).length (show 0 < 64 by decide)
    refine at_seq ?_
    refine at_seq ?_
    refine at_region ?_
    refine s1 (y_p rfl) rfl <| s1 (y_len Tryd.underlying24 rfl rfl rfl) rfl <| s1 (y_p rfl) rfl <| ?_
    refine at_nil ?_
    refine x_tn ?_
    refine at_cond rfl (fun hc24 => ?_) (fun hc24 => ?_)
    · have hj2 : j < p.length := by have := of_decide_eq_true hc24; omega
      have hc1 : fitN p (s ++ p.take j) j ≤ p.length - j := Nat.min_le_left _ _
      have hc2 : fitN p (s ++ p.take j) j ≤ 64 - ((s ++ p.take j).length % 64) := Nat.min_le_right _ _
      have hc0 : 0 < fitN p (s ++ p.take j) j := Nat.lt_min.2 ⟨by omega, by omega⟩
      obtain ⟨c, hcd⟩ : ∃ c, c = fitN p (s ++ p.take j) j := ⟨_, rfl⟩
      rw [← hcd] at hc0 hc1 hc2
      refine at_skip ?_
      refine x_tn ?_
      refine at_block ?_
      refine at_seq ?_
      refine at_region ?_
      refine s1 (y_p rfl) rfl <| s1 (y_cuta (o' := ((s ++ p.take j).length % 64)) (64 - ((s ++ p.take j).length % 64)) Tryd.underlying74 ti5 rfl rfl (by simp only [List.length_map, List.length_append, List.length_cons, List.length_nil, List.length_replicate, List.length_drop, List.length_take, len_rem, len_lastB, len_be64] <;> omega) (by simp [maxLen]) (bs rfl rfl) bn (by omega) (by omega) rfl (by rw [if_neg (by omega)]; omega)) rfl <| s1 (y_p rfl) rfl <| ?_
      refine at_op rfl (n_copyC (c) Tryd.underlying24 ti5 rfl rfl rfl rfl (by first | rfl | omega | (simp; done) | (simp [*]; done) | (simp; omega) | (simp [*]; omega) | (simp [D32.len, -List.length_flatten, *]; done) | (simp [D32.len, -List.length_flatten, *]; omega)) hcd hc0 (by simp only [List.length_map, List.length_append, List.length_cons, List.length_nil, List.length_replicate, List.length_drop, List.length_take, len_rem, len_lastB, len_be64] <;> omega) (buf_copy _ _ _ _ _) rfl ?_)
      refine s1 (y_p rfl) rfl <| ?_
      refine at_nil ?_
      refine x_tn ?_
      refine at_seq ?_
      refine at_fs ⟨_, [5], [(0, [5])]⟩ 7 4 hmix (le_refl rfl) ?_
      refine fs_q 0 [] [] (y_p rfl) rfl rfl ?_
      refine fs_q 1 [] [] (y_p rfl) rfl rfl ?_
      refine fs_q 2 [0, 1] [] (addN _ _ rfl rfl rfl rfl (by omega)) rfl rfl ?_
      refine fs_q 3 [] [] (y_p rfl) rfl rfl ?_
      refine fs_q 4 [] [] (y_p rfl) rfl rfl ?_
      refine fs_q 5 [3, 4] [] ((y_cutf (p.length - (j + c)) Tryd.underlying24 ti5 rfl (by simp) (bs rfl rfl) bn (by omega) (by omega) (by omega) rfl).v (congrArg (A.fz _) (cut_p p j c))) rfl rfl ?_
      refine fs_q 6 [2] [] (y_p rfl) rfl rfl ?_
      refine fs_end (by kernel_rfl) ?_
      refine s1 (y_p rfl) rfl <| ?_
      refine at_nil ?_
      refine x_tn ?_
      refine at_seq ?_
      refine at_region ?_
      refine s1 (y_p rfl) rfl <| s1 (y_p rfl) rfl <| ?_
      refine at_nil ?_
      refine x_tn ?_
      refine at_cond rfl (fun hc36 => ?_) (fun hc36 => ?_)
      · obtain ⟨r1, r2, r3⟩ := next_full (s := s) hc1 htl2 (by have := of_decide_eq_true hc36; omega)
        refine at_seq ?_
        refine at_region ?_
        refine s1 (y_p rfl) rfl <| s1 (y_cuta0 Tryd.underlying74 ti5 rfl rfl (by simp only [List.length_map, List.length_append, List.length_cons, List.length_nil, List.length_replicate, List.length_drop, List.length_take, len_rem, len_lastB, len_be64] <;> omega) (by simp [maxLen])) rfl <| ?_
        refine at_op rfl (n_callG ⟨[(3, some ((hs (s ++ p.take j)).l.map w32))]⟩ [(3, (comp (hs (s ++ p.take j)) (rem (s ++ p.take j) ++ (p.drop j).take c ++ tl2.drop c)).l.map w32)] true rfl rfl ⟨⟨rfl, VwL.pure pul⟩, trivial⟩ (.cons (.kp rfl) (.cons (.sl rfl rfl rfl (view_eq (by simp only [List.length_map, List.length_append, List.length_cons, List.length_nil, List.length_replicate, List.length_drop, List.length_take, len_rem, len_lastB, len_be64] <;> omega) rfl) (VwL.pure pul) pul) .nil)) (absorb_ok _ (rem (s ++ p.take j) ++ (p.drop j).take c ++ tl2.drop c) (by simp only [List.length_map, List.length_append, List.length_cons, List.length_nil, List.length_replicate, List.length_drop, List.length_take, len_rem, len_lastB, len_be64] <;> omega)) trivial (.inr trivial) (upd_1 (c0 := (hs (s ++ p.take j)).l.map w32) rfl pul ful) rfl ?_)
        refine at_nil ?_
        refine x_tn ?_
        refine at_region ?_
        refine s1 ((y_p rfl).v (v' := .i .i64 0) rfl) rfl <| ?_
        refine at_nil ?_
        refine x_bn ?_
        exact at_end (x := (j, tl2)) ((j + c, rem (s ++ p.take j) ++ (p.drop j).take c ++ tl2.drop c)) (⟨by dsimp only; omega, by dsimp only; rw [r3]; simp only [List.length_append, len_rem, List.length_take, List.length_drop]; omega⟩) (by dsimp only; omega) [(3, some 3), (4, some 4)] hI rfl rfl ⟨⟨_, rfl, .fn (.cons (.p rfl) .nil) .nil⟩, ⟨_, rfl, .p rfl⟩, ⟨_, rfl, .of (congrArg (fun k : Nat => A.i .i64 (k : Int)) r3.symm) (.pure pu)⟩, ⟨_, rfl, .pure pu⟩, ⟨_, rfl, .pure pu⟩, ⟨_, rfl, .pure pu⟩, ⟨_, rfl, .pure pu⟩, ⟨_, rfl, .pure pu⟩, trivial⟩ ⟨.inr ⟨_, _, rfl, rfl, .of (by rw [r2]) (.pure pul)⟩, .inr ⟨_, _, rfl, rfl, .of (by rw [r1, List.nil_append]) (.pure pul)⟩, trivial⟩
      · obtain ⟨r1, r2, r3⟩ := next_part (s := s) hc1 (by have := of_decide_eq_false hc36; omega)
        refine at_skip ?_
        refine x_bn ?_
        exact at_end (x := (j, tl2)) ((j + c, tl2.drop c)) (⟨by dsimp only; omega, by dsimp only; rw [r3, List.length_drop]; omega⟩) (by dsimp only; omega) [(3, some 3), (4, some 4)] hI rfl rfl ⟨⟨_, rfl, .fn (.cons (.p rfl) .nil) .nil⟩, ⟨_, rfl, .p rfl⟩, ⟨_, rfl, .of (congrArg (fun k : Nat => A.i .i64 (k : Int)) r3.symm) (.pure pu)⟩, ⟨_, rfl, .pure pu⟩, ⟨_, rfl, .pure pu⟩, ⟨_, rfl, .pure pu⟩, ⟨_, rfl, .pure pu⟩, ⟨_, rfl, .pure pu⟩, trivial⟩ ⟨.inr ⟨_, _, rfl, rfl, .of (by rw [r2]) (.pure pul)⟩, .inr ⟨_, _, rfl, rfl, .of (by rw [r1]) (.pure pul)⟩, trivial⟩
    · have hj2 : j = p.length := by have := of_decide_eq_false hc24; omega
      subst hj2
      refine at_exit ?_
      refine x_te ?_
      refine x_te ?_
      refine x_be ?_
      refine x_bn ?_
      refine x_tn ?_
      refine at_region ?_
      refine s1 (addN _ 1 rfl rfl rfl rfl (by omega)) rfl <| s1 (y_p rfl) rfl <| ?_
      refine at_nil ?_
      exact at_end (x := (s, tl, i)) ((s ++ p.take p.length, tl2, i + 1)) (⟨by rw [hs0]; exact cat_p hp, by dsimp only; omega, htl2⟩) (by dsimp only; omega) [(3, some 3), (4, some 4)] hI rfl rfl ⟨⟨_, rfl, .fn (.cons (.p rfl) .nil) .nil⟩, ⟨_, rfl, .p rfl⟩, ⟨_, rfl, .pure pu⟩, ⟨_, rfl, .of (add_len s p) (.pure pu)⟩, ⟨_, rfl, .pure pu⟩, ⟨_, rfl, .pure pu⟩, ⟨_, rfl, .pure pu⟩, trivial⟩ ⟨.inr ⟨_, _, rfl, rfl, .pure pul⟩, .inr ⟨_, _, rfl, rfl, .pure pul⟩, trivial⟩
  · have hi2 : i = parts.length := by have := of_decide_eq_false hc14; omega
    subst hi2
    rw [List.take_length] at hs0
    have hsl : s.length ≤ 140737488300000 := by rw [hs0]; exact ht
    refine at_exit ?_
    refine x_te ?_
    refine x_te ?_
    refine x_be ?_
    refine x_tn ?_
    refine at_seq ?_
    refine at_region ?_
    refine s1 (y_p rfl) rfl <| s1 (y_ixa (s.length % 64) Tryd.underlying74 ti5 rfl rfl rfl (by omega) rfl) rfl <| ?_
    refine at_op rfl (n_store1 ti5 rfl rfl rfl rfl (by simp only [List.length_map, List.length_append, List.length_cons, List.length_nil, List.length_replicate, List.length_drop, List.length_take, len_rem, len_lastB, len_be64] <;> omega) (set_128 s tl htl) ?_)
    refine at_nil ?_
    refine x_tn ?_
    refine at_seq ?_
    refine at_region ?_
    refine s1 (y_p rfl) rfl <| s1 (addN _ 1 rfl rfl rfl rfl (by omega)) rfl <| s1 (y_cuta (64 - ((s.length % 64) + 1)) Tryd.underlying74 ti5 rfl rfl (by simp only [List.length_map, List.length_append, List.length_cons, List.length_nil, List.length_replicate, List.length_drop, List.length_take, len_rem, len_lastB, len_be64] <;> omega) (by simp [maxLen]) (bs rfl rfl) bn (by omega) (by omega) rfl rfl) rfl <| ?_
    refine at_op rfl (n_clear Tryd.underlying24 ti5 rfl rfl rfl (by simp only [List.length_map, List.length_append, List.length_cons, List.length_nil, List.length_replicate, List.length_drop, List.length_take, len_rem, len_lastB, len_be64]; split <;> omega) (fill_0 s tl htl _ rfl) rfl ?_)
    refine at_nil ?_
    refine x_tn ?_
    refine at_seq ?_
    refine at_seq ?_
    refine at_region ?_
    refine s1 (y_p rfl) rfl <| s1 (addN _ 1 rfl rfl rfl rfl (by omega)) rfl <| s1 (y_p rfl) rfl <| ?_
    refine at_nil ?_
    refine x_tn ?_
    refine at_cond rfl (fun hc48 => ?_) (fun hc48 => ?_)
    · have hfar : s.length % 64 + 1 > 56 := by have := of_decide_eq_true hc48; omega
      refine at_seq ?_
      refine at_region ?_
      refine s1 (y_p rfl) rfl <| s1 (y_cuta0 Tryd.underlying74 ti5 rfl rfl (by simp only [List.length_map, List.length_append, List.length_cons, List.length_nil, List.length_replicate, List.length_drop, List.length_take, len_rem, len_lastB, len_be64] <;> omega) (by simp [maxLen])) rfl <| ?_
      refine at_op rfl (n_callG ⟨[(3, some ((hs s).l.map w32))]⟩ [(3, (comp (hs s) (rem s ++ [128] ++ List.replicate (63 - s.length % 64) 0)).l.map w32)] true rfl rfl ⟨⟨rfl, VwL.pure pul⟩, trivial⟩ (.cons (.kp rfl) (.cons (.sl rfl rfl rfl (view_eq (by simp only [List.length_map, List.length_append, List.length_cons, List.length_nil, List.length_replicate, List.length_drop, List.length_take, len_rem, len_lastB, len_be64] <;> omega) rfl) (VwL.pure pul) pul) .nil)) (absorb_ok _ (rem s ++ [128] ++ List.replicate (63 - s.length % 64) 0) (by simp only [List.length_map, List.length_append, List.length_cons, List.length_nil, List.length_replicate, List.length_drop, List.length_take, len_rem, len_lastB, len_be64] <;> omega)) trivial (.inr trivial) (upd_1 (c0 := (hs s).l.map w32) rfl pul ful) rfl ?_)
      refine at_nil ?_
      refine x_tn ?_
      refine at_region ?_
      refine s1 (y_cuta0 Tryd.underlying74 ti5 rfl rfl (by simp only [List.length_map, List.length_append, List.length_cons, List.length_nil, List.length_replicate, List.length_drop, List.length_take, len_rem, len_lastB, len_be64] <;> omega) (by simp [maxLen])) rfl <| ?_
      refine at_op rfl (n_clear Tryd.underlying24 ti5 rfl rfl rfl (by simp only [List.length_map, List.length_append, List.length_cons, List.length_nil, List.length_replicate, List.length_drop, List.length_take, len_rem, len_lastB, len_be64] <;> omega) (clear_64 (by simp only [List.length_map, List.length_append, List.length_cons, List.length_nil, List.length_replicate, List.length_drop, List.length_take, len_rem, len_lastB, len_be64] <;> omega)) rfl ?_)
      refine at_nil ?_
      refine x_tn ?_
      refine at_seq ?_
      refine at_seq ?_
      refine at_sayO 4 rfl (lastB_far hfar) ?_
      refine at_sayO 3 rfl (cs' := (lastS s).l.map w32) (by rw [lastS, if_pos hfar]) ?_
      refine at_region ?_
      refine s1 ((y_p rfl).v (v' := .i .i64 0) rfl) rfl <| ?_
      refine at_nil ?_
      refine x_tn ?_
      refine at_block ?_
      refine at_loop (ι := Nat) (fun i => [(0, .fn (.func 39) [.p 3 0] []), (4, .p 4 0), (6, w64 (c64 s.length)), (53, .i .i64 (i : Nat))]) (fun i => ⟨[(3, some ((lastS s).l.map w32)), (4, some ((lastB s ++ List.replicate (8 - i) 0 ++ (be64 (8 * s.length)).drop (8 - i)).map u8))]⟩) (fun i => i ≤ 8) (fun i => 8 - i) ?_ ?_
      · exact at_ex (0) (Nat.zero_le _) [(3, some 3), (4, some 4)] hI rfl rfl ⟨⟨_, rfl, .fn (.cons (.p rfl) .nil) .nil⟩, ⟨_, rfl, .p rfl⟩, ⟨_, rfl, .pure pu⟩, ⟨_, rfl, .pure pu⟩, trivial⟩ ⟨.inr ⟨_, _, rfl, rfl, .pure pul⟩, .inr ⟨_, _, rfl, rfl, .pure pul⟩, trivial⟩
      rintro i hi
      refine at_seq ?_
      refine at_region ?_
      refine s1 (y_p rfl) rfl <| ?_
      refine at_nil ?_
      refine x_tn ?_
      refine at_seq ?_
      refine at_cond rfl (fun hc54 => ?_) (fun hc54 => ?_)
      · have hi8 : i < 8 := by have := of_decide_eq_true hc54; omega
        refine at_skip ?_
        refine x_tn ?_
        refine at_seq ?_
        refine at_block ?_
        refine at_seq ?_
        refine at_region ?_
        refine s1 (y_p rfl) rfl <| s1 (y_p rfl) rfl <| ?_
        refine at_nil ?_
        refine x_tn ?_
        refine at_region ?_
        refine s1 (y_p rfl) rfl <| s1 (subN 63 i rfl rfl rfl rfl (by omega) (by omega)) rfl <| s1 (y_p rfl) rfl <| s1 ((mul64 _ (c64 8) rfl rfl).v (v' := w64 (c64 (8 * s.length))) (congrArg w64 (by rw [← BitVec.ofNat_mul, Nat.mul_comm]))) rfl <| s1 (y_p rfl) rfl <| s1 (mulN 8 i rfl rfl rfl rfl (by omega)) rfl <| s1 (shr64 _ (8 * i) rfl rfl rfl (by omega)) rfl <| s1 ((to8_64 _ Tryd.underlying75 Tryd.underlying5 rfl).v (v' := u8 (UInt8.ofNat (8 * s.length / 2 ^ (8 * i)))) (congrArg u8 (be_byte _ _ (by omega)))) rfl <| s1 (y_ixa (63 - i) Tryd.underlying74 ti5 rfl rfl rfl (by omega) rfl) rfl <| ?_
        refine at_op rfl (n_store1 ti5 rfl rfl rfl rfl (by simp only [List.length_map, List.length_append, List.length_cons, List.length_nil, List.length_replicate, List.length_drop, List.length_take, len_rem, len_lastB, len_be64] <;> omega) (set_be s i _ (by omega) rfl) ?_)
        refine at_nil ?_
        refine x_bn ?_
        refine x_tn ?_
        refine at_region ?_
        refine s1 (addN _ 1 rfl rfl rfl rfl (by omega)) rfl <| s1 (y_p rfl) rfl <| ?_
        refine at_nil ?_
        exact at_end (i + 1) (by omega) (by omega) [(3, some 3), (4, some 4)] hI rfl rfl ⟨⟨_, rfl, .fn (.cons (.p rfl) .nil) .nil⟩, ⟨_, rfl, .p rfl⟩, ⟨_, rfl, .pure pu⟩, ⟨_, rfl, .pure pu⟩, trivial⟩ ⟨.inr ⟨_, _, rfl, rfl, .pure pul⟩, .inr ⟨_, _, rfl, rfl, .pure pul⟩, trivial⟩
      · have hi8 : i = 8 := by have := of_decide_eq_false hc54; omega
        subst hi8
        refine at_exit ?_
        refine x_te ?_
        refine x_te ?_
        refine x_be ?_
        refine x_tn ?_
        refine at_region ?_
        refine s1 (y_p rfl) rfl <| s1 (y_cuta0 Tryd.underlying74 ti5 rfl rfl (by simp only [List.length_map, List.length_append, List.length_cons, List.length_nil, List.length_replicate, List.length_drop, List.length_take, len_rem, len_lastB, len_be64] <;> omega) (by simp [maxLen])) rfl <| ?_
        refine at_op rfl (n_callG ⟨[(3, some ((lastS s).l.map w32))]⟩ [(3, (comp (lastS s) (lastB s ++ be64 (8 * s.length))).l.map w32)] true rfl rfl ⟨⟨rfl, VwL.pure pul⟩, trivial⟩ (.cons (.kp rfl) (.cons (.sl rfl rfl rfl (view_eq (by simp only [List.length_map, List.length_append, List.length_cons, List.length_nil, List.length_replicate, List.length_drop, List.length_take, len_rem, len_lastB, len_be64] <;> omega) (by simp)) (VwL.pure pul) pul) .nil)) (absorb_ok _ (lastB s ++ be64 (8 * s.length)) (by simp only [List.length_map, List.length_append, List.length_cons, List.length_nil, List.length_replicate, List.length_drop, List.length_take, len_rem, len_lastB, len_be64] <;> omega)) trivial (.inr trivial) (upd_1 (c0 := (lastS s).l.map w32) rfl pul ful) rfl ?_)
        refine at_nil ?_
        refine at_result' (rs := []) rfl r_nil (retS_1 (c := (fin parts.flatten).l.map w32) ?_)
        exact congrArg (fun q : S8 => some (q.l.map w32)) ((fin_last s).trans (by rw [hs0]))
    · have hfar : ¬ s.length % 64 + 1 > 56 := by have := of_decide_eq_false hc48; omega
      refine at_skip ?_
      refine x_tn ?_
      refine at_seq ?_
      refine at_seq ?_
      refine at_sayO 4 rfl (lastB_near hfar) ?_
      refine at_sayO 3 rfl (cs' := (lastS s).l.map w32) (by rw [lastS, if_neg hfar]) ?_
      refine at_region ?_
      refine s1 ((y_p rfl).v (v' := .i .i64 0) rfl) rfl <| ?_
      refine at_nil ?_
      refine x_tn ?_
      refine at_block ?_
      refine at_loop (ι := Nat) (fun i => [(0, .fn (.func 39) [.p 3 0] []), (4, .p 4 0), (6, w64 (c64 s.length)), (53, .i .i64 (i : Nat))]) (fun i => ⟨[(3, some ((lastS s).l.map w32)), (4, some ((lastB s ++ List.replicate (8 - i) 0 ++ (be64 (8 * s.length)).drop (8 - i)).map u8))]⟩) (fun i => i ≤ 8) (fun i => 8 - i) ?_ ?_
      · exact at_ex (0) (Nat.zero_le _) [(3, some 3), (4, some 4)] hI rfl rfl ⟨⟨_, rfl, .fn (.cons (.p rfl) .nil) .nil⟩, ⟨_, rfl, .p rfl⟩, ⟨_, rfl, .pure pu⟩, ⟨_, rfl, .pure pu⟩, trivial⟩ ⟨.inr ⟨_, _, rfl, rfl, .pure pul⟩, .inr ⟨_, _, rfl, rfl, .pure pul⟩, trivial⟩
      rintro i hi
      refine at_seq ?_
      refine at_region ?_
      refine s1 (y_p rfl) rfl <| ?_
      refine at_nil ?_
      refine x_tn ?_
      refine at_seq ?_
      refine at_cond rfl (fun hc54 => ?_) (fun hc54 => ?_)
      · have hi8 : i < 8 := by have := of_decide_eq_true hc54; omega
        refine at_skip ?_
        refine x_tn ?_
        refine at_seq ?_
        refine at_block ?_
        refine at_seq ?_
        refine at_region ?_
        refine s1 (y_p rfl) rfl <| s1 (y_p rfl) rfl <| ?_
        refine at_nil ?_
        refine x_tn ?_
        refine at_region ?_
        refine s1 (y_p rfl) rfl <| s1 (subN 63 i rfl rfl rfl rfl (by omega) (by omega)) rfl <| s1 (y_p rfl) rfl <| s1 ((mul64 _ (c64 8) rfl rfl).v (v' := w64 (c64 (8 * s.length))) (congrArg w64 (by rw [← BitVec.ofNat_mul, Nat.mul_comm]))) rfl <| s1 (y_p rfl) rfl <| s1 (mulN 8 i rfl rfl rfl rfl (by omega)) rfl <| s1 (shr64 _ (8 * i) rfl rfl rfl (by omega)) rfl <| s1 ((to8_64 _ Tryd.underlying75 Tryd.underlying5 rfl).v (v' := u8 (UInt8.ofNat (8 * s.length / 2 ^ (8 * i)))) (congrArg u8 (be_byte _ _ (by omega)))) rfl <| s1 (y_ixa (63 - i) Tryd.underlying74 ti5 rfl rfl rfl (by omega) rfl) rfl <| ?_
        refine at_op rfl (n_store1 ti5 rfl rfl rfl rfl (by simp only [List.length_map, List.length_append, List.length_cons, List.length_nil, List.length_replicate, List.length_drop, List.length_take, len_rem, len_lastB, len_be64] <;> omega) (set_be s i _ (by omega) rfl) ?_)
        refine at_nil ?_
        refine x_bn ?_
        refine x_tn ?_
        refine at_region ?_
        refine s1 (addN _ 1 rfl rfl rfl rfl (by omega)) rfl <| s1 (y_p rfl) rfl <| ?_
        refine at_nil ?_
        exact at_end (i + 1) (by omega) (by omega) [(3, some 3), (4, some 4)] hI rfl rfl ⟨⟨_, rfl, .fn (.cons (.p rfl) .nil) .nil⟩, ⟨_, rfl, .p rfl⟩, ⟨_, rfl, .pure pu⟩, ⟨_, rfl, .pure pu⟩, trivial⟩ ⟨.inr ⟨_, _, rfl, rfl, .pure pul⟩, .inr ⟨_, _, rfl, rfl, .pure pul⟩, trivial⟩
      · have hi8 : i = 8 := by have := of_decide_eq_false hc54; omega
        subst hi8
        refine at_exit ?_
        refine x_te ?_
        refine x_te ?_
        refine x_be ?_
        refine x_tn ?_
        refine at_region ?_
        refine s1 (y_p rfl) rfl <| s1 (y_cuta0 Tryd.underlying74 ti5 rfl rfl (by simp only [List.length_map, List.length_append, List.length_cons, List.length_nil, List.length_replicate, List.length_drop, List.length_take, len_rem, len_lastB, len_be64] <;> omega) (by simp [maxLen])) rfl <| ?_
        refine at_op rfl (n_callG ⟨[(3, some ((lastS s).l.map w32))]⟩ [(3, (comp (lastS s) (lastB s ++ be64 (8 * s.length))).l.map w32)] true rfl rfl ⟨⟨rfl, VwL.pure pul⟩, trivial⟩ (.cons (.kp rfl) (.cons (.sl rfl rfl rfl (view_eq (by simp only [List.length_map, List.length_append, List.length_cons, List.length_nil, List.length_replicate, List.length_drop, List.length_take, len_rem, len_lastB, len_be64] <;> omega) (by simp)) (VwL.pure pul) pul) .nil)) (absorb_ok _ (lastB s ++ be64 (8 * s.length)) (by simp only [List.length_map, List.length_append, List.length_cons, List.length_nil, List.length_replicate, List.length_drop, List.length_take, len_rem, len_lastB, len_be64] <;> omega)) trivial (.inr trivial) (upd_1 (c0 := (lastS s).l.map w32) rfl pul ful) rfl ?_)
        refine at_nil ?_
        refine at_result' (rs := []) rfl r_nil (retS_1 (c := (fin parts.flatten).l.map w32) ?_)
        exact congrArg (fun q : S8 => some (q.l.map w32)) ((fin_last s).trans (by rw [hs0]))

end Go.Abs.D2
