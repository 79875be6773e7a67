/-
  Layer 36: walks of the retrieval functions. Conditions: each theorem says its own.
-/
import Derived.Test.YtjnbpinnjbdnpaaR36A
namespace Go.Eng.R36
open Go Go.Eng Go.Proofs

theorem add_ok (w : World) (g n cap : Nat) (l : List UInt8) (rest : List Value) (sv : SV) (rs : List SV) (ls : List (List UInt8)) (hg : w.heap[g]? = some (row 5 (l.map B ++ rest))) (hn : n = l.length) (hs : Rows w 0 sv rs ls) (h0 : g ≠ ab sv.a) (hoff : ∀ r ∈ rs, g ≠ ab r.a) (hle : ∀ b ∈ ls, l.length ≤ b.length) (hbig : n ≤ maxLen) : Fn Try.prog 35 #[.slice (some ⟨g, 0, none⟩) n cap, sv.v] w (fun v w' => v = .tuple #[] ∧ w'.heap[g]? = some (row 5 ((ls.foldl xorL l).map B ++ rest)) ∧ Mod [g] w w') := by
  refine enter Try.func35 rfl Try.ntmps35 (by kernel_rfl) rfl ?_
  refine at_seq ?_
  refine at_region ?_
  refine at_good (fun w1 hG1 => hG1.adopt (hG1.obj (.head _) hg (by simp)) (by simp)) ?_
  have hsn := hs.n
  have hsl := hs.len
  have hsm := Nat.le_trans hs.sl.le hs.sl.max
  simp only [maxLen] at hsm hbig
  refine s1 (y_p rfl) rfl <| s1 (y_len Try.underlying30 rfl rfl) rfl <| s1 (y_p rfl) rfl <| ?_
  refine at_nil ?_
  refine x_tn ?_
  refine at_block ?_
  refine at_loop (ι := Nat) (fun j => [(0, .slice (some ⟨g, 0, none⟩) n cap), (1, sv.v), (7, sv.v), (8, .int .i64 (sv.n : Int)), (9, .int .i64 (j : Int))]) (fun j => [w]) (fun j => [(g, row 5 ((foldTo l ls j).map B ++ rest))]) (fun j => j ≤ ls.length) (fun j => ls.length - j) ?_ ?_
  · exact at_ex 0 (Nat.zero_le _) ⟨rfl, rfl, rfl, rfl, rfl, trivial⟩ (fun _ h => h)
  intro j hpre
  refine at_seq ?_
  refine at_region ?_
  refine s1 (y_p rfl) rfl <| ?_
  refine at_nil ?_
  refine x_tn ?_
  refine at_seq ?_
  refine at_cond rfl (fun hc10 => ?_) (fun hc10 => ?_)
  · have hj : j < ls.length := by have := of_decide_eq_true hc10; omega
    obtain ⟨r, hr, hb⟩ := hs.get hj
    have hrm := List.mem_of_getElem? hr
    have hbl : l.length ≤ (ls.getD j []).length := hle _ (by simp [List.getD, hj])
    have hcl := len_foldTo hle j hpre
    generalize hbe : ls.getD j [] = b at hb hbl
    refine at_skip ?_
    refine x_tn ?_
    refine at_seq ?_
    refine at_block ?_
    refine at_seq ?_
    refine at_region ?_
    refine s1 (y_idx1 j Try.underlying30 ti22 rfl rfl rfl (by omega) (hs.sl.addr (by omega))) rfl <| s1 (y_load ti22 rfl (fun w1 hG1 => hG1.cell' (.head _) (hs.cell hr) ⟨.inl h0, trivial⟩)) rfl <| s1 (y_p rfl) rfl <| ?_
    refine at_nil ?_
    refine x_tn ?_
    refine at_seq ?_
    refine at_region ?_
    refine s1 (y_p rfl) rfl <| s1 (y_len Try.underlying22 rfl rfl) rfl <| s1 (y_p rfl) rfl <| ?_
    refine at_nil ?_
    refine x_tn ?_
    refine at_block ?_
    refine at_loop (ι := Nat) (fun i => [(0, .slice (some ⟨g, 0, none⟩) n cap), (1, sv.v), (5, r.v), (7, sv.v), (8, .int .i64 (sv.n : Int)), (9, .int .i64 (j : Int)), (14, .int .i64 (n : Int)), (15, .int .i64 (i : Int))]) (fun i => [w]) (fun i => [(g, row 5 ((xorTo (foldTo l ls j) b i).map B ++ rest))]) (fun i => i ≤ (foldTo l ls j).length) (fun i => (foldTo l ls j).length - i) ?_ ?_
    · exact at_ex 0 (Nat.zero_le _) ⟨rfl, rfl, rfl, rfl, rfl, rfl, rfl, rfl, trivial⟩ (fun _ h => by rw [xorTo_zero]; exact h)
    intro i hi0
    refine at_seq ?_
    refine at_region ?_
    refine s1 (y_p rfl) rfl <| ?_
    refine at_nil ?_
    refine x_tn ?_
    refine at_seq ?_
    refine at_cond rfl (fun hc16 => ?_) (fun hc16 => ?_)
    · have hi : i < (foldTo l ls j).length := by have := of_decide_eq_true hc16; omega
      have hle2 : (foldTo l ls j).length ≤ b.length := by omega
      have hget : ((xorTo (foldTo l ls j) b i).map B ++ rest)[i]? = some (B ((foldTo l ls j).getD i 0)) := by
        rw [List.getElem?_append_left (by simp [len_xorTo hle2 i hi0]; exact hi), List.getElem?_map, xorTo_get hle2 hi]; rfl
      have hset : ((xorTo (foldTo l ls j) b i).map B ++ rest).set i (B ((foldTo l ls j).getD i 0 ^^^ b.getD i 0)) = (xorTo (foldTo l ls j) b (i + 1)).map B ++ rest := by
        rw [set_B _ _ _ _ (by rw [len_xorTo hle2 i hi0]; exact hi), xorTo_succ hle2 hi]
      have hfit := len_xorTo hle2 i hi0
      have hbn := hb.1
      refine at_skip ?_
      refine x_tn ?_
      refine at_seq ?_
      refine at_block ?_
      refine at_seq ?_
      refine at_region ?_
      refine s1 (y_p rfl) rfl <| s1 (y_p rfl) rfl <| ?_
      refine at_nil ?_
      refine x_tn ?_
      refine at_draw_tail 10 hmix (by kernel_rfl) ?_
      refine t1 (y_p rfl) rfl <| t1 (y_p rfl) rfl <| t1 (y_idxo i i Try.underlying22 ti5 rfl rfl rfl (by omega) (by omega)) rfl <| t1 (y_own 0 ti5 rfl rfl hget) rfl <| t1 (y_p rfl) rfl <| t1 (y_p rfl) rfl <| t1 (y_idx1 i Try.underlying22 ti5 rfl rfl rfl (by omega) (hb.2.addr (by omega))) rfl <| t1 (y_load ti5 rfl (fun w1 hG1 => (hG1.bytes (.head _) hb ⟨.inl (hoff r hrm), trivial⟩).at' (getD_get b i (by omega)))) rfl <| t1 (xorB _ _ rfl rfl) rfl <| t1 (y_idxo i i Try.underlying22 ti5 rfl rfl rfl (by omega) (by omega)) rfl <| ?_
      refine at_snil ?_
      refine at_op rfl (n_store1c 0 ti5 rfl rfl rfl rfl (by simp [hfit]; omega) hset ?_)
      refine at_nil ?_
      refine x_bn ?_
      refine x_tn ?_
      refine at_region ?_
      refine s1 (addN i 1 rfl rfl rfl rfl (by omega)) rfl <| s1 (y_p rfl) rfl <| ?_
      refine at_nil ?_
      exact at_end (i + 1) (by omega) (by omega) ⟨rfl, rfl, rfl, rfl, rfl, rfl, rfl, rfl, trivial⟩ (fun _ h => h)
    · have hi : i = (foldTo l ls j).length := by have := of_decide_eq_false hc16; omega
      rw [hi, xorTo_all (by omega : (foldTo l ls j).length ≤ b.length)]
      refine at_exit ?_
      refine x_te ?_
      refine x_te ?_
      refine x_be ?_
      refine x_bn ?_
      refine x_tn ?_
      refine at_region ?_
      refine s1 (addN j 1 rfl rfl rfl rfl (by omega)) rfl <| s1 (y_p rfl) rfl <| ?_
      refine at_nil ?_
      exact at_end (j + 1) (by omega) (by omega) ⟨rfl, rfl, rfl, rfl, rfl, trivial⟩ (fun _ h => by rw [foldTo_succ l ls j hj, hbe]; exact h)
  · have hj : j = ls.length := by have := of_decide_eq_false hc10; omega
    subst hj
    refine at_exit ?_
    refine x_te ?_
    refine x_te ?_
    refine x_be ?_
    refine at_result' (rs := []) rfl r_nil fun w1 hG1 => ⟨rfl, by rw [← foldTo_all]; exact hG1.block 0 rfl, hG1.mod (.head _)⟩

theorem join_e1 (w : World) (a b : SV) (la lb : List UInt8) (ha : Bytes w a la) (h : la.length ≠ 16) : Fn Try.prog 17 #[a.v, b.v] w (fun v w' => P2 w w' v (join la lb)) := by
  refine enter Try.func17 rfl Try.ntmps17 (by kernel_rfl) rfl ?_
  refine at_seq ?_
  refine at_region ?_
  refine s1 (y_p rfl) rfl <| s1 (y_p rfl) rfl <| ?_
  refine at_nil ?_
  refine x_tn ?_
  refine at_seq ?_
  refine at_seq ?_
  refine at_region ?_
  have hla := ha.1
  refine s1 (y_p rfl) rfl <| s1 (y_len Try.underlying22 rfl rfl) rfl <| s1 ((y_p rfl).v (v' := .bool true) (congrArg Value.bool (bne_iff_ne.2 (by omega)))) rfl <| s1 (y_p rfl) rfl <| g0 rfl rfl rfl rfl <| g0 rfl rfl rfl rfl <| g0 rfl rfl rfl rfl <| s1 (y_p rfl) rfl <| ?_
  refine at_nil ?_
  refine x_tn ?_
  refine at_then rfl ?_
  refine at_seq ?_
  refine at_region ?_
  refine s1 (y_p rfl) rfl <| s1 (y_p rfl) rfl <| ?_
  refine at_nil ?_
  refine x_tn ?_
  refine at_ret ?_
  refine x_tr ?_
  refine at_result (rs := [.tmp 4, .tmp 5]) rfl (r_tmp rfl (r_tmp rfl (r_nil))) fun w1 hG1 => ?_
  rw [join, if_neg (by omega)]; exact P2.nil w w1 360 (hG1.below (.head _) (by simp))

theorem join_e2 (w : World) (a b : SV) (la lb : List UInt8) (ha : Bytes w a la) (hb : Bytes w b lb) (h0 : la.length = 16) (h : lb.length ≠ 16) : Fn Try.prog 17 #[a.v, b.v] w (fun v w' => P2 w w' v (join la lb)) := by
  refine enter Try.func17 rfl Try.ntmps17 (by kernel_rfl) rfl ?_
  refine at_seq ?_
  refine at_region ?_
  refine s1 (y_p rfl) rfl <| s1 (y_p rfl) rfl <| ?_
  refine at_nil ?_
  refine x_tn ?_
  refine at_seq ?_
  refine at_seq ?_
  refine at_region ?_
  have hla := ha.1
  have hlb := hb.1
  refine s1 (y_p rfl) rfl <| s1 (y_len Try.underlying22 rfl rfl) rfl <| s1 ((y_p rfl).v (v' := .bool false) (congrArg Value.bool (bne_eq_false_iff_eq.2 (by omega)))) rfl <| s1 (y_p rfl) rfl <| g1 rfl rfl (y_p rfl) rfl <| g1 rfl rfl (y_len Try.underlying22 rfl rfl) rfl <| g1 rfl rfl ((y_p rfl).v (v' := .bool true) (congrArg Value.bool (bne_iff_ne.2 (by omega)))) rfl <| s1 (y_p rfl) rfl <| ?_
  refine at_nil ?_
  refine x_tn ?_
  refine at_then rfl ?_
  refine at_seq ?_
  refine at_region ?_
  refine s1 (y_p rfl) rfl <| s1 (y_p rfl) rfl <| ?_
  refine at_nil ?_
  refine x_tn ?_
  refine at_ret ?_
  refine x_tr ?_
  refine at_result (rs := [.tmp 4, .tmp 5]) rfl (r_tmp rfl (r_tmp rfl (r_nil))) fun w1 hG1 => ?_
  rw [join, if_neg (by omega)]; exact P2.nil w w1 360 (hG1.below (.head _) (by simp))

theorem rjoin_e1 (w : World) (a b : SV) (la lb : List UInt8) (ha : Bytes w a la) (h : la.length ≠ 16) : Fn Try.prog 18 #[a.v, b.v] w (fun v w' => P2 w w' v (join la lb)) := by
  refine enter Try.func18 rfl Try.ntmps18 (by kernel_rfl) rfl ?_
  refine at_seq ?_
  refine at_region ?_
  refine s1 (y_p rfl) rfl <| s1 (y_p rfl) rfl <| ?_
  refine at_nil ?_
  refine x_tn ?_
  refine at_seq ?_
  refine at_seq ?_
  refine at_region ?_
  have hla := ha.1
  refine s1 (y_p rfl) rfl <| s1 (y_len Try.underlying22 rfl rfl) rfl <| s1 ((y_p rfl).v (v' := .bool true) (congrArg Value.bool (bne_iff_ne.2 (by omega)))) rfl <| s1 (y_p rfl) rfl <| g0 rfl rfl rfl rfl <| g0 rfl rfl rfl rfl <| g0 rfl rfl rfl rfl <| s1 (y_p rfl) rfl <| ?_
  refine at_nil ?_
  refine x_tn ?_
  refine at_then rfl ?_
  refine at_seq ?_
  refine at_region ?_
  refine s1 (y_p rfl) rfl <| s1 (y_p rfl) rfl <| ?_
  refine at_nil ?_
  refine x_tn ?_
  refine at_ret ?_
  refine x_tr ?_
  refine at_result (rs := [.tmp 4, .tmp 5]) rfl (r_tmp rfl (r_tmp rfl (r_nil))) fun w1 hG1 => ?_
  rw [join, if_neg (by omega)]; exact P2.nil w w1 360 (hG1.below (.head _) (by simp))

theorem rjoin_e2 (w : World) (a b : SV) (la lb : List UInt8) (ha : Bytes w a la) (hb : Bytes w b lb) (h0 : la.length = 16) (h : lb.length ≠ 16) : Fn Try.prog 18 #[a.v, b.v] w (fun v w' => P2 w w' v (join la lb)) := by
  refine enter Try.func18 rfl Try.ntmps18 (by kernel_rfl) rfl ?_
  refine at_seq ?_
  refine at_region ?_
  refine s1 (y_p rfl) rfl <| s1 (y_p rfl) rfl <| ?_
  refine at_nil ?_
  refine x_tn ?_
  refine at_seq ?_
  refine at_seq ?_
  refine at_region ?_
  have hla := ha.1
  have hlb := hb.1
  refine s1 (y_p rfl) rfl <| s1 (y_len Try.underlying22 rfl rfl) rfl <| s1 ((y_p rfl).v (v' := .bool false) (congrArg Value.bool (bne_eq_false_iff_eq.2 (by omega)))) rfl <| s1 (y_p rfl) rfl <| g1 rfl rfl (y_p rfl) rfl <| g1 rfl rfl (y_len Try.underlying22 rfl rfl) rfl <| g1 rfl rfl ((y_p rfl).v (v' := .bool true) (congrArg Value.bool (bne_iff_ne.2 (by omega)))) rfl <| s1 (y_p rfl) rfl <| ?_
  refine at_nil ?_
  refine x_tn ?_
  refine at_then rfl ?_
  refine at_seq ?_
  refine at_region ?_
  refine s1 (y_p rfl) rfl <| s1 (y_p rfl) rfl <| ?_
  refine at_nil ?_
  refine x_tn ?_
  refine at_ret ?_
  refine x_tr ?_
  refine at_result (rs := [.tmp 4, .tmp 5]) rfl (r_tmp rfl (r_tmp rfl (r_nil))) fun w1 hG1 => ?_
  rw [join, if_neg (by omega)]; exact P2.nil w w1 360 (hG1.below (.head _) (by simp))

theorem join_e3 (w : World) (a b : SV) (la lb : List UInt8) (ha : Bytes w a la) (hb : Bytes w b lb) (h0 : la.length = 16) (h : lb.length = 16) : Fn Try.prog 17 #[a.v, b.v] w (fun v w' => P2 w w' v (join la lb)) := by
  refine enter Try.func17 rfl Try.ntmps17 (by kernel_rfl) rfl ?_
  refine at_seq ?_
  refine at_region ?_
  refine s1 (y_p rfl) rfl <| s1 (y_p rfl) rfl <| ?_
  refine at_nil ?_
  refine x_tn ?_
  refine at_seq ?_
  refine at_seq ?_
  refine at_region ?_
  have hla := ha.1
  have hlb := hb.1
  refine s1 (y_p rfl) rfl <| s1 (y_len Try.underlying22 rfl rfl) rfl <| s1 ((y_p rfl).v (v' := .bool false) (congrArg Value.bool (bne_eq_false_iff_eq.2 (by omega)))) rfl <| s1 (y_p rfl) rfl <| g1 rfl rfl (y_p rfl) rfl <| g1 rfl rfl (y_len Try.underlying22 rfl rfl) rfl <| g1 rfl rfl ((y_p rfl).v (v' := .bool false) (congrArg Value.bool (bne_eq_false_iff_eq.2 (by omega)))) rfl <| s1 (y_p rfl) rfl <| ?_
  refine at_nil ?_
  refine x_tn ?_
  refine at_else rfl ?_
  refine at_skip ?_
  refine x_tn ?_
  refine at_seq ?_
  refine at_region ?_
  refine at_op rfl (n_make 16 16 Try.underlying22 ti5 rfl rfl rfl rfl (by omega) (by omega) (by omega) rfl fun b14 hS14 hH14 => ?_)
  simp only [leAll, ltAll, and_true] at hS14 hH14
  refine s1 (y_p rfl) rfl <| ?_
  refine at_nil ?_
  refine x_tn ?_
  refine at_seq ?_
  refine at_region ?_
  refine s1 (y_p rfl) rfl <| s1 (y_p rfl) rfl <| s1 (y_p rfl) rfl <| ?_
  refine at_op rfl (n_bs1 [a.v, b.v] Try.underlying30 ti22 rfl rfl rfl rfl rfl rfl fun b18 hS18 hH18 => ?_)
  simp only [leAll, ltAll, and_true] at hS18 hH18
  refine at_op rfl (n_call rfl rfl fun w19 hG19 => Fn.mono (add_ok w19 b14 16 16 zero16 [] ⟨some ⟨b18, 0, none⟩, 2, 2⟩ [a, b] [la, lb] (hG19.block 1 rfl) rfl ⟨rfl, rfl, Sl.own (s := 1) (hG19.block 0 rfl) (Nat.le_refl _) (Nat.le_of_ble_eq_true rfl) (by simp), fun i r l hr hl => ?_⟩ ?_ ?_ ?_ (by decide)) ?_)
  rotate_left 4
  rintro _ w20 ⟨rfl, hg, hM⟩
  refine at_in (hG19.upd 1 rfl hM hg) ?_
  refine at_nil ?_
  refine x_tn ?_
  refine at_seq ?_
  refine at_region ?_
  refine s1 (y_p rfl) rfl <| s1 (y_p rfl) rfl <| s1 (y_p rfl) rfl <| ?_
  refine at_nil ?_
  refine x_tn ?_
  refine at_ret ?_
  refine at_result (rs := [.tmp 4, .tmp 5]) rfl (r_tmp rfl (r_tmp rfl r_nil)) fun w1 hG1 => ?_
  rw [join, if_pos ⟨h0, h⟩]
  refine ⟨⟨some ⟨b14, 0, none⟩, 16, 16⟩, rfl, ?_, fun _ => hS14, hG1.below (.head _) (by simp; omega)⟩
  have hx : (xorL la lb).length = 16 := by rw [len_xorL (by omega)]; exact h0
  have := Bytes.own (l := xorL la lb) (cap := 16) (rest := []) (by rw [← xor_zero la lb h0]; exact hG1.block 1 rfl) (by omega) (by decide)
  rw [hx] at this; exact this
  · have hA := hG19.bytes (.head _) ha ⟨.inr (by omega), .inr (by omega), trivial⟩
    have hB := hG19.bytes (.head _) hb ⟨.inr (by omega), .inr (by omega), trivial⟩
    match i, hr, hl with
    | 0, hr, hl => simp only [List.getElem?_cons_zero, Option.some.injEq] at hr hl; subst hr; subst hl; exact ⟨hA, fun _ => Nat.zero_le _⟩
    | 1, hr, hl => simp only [List.getElem?_cons_succ, List.getElem?_cons_zero, Option.some.injEq] at hr hl; subst hr; subst hl; exact ⟨hB, fun _ => Nat.zero_le _⟩
  · simp only [ab]; omega
  · have h1 := ha.2.lt (by intro e; simp only [List.map_eq_nil_iff] at e; rw [e] at h0; simp at h0)
    have h2 := hb.2.lt (by intro e; simp only [List.map_eq_nil_iff] at e; rw [e] at h; simp at h)
    simp; omega
  · simp [zero16]; omega

theorem rjoin_e3 (w : World) (a b : SV) (la lb : List UInt8) (ha : Bytes w a la) (hb : Bytes w b lb) (h0 : la.length = 16) (h : lb.length = 16) : Fn Try.prog 18 #[a.v, b.v] w (fun v w' => P2 w w' v (join la lb)) := by
  refine enter Try.func18 rfl Try.ntmps18 (by kernel_rfl) rfl ?_
  refine at_seq ?_
  refine at_region ?_
  refine s1 (y_p rfl) rfl <| s1 (y_p rfl) rfl <| ?_
  refine at_nil ?_
  refine x_tn ?_
  refine at_seq ?_
  refine at_seq ?_
  refine at_region ?_
  have hla := ha.1
  have hlb := hb.1
  refine s1 (y_p rfl) rfl <| s1 (y_len Try.underlying22 rfl rfl) rfl <| s1 ((y_p rfl).v (v' := .bool false) (congrArg Value.bool (bne_eq_false_iff_eq.2 (by omega)))) rfl <| s1 (y_p rfl) rfl <| g1 rfl rfl (y_p rfl) rfl <| g1 rfl rfl (y_len Try.underlying22 rfl rfl) rfl <| g1 rfl rfl ((y_p rfl).v (v' := .bool false) (congrArg Value.bool (bne_eq_false_iff_eq.2 (by omega)))) rfl <| s1 (y_p rfl) rfl <| ?_
  refine at_nil ?_
  refine x_tn ?_
  refine at_else rfl ?_
  refine at_skip ?_
  refine x_tn ?_
  refine at_seq ?_
  refine at_region ?_
  refine at_op rfl (n_make 16 16 Try.underlying22 ti5 rfl rfl rfl rfl (by omega) (by omega) (by omega) rfl fun b16 hS16 hH16 => ?_)
  simp only [leAll, ltAll, and_true] at hS16 hH16
  refine s1 (y_p rfl) rfl <| ?_
  refine at_nil ?_
  refine x_tn ?_
  refine at_seq ?_
  refine at_seq ?_
  refine at_region ?_
  refine s1 (y_p rfl) rfl <| ?_
  refine at_nil ?_
  refine x_tn ?_
  refine at_block ?_
  refine at_loop (ι := Nat) (fun i => [(0, a.v), (1, b.v), (6, .slice (some ⟨b16, 0, none⟩) 16 16), (7, .int .i64 (i : Int))]) (fun i => [w]) (fun i => [(b16, row 5 ((xorTo2 la lb i).map B))]) (fun i => i ≤ 16) (fun i => 16 - i) ?_ ?_
  · exact at_ex 0 (Nat.zero_le _) ⟨rfl, rfl, rfl, rfl, trivial⟩ (fun _ h => h)
  intro i hi0
  refine at_seq ?_
  refine at_seq ?_
  refine at_region ?_
  refine s1 (y_p rfl) rfl <| s1 (y_p rfl) rfl <| ?_
  refine at_nil ?_
  refine x_tn ?_
  refine at_cond rfl (fun hc18 => ?_) (fun hc18 => ?_)
  · have hi : i < 16 := by have := of_decide_eq_true hc18; omega
    have hset : ((xorTo2 la lb i).map B).set i (B (la.getD i 0 ^^^ lb.getD i 0)) = (xorTo2 la lb (i + 1)).map B := by rw [← List.map_set, xorTo2_succ h0 h hi]
    refine at_skip ?_
    refine x_tn ?_
    refine at_seq ?_
    refine at_block ?_
    refine at_draw_tail 12 hmix (by kernel_rfl) ?_
    refine t1 (y_p rfl) rfl <| t1 (y_p rfl) rfl <| t1 (y_p rfl) rfl <| t1 (y_p rfl) rfl <| t1 (y_idx1 i Try.underlying22 ti5 rfl rfl rfl (by omega) (ha.2.addr (by omega))) rfl <| t1 (y_load ti5 rfl (fun w1 hG1 => (hG1.bytes (.head _) ha ⟨.inr (by omega), trivial⟩).at' (getD_get la i (by omega)))) rfl <| t1 (y_p rfl) rfl <| t1 (y_p rfl) rfl <| t1 (y_idx1 i Try.underlying22 ti5 rfl rfl rfl (by omega) (hb.2.addr (by omega))) rfl <| t1 (y_load ti5 rfl (fun w1 hG1 => (hG1.bytes (.head _) hb ⟨.inr (by omega), trivial⟩).at' (getD_get lb i (by omega)))) rfl <| t1 (xorB _ _ rfl rfl) rfl <| t1 (y_idxo i i Try.underlying22 ti5 rfl rfl rfl (by omega) (by omega)) rfl <| ?_
    refine at_snil ?_
    refine at_op rfl (n_store1c 0 ti5 rfl rfl rfl rfl (by simp [len_xorTo2 h0 h i hi0]; omega) hset ?_)
    refine at_nil ?_
    refine x_bn ?_
    refine x_tn ?_
    refine at_region ?_
    refine s1 (y_p rfl) rfl <| s1 (addN i 1 rfl rfl rfl rfl (by omega)) rfl <| s1 (y_p rfl) rfl <| ?_
    refine at_nil ?_
    exact at_end (i + 1) (by omega) (by omega) ⟨rfl, rfl, rfl, rfl, trivial⟩ (fun _ h => h)
  · have hi : i = 16 := by have := of_decide_eq_false hc18; omega
    subst hi
    refine at_exit ?_
    refine x_te ?_
    refine x_te ?_
    refine x_be ?_
    refine x_tn ?_
    refine at_seq ?_
    refine at_region ?_
    refine s1 (y_p rfl) rfl <| s1 (y_p rfl) rfl <| s1 (y_p rfl) rfl <| ?_
    refine at_nil ?_
    refine x_tn ?_
    refine at_ret ?_
    refine at_result (rs := [.tmp 4, .tmp 5]) rfl (r_tmp rfl (r_tmp rfl r_nil)) fun w1 hG1 => ?_
    rw [join, if_pos ⟨h0, h⟩]
    refine ⟨⟨some ⟨b16, 0, none⟩, 16, 16⟩, rfl, ?_, fun _ => hS16, hG1.below (.head _) (by simp; omega)⟩
    have hx : (xorL la lb).length = 16 := by rw [len_xorL (by omega)]; exact h0
    have := Bytes.own (l := xorL la lb) (cap := 16) (rest := []) (by rw [← xorTo2_all h0 h, List.append_nil]; exact hG1.block 0 rfl) (by omega) (by decide)
    rw [hx] at this; exact this

theorem join_ok (w : World) (a b : SV) (la lb : List UInt8) (ha : Bytes w a la) (hb : Bytes w b lb) : Fn Try.prog 17 #[a.v, b.v] w (fun v w' => P2 w w' v (join la lb)) := by
  by_cases h0 : la.length = 16
  · by_cases h : lb.length = 16
    · exact join_e3 w a b la lb ha hb h0 h
    · exact join_e2 w a b la lb ha hb h0 h
  · exact join_e1 w a b la lb ha h0

theorem rjoin_ok (w : World) (a b : SV) (la lb : List UInt8) (ha : Bytes w a la) (hb : Bytes w b lb) : Fn Try.prog 18 #[a.v, b.v] w (fun v w' => P2 w w' v (join la lb)) := by
  by_cases h0 : la.length = 16
  · by_cases h : lb.length = 16
    · exact rjoin_e3 w a b la lb ha hb h0 h
    · exact rjoin_e2 w a b la lb ha hb h0 h
  · exact rjoin_e1 w a b la lb ha h0

end Go.Eng.R36
