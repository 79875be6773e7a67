/-
  Layer 36: walks of the retrieval functions. Conditions: each theorem says its own.
-/
import Derived.Test.YtjnbpinnjbdnpaaR36H
namespace Go.Eng.R36
open Go Go.Eng Go.Proofs

theorem block_ok (w : World) (x : UInt8) : Fn Try.prog 23 #[B x] w (fun v w' => FreshB 5 w w' v (blk x) ∧ RowKit.Below w.heap.size w w') := by
  refine enter Try.func23 rfl Try.ntmps23 (by kernel_rfl) rfl ?_
  refine at_seq ?_
  refine at_region ?_
  refine s1 (y_p rfl) rfl <| ?_
  refine at_nil ?_
  refine x_tn ?_
  refine at_seq ?_
  refine at_region ?_
  refine s1 (y_p rfl) rfl <| ?_
  refine at_op rfl (n_bs1 [_] Try.underlying22 ti5 rfl rfl rfl rfl rfl rfl fun b4 hS4 hH4 => ?_)
  simp only [leAll, ltAll, and_true] at hS4 hH4
  refine at_op rfl (n_appz 0 15 Try.underlying22 Try.underlying3 ti5 rfl rfl rfl rfl rfl (by omega) (by omega) (by simp [maxLen]) rfl fun g cap rest hS hH hl hc => ?_)
  simp only [leAll, ltAll, and_true] at hS hH
  refine s1 (y_p rfl) rfl <| ?_
  refine at_nil ?_
  refine x_tn ?_
  refine at_ret ?_
  refine at_result (rs := [.tmp 2]) rfl (r_tmp rfl (r_nil)) fun w1 hG1 => ⟨⟨g, cap, rest, rfl, hS, hG1.block 0 rfl, by simp [blk]; omega, hc⟩, hG1.below (.head _) (by simp; omega)⟩

theorem sane_ok (w : World) : Fn Try.prog 9 #[] w (fun v w' => v = .bool true ∧ RowKit.Below w.heap.size w w') := by
  refine enter Try.func9 rfl Try.ntmps9 (by kernel_rfl) rfl ?_
  refine at_seq ?_
  refine at_region ?_
  refine s1 (y_p rfl) rfl <| ?_
  refine at_nil ?_
  refine x_tn ?_
  refine at_seq ?_
  refine at_region ?_
  refine at_op rfl (n_call rfl rfl fun w30 hG30 => Fn.mono (masks_ok w30 0 0 ⟨none, 0, 0⟩ [] (Bytes.nilv _)) ?_)
  rintro v30 w30' h
  rw [sane1] at h
  obtain ⟨z1, z2, rfl, _, _, _, _, hB⟩ := h
  refine at_in (hG30.ext hB) ?_
  refine s1 (y_p rfl) rfl <| s1 (y_p rfl) rfl <| s1 (y_p rfl) rfl <| s1 (y_p rfl) rfl <| s1 (y_p rfl) rfl <| s1 (y_p rfl) rfl <| s1 (y_p rfl) rfl <| ?_
  refine at_nil ?_
  refine x_tn ?_
  refine at_seq ?_
  refine at_region ?_
  refine at_op rfl (n_bs1 [_] Try.underlying22 ti5 rfl rfl rfl rfl rfl rfl fun b35 hS35 hH35 => ?_)
  simp only [leAll, ltAll, and_true] at hS35 hH35
  refine at_op rfl (n_call rfl rfl fun w36 hG36 => Fn.mono (masks_ok w36 9 0 ⟨some ⟨b35, 0, none⟩, 1, 1⟩ [1] (Bytes.own (l := [1]) (rest := []) (hG36.block 0 rfl) (Nat.le_refl _) (by simp [maxLen]))) ?_)
  rintro v36 w36' h
  rw [sane2] at h
  obtain ⟨z3, z4, rfl, _, _, _, _, hB⟩ := h
  refine at_in ((hG36.ext hB).drop1 (S' := [w]) (by simp [hS35])) ?_
  refine s1 (y_p rfl) rfl <| s1 (y_p rfl) rfl <| s1 (y_p rfl) rfl <| s1 (y_p rfl) rfl <| s1 (y_p rfl) rfl <| s1 (y_p rfl) rfl <| s1 (y_p rfl) rfl <| ?_
  refine at_nil ?_
  refine x_tn ?_
  refine at_seq ?_
  refine at_region ?_
  refine at_op rfl (n_bs1 [_] Try.underlying22 ti5 rfl rfl rfl rfl rfl rfl fun b41 hS41 hH41 => ?_)
  simp only [leAll, ltAll, and_true] at hS41 hH41
  refine at_op rfl (n_call rfl rfl fun w42 hG42 => Fn.mono (masks_ok w42 1 0 ⟨some ⟨b41, 0, none⟩, 1, 1⟩ [255] (Bytes.own (l := [255]) (rest := []) (hG42.block 0 rfl) (Nat.le_refl _) (by simp [maxLen]))) ?_)
  rintro v42 w42' h
  rw [sane3] at h
  obtain ⟨sa, sb, rfl, ha, _, hb, _, hB⟩ := h
  refine at_in ((hG42.ext hB).drop1 (S' := [w]) (by simp [hS41])).now ?_
  refine s1 (y_p rfl) rfl <| s1 (y_p rfl) rfl <| s1 (y_p rfl) rfl <| s1 (y_p rfl) rfl <| s1 (y_p rfl) rfl <| s1 (y_p rfl) rfl <| s1 (y_p rfl) rfl <| ?_
  refine at_nil ?_
  refine x_tn ?_
  refine at_seq ?_
  refine at_region ?_
  refine at_op rfl (n_bs1 [_] Try.underlying22 ti5 rfl rfl rfl rfl rfl rfl fun b47 hS47 hH47 => ?_)
  simp only [leAll, ltAll, and_true] at hS47 hH47
  refine at_op rfl (n_call rfl rfl fun w48 hG48 => Fn.mono (masks_ok w48 8 8 ⟨some ⟨b47, 0, none⟩, 1, 1⟩ [1] (Bytes.own (l := [1]) (rest := []) (hG48.block 0 rfl) (Nat.le_refl _) (by simp [maxLen]))) ?_)
  rintro v48 w48' h
  rw [sane4] at h
  obtain ⟨z5, z6, rfl, _, _, _, _, hB⟩ := h
  refine at_in ((hG48.ext hB).drop1 (S' := [w42', w]) (by simp [hS47])) ?_
  refine s1 (y_p rfl) rfl <| s1 (y_p rfl) rfl <| s1 (y_p rfl) rfl <| s1 (y_p rfl) rfl <| s1 (y_p rfl) rfl <| s1 (y_p rfl) rfl <| s1 (y_p rfl) rfl <| ?_
  refine at_nil ?_
  refine x_tn ?_
  refine at_seq ?_
  refine at_region ?_
  refine s1 (y_build0 ti32 Try.underlying32 rfl) rfl <| ?_
  refine at_op rfl (n_call rfl rfl fun w54 hG54 => Fn.mono (answer_ok w54 ⟨none, 0, 0⟩ [] [] (Rows.nilv _ 0) ⟨none, 0, 0⟩ [] [] (Rows.nilv _ 0)) ?_)
  rintro v54 w54' h
  rw [sane5] at h
  obtain ⟨z7, z8, rfl, _, hB⟩ := h
  refine at_in (hG54.ext hB) ?_
  refine s1 (y_p rfl) rfl <| s1 (y_p rfl) rfl <| s1 (y_p rfl) rfl <| ?_
  refine at_op rfl (n_alloc ti35 rfl fun b13 hS13 hH13 => ?_)
  simp only [leAll, ltAll, and_true] at hS13 hH13
  refine at_op rfl (stw0 (us := [z7.v]) ti35 rfl rfl rfl rfl rfl rfl ?_)
  refine at_good (fun _ h => h.drop1 (S' := [w42', w]) (by simp [hS13])) ?_
  refine s1 (y_p rfl) rfl <| ?_
  refine at_nil ?_
  refine x_tn ?_
  refine at_seq ?_
  refine at_region ?_
  refine at_op rfl (n_call rfl rfl fun w57 hG57 => Fn.mono (block_ok w57 3) ?_)
  rintro v57 w57' ⟨hF, hB57⟩
  obtain ⟨s57, rfl, hb57, _⟩ := hF.bytes
  refine at_in (hG57.call hB57) ?_
  refine at_op rfl (n_call rfl rfl fun w58 hG58 => Fn.mono (block_ok w58 5) ?_)
  rintro v58 w58' ⟨hF, hB58⟩
  obtain ⟨s58, rfl, hb58, _⟩ := hF.bytes
  refine at_in (hG58.call hB58) ?_
  refine at_op rfl (n_call rfl rfl fun w59 hG59 => Fn.mono (block_ok w59 16) ?_)
  rintro v59 w59' ⟨hF, hB59⟩
  obtain ⟨s59, rfl, hb59, _⟩ := hF.bytes
  refine at_in (hG59.call hB59) ?_
  refine at_op rfl (n_bs1 [_, _, _] Try.underlying30 ti22 rfl rfl rfl rfl rfl rfl fun b60 hS60 hH60 => ?_)
  simp only [leAll, ltAll, and_true] at hS60 hH60
  refine at_open fun u6 hGx a hR => ?_
  have hdb : Rows u6 0 ⟨some ⟨b60, 0, none⟩, 3, 3⟩ [s57, s58, s59] [blk 3, blk 5, blk 16] := (((RowF.nil _).snoc (hGx.bytesY (by simp) hb57 (by simp; omega))).snoc (hGx.bytesY (by simp) hb58 (by simp; omega))).snoc (hGx.bytesY (by simp) hb59 (by simp; omega)) |>.rows rfl (hGx.lit 0 rfl (by simp [maxLen]))
  refine at_in (Good.now (Good.clear (S' := [w42', w]) hGx (by simp; omega))) ?_ a hR
  refine s1 (y_p rfl) rfl <| ?_
  refine at_nil ?_
  refine x_tn ?_
  refine at_seq ?_
  refine at_region ?_
  refine at_op rfl (n_bs1 [_] Try.underlying41 ti3 rfl rfl rfl rfl rfl rfl fun b62 hS62 hH62 => ?_)
  simp only [leAll, ltAll, and_true] at hS62 hH62
  refine at_op rfl (n_bs1 [_] Try.underlying22 ti5 rfl rfl rfl rfl rfl rfl fun b63 hS63 hH63 => ?_)
  simp only [leAll, ltAll, and_true] at hS63 hH63
  refine at_op rfl (n_bs1 [_] Try.underlying22 ti5 rfl rfl rfl rfl rfl rfl fun b64 hS64 hH64 => ?_)
  simp only [leAll, ltAll, and_true] at hS64 hH64
  refine at_op rfl (n_bs1 [_, _] Try.underlying30 ti22 rfl rfl rfl rfl rfl rfl fun b65 hS65 hH65 => ?_)
  simp only [leAll, ltAll, and_true] at hS65 hH65
  refine at_op rfl (n_call rfl rfl fun w66 hG66 => Fn.mono (ask_ok w66 3 ⟨some ⟨b62, 0, none⟩, 1, 1⟩ [1] 2 ⟨some ⟨b65, 0, none⟩, 2, 2⟩ [⟨some ⟨b63, 0, none⟩, 1, 1⟩, ⟨some ⟨b64, 0, none⟩, 1, 1⟩] [[5], [250]] ⟨rfl, hG66.lit1 3 rfl⟩ ((((RowF.nil _).snoc (Bytes.own (l := [5]) (rest := []) (hG66.block 2 rfl) (Nat.le_refl _) (by simp [maxLen]))).snoc (Bytes.own (l := [250]) (rest := []) (hG66.block 1 rfl) (Nat.le_refl _) (by simp [maxLen]))).rows rfl (hG66.lit 0 rfl (by simp [maxLen])))) ?_)
  rintro v66 w66' h
  rw [sane6] at h
  obtain ⟨sp, sq, rp, rq, rfl, hp, hq, hB⟩ := h
  refine at_in (Good.now (Good.clear (S' := [u6, w42', w]) (hG66.ext hB) (by simp; omega))) ?_
  refine s1 (y_p rfl) rfl <| s1 (y_p rfl) rfl <| s1 (y_p rfl) rfl <| s1 (y_p rfl) rfl <| ?_
  refine at_op rfl (n_alloc ti32 rfl fun b16 hS16 hH16 => ?_)
  simp only [leAll, ltAll, and_true] at hS16 hH16
  refine at_op rfl (n_alloc ti32 rfl fun b17 hS17 hH17 => ?_)
  simp only [leAll, ltAll, and_true] at hS17 hH17
  refine at_op rfl (stw1 (us := [sp.v]) ti32 rfl rfl rfl rfl rfl rfl ?_)
  refine at_op rfl (stw0 (us := [sq.v]) ti32 rfl rfl rfl rfl rfl rfl ?_)
  refine at_open fun u7 hGx a hR => ?_
  have c16 := cell_row (hGx.block 1 rfl) (j := 0) rfl
  have c17 := cell_row (hGx.block 0 rfl) (j := 0) rfl
  refine at_in (Good.now (Good.clear (S' := [w66', u6, w42', w]) hGx (by simp; omega))) ?_ a hR
  refine s1 (y_p rfl) rfl <| ?_
  refine at_nil ?_
  refine x_tn ?_
  refine at_seq ?_
  refine at_region ?_
  refine s1 (y_p rfl) rfl <| s1 (y_loadagg (us := [sp.v]) ti32 rfl rfl (fun w1 hG1 j v hj => by rcases j with _ | j; (simp only [List.getElem?_cons_zero, Option.some.injEq] at hj; subst hj; exact hG1.cell' (by simp) c16 trivial); simp at hj)) rfl <| ?_
  refine at_op rfl (n_call rfl rfl fun w73 hG73 => Fn.mono (answer_ok w73 ⟨some ⟨b60, 0, none⟩, 3, 3⟩ _ [blk 3, blk 5, blk 16] (hG73.rows (by simp) hdb (by simp)) sp rp [[5], [2]] (hG73.rows (by simp) hp (by simp))) ?_)
  rintro v73 w73' h
  rw [sane7] at h
  obtain ⟨sr, rr, rfl, hr, hB⟩ := h
  refine at_in (hG73.call hB) ?_
  refine s1 (y_p rfl) rfl <| s1 (y_p rfl) rfl <| s1 (y_p rfl) rfl <| ?_
  refine at_op rfl (n_alloc ti35 rfl fun b19 hS19 hH19 => ?_)
  simp only [leAll, ltAll, and_true] at hS19 hH19
  refine at_op rfl (stw0 (us := [sr.v]) ti35 rfl rfl rfl rfl rfl rfl ?_)
  refine at_open fun u8 hGx a hR => ?_
  have c19 := cell_row (hGx.block 0 rfl) (j := 0) rfl
  refine at_in (Good.now (Good.clear (S' := [w73', u7, w66', u6, w42', w]) hGx (by simp; omega))) ?_ a hR
  refine s1 (y_p rfl) rfl <| ?_
  refine at_nil ?_
  refine x_tn ?_
  refine at_seq ?_
  refine at_region ?_
  refine s1 (y_p rfl) rfl <| s1 (y_loadagg (us := [sq.v]) ti32 rfl rfl (fun w1 hG1 j v hj => by rcases j with _ | j; (simp only [List.getElem?_cons_zero, Option.some.injEq] at hj; subst hj; exact hG1.cell' (by simp) c17 trivial); simp at hj)) rfl <| ?_
  refine at_op rfl (n_call rfl rfl fun w79 hG79 => Fn.mono (answer_ok w79 ⟨some ⟨b60, 0, none⟩, 3, 3⟩ _ [blk 3, blk 5, blk 16] (hG79.rows (by simp) hdb (by simp)) sq rq [[7], [3]] (hG79.rows (by simp) hq (by simp))) ?_)
  rintro v79 w79' h
  rw [sane8] at h
  obtain ⟨ss, rs, rfl, hs, hB⟩ := h
  refine at_in (hG79.call hB) ?_
  refine s1 (y_p rfl) rfl <| s1 (y_p rfl) rfl <| s1 (y_p rfl) rfl <| ?_
  refine at_op rfl (n_alloc ti35 rfl fun b21 hS21 hH21 => ?_)
  simp only [leAll, ltAll, and_true] at hS21 hH21
  refine at_op rfl (stw0 (us := [ss.v]) ti35 rfl rfl rfl rfl rfl rfl ?_)
  refine at_open fun u9 hGx a hR => ?_
  have c21 := cell_row (hGx.block 0 rfl) (j := 0) rfl
  refine at_in (Good.now (Good.clear (S' := [w79', u8, w73', u7, w66', u6, w42', w]) hGx (by simp; omega))) ?_ a hR
  refine s1 (y_p rfl) rfl <| ?_
  refine at_nil ?_
  refine x_tn ?_
  refine at_seq ?_
  refine at_region ?_
  refine at_op rfl (n_bs1 [_] Try.underlying22 ti5 rfl rfl rfl rfl rfl rfl fun b83 hS83 hH83 => ?_)
  simp only [leAll, ltAll, and_true] at hS83 hH83
  refine at_op rfl (n_call rfl rfl fun w84 hG84 => Fn.mono (twin_ok w84 3 0 2 ⟨some ⟨b83, 0, none⟩, 1, 1⟩ [6] (Bytes.own (l := [6]) (rest := []) (hG84.block 0 rfl) (Nat.le_refl _) (by simp [maxLen]))) ?_)
  rintro v84 w84' h
  rw [sane9] at h
  obtain ⟨sx, rfl, hx, _, hB⟩ := h
  refine at_in (Good.now (Good.clear (S' := [u9, w79', u8, w73', u7, w66', u6, w42', w]) (hG84.ext hB) (by simp; omega))) ?_
  refine s1 (y_p rfl) rfl <| s1 (y_p rfl) rfl <| s1 (y_p rfl) rfl <| s1 (y_p rfl) rfl <| s1 (y_p rfl) rfl <| ?_
  refine at_nil ?_
  refine x_tn ?_
  refine at_seq ?_
  refine at_region ?_
  refine s1 (y_p rfl) rfl <| ?_
  refine at_op rfl (n_bs1 [_] Try.underlying22 ti5 rfl rfl rfl rfl rfl rfl fun b89 hS89 hH89 => ?_)
  simp only [leAll, ltAll, and_true] at hS89 hH89
  refine at_op rfl (n_bs1 [_] Try.underlying30 ti22 rfl rfl rfl rfl rfl rfl fun b90 hS90 hH90 => ?_)
  simp only [leAll, ltAll, and_true] at hS90 hH90
  refine s1 (y_build (ps := [(0, 1)]) [.slice (some ⟨b90, 0, none⟩) 1 1] ti32 Try.underlying32 (by kernel_rfl) rfl rfl) rfl <| ?_
  refine at_op rfl (n_call rfl rfl fun w92 hG92 => Fn.mono (answer_ok w92 ⟨some ⟨b60, 0, none⟩, 3, 3⟩ _ [blk 3, blk 5, blk 16] (hG92.rows (by simp) hdb (by simp; omega)) ⟨some ⟨b90, 0, none⟩, 1, 1⟩ [⟨some ⟨b89, 0, none⟩, 1, 1⟩] [[8]] (((RowF.nil _).snoc (Bytes.own (l := [8]) (rest := []) (hG92.block 1 rfl) (Nat.le_refl _) (by simp [maxLen]))).rows rfl (hG92.lit1 0 rfl))) ?_)
  rintro v92 w92' h
  rw [sane10] at h
  obtain ⟨sz, rz, rfl, _, hB⟩ := h
  refine at_in (Good.clear (S' := [w84', u9, w79', u8, w73', u7, w66', u6, w42', w]) (hG92.ext hB) (by simp; omega)) ?_
  refine s1 (y_p rfl) rfl <| s1 (y_p rfl) rfl <| s1 (y_p rfl) rfl <| ?_
  refine at_op rfl (n_alloc ti35 rfl fun b25 hS25 hH25 => ?_)
  simp only [leAll, ltAll, and_true] at hS25 hH25
  refine at_op rfl (stw0 (us := [sz.v]) ti35 rfl rfl rfl rfl rfl rfl ?_)
  refine at_good (fun _ h => h.drop1 (S' := [w84', u9, w79', u8, w73', u7, w66', u6, w42', w]) (by simp [hS25])) ?_
  refine s1 (y_p rfl) rfl <| ?_
  refine at_nil ?_
  refine x_tn ?_
  refine at_seq ?_
  refine at_seq ?_
  refine at_region ?_
  have hrn := hr.n
  have hrl := hr.len
  have hsn := hs.n
  have hsl := hs.len
  simp only [List.length_cons, List.length_nil] at hrl hsl
  refine s1 (y_p rfl) rfl <| s1 ((y_p rfl).v (v' := .bool false) (rfl)) rfl <| s1 (y_p rfl) rfl <| g1 rfl rfl (y_p rfl) rfl <| g1 rfl rfl ((y_p rfl).v (v' := .bool false) (rfl)) rfl <| s1 (y_p rfl) rfl <| s1 (y_p rfl) rfl <| g1 rfl rfl (y_p rfl) rfl <| g1 rfl rfl ((y_p rfl).v (v' := .bool false) (rfl)) rfl <| s1 (y_p rfl) rfl <| s1 (y_p rfl) rfl <| g1 rfl rfl (y_p rfl) rfl <| ?_
  refine g1 rfl rfl ((y_p rfl).v (v' := .bool false) (rfl)) rfl <| s1 (y_p rfl) rfl <| s1 (y_p rfl) rfl <| g1 rfl rfl (y_p rfl) rfl <| g1 rfl rfl ((y_p rfl).v (v' := .bool false) (rfl)) rfl <| s1 (y_p rfl) rfl <| s1 (y_p rfl) rfl <| g1 rfl rfl (y_p rfl) rfl <| g1 rfl rfl ((y_p rfl).v (v' := .bool false) (rfl)) rfl <| s1 (y_p rfl) rfl <| s1 (y_p rfl) rfl <| g1 rfl rfl (y_p rfl) rfl <| ?_
  refine g1 rfl rfl ((y_p rfl).v (v' := .bool false) (rfl)) rfl <| s1 (y_p rfl) rfl <| s1 (y_p rfl) rfl <| g1 rfl rfl (y_p rfl) rfl <| g1 rfl rfl ((y_p rfl).v (v' := .bool false) (rfl)) rfl <| s1 (y_p rfl) rfl <| s1 (y_p rfl) rfl <| g1 rfl rfl (y_p rfl) rfl <| g1 rfl rfl ((y_p rfl).v (v' := .bool false) (rfl)) rfl <| s1 (y_p rfl) rfl <| s1 (y_p rfl) rfl <| g1 rfl rfl (y_p rfl) rfl <| ?_
  refine g1 rfl rfl ((y_p rfl).v (v' := .bool false) (rfl)) rfl <| s1 (y_p rfl) rfl <| s1 (y_p rfl) rfl <| g1 rfl rfl (y_fld Try.underlying35 rfl ti30 (by decide) rfl rfl) rfl <| g1 rfl rfl (y_load ti30 rfl (fun w1 hG1 => hG1.cell' (by simp) c19 trivial)) rfl <| g1 rfl rfl (y_len Try.underlying30 rfl rfl) rfl <| g1 rfl rfl ((y_p rfl).v (v' := .bool false) (congrArg Value.bool (bne_eq_false_iff_eq.2 (by omega)))) rfl <| s1 (y_p rfl) rfl <| s1 (y_p rfl) rfl <| g1 rfl rfl (y_fld Try.underlying35 rfl ti30 (by decide) rfl rfl) rfl <| g1 rfl rfl (y_load ti30 rfl (fun w1 hG1 => hG1.cell' (by simp) c21 trivial)) rfl <| g1 rfl rfl (y_len Try.underlying30 rfl rfl) rfl <| ?_
  refine g1 rfl rfl ((y_p rfl).v (v' := .bool false) (congrArg Value.bool (bne_eq_false_iff_eq.2 (by omega)))) rfl <| s1 (y_p rfl) rfl <| ?_
  refine at_nil ?_
  refine x_tn ?_
  refine at_else rfl ?_
  refine at_skip ?_
  refine x_tn ?_
  refine at_seq ?_
  refine at_mix 13 3 hmix (by kernel_rfl) (by kernel_rfl) ?_
  obtain ⟨y0, y0_, hy0⟩ := hr.get (i := 0) (by simp)
  have hy0 : Bytes _ y0 (blk 19) := hy0
  obtain ⟨y1, y1_, hy1⟩ := hs.get (i := 0) (by simp)
  have hy1 : Bytes _ y1 (blk 22) := hy1
  refine mq (y_fld Try.underlying35 rfl ti30 (by decide) rfl rfl) rfl rfl <| mq (y_load ti30 rfl (fun w1 hG1 => hG1.cell' (by simp) c19 trivial)) rfl rfl <| mq (y_idx1 0 Try.underlying30 ti22 rfl rfl rfl (by omega) (hr.sl.addr (by omega))) rfl rfl <| mq (y_load ti22 rfl (fun w1 hG1 => hG1.cell' (by simp) (hr.cell y0_) trivial)) rfl rfl <| mq (y_fld Try.underlying35 rfl ti30 (by decide) rfl rfl) rfl rfl <| mq (y_load ti30 rfl (fun w1 hG1 => hG1.cell' (by simp) c21 trivial)) rfl rfl <| mq (y_idx1 0 Try.underlying30 ti22 rfl rfl rfl (by omega) (hs.sl.addr (by omega))) rfl rfl <| mq (y_load ti22 rfl (fun w1 hG1 => hG1.cell' (by simp) (hs.cell y1_) trivial)) rfl rfl <| ?_
  refine mn rfl rfl (n_call rfl rfl fun w154 hG154 => Fn.mono (join_ok w154 y0 y1 (blk 19) (blk 22) (hG154.bytes (by simp) hy0 trivial) (hG154.bytes (by simp) hy1 trivial)) ?_)
  rintro v154 w154' h
  rw [sane11] at h
  obtain ⟨sy, rfl, hy, _, hB⟩ := h
  refine at_inC (hG154.call hB) (fun _ h => h.sub (by simp)) ?_
  refine mq (y_p rfl) rfl rfl <| mq (y_p rfl) rfl rfl <| mq (y_p rfl) rfl rfl <| mq (y_p rfl) rfl rfl <| ?_
  refine mnil ?_
  refine s1 (y_p rfl) rfl <| ?_
  refine at_nil ?_
  refine x_tn ?_
  refine at_seq ?_
  refine at_free [(157, isS (sa.v)), (158, isS (.string ⟨([1] : List UInt8).toArray⟩)), (159, isS (.bool true)), (160, isS (.bool true)), (161, isS (sb.v)), (162, isS (.string ⟨([0] : List UInt8).toArray⟩)), (163, isS (.bool true)), (164, isS (.bool true)), (165, isS (.bool true)), (166, isS (.pointer (some ⟨b16, 0, none⟩))), (167, isS (sp.v)), (168, bytesS [5]), (169, bytesS [2]), (170, rowsS [[5], [2]]), (171, isS (.bool true)), (172, isS (.bool true)), (173, isS (.bool true)), (174, isS (.pointer (some ⟨b17, 0, none⟩))), (175, isS (sq.v)), (176, bytesS [7]), (177, bytesS [3]), (178, rowsS [[7], [3]]), (179, isS (.bool true)), (180, isS (.bool true)), (181, isS (.bool true)), (182, isS (.pointer (some ⟨b19, 0, none⟩))), (183, isS (sr.v)), (184, isS (.pointer (some ⟨ab sr.a, ao sr.a + 0, none⟩))), (185, isS (y0.v)), (186, isS (.string ⟨(blk 19 : List UInt8).toArray⟩)), (187, bytesS (blk 19)), (188, isS (.string ⟨(blk 19 : List UInt8).toArray⟩)), (189, isS (.bool true)), (190, isS (.bool true)), (191, isS (.bool true)), (192, isS (.pointer (some ⟨b21, 0, none⟩))), (193, isS (ss.v)), (194, isS (.pointer (some ⟨ab ss.a, ao ss.a + 0, none⟩))), (195, isS (y1.v)), (196, isS (.string ⟨(blk 22 : List UInt8).toArray⟩)), (197, bytesS (blk 22)), (198, isS (.string ⟨(blk 22 : List UInt8).toArray⟩)), (199, isS (.bool true)), (200, isS (.bool true)), (201, isS (.bool true)), (202, isS (.int .i64 0)), (203, isS (.bool true)), (204, isS (.bool true)), (205, isS (.bool true)), (206, isS (sy.v)), (207, isS (.string ⟨(blk 5 : List UInt8).toArray⟩)), (208, bytesS (blk 5)), (209, isS (.string ⟨(blk 5 : List UInt8).toArray⟩)), (210, isS (.bool true)), (211, isS (.bool true)), (212, isS (.bool true)), (213, isS (sx.v)), (214, isS (.string ⟨([3] : List UInt8).toArray⟩)), (215, isS (.bool true)), (216, isS (.bool true))] [[], [157], [158], [159], [160], [161, 160], [162, 160], [160, 163], [164], [165], [166, 165], [165], [165], [168, 169, 165], [167, 170, 165], [165, 171], [172], [173], [174, 173], [173], [173], [176, 177, 173], [175, 178, 173], [173, 179], [180], [181], [182, 181], [183, 181], [184, 181], [185, 181], [181], [187, 181], [186, 188, 181], [181, 189], [190], [191], [192, 191], [193, 191], [194, 191], [195, 191], [191], [197, 191], [196, 198, 191], [191, 199], [200], [201], [202, 201], [201, 203], [204], [205], [206, 205], [205], [208, 205], [207, 209, 205], [205, 210], [211], [212], [213, 212], [214, 212], [212, 215]] [([], isS (sa.v)), ([(157, isS (sa.v))], isS (.string ⟨([1] : List UInt8).toArray⟩)), ([(158, isS (.string ⟨([1] : List UInt8).toArray⟩))], isS (.bool true)), ([(159, isS (.bool true))], isS (.bool true)), ([(160, isS (.bool true))], isS (sb.v)), ([(161, isS (sb.v)), (160, isS (.bool true))], isS (.string ⟨([0] : List UInt8).toArray⟩)), ([(162, isS (.string ⟨([0] : List UInt8).toArray⟩)), (160, isS (.bool true))], isS (.bool true)), ([(160, isS (.bool true)), (163, isS (.bool true))], isS (.bool true)), ([(164, isS (.bool true))], isS (.bool true)), ([(165, isS (.bool true))], isS (.pointer (some ⟨b16, 0, none⟩))), ([(166, isS (.pointer (some ⟨b16, 0, none⟩))), (165, isS (.bool true))], isS (sp.v)), ([(165, isS (.bool true))], bytesS [5]), ([(165, isS (.bool true))], bytesS [2]), ([(168, bytesS [5]), (169, bytesS [2]), (165, isS (.bool true))], rowsS [[5], [2]]), ([(167, isS (sp.v)), (170, rowsS [[5], [2]]), (165, isS (.bool true))], isS (.bool true)), ([(165, isS (.bool true)), (171, isS (.bool true))], isS (.bool true)), ([(172, isS (.bool true))], isS (.bool true)), ([(173, isS (.bool true))], isS (.pointer (some ⟨b17, 0, none⟩))), ([(174, isS (.pointer (some ⟨b17, 0, none⟩))), (173, isS (.bool true))], isS (sq.v)), ([(173, isS (.bool true))], bytesS [7]), ([(173, isS (.bool true))], bytesS [3]), ([(176, bytesS [7]), (177, bytesS [3]), (173, isS (.bool true))], rowsS [[7], [3]]), ([(175, isS (sq.v)), (178, rowsS [[7], [3]]), (173, isS (.bool true))], isS (.bool true)), ([(173, isS (.bool true)), (179, isS (.bool true))], isS (.bool true)), ([(180, isS (.bool true))], isS (.bool true)), ([(181, isS (.bool true))], isS (.pointer (some ⟨b19, 0, none⟩))), ([(182, isS (.pointer (some ⟨b19, 0, none⟩))), (181, isS (.bool true))], isS (sr.v)), ([(183, isS (sr.v)), (181, isS (.bool true))], isS (.pointer (some ⟨ab sr.a, ao sr.a + 0, none⟩))), ([(184, isS (.pointer (some ⟨ab sr.a, ao sr.a + 0, none⟩))), (181, isS (.bool true))], isS (y0.v)), ([(185, isS (y0.v)), (181, isS (.bool true))], isS (.string ⟨(blk 19 : List UInt8).toArray⟩)), ([(181, isS (.bool true))], bytesS (blk 19)), ([(187, bytesS (blk 19)), (181, isS (.bool true))], isS (.string ⟨(blk 19 : List UInt8).toArray⟩)), ([(186, isS (.string ⟨(blk 19 : List UInt8).toArray⟩)), (188, isS (.string ⟨(blk 19 : List UInt8).toArray⟩)), (181, isS (.bool true))], isS (.bool true)), ([(181, isS (.bool true)), (189, isS (.bool true))], isS (.bool true)), ([(190, isS (.bool true))], isS (.bool true)), ([(191, isS (.bool true))], isS (.pointer (some ⟨b21, 0, none⟩))), ([(192, isS (.pointer (some ⟨b21, 0, none⟩))), (191, isS (.bool true))], isS (ss.v)), ([(193, isS (ss.v)), (191, isS (.bool true))], isS (.pointer (some ⟨ab ss.a, ao ss.a + 0, none⟩))), ([(194, isS (.pointer (some ⟨ab ss.a, ao ss.a + 0, none⟩))), (191, isS (.bool true))], isS (y1.v)), ([(195, isS (y1.v)), (191, isS (.bool true))], isS (.string ⟨(blk 22 : List UInt8).toArray⟩)), ([(191, isS (.bool true))], bytesS (blk 22)), ([(197, bytesS (blk 22)), (191, isS (.bool true))], isS (.string ⟨(blk 22 : List UInt8).toArray⟩)), ([(196, isS (.string ⟨(blk 22 : List UInt8).toArray⟩)), (198, isS (.string ⟨(blk 22 : List UInt8).toArray⟩)), (191, isS (.bool true))], isS (.bool true)), ([(191, isS (.bool true)), (199, isS (.bool true))], isS (.bool true)), ([(200, isS (.bool true))], isS (.bool true)), ([(201, isS (.bool true))], isS (.int .i64 0)), ([(202, isS (.int .i64 0)), (201, isS (.bool true))], isS (.bool true)), ([(201, isS (.bool true)), (203, isS (.bool true))], isS (.bool true)), ([(204, isS (.bool true))], isS (.bool true)), ([(205, isS (.bool true))], isS (sy.v)), ([(206, isS (sy.v)), (205, isS (.bool true))], isS (.string ⟨(blk 5 : List UInt8).toArray⟩)), ([(205, isS (.bool true))], bytesS (blk 5)), ([(208, bytesS (blk 5)), (205, isS (.bool true))], isS (.string ⟨(blk 5 : List UInt8).toArray⟩)), ([(207, isS (.string ⟨(blk 5 : List UInt8).toArray⟩)), (209, isS (.string ⟨(blk 5 : List UInt8).toArray⟩)), (205, isS (.bool true))], isS (.bool true)), ([(205, isS (.bool true)), (210, isS (.bool true))], isS (.bool true)), ([(211, isS (.bool true))], isS (.bool true)), ([(212, isS (.bool true))], isS (sx.v)), ([(213, isS (sx.v)), (212, isS (.bool true))], isS (.string ⟨([3] : List UInt8).toArray⟩)), ([(214, isS (.string ⟨([3] : List UInt8).toArray⟩)), (212, isS (.bool true))], isS (.bool true)), ([(212, isS (.bool true)), (215, isS (.bool true))], isS (.bool true))] [216] [(216, isS (.bool true))] 60 hmix (by simp [isS_stable, bytesS_stable, rowsS_stable]) (by kernel_rfl) (by kernel_rfl) (by kernel_rfl) (by kernel_rfl) (by kernel_rfl) (by kernel_rfl) ?_ ?_
  · refine ⟨?_, ?_, ?_, ?_, ?_, ?_, ?_, ?_, ?_, ?_, ?_, ?_, ?_, ?_, ?_, ?_, ?_, ?_, ?_, ?_, ?_, ?_, ?_, ?_, ?_, ?_, ?_, ?_, ?_, ?_, ?_, ?_, ?_, ?_, ?_, ?_, ?_, ?_, ?_, ?_, ?_, ?_, ?_, ?_, ?_, ?_, ?_, ?_, ?_, ?_, ?_, ?_, ?_, ?_, ?_, ?_, ?_, ?_, ?_, ?_, trivial⟩
    · skip
      exact ob_y (YO.v (v' := sa.v) (y_p rfl) rfl) rfl (fun _ _ => rfl)
    · skip
      refine af_is rfl ?_
      exact ob_y (YO.v (v' := .string ⟨([1] : List UInt8).toArray⟩) (y_str (s := sa) Try.underlying22 Try.underlying5 Try.underlying9 rfl (fun w1 hG1 => hG1.bytes (by simp) ha trivial)) rfl) rfl (fun _ _ => rfl)
    · skip
      refine af_is rfl ?_
      exact ob_y (YO.v (v' := .bool true) ((y_p rfl).v (congrArg Value.bool (by decide +kernel))) rfl) rfl (fun _ _ => rfl)
    · skip
      refine af_is rfl ?_
      exact ob_y (YO.v (v' := .bool true) (y_p rfl) rfl) rfl (fun _ _ => rfl)
    · skip
      refine af_is rfl ?_
      exact ob_yg rfl rfl (YO.v (v' := sb.v) (y_p rfl) rfl) rfl (fun _ _ => rfl)
    · skip
      refine af_is rfl ?_
      refine af_is rfl ?_
      exact ob_yg rfl rfl (YO.v (v' := .string ⟨([0] : List UInt8).toArray⟩) (y_str (s := sb) Try.underlying22 Try.underlying5 Try.underlying9 rfl (fun w1 hG1 => hG1.bytes (by simp) hb trivial)) rfl) rfl (fun _ _ => rfl)
    · skip
      refine af_is rfl ?_
      refine af_is rfl ?_
      exact ob_yg rfl rfl (YO.v (v' := .bool true) ((y_p rfl).v (congrArg Value.bool (by decide +kernel))) rfl) rfl (fun _ _ => rfl)
    · skip
      refine af_is rfl ?_
      refine af_is rfl ?_
      exact ob_y (YO.v (v' := .bool true) (y_p rfl) rfl) rfl (fun _ _ => rfl)
    · skip
      refine af_is rfl ?_
      exact ob_y (YO.v (v' := .bool true) (y_p rfl) rfl) rfl (fun _ _ => rfl)
    · skip
      refine af_is rfl ?_
      exact ob_yg rfl rfl (YO.v (v' := .pointer (some ⟨b16, 0, none⟩)) (y_fld Try.underlying32 rfl ti30 (by decide) rfl rfl) rfl) rfl (fun _ _ => rfl)
    · skip
      refine af_is rfl ?_
      refine af_is rfl ?_
      exact ob_yg rfl rfl (YO.v (v' := sp.v) (y_load ti30 rfl (fun w1 hG1 => hG1.cell' (by simp) c16 trivial)) rfl) rfl (fun _ _ => rfl)
    · skip
      refine af_is rfl ?_
      refine ob_ng rfl rfl rfl fun w0 hG0 => ?_
      refine n_bs1 [_] Try.underlying22 ti5 rfl rfl rfl rfl rfl rfl fun b168 hS168 _ => ?_
      simp only [leAll, and_true] at hS168
      exact ob_end rfl fun w1 hG1 => ⟨hG0.belowH hG1 (by simp) (by simp; omega), ⟨⟨some ⟨b168, 0, none⟩, 1, 1⟩, rfl, Bytes.own (l := [5]) (rest := []) (hG1.block 0 rfl) (Nat.le_refl _) (by simp [maxLen])⟩⟩
    · skip
      refine af_is rfl ?_
      refine ob_ng rfl rfl rfl fun w0 hG0 => ?_
      refine n_bs1 [_] Try.underlying22 ti5 rfl rfl rfl rfl rfl rfl fun b169 hS169 _ => ?_
      simp only [leAll, and_true] at hS169
      exact ob_end rfl fun w1 hG1 => ⟨hG0.belowH hG1 (by simp) (by simp; omega), ⟨⟨some ⟨b169, 0, none⟩, 1, 1⟩, rfl, Bytes.own (l := [2]) (rest := []) (hG1.block 0 rfl) (Nat.le_refl _) (by simp [maxLen])⟩⟩
    · skip
      refine af_bytes rfl fun v168 s168 hv168 hb168 => ?_
      refine af_bytes rfl fun v169 s169 hv169 hb169 => ?_
      refine af_is rfl ?_
      refine ob_ng rfl rfl rfl fun w0 hG0 => ?_
      refine n_bs1 [_, _] Try.underlying30 ti22 rfl rfl rfl rfl rfl rfl fun b170 hS170 _ => ?_
      simp only [leAll, and_true] at hS170
      exact ob_end rfl fun w1 hG1 => ⟨hG0.belowH hG1 (by simp) (by simp; omega), ⟨⟨some ⟨b170, 0, none⟩, 2, 2⟩, _, rfl, (((RowF.nil _).snoc (hb168.below (hv168.belowH hG1 (by simp) (by simp; omega)))).snoc (hb169.below (hv169.belowH hG1 (by simp) (by simp; omega)))).rows rfl (hG1.lit 0 rfl (by simp [maxLen]))⟩⟩
    · skip
      refine af_is rfl ?_
      refine af_rows rfl fun v170 s170 r170 hv170 hr170 => ?_
      refine af_is rfl ?_
      refine ob_ng rfl rfl rfl fun w0 hG0 => ?_
      refine n_call rfl rfl fun w171 hG171 => Fn.mono (same_ok w171 sp rp [[5], [2]] (hG171.rows (by simp) hp (by simp)) s170 r170 [[5], [2]] (hG171.rows (by simp) hr170 (by simp))) ?_
      rintro _ w171' ⟨rfl, hB⟩
      rw [show (([[5], [2]] : List (List UInt8)) == [[5], [2]]) = true from by decide +kernel]
      refine at_in (hG171.call hB) ?_
      exact ob_end rfl fun w1 hG1 => ⟨hG0.belowH hG1 (by simp) (by simp), rfl⟩
    · skip
      refine af_is rfl ?_
      refine af_is rfl ?_
      exact ob_y (YO.v (v' := .bool true) (y_p rfl) rfl) rfl (fun _ _ => rfl)
    · skip
      refine af_is rfl ?_
      exact ob_y (YO.v (v' := .bool true) (y_p rfl) rfl) rfl (fun _ _ => rfl)
    · skip
      refine af_is rfl ?_
      exact ob_yg rfl rfl (YO.v (v' := .pointer (some ⟨b17, 0, none⟩)) (y_fld Try.underlying32 rfl ti30 (by decide) rfl rfl) rfl) rfl (fun _ _ => rfl)
    · skip
      refine af_is rfl ?_
      refine af_is rfl ?_
      exact ob_yg rfl rfl (YO.v (v' := sq.v) (y_load ti30 rfl (fun w1 hG1 => hG1.cell' (by simp) c17 trivial)) rfl) rfl (fun _ _ => rfl)
    · skip
      refine af_is rfl ?_
      refine ob_ng rfl rfl rfl fun w0 hG0 => ?_
      refine n_bs1 [_] Try.underlying22 ti5 rfl rfl rfl rfl rfl rfl fun b176 hS176 _ => ?_
      simp only [leAll, and_true] at hS176
      exact ob_end rfl fun w1 hG1 => ⟨hG0.belowH hG1 (by simp) (by simp; omega), ⟨⟨some ⟨b176, 0, none⟩, 1, 1⟩, rfl, Bytes.own (l := [7]) (rest := []) (hG1.block 0 rfl) (Nat.le_refl _) (by simp [maxLen])⟩⟩
    · skip
      refine af_is rfl ?_
      refine ob_ng rfl rfl rfl fun w0 hG0 => ?_
      refine n_bs1 [_] Try.underlying22 ti5 rfl rfl rfl rfl rfl rfl fun b177 hS177 _ => ?_
      simp only [leAll, and_true] at hS177
      exact ob_end rfl fun w1 hG1 => ⟨hG0.belowH hG1 (by simp) (by simp; omega), ⟨⟨some ⟨b177, 0, none⟩, 1, 1⟩, rfl, Bytes.own (l := [3]) (rest := []) (hG1.block 0 rfl) (Nat.le_refl _) (by simp [maxLen])⟩⟩
    · skip
      refine af_bytes rfl fun v176 s176 hv176 hb176 => ?_
      refine af_bytes rfl fun v177 s177 hv177 hb177 => ?_
      refine af_is rfl ?_
      refine ob_ng rfl rfl rfl fun w0 hG0 => ?_
      refine n_bs1 [_, _] Try.underlying30 ti22 rfl rfl rfl rfl rfl rfl fun b178 hS178 _ => ?_
      simp only [leAll, and_true] at hS178
      exact ob_end rfl fun w1 hG1 => ⟨hG0.belowH hG1 (by simp) (by simp; omega), ⟨⟨some ⟨b178, 0, none⟩, 2, 2⟩, _, rfl, (((RowF.nil _).snoc (hb176.below (hv176.belowH hG1 (by simp) (by simp; omega)))).snoc (hb177.below (hv177.belowH hG1 (by simp) (by simp; omega)))).rows rfl (hG1.lit 0 rfl (by simp [maxLen]))⟩⟩
    · skip
      refine af_is rfl ?_
      refine af_rows rfl fun v178 s178 r178 hv178 hr178 => ?_
      refine af_is rfl ?_
      refine ob_ng rfl rfl rfl fun w0 hG0 => ?_
      refine n_call rfl rfl fun w179 hG179 => Fn.mono (same_ok w179 sq rq [[7], [3]] (hG179.rows (by simp) hq (by simp)) s178 r178 [[7], [3]] (hG179.rows (by simp) hr178 (by simp))) ?_
      rintro _ w179' ⟨rfl, hB⟩
      rw [show (([[7], [3]] : List (List UInt8)) == [[7], [3]]) = true from by decide +kernel]
      refine at_in (hG179.call hB) ?_
      exact ob_end rfl fun w1 hG1 => ⟨hG0.belowH hG1 (by simp) (by simp), rfl⟩
    · skip
      refine af_is rfl ?_
      refine af_is rfl ?_
      exact ob_y (YO.v (v' := .bool true) (y_p rfl) rfl) rfl (fun _ _ => rfl)
    · skip
      refine af_is rfl ?_
      exact ob_y (YO.v (v' := .bool true) (y_p rfl) rfl) rfl (fun _ _ => rfl)
    · skip
      refine af_is rfl ?_
      exact ob_yg rfl rfl (YO.v (v' := .pointer (some ⟨b19, 0, none⟩)) (y_fld Try.underlying35 rfl ti30 (by decide) rfl rfl) rfl) rfl (fun _ _ => rfl)
    · skip
      refine af_is rfl ?_
      refine af_is rfl ?_
      exact ob_yg rfl rfl (YO.v (v' := sr.v) (y_load ti30 rfl (fun w1 hG1 => hG1.cell' (by simp) c19 trivial)) rfl) rfl (fun _ _ => rfl)
    · skip
      refine af_is rfl ?_
      refine af_is rfl ?_
      exact ob_yg rfl rfl (YO.v (v' := .pointer (some ⟨ab sr.a, ao sr.a + 0, none⟩)) (y_idx1 0 Try.underlying30 ti22 rfl rfl rfl (by omega) (hr.sl.addr (by omega))) rfl) rfl (fun _ _ => rfl)
    · skip
      refine af_is rfl ?_
      refine af_is rfl ?_
      exact ob_yg rfl rfl (YO.v (v' := y0.v) (y_load ti22 rfl (fun w1 hG1 => hG1.cell' (by simp) (hr.cell y0_) trivial)) rfl) rfl (fun _ _ => rfl)
    · skip
      refine af_is rfl ?_
      refine af_is rfl ?_
      exact ob_yg rfl rfl (YO.v (v' := .string ⟨(blk 19 : List UInt8).toArray⟩) (y_str (s := y0) Try.underlying22 Try.underlying5 Try.underlying9 rfl (fun w1 hG1 => hG1.bytes (by simp) hy0 trivial)) rfl) rfl (fun _ _ => rfl)
    · skip
      refine af_is rfl ?_
      refine ob_ng rfl rfl rfl fun w0 hG0 => ?_
      refine n_call rfl rfl fun w187 hG187 => Fn.mono (block_ok w187 19) ?_
      rintro v187' w187' ⟨hF, hB⟩
      obtain ⟨q187, rfl, hq187, _⟩ := hF.bytes
      refine at_in (hG187.call hB) ?_
      exact ob_end rfl fun w1 hG1 => ⟨hG0.belowH hG1 (by simp) (by simp), ⟨_, rfl, hG1.bytes (.head _) hq187 trivial⟩⟩
    · skip
      refine af_bytes rfl fun v187 s187 hv187 hb187 => ?_
      refine af_is rfl ?_
      exact ob_yg rfl rfl (YO.v (v' := .string ⟨(blk 19 : List UInt8).toArray⟩) (y_str (s := s187) Try.underlying22 Try.underlying5 Try.underlying9 rfl (fun w1 hG1 => hG1.bytes (by simp) hb187 trivial)) rfl) rfl (fun _ _ => rfl)
    · skip
      refine af_is rfl ?_
      refine af_is rfl ?_
      refine af_is rfl ?_
      exact ob_yg rfl rfl (YO.v (v' := .bool true) ((y_p rfl).v (congrArg Value.bool (by decide +kernel))) rfl) rfl (fun _ _ => rfl)
    · skip
      refine af_is rfl ?_
      refine af_is rfl ?_
      exact ob_y (YO.v (v' := .bool true) (y_p rfl) rfl) rfl (fun _ _ => rfl)
    · skip
      refine af_is rfl ?_
      exact ob_y (YO.v (v' := .bool true) (y_p rfl) rfl) rfl (fun _ _ => rfl)
    · skip
      refine af_is rfl ?_
      exact ob_yg rfl rfl (YO.v (v' := .pointer (some ⟨b21, 0, none⟩)) (y_fld Try.underlying35 rfl ti30 (by decide) rfl rfl) rfl) rfl (fun _ _ => rfl)
    · skip
      refine af_is rfl ?_
      refine af_is rfl ?_
      exact ob_yg rfl rfl (YO.v (v' := ss.v) (y_load ti30 rfl (fun w1 hG1 => hG1.cell' (by simp) c21 trivial)) rfl) rfl (fun _ _ => rfl)
    · skip
      refine af_is rfl ?_
      refine af_is rfl ?_
      exact ob_yg rfl rfl (YO.v (v' := .pointer (some ⟨ab ss.a, ao ss.a + 0, none⟩)) (y_idx1 0 Try.underlying30 ti22 rfl rfl rfl (by omega) (hs.sl.addr (by omega))) rfl) rfl (fun _ _ => rfl)
    · skip
      refine af_is rfl ?_
      refine af_is rfl ?_
      exact ob_yg rfl rfl (YO.v (v' := y1.v) (y_load ti22 rfl (fun w1 hG1 => hG1.cell' (by simp) (hs.cell y1_) trivial)) rfl) rfl (fun _ _ => rfl)
    · skip
      refine af_is rfl ?_
      refine af_is rfl ?_
      exact ob_yg rfl rfl (YO.v (v' := .string ⟨(blk 22 : List UInt8).toArray⟩) (y_str (s := y1) Try.underlying22 Try.underlying5 Try.underlying9 rfl (fun w1 hG1 => hG1.bytes (by simp) hy1 trivial)) rfl) rfl (fun _ _ => rfl)
    · skip
      refine af_is rfl ?_
      refine ob_ng rfl rfl rfl fun w0 hG0 => ?_
      refine n_call rfl rfl fun w197 hG197 => Fn.mono (block_ok w197 22) ?_
      rintro v197' w197' ⟨hF, hB⟩
      obtain ⟨q197, rfl, hq197, _⟩ := hF.bytes
      refine at_in (hG197.call hB) ?_
      exact ob_end rfl fun w1 hG1 => ⟨hG0.belowH hG1 (by simp) (by simp), ⟨_, rfl, hG1.bytes (.head _) hq197 trivial⟩⟩
    · skip
      refine af_bytes rfl fun v197 s197 hv197 hb197 => ?_
      refine af_is rfl ?_
      exact ob_yg rfl rfl (YO.v (v' := .string ⟨(blk 22 : List UInt8).toArray⟩) (y_str (s := s197) Try.underlying22 Try.underlying5 Try.underlying9 rfl (fun w1 hG1 => hG1.bytes (by simp) hb197 trivial)) rfl) rfl (fun _ _ => rfl)
    · skip
      refine af_is rfl ?_
      refine af_is rfl ?_
      refine af_is rfl ?_
      exact ob_yg rfl rfl (YO.v (v' := .bool true) ((y_p rfl).v (congrArg Value.bool (by decide +kernel))) rfl) rfl (fun _ _ => rfl)
    · skip
      refine af_is rfl ?_
      refine af_is rfl ?_
      exact ob_y (YO.v (v' := .bool true) (y_p rfl) rfl) rfl (fun _ _ => rfl)
    · skip
      refine af_is rfl ?_
      exact ob_y (YO.v (v' := .bool true) (y_p rfl) rfl) rfl (fun _ _ => rfl)
    · skip
      refine af_is rfl ?_
      exact ob_yg rfl rfl (YO.v (v' := .int .i64 0) (y_p rfl) rfl) rfl (fun _ _ => rfl)
    · skip
      refine af_is rfl ?_
      refine af_is rfl ?_
      exact ob_yg rfl rfl (YO.v (v' := .bool true) ((y_p rfl).v (congrArg Value.bool (by decide +kernel))) rfl) rfl (fun _ _ => rfl)
    · skip
      refine af_is rfl ?_
      refine af_is rfl ?_
      exact ob_y (YO.v (v' := .bool true) (y_p rfl) rfl) rfl (fun _ _ => rfl)
    · skip
      refine af_is rfl ?_
      exact ob_y (YO.v (v' := .bool true) (y_p rfl) rfl) rfl (fun _ _ => rfl)
    · skip
      refine af_is rfl ?_
      exact ob_yg rfl rfl (YO.v (v' := sy.v) (y_p rfl) rfl) rfl (fun _ _ => rfl)
    · skip
      refine af_is rfl ?_
      refine af_is rfl ?_
      exact ob_yg rfl rfl (YO.v (v' := .string ⟨(blk 5 : List UInt8).toArray⟩) (y_str (s := sy) Try.underlying22 Try.underlying5 Try.underlying9 rfl (fun w1 hG1 => hG1.bytes (by simp) hy trivial)) rfl) rfl (fun _ _ => rfl)
    · skip
      refine af_is rfl ?_
      refine ob_ng rfl rfl rfl fun w0 hG0 => ?_
      refine n_call rfl rfl fun w208 hG208 => Fn.mono (block_ok w208 5) ?_
      rintro v208' w208' ⟨hF, hB⟩
      obtain ⟨q208, rfl, hq208, _⟩ := hF.bytes
      refine at_in (hG208.call hB) ?_
      exact ob_end rfl fun w1 hG1 => ⟨hG0.belowH hG1 (by simp) (by simp), ⟨_, rfl, hG1.bytes (.head _) hq208 trivial⟩⟩
    · skip
      refine af_bytes rfl fun v208 s208 hv208 hb208 => ?_
      refine af_is rfl ?_
      exact ob_yg rfl rfl (YO.v (v' := .string ⟨(blk 5 : List UInt8).toArray⟩) (y_str (s := s208) Try.underlying22 Try.underlying5 Try.underlying9 rfl (fun w1 hG1 => hG1.bytes (by simp) hb208 trivial)) rfl) rfl (fun _ _ => rfl)
    · skip
      refine af_is rfl ?_
      refine af_is rfl ?_
      refine af_is rfl ?_
      exact ob_yg rfl rfl (YO.v (v' := .bool true) ((y_p rfl).v (congrArg Value.bool (by decide +kernel))) rfl) rfl (fun _ _ => rfl)
    · skip
      refine af_is rfl ?_
      refine af_is rfl ?_
      exact ob_y (YO.v (v' := .bool true) (y_p rfl) rfl) rfl (fun _ _ => rfl)
    · skip
      refine af_is rfl ?_
      exact ob_y (YO.v (v' := .bool true) (y_p rfl) rfl) rfl (fun _ _ => rfl)
    · skip
      refine af_is rfl ?_
      exact ob_yg rfl rfl (YO.v (v' := sx.v) (y_p rfl) rfl) rfl (fun _ _ => rfl)
    · skip
      refine af_is rfl ?_
      refine af_is rfl ?_
      exact ob_yg rfl rfl (YO.v (v' := .string ⟨([3] : List UInt8).toArray⟩) (y_str (s := sx) Try.underlying22 Try.underlying5 Try.underlying9 rfl (fun w1 hG1 => hG1.bytes (by simp) hx trivial)) rfl) rfl (fun _ _ => rfl)
    · skip
      refine af_is rfl ?_
      refine af_is rfl ?_
      exact ob_yg rfl rfl (YO.v (v' := .bool true) ((y_p rfl).v (congrArg Value.bool (by decide +kernel))) rfl) rfl (fun _ _ => rfl)
    · skip
      refine af_is rfl ?_
      refine af_is rfl ?_
      exact ob_y (YO.v (v' := .bool true) (y_p rfl) rfl) rfl (fun _ _ => rfl)
  · skip
    refine af_is rfl ?_
    refine af_nil ?_
    refine s1 (y_p rfl) rfl <| ?_
    refine at_nil ?_
    refine x_tn ?_
    refine at_ret ?_
    refine at_result (rs := [.tmp 0]) rfl (r_tmp rfl (r_nil)) fun w1 hG1 => ⟨rfl, hG1.below (by simp) (by simp)⟩

end Go.Eng.R36
