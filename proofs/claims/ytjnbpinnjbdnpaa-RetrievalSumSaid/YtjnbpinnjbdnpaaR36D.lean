/-
  Layer 36: walks of the retrieval functions. Conditions: each theorem says its own.
-/
import Derived.Test.YtjnbpinnjbdnpaaR36C
namespace Go.Eng.R36
open Go Go.Eng Go.Proofs

theorem masks_e0 (w : World) (many at' : Int) (s : SV) (l : List UInt8) (hb : Bytes w s l) (hsz : sized many l.length = false) : Fn Try.prog 10 #[.int .i64 many, .int .i64 at', s.v] w (fun v w' => P3 w w' v (masks many at' l)) := by
  refine enter Try.func10 rfl Try.ntmps10 (by kernel_rfl) rfl ?_
  refine at_seq ?_
  refine at_region ?_
  refine s1 (y_p rfl) rfl <| s1 (y_p rfl) rfl <| s1 (y_p rfl) rfl <| ?_
  refine at_nil ?_
  refine x_tn ?_
  refine at_seq ?_
  refine at_seq ?_
  refine at_region ?_
  refine s1 (y_p rfl) rfl <| s1 (y_p rfl) rfl <| ?_
  refine at_op rfl (n_call rfl rfl fun w12 hG12 => Fn.mono (sized_ok w12 many s) ?_)
  rintro _ w13 ⟨rfl, hB12⟩
  rw [show sized many s.n = false from (by rw [hb.1]; exact hsz)]
  refine at_in (hG12.ext hB12) ?_
  refine s1 (y_p rfl) rfl <| ?_
  refine at_nil ?_
  refine x_tn ?_
  refine at_then rfl ?_
  refine at_seq ?_
  refine at_region ?_
  refine s1 (y_p rfl) rfl <| s1 (y_p rfl) rfl <| s1 (y_p rfl) rfl <| ?_
  refine at_nil ?_
  refine x_tn ?_
  refine at_ret ?_
  refine x_tr ?_
  refine at_result (rs := [.tmp 6, .tmp 7, .tmp 8]) rfl (r_tmp rfl (r_tmp rfl (r_tmp rfl (r_nil)))) fun w1 hG1 => ?_
  rw [masks_no hsz]; exact P3.nil w w1 360 (hG1.below (.head _) (by simp))

theorem masks_e1 (w : World) (many at' : Int) (s : SV) (l : List UInt8) (hb : Bytes w s l) (hsz : sized many l.length = true) (h : at' < 0) : Fn Try.prog 10 #[.int .i64 many, .int .i64 at', s.v] w (fun v w' => P3 w w' v (masks many at' l)) := by
  refine enter Try.func10 rfl Try.ntmps10 (by kernel_rfl) rfl ?_
  refine at_seq ?_
  refine at_region ?_
  refine s1 (y_p rfl) rfl <| s1 (y_p rfl) rfl <| s1 (y_p rfl) rfl <| ?_
  refine at_nil ?_
  refine x_tn ?_
  refine at_seq ?_
  refine at_seq ?_
  refine at_region ?_
  refine s1 (y_p rfl) rfl <| s1 (y_p rfl) rfl <| ?_
  refine at_op rfl (n_call rfl rfl fun w12 hG12 => Fn.mono (sized_ok w12 many s) ?_)
  rintro _ w13 ⟨rfl, hB12⟩
  rw [show sized many s.n = true from (by rw [hb.1]; exact hsz)]
  refine at_in (hG12.ext hB12) ?_
  refine s1 (y_p rfl) rfl <| ?_
  refine at_nil ?_
  refine x_tn ?_
  refine at_else rfl ?_
  refine at_skip ?_
  refine x_tn ?_
  refine at_seq ?_
  refine at_seq ?_
  refine at_region ?_
  refine s1 (y_p rfl) rfl <| s1 ((y_p rfl).v (v' := .bool true) (congrArg Value.bool (decide_eq_true (by omega)))) rfl <| s1 (y_p rfl) rfl <| g0 rfl rfl rfl rfl <| g0 rfl rfl rfl rfl <| g0 rfl rfl rfl rfl <| s1 (y_p rfl) rfl <| ?_
  refine at_nil ?_
  refine x_tn ?_
  refine at_then rfl ?_
  refine at_seq ?_
  refine at_region ?_
  refine s1 (y_p rfl) rfl <| s1 (y_p rfl) rfl <| s1 (y_p rfl) rfl <| ?_
  refine at_nil ?_
  refine x_tn ?_
  refine at_ret ?_
  refine x_tr ?_
  refine at_result (rs := [.tmp 6, .tmp 7, .tmp 8]) rfl (r_tmp rfl (r_tmp rfl (r_tmp rfl (r_nil)))) fun w1 hG1 => ?_
  rw [masks_arg hsz (by omega)]; exact P3.nil w w1 1 (hG1.below (.head _) (by simp))

theorem masks_e2 (w : World) (many at' : Int) (s : SV) (l : List UInt8) (hb : Bytes w s l) (hsz : sized many l.length = true) (h0 : 0 ≤ at') (h : many ≤ at') : Fn Try.prog 10 #[.int .i64 many, .int .i64 at', s.v] w (fun v w' => P3 w w' v (masks many at' l)) := by
  refine enter Try.func10 rfl Try.ntmps10 (by kernel_rfl) rfl ?_
  refine at_seq ?_
  refine at_region ?_
  refine s1 (y_p rfl) rfl <| s1 (y_p rfl) rfl <| s1 (y_p rfl) rfl <| ?_
  refine at_nil ?_
  refine x_tn ?_
  refine at_seq ?_
  refine at_seq ?_
  refine at_region ?_
  refine s1 (y_p rfl) rfl <| s1 (y_p rfl) rfl <| ?_
  refine at_op rfl (n_call rfl rfl fun w12 hG12 => Fn.mono (sized_ok w12 many s) ?_)
  rintro _ w13 ⟨rfl, hB12⟩
  rw [show sized many s.n = true from (by rw [hb.1]; exact hsz)]
  refine at_in (hG12.ext hB12) ?_
  refine s1 (y_p rfl) rfl <| ?_
  refine at_nil ?_
  refine x_tn ?_
  refine at_else rfl ?_
  refine at_skip ?_
  refine x_tn ?_
  refine at_seq ?_
  refine at_seq ?_
  refine at_region ?_
  refine s1 (y_p rfl) rfl <| s1 ((y_p rfl).v (v' := .bool false) (congrArg Value.bool (decide_eq_false (by omega)))) rfl <| s1 (y_p rfl) rfl <| g1 rfl rfl (y_p rfl) rfl <| g1 rfl rfl (y_p rfl) rfl <| g1 rfl rfl ((y_p rfl).v (v' := .bool true) (congrArg Value.bool (decide_eq_true (by omega)))) rfl <| s1 (y_p rfl) rfl <| ?_
  refine at_nil ?_
  refine x_tn ?_
  refine at_then rfl ?_
  refine at_seq ?_
  refine at_region ?_
  refine s1 (y_p rfl) rfl <| s1 (y_p rfl) rfl <| s1 (y_p rfl) rfl <| ?_
  refine at_nil ?_
  refine x_tn ?_
  refine at_ret ?_
  refine x_tr ?_
  refine at_result (rs := [.tmp 6, .tmp 7, .tmp 8]) rfl (r_tmp rfl (r_tmp rfl (r_tmp rfl (r_nil)))) fun w1 hG1 => ?_
  rw [masks_arg hsz (by omega)]; exact P3.nil w w1 1 (hG1.below (.head _) (by simp))

theorem masks_e3 (w : World) (m k : Nat) (s : SV) (l : List UInt8) (hb : Bytes w s l) (hsz : sized m l.length = true) (hk : k < m) : Fn Try.prog 10 #[.int .i64 m, .int .i64 k, s.v] w (fun v w' => P3 w w' v (masks m k l)) := by
  refine enter Try.func10 rfl Try.ntmps10 (by kernel_rfl) rfl ?_
  refine at_seq ?_
  refine at_region ?_
  refine s1 (y_p rfl) rfl <| s1 (y_p rfl) rfl <| s1 (y_p rfl) rfl <| ?_
  refine at_nil ?_
  refine x_tn ?_
  refine at_seq ?_
  refine at_seq ?_
  refine at_region ?_
  obtain ⟨m', hm', h1, h2, hl⟩ := sized_spec hsz
  obtain rfl : m = m' := by omega
  refine s1 (y_p rfl) rfl <| s1 (y_p rfl) rfl <| ?_
  refine at_op rfl (n_call rfl rfl fun w12 hG12 => Fn.mono (sized_ok w12 m s) ?_)
  rintro _ w13 ⟨rfl, hB12⟩
  rw [show sized m s.n = true from (by rw [hb.1]; exact hsz)]
  refine at_in (hG12.ext hB12) ?_
  refine s1 (y_p rfl) rfl <| ?_
  refine at_nil ?_
  refine x_tn ?_
  refine at_else rfl ?_
  refine at_skip ?_
  refine x_tn ?_
  refine at_seq ?_
  refine at_seq ?_
  refine at_region ?_
  refine s1 (y_p rfl) rfl <| s1 ((y_p rfl).v (v' := .bool false) (congrArg Value.bool (decide_eq_false (by omega)))) rfl <| s1 (y_p rfl) rfl <| g1 rfl rfl (y_p rfl) rfl <| g1 rfl rfl (y_p rfl) rfl <| g1 rfl rfl ((y_p rfl).v (v' := .bool false) (congrArg Value.bool (decide_eq_false (by omega)))) rfl <| s1 (y_p rfl) rfl <| ?_
  refine at_nil ?_
  refine x_tn ?_
  refine at_else rfl ?_
  refine at_skip ?_
  refine x_tn ?_
  refine at_seq ?_
  refine at_region ?_
  refine s1 (y_p rfl) rfl <| s1 (y_p rfl) rfl <| ?_
  refine at_op rfl (n_call rfl rfl fun w23 hG23 => Fn.mono (maskOf_ok w23 m s l (hG23.bytes (.head _) hb trivial) h1 h2 hl) ?_)
  rintro _ w24 ⟨⟨g, cap, rest, rfl, hge, hg, hcap, hmax⟩, hB23⟩
  have hge0 : w.heap.size ≤ g := Nat.le_trans (hG23.snap w (.head _)).size hge
  have hglt : g < w24.heap.size := (Array.getElem?_eq_some_iff.1 hg).1
  refine at_in ((hG23.ext hB23).adopt hg (by simp)) ?_
  refine at_op rfl (n_alloc ti51 rfl fun b9 hS9 hH9 => ?_)
  simp only [leAll, ltAll, and_true] at hS9 hH9
  refine at_op rfl (stv0 ti51 rfl rfl rfl ?_)
  refine at_nil ?_
  refine x_tn ?_
  refine at_seq ?_
  refine at_region ?_
  refine s1 (y_p rfl) rfl <| ?_
  refine at_op rfl (n_call rfl rfl fun w25 hG25 => Fn.mono (change_ok w25 b9 g (cut m l).length cap (cut m l) rest (cell_row (hG25.block 0 rfl) rfl) (hG25.block 1 rfl) rfl (by omega) k (by rw [len_cut]; omega) (by omega)) ?_)
  rintro _ w26 ⟨rfl, hg', hM⟩
  refine at_in ((hG25.upd 1 rfl hM hg')) ?_
  refine at_nil ?_
  refine x_tn ?_
  refine at_seq ?_
  refine at_mix 6 3 hmix (by kernel_rfl) (by kernel_rfl) ?_
  refine mq (y_p rfl) rfl rfl <| mq (y_p rfl) rfl rfl <| ?_
  refine mn rfl rfl (n_call rfl rfl fun w28 hG28 => Fn.mono (maskOf_ok w28 m s l (hG28.bytes (.head _) hb ⟨.inr (by omega), .inr hge0, trivial⟩) h1 h2 hl) ?_)
  rintro v28 w29 ⟨hF, hB28⟩
  have hlt9 := hG28.ownlt (p := (b9, _)) (.head _)
  have hltg := hG28.ownlt (p := (g, _)) (.tail _ (.head _))
  refine at_in (hG28.call hB28) (at_and (fun _ h => h.sub (by simp)) ?_)
  refine mq (y_own 0 ti51 rfl rfl rfl) rfl rfl <| mq (y_p rfl) rfl rfl <| mq (y_p rfl) rfl rfl <| ?_
  refine mnil ?_
  refine s1 (y_p rfl) rfl <| ?_
  refine at_nil ?_
  refine x_tn ?_
  refine at_ret ?_
  refine at_result (rs := [.tmp 6, .tmp 7, .tmp 8]) rfl (r_tmp rfl (r_tmp rfl (r_tmp rfl (r_nil)))) fun w1 hG1 => ?_
  rw [masks_yes hsz hk]
  obtain ⟨sa, rfl, hba, hfa⟩ := hF.bytes
  have hne : cut m l ≠ [] := ne_of_len (by rw [len_cut]; omega)
  have hab := hfa hne
  have hsz28 := (hG28.snap w (.head _)).size
  have hbb := Bytes.own (l := change (cut m l) k) (cap := cap) (hG1.block 1 rfl) (by rw [len_change]; omega) hmax
  rw [len_change] at hbb
  exact ⟨sa, ⟨some ⟨g, 0, none⟩, (cut m l).length, cap⟩, rfl, hG1.bytes (.head _) hba ⟨.inl (by omega), .inl (by omega), trivial⟩, fun _ => by omega, hbb, fun _ => hge0, hG1.below (.tail _ (.head _)) (by simp; omega)⟩

theorem masks_ok (w : World) (many at' : Int) (s : SV) (l : List UInt8) (hb : Bytes w s l) : Fn Try.prog 10 #[.int .i64 many, .int .i64 at', s.v] w (fun v w' => P3 w w' v (masks many at' l)) := by
  by_cases hsz : sized many l.length = true
  · by_cases h : at' < 0
    · exact masks_e1 w many at' s l hb hsz h
    · by_cases h2 : many ≤ at'
      · exact masks_e2 w many at' s l hb hsz (by omega) h2
      · obtain ⟨m, rfl, h3, h4, h5⟩ := sized_spec hsz
        obtain ⟨k, rfl⟩ := Int.eq_ofNat_of_zero_le (by omega : 0 ≤ at')
        exact masks_e3 w m k s l hb hsz (by omega)
  · exact masks_e0 w many at' s l hb (by simpa using hsz)

theorem rmasks_lo (w : World) (many at' : Int) (s : SV) (l : List UInt8) (h : many < 1) : Fn Try.prog 11 #[.int .i64 many, .int .i64 at', s.v] w (fun v w' => P3 w w' v (masks many at' l)) := by
  refine enter Try.func11 rfl Try.ntmps11 (by kernel_rfl) rfl ?_
  refine at_seq ?_
  refine at_region ?_
  refine s1 (y_p rfl) rfl <| s1 (y_p rfl) rfl <| s1 (y_p rfl) rfl <| ?_
  refine at_nil ?_
  refine x_tn ?_
  refine at_seq ?_
  refine at_seq ?_
  refine at_region ?_
  refine s1 (y_p rfl) rfl <| s1 ((y_p rfl).v (v' := .bool true) (congrArg Value.bool (decide_eq_true (by omega)))) rfl <| s1 (y_p rfl) rfl <| g0 rfl rfl rfl rfl <| g0 rfl rfl rfl rfl <| s1 (y_p rfl) rfl <| s1 (y_p rfl) rfl <| g0 rfl rfl rfl rfl <| g0 rfl rfl rfl rfl <| g0 rfl rfl rfl rfl <| g0 rfl rfl rfl rfl <| g0 rfl rfl rfl rfl <| ?_
  refine s1 (y_p rfl) rfl <| ?_
  refine at_nil ?_
  refine x_tn ?_
  refine at_then rfl ?_
  refine at_seq ?_
  refine at_region ?_
  refine s1 (y_p rfl) rfl <| s1 (y_p rfl) rfl <| s1 (y_p rfl) rfl <| ?_
  refine at_nil ?_
  refine x_tn ?_
  refine at_ret ?_
  refine x_tr ?_
  refine at_result (rs := [.tmp 6, .tmp 7, .tmp 8]) rfl (r_tmp rfl (r_tmp rfl (r_tmp rfl (r_nil)))) fun w1 hG1 => ?_
  rw [masks_no (sized_no (by omega))]; exact P3.nil w w1 360 (hG1.below (.head _) (by simp))

theorem rmasks_hi (w : World) (many at' : Int) (s : SV) (l : List UInt8) (h : 1024 < many) : Fn Try.prog 11 #[.int .i64 many, .int .i64 at', s.v] w (fun v w' => P3 w w' v (masks many at' l)) := by
  refine enter Try.func11 rfl Try.ntmps11 (by kernel_rfl) rfl ?_
  refine at_seq ?_
  refine at_region ?_
  refine s1 (y_p rfl) rfl <| s1 (y_p rfl) rfl <| s1 (y_p rfl) rfl <| ?_
  refine at_nil ?_
  refine x_tn ?_
  refine at_seq ?_
  refine at_seq ?_
  refine at_region ?_
  refine s1 (y_p rfl) rfl <| s1 ((y_p rfl).v (v' := .bool false) (congrArg Value.bool (decide_eq_false (by omega)))) rfl <| s1 (y_p rfl) rfl <| g1 rfl rfl (y_p rfl) rfl <| g1 rfl rfl ((y_p rfl).v (v' := .bool true) (congrArg Value.bool (decide_eq_true (by omega)))) rfl <| s1 (y_p rfl) rfl <| s1 (y_p rfl) rfl <| g0 rfl rfl rfl rfl <| g0 rfl rfl rfl rfl <| g0 rfl rfl rfl rfl <| g0 rfl rfl rfl rfl <| g0 rfl rfl rfl rfl <| ?_
  refine s1 (y_p rfl) rfl <| ?_
  refine at_nil ?_
  refine x_tn ?_
  refine at_then rfl ?_
  refine at_seq ?_
  refine at_region ?_
  refine s1 (y_p rfl) rfl <| s1 (y_p rfl) rfl <| s1 (y_p rfl) rfl <| ?_
  refine at_nil ?_
  refine x_tn ?_
  refine at_ret ?_
  refine x_tr ?_
  refine at_result (rs := [.tmp 6, .tmp 7, .tmp 8]) rfl (r_tmp rfl (r_tmp rfl (r_tmp rfl (r_nil)))) fun w1 hG1 => ?_
  rw [masks_no (sized_no (by omega))]; exact P3.nil w w1 360 (hG1.below (.head _) (by simp))

theorem rmasks_e0 (w : World) (m : Nat) (at' : Int) (s : SV) (l : List UInt8) (hb : Bytes w s l) (h0 : 1 ≤ m) (h1 : m ≤ 1024) (h : l.length ≠ (m + 7) / 8) : Fn Try.prog 11 #[.int .i64 m, .int .i64 at', s.v] w (fun v w' => P3 w w' v (masks m at' l)) := by
  refine enter Try.func11 rfl Try.ntmps11 (by kernel_rfl) rfl ?_
  refine at_seq ?_
  refine at_region ?_
  refine s1 (y_p rfl) rfl <| s1 (y_p rfl) rfl <| s1 (y_p rfl) rfl <| ?_
  refine at_nil ?_
  refine x_tn ?_
  refine at_seq ?_
  refine at_seq ?_
  refine at_region ?_
  have hn := hb.1
  refine s1 (y_p rfl) rfl <| s1 ((y_p rfl).v (v' := .bool false) (congrArg Value.bool (decide_eq_false (by omega)))) rfl <| s1 (y_p rfl) rfl <| g1 rfl rfl (y_p rfl) rfl <| g1 rfl rfl ((y_p rfl).v (v' := .bool false) (congrArg Value.bool (decide_eq_false (by omega)))) rfl <| s1 (y_p rfl) rfl <| s1 (y_p rfl) rfl <| g1 rfl rfl (y_p rfl) rfl <| g1 rfl rfl (y_len Try.underlying22 rfl rfl) rfl <| g1 rfl rfl (y_p rfl) rfl <| ?_
  refine at_opg rfl rfl rfl (n_call rfl rfl fun w20 hG20 => Fn.mono (rsize_ok w20 m (by omega)) ?_)
  rintro _ w21 ⟨rfl, hB20⟩
  refine at_in (hG20.ext hB20) ?_
  refine g1 rfl rfl ((y_p rfl).v (v' := .bool true) (congrArg Value.bool (bne_iff_ne.2 (by omega)))) rfl <| s1 (y_p rfl) rfl <| ?_
  refine at_nil ?_
  refine x_tn ?_
  refine at_then rfl ?_
  refine at_seq ?_
  refine at_region ?_
  refine s1 (y_p rfl) rfl <| s1 (y_p rfl) rfl <| s1 (y_p rfl) rfl <| ?_
  refine at_nil ?_
  refine x_tn ?_
  refine at_ret ?_
  refine x_tr ?_
  refine at_result (rs := [.tmp 6, .tmp 7, .tmp 8]) rfl (r_tmp rfl (r_tmp rfl (r_tmp rfl (r_nil)))) fun w1 hG1 => ?_
  rw [masks_no (by simp only [sized, decide_eq_false_iff_not]; omega)]; exact P3.nil w w1 360 (hG1.below (.head _) (by simp))

theorem rmasks_e1 (w : World) (m : Nat) (at' : Int) (s : SV) (l : List UInt8) (hb : Bytes w s l) (h0 : 1 ≤ m) (h1 : m ≤ 1024) (hl : l.length = (m + 7) / 8) (h : at' < 0) : Fn Try.prog 11 #[.int .i64 m, .int .i64 at', s.v] w (fun v w' => P3 w w' v (masks m at' l)) := by
  refine enter Try.func11 rfl Try.ntmps11 (by kernel_rfl) rfl ?_
  refine at_seq ?_
  refine at_region ?_
  refine s1 (y_p rfl) rfl <| s1 (y_p rfl) rfl <| s1 (y_p rfl) rfl <| ?_
  refine at_nil ?_
  refine x_tn ?_
  refine at_seq ?_
  refine at_seq ?_
  refine at_region ?_
  have hn := hb.1
  have hsz : sized m l.length = true := by simp only [sized, decide_eq_true_eq]; omega
  refine s1 (y_p rfl) rfl <| s1 ((y_p rfl).v (v' := .bool false) (congrArg Value.bool (decide_eq_false (by omega)))) rfl <| s1 (y_p rfl) rfl <| g1 rfl rfl (y_p rfl) rfl <| g1 rfl rfl ((y_p rfl).v (v' := .bool false) (congrArg Value.bool (decide_eq_false (by omega)))) rfl <| s1 (y_p rfl) rfl <| s1 (y_p rfl) rfl <| g1 rfl rfl (y_p rfl) rfl <| g1 rfl rfl (y_len Try.underlying22 rfl rfl) rfl <| g1 rfl rfl (y_p rfl) rfl <| ?_
  refine at_opg rfl rfl rfl (n_call rfl rfl fun w20 hG20 => Fn.mono (rsize_ok w20 m (by omega)) ?_)
  rintro _ w21 ⟨rfl, hB20⟩
  refine at_in (hG20.ext hB20) ?_
  refine g1 rfl rfl ((y_p rfl).v (v' := .bool false) (congrArg Value.bool (bne_eq_false_iff_eq.2 (by omega)))) rfl <| s1 (y_p rfl) rfl <| ?_
  refine at_nil ?_
  refine x_tn ?_
  refine at_else rfl ?_
  refine at_skip ?_
  refine x_tn ?_
  refine at_seq ?_
  refine at_seq ?_
  refine at_region ?_
  refine s1 (y_p rfl) rfl <| s1 ((y_p rfl).v (v' := .bool true) (congrArg Value.bool (decide_eq_true (by omega)))) rfl <| s1 (y_p rfl) rfl <| g0 rfl rfl rfl rfl <| g0 rfl rfl rfl rfl <| g0 rfl rfl rfl rfl <| s1 (y_p rfl) rfl <| ?_
  refine at_nil ?_
  refine x_tn ?_
  refine at_then rfl ?_
  refine at_seq ?_
  refine at_region ?_
  refine s1 (y_p rfl) rfl <| s1 (y_p rfl) rfl <| s1 (y_p rfl) rfl <| ?_
  refine at_nil ?_
  refine x_tn ?_
  refine at_ret ?_
  refine x_tr ?_
  refine at_result (rs := [.tmp 6, .tmp 7, .tmp 8]) rfl (r_tmp rfl (r_tmp rfl (r_tmp rfl (r_nil)))) fun w1 hG1 => ?_
  rw [masks_arg hsz (by omega)]; exact P3.nil w w1 1 (hG1.below (.head _) (by simp))

theorem rmasks_e2 (w : World) (m : Nat) (at' : Int) (s : SV) (l : List UInt8) (hb : Bytes w s l) (h0 : 1 ≤ m) (h1 : m ≤ 1024) (hl : l.length = (m + 7) / 8) (h2 : 0 ≤ at') (h : m ≤ at') : Fn Try.prog 11 #[.int .i64 m, .int .i64 at', s.v] w (fun v w' => P3 w w' v (masks m at' l)) := by
  refine enter Try.func11 rfl Try.ntmps11 (by kernel_rfl) rfl ?_
  refine at_seq ?_
  refine at_region ?_
  refine s1 (y_p rfl) rfl <| s1 (y_p rfl) rfl <| s1 (y_p rfl) rfl <| ?_
  refine at_nil ?_
  refine x_tn ?_
  refine at_seq ?_
  refine at_seq ?_
  refine at_region ?_
  have hn := hb.1
  have hsz : sized m l.length = true := by simp only [sized, decide_eq_true_eq]; omega
  refine s1 (y_p rfl) rfl <| s1 ((y_p rfl).v (v' := .bool false) (congrArg Value.bool (decide_eq_false (by omega)))) rfl <| s1 (y_p rfl) rfl <| g1 rfl rfl (y_p rfl) rfl <| g1 rfl rfl ((y_p rfl).v (v' := .bool false) (congrArg Value.bool (decide_eq_false (by omega)))) rfl <| s1 (y_p rfl) rfl <| s1 (y_p rfl) rfl <| g1 rfl rfl (y_p rfl) rfl <| g1 rfl rfl (y_len Try.underlying22 rfl rfl) rfl <| g1 rfl rfl (y_p rfl) rfl <| ?_
  refine at_opg rfl rfl rfl (n_call rfl rfl fun w20 hG20 => Fn.mono (rsize_ok w20 m (by omega)) ?_)
  rintro _ w21 ⟨rfl, hB20⟩
  refine at_in (hG20.ext hB20) ?_
  refine g1 rfl rfl ((y_p rfl).v (v' := .bool false) (congrArg Value.bool (bne_eq_false_iff_eq.2 (by omega)))) rfl <| s1 (y_p rfl) rfl <| ?_
  refine at_nil ?_
  refine x_tn ?_
  refine at_else rfl ?_
  refine at_skip ?_
  refine x_tn ?_
  refine at_seq ?_
  refine at_seq ?_
  refine at_region ?_
  refine s1 (y_p rfl) rfl <| s1 ((y_p rfl).v (v' := .bool false) (congrArg Value.bool (decide_eq_false (by omega)))) rfl <| s1 (y_p rfl) rfl <| g1 rfl rfl (y_p rfl) rfl <| g1 rfl rfl (y_p rfl) rfl <| g1 rfl rfl ((y_p rfl).v (v' := .bool true) (congrArg Value.bool (decide_eq_true (by omega)))) rfl <| s1 (y_p rfl) rfl <| ?_
  refine at_nil ?_
  refine x_tn ?_
  refine at_then rfl ?_
  refine at_seq ?_
  refine at_region ?_
  refine s1 (y_p rfl) rfl <| s1 (y_p rfl) rfl <| s1 (y_p rfl) rfl <| ?_
  refine at_nil ?_
  refine x_tn ?_
  refine at_ret ?_
  refine x_tr ?_
  refine at_result (rs := [.tmp 6, .tmp 7, .tmp 8]) rfl (r_tmp rfl (r_tmp rfl (r_tmp rfl (r_nil)))) fun w1 hG1 => ?_
  rw [masks_arg hsz (by omega)]; exact P3.nil w w1 1 (hG1.below (.head _) (by simp))

theorem rmasks_e3 (w : World) (m k : Nat) (s : SV) (l : List UInt8) (hb : Bytes w s l) (h0 : 1 ≤ m) (h1 : m ≤ 1024) (hl : l.length = (m + 7) / 8) (h : k < m) : Fn Try.prog 11 #[.int .i64 m, .int .i64 k, s.v] w (fun v w' => P3 w w' v (masks m k l)) := by
  refine enter Try.func11 rfl Try.ntmps11 (by kernel_rfl) rfl ?_
  refine at_seq ?_
  refine at_region ?_
  refine s1 (y_p rfl) rfl <| s1 (y_p rfl) rfl <| s1 (y_p rfl) rfl <| ?_
  refine at_nil ?_
  refine x_tn ?_
  refine at_seq ?_
  refine at_seq ?_
  refine at_region ?_
  have hn := hb.1
  have hsz : sized m l.length = true := by simp only [sized, decide_eq_true_eq]; omega
  refine s1 (y_p rfl) rfl <| s1 ((y_p rfl).v (v' := .bool false) (congrArg Value.bool (decide_eq_false (by omega)))) rfl <| s1 (y_p rfl) rfl <| g1 rfl rfl (y_p rfl) rfl <| g1 rfl rfl ((y_p rfl).v (v' := .bool false) (congrArg Value.bool (decide_eq_false (by omega)))) rfl <| s1 (y_p rfl) rfl <| s1 (y_p rfl) rfl <| g1 rfl rfl (y_p rfl) rfl <| g1 rfl rfl (y_len Try.underlying22 rfl rfl) rfl <| g1 rfl rfl (y_p rfl) rfl <| ?_
  refine at_opg rfl rfl rfl (n_call rfl rfl fun w20 hG20 => Fn.mono (rsize_ok w20 m (by omega)) ?_)
  rintro _ w21 ⟨rfl, hB20⟩
  refine at_in (hG20.ext hB20) ?_
  refine g1 rfl rfl ((y_p rfl).v (v' := .bool false) (congrArg Value.bool (bne_eq_false_iff_eq.2 (by omega)))) rfl <| s1 (y_p rfl) rfl <| ?_
  refine at_nil ?_
  refine x_tn ?_
  refine at_else rfl ?_
  refine at_skip ?_
  refine x_tn ?_
  refine at_seq ?_
  refine at_seq ?_
  refine at_region ?_
  refine s1 (y_p rfl) rfl <| s1 ((y_p rfl).v (v' := .bool false) (congrArg Value.bool (decide_eq_false (by omega)))) rfl <| s1 (y_p rfl) rfl <| g1 rfl rfl (y_p rfl) rfl <| g1 rfl rfl (y_p rfl) rfl <| g1 rfl rfl ((y_p rfl).v (v' := .bool false) (congrArg Value.bool (decide_eq_false (by omega)))) rfl <| s1 (y_p rfl) rfl <| ?_
  refine at_nil ?_
  refine x_tn ?_
  refine at_else rfl ?_
  refine at_skip ?_
  refine x_tn ?_
  refine at_seq ?_
  refine at_region ?_
  refine s1 (y_p rfl) rfl <| s1 (y_p rfl) rfl <| ?_
  refine at_op rfl (n_call rfl rfl fun w32 hG32 => Fn.mono (rmaskOf_ok w32 m s l (hG32.bytes (.head _) hb trivial) h0 h1 hl) ?_)
  rintro v32 w33 ⟨hF, hB32⟩
  obtain ⟨sa, rfl, hba, hfa⟩ := hF.bytes
  refine at_in (hG32.call hB32) ?_
  refine s1 (y_p rfl) rfl <| ?_
  refine at_nil ?_
  refine x_tn ?_
  refine at_seq ?_
  refine at_region ?_
  refine s1 (y_p rfl) rfl <| s1 (y_p rfl) rfl <| s1 (y_p rfl) rfl <| ?_
  refine at_op rfl (n_call rfl rfl fun w36 hG36 => Fn.mono (rchange_ok w36 sa (cut m l) (hG36.bytes (.head _) hba trivial) k (by rw [len_cut]; omega) (by omega) (by rw [len_cut]; omega)) ?_)
  rintro v36 w37 ⟨hF2, hB36⟩
  obtain ⟨sb, rfl, hbb, hfb⟩ := hF2.bytes
  refine at_in (hG36.call hB36) ?_
  refine s1 (y_p rfl) rfl <| s1 (y_p rfl) rfl <| s1 (y_p rfl) rfl <| ?_
  refine at_nil ?_
  refine x_tn ?_
  refine at_ret ?_
  refine at_result (rs := [.tmp 6, .tmp 7, .tmp 8]) rfl (r_tmp rfl (r_tmp rfl (r_tmp rfl (r_nil)))) fun w1 hG1 => ?_
  rw [masks_yes hsz h]
  have e1 := (hG32.snap w (.head _)).size
  have e2 := (hG36.snap w (.tail _ (.head _))).size
  exact ⟨sa, sb, rfl, hG1.bytes (.tail _ (.head _)) hba trivial, fun h => Nat.le_trans e1 (hfa h), hG1.bytes (.head _) hbb trivial, fun h => Nat.le_trans e2 (hfb h), hG1.below (.tail _ (.tail _ (.head _))) (by simp)⟩

theorem rmasks_ok (w : World) (many at' : Int) (s : SV) (l : List UInt8) (hb : Bytes w s l) : Fn Try.prog 11 #[.int .i64 many, .int .i64 at', s.v] w (fun v w' => P3 w w' v (masks many at' l)) := by
  by_cases h0 : many < 1
  · exact rmasks_lo w many at' s l h0
  · by_cases h1 : 1024 < many
    · exact rmasks_hi w many at' s l h1
    · obtain ⟨m, rfl⟩ := Int.eq_ofNat_of_zero_le (by omega : 0 ≤ many)
      by_cases hl : l.length = (m + 7) / 8
      · by_cases h : at' < 0
        · exact rmasks_e1 w m at' s l hb (by omega) (by omega) hl h
        · by_cases h2 : (m : Int) ≤ at'
          · exact rmasks_e2 w m at' s l hb (by omega) (by omega) hl (by omega) h2
          · obtain ⟨k, rfl⟩ := Int.eq_ofNat_of_zero_le (by omega : 0 ≤ at')
            exact rmasks_e3 w m k s l hb (by omega) (by omega) hl (by omega)
      · exact rmasks_e0 w m at' s l hb (by omega) (by omega) hl

theorem equal_ok (w : World) (a b : SV) (la lb : List UInt8) (ha : Bytes w a la) (hb : Bytes w b lb) : Fn Try.prog 42 #[a.v, b.v] w (fun v w' => v = .bool (la == lb) ∧ RowKit.Below w.heap.size w w') := by
  refine enter Try.func42 rfl Try.ntmps42 (by kernel_rfl) rfl ?_
  refine at_seq ?_
  refine at_region ?_
  refine s1 (y_p rfl) rfl <| ?_
  refine at_nil ?_
  refine x_tn ?_
  refine at_seq ?_
  refine at_seq ?_
  refine at_region ?_
  have hla := ha.1
  have hlb := hb.1
  have hma := Nat.le_trans ha.2.le ha.2.max
  simp only [maxLen] at hma
  refine s1 (y_p rfl) rfl <| s1 (y_len Try.underlying51 rfl rfl) rfl <| s1 (y_p rfl) rfl <| s1 (y_len Try.underlying51 rfl rfl) rfl <| s1 (y_p rfl) rfl <| ?_
  refine at_nil ?_
  refine x_tn ?_
  refine at_cond rfl (fun hc10 => ?_) (fun hc10 => ?_)
  · have hne : la ≠ lb := by have := bne_iff_ne.1 hc10; intro e; subst e; omega
    refine at_seq ?_
    refine at_region ?_
    refine s1 (y_p rfl) rfl <| ?_
    refine at_nil ?_
    refine x_tn ?_
    refine at_ret ?_
    refine x_tr ?_
    refine at_result (rs := [.tmp 4]) rfl (r_tmp rfl (r_nil)) fun w1 hG1 => ⟨?_, (hG1.below (.head _) (by simp))⟩
    rw [show (la == lb) = false from by simpa using hne]; rfl
  · have hlen : la.length = lb.length := by have := bne_eq_false_iff_eq.1 hc10; omega
    refine at_skip ?_
    refine x_tn ?_
    refine at_seq ?_
    refine at_seq ?_
    refine at_region ?_
    refine s1 (y_p rfl) rfl <| s1 (y_len Try.underlying51 rfl rfl) rfl <| s1 (y_p rfl) rfl <| ?_
    refine at_nil ?_
    refine x_tn ?_
    refine at_block ?_
    refine at_loop (ι := Nat) (fun i => [(0, a.v), (1, b.v), (12, .int .i64 (a.n : Int)), (13, .int .i64 (i : Int))]) (fun i => [w]) (fun i => []) (fun i => i ≤ la.length ∧ la.take i = lb.take i) (fun i => la.length - i) ?_ ?_
    · exact at_ex 0 ⟨Nat.zero_le _, rfl⟩ ⟨rfl, rfl, rfl, rfl, trivial⟩ (fun _ h => h)
    rintro i ⟨hi0, heq⟩
    refine at_seq ?_
    refine at_region ?_
    refine s1 (y_p rfl) rfl <| ?_
    refine at_nil ?_
    refine x_tn ?_
    refine at_seq ?_
    refine at_cond rfl (fun hc14 => ?_) (fun hc14 => ?_)
    · have hi : i < la.length := by have := of_decide_eq_true hc14; omega
      refine at_skip ?_
      refine x_tn ?_
      refine at_seq ?_
      refine at_block ?_
      refine at_seq ?_
      refine at_region ?_
      refine s1 (y_p rfl) rfl <| s1 (y_p rfl) rfl <| ?_
      refine at_nil ?_
      refine x_tn ?_
      refine at_seq ?_
      refine at_draw_tail 8 hmix (by kernel_rfl) ?_
      refine t1 (y_p rfl) rfl <| t1 (y_p rfl) rfl <| t1 (y_idx1 i Try.underlying51 ti5 rfl rfl rfl (by omega) (ha.2.addr (by omega))) rfl <| t1 (y_load ti5 rfl (fun w1 hG1 => (hG1.bytes (.head _) ha trivial).at' (getD_get la i (by omega)))) rfl <| t1 (y_p rfl) rfl <| t1 (y_p rfl) rfl <| t1 (y_idx1 i Try.underlying51 ti5 rfl rfl rfl (by omega) (hb.2.addr (by omega))) rfl <| t1 (y_load ti5 rfl (fun w1 hG1 => (hG1.bytes (.head _) hb trivial).at' (getD_get lb i (by omega)))) rfl <| ?_
      refine at_snil ?_
      refine s1 ((y_p rfl).v (v' := .bool (la.getD i 0 != lb.getD i 0)) (congrArg Value.bool (neB _ _))) rfl <| ?_
      refine at_nil ?_
      refine x_tn ?_
      refine at_cond rfl (fun hc24 => ?_) (fun hc24 => ?_)
      · have hne : la ≠ lb := by intro e; subst e; simp at hc24
        refine at_seq ?_
        refine at_region ?_
        refine s1 (y_p rfl) rfl <| ?_
        refine at_nil ?_
        refine x_tn ?_
        refine at_ret ?_
        refine x_br ?_
        refine x_tr ?_
        refine x_tr ?_
        refine x_br ?_
        refine x_tr ?_
        refine at_result (rs := [.tmp 4]) rfl (r_tmp rfl (r_nil)) fun w1 hG1 => ⟨?_, (hG1.below (.head _) (by simp))⟩
        rw [show (la == lb) = false from by simpa using hne]; rfl
      · have hx : la.getD i 0 = lb.getD i 0 := by simpa using hc24
        refine at_skip ?_
        refine x_bn ?_
        refine x_tn ?_
        refine at_region ?_
        refine s1 (addN i 1 rfl rfl rfl rfl (by omega)) rfl <| s1 (y_p rfl) rfl <| ?_
        refine at_nil ?_
        exact at_end (i + 1) ⟨by omega, by rw [take_next la i hi, take_next lb i (by omega), heq, hx]⟩ (by omega) ⟨rfl, rfl, rfl, rfl, trivial⟩ (fun _ h => h)
    · have hi : i = la.length := by have := of_decide_eq_false hc14; omega
      refine at_exit ?_
      refine x_te ?_
      refine x_te ?_
      refine x_be ?_
      refine x_tn ?_
      refine at_seq ?_
      refine at_region ?_
      refine s1 (y_p rfl) rfl <| ?_
      refine at_nil ?_
      refine x_tn ?_
      refine at_ret ?_
      refine at_result (rs := [.tmp 4]) rfl (r_tmp rfl (r_nil)) fun w1 hG1 => ⟨?_, (hG1.below (.head _) (by simp))⟩
      rw [show (la == lb) = true from by rw [hi] at heq; rw [List.take_length, hlen, List.take_length] at heq; simpa using heq]; rfl

theorem masked_no (w : World) (many : Int) (s : SV) (l : List UInt8) (hb : Bytes w s l) (hsz : sized many l.length = false) : Fn Try.prog 33 #[.int .i64 many, s.v] w (fun v w' => v = .bool (masked many l) ∧ RowKit.Below w.heap.size w w') := by
  refine enter Try.func33 rfl Try.ntmps33 (by kernel_rfl) rfl ?_
  refine at_seq ?_
  refine at_region ?_
  refine s1 (y_p rfl) rfl <| ?_
  refine at_nil ?_
  refine x_tn ?_
  refine at_seq ?_
  refine at_region ?_
  refine s1 (y_p rfl) rfl <| s1 (y_p rfl) rfl <| ?_
  refine at_op rfl (n_call rfl rfl fun w7 hG7 => Fn.mono (sized_ok w7 many s) ?_)
  rintro _ w8 ⟨rfl, hB7⟩
  rw [show sized many s.n = false from (by rw [hb.1]; exact hsz)]
  refine at_in (hG7.ext hB7) ?_
  refine s1 (y_p rfl) rfl <| g0 rfl rfl rfl rfl <| g0 rfl rfl rfl rfl <| g0 rfl rfl rfl rfl <| g0 rfl rfl rfl rfl <| g0 rfl rfl rfl rfl <| s1 (y_p rfl) rfl <| s1 (y_p rfl) rfl <| ?_
  refine at_nil ?_
  refine x_tn ?_
  refine at_ret ?_
  refine at_result (rs := [.tmp 4]) rfl (r_tmp rfl (r_nil)) fun w1 hG1 => ⟨?_, (hG1.below (.head _) (by simp))⟩
  rw [masked, hsz]; rfl

theorem masked_yes (w : World) (m : Nat) (s : SV) (l : List UInt8) (hb : Bytes w s l) (hsz : sized m l.length = true) : Fn Try.prog 33 #[.int .i64 m, s.v] w (fun v w' => v = .bool (masked m l) ∧ RowKit.Below w.heap.size w w') := by
  refine enter Try.func33 rfl Try.ntmps33 (by kernel_rfl) rfl ?_
  refine at_seq ?_
  refine at_region ?_
  refine s1 (y_p rfl) rfl <| ?_
  refine at_nil ?_
  refine x_tn ?_
  refine at_seq ?_
  refine at_region ?_
  obtain ⟨m', hm', h1, h2, hl⟩ := sized_spec hsz
  obtain rfl : m = m' := by omega
  refine s1 (y_p rfl) rfl <| s1 (y_p rfl) rfl <| ?_
  refine at_op rfl (n_call rfl rfl fun w7 hG7 => Fn.mono (sized_ok w7 m s) ?_)
  rintro _ w8 ⟨rfl, hB7⟩
  rw [show sized m s.n = true from (by rw [hb.1]; exact hsz)]
  refine at_in (hG7.ext hB7) ?_
  refine s1 (y_p rfl) rfl <| g1 rfl rfl (y_p rfl) rfl <| g1 rfl rfl (y_p rfl) rfl <| g1 rfl rfl (y_p rfl) rfl <| ?_
  refine at_opg rfl rfl rfl (n_call rfl rfl fun w12 hG12 => Fn.mono (maskOf_ok w12 m s l (hG12.bytes (.head _) hb trivial) h1 h2 hl) ?_)
  rintro v12 w13 ⟨hF, hB12⟩
  obtain ⟨sa, rfl, hba, hfa⟩ := hF.bytes
  refine at_in (hG12.call hB12) ?_
  refine at_opg rfl rfl rfl (n_call rfl rfl fun w13 hG13 => Fn.mono (equal_ok w13 s sa l (cut m l) (hG13.bytes (.tail _ (.head _)) hb trivial) (hG13.bytes (.head _) hba trivial)) ?_)
  rintro _ w14 ⟨rfl, hB13⟩
  refine at_in (hG13.ext hB13) ?_
  refine s1 (y_p rfl) rfl <| s1 (y_p rfl) rfl <| ?_
  refine at_nil ?_
  refine x_tn ?_
  refine at_ret ?_
  refine at_result (rs := [.tmp 4]) rfl (r_tmp rfl (r_nil)) fun w1 hG1 => ⟨?_, hG1.below (.tail _ (.head _)) (by simp)⟩
  rw [masked, hsz, Int.toNat_natCast]; rfl

theorem masked_ok (w : World) (many : Int) (s : SV) (l : List UInt8) (hb : Bytes w s l) : Fn Try.prog 33 #[.int .i64 many, s.v] w (fun v w' => v = .bool (masked many l) ∧ RowKit.Below w.heap.size w w') := by
  by_cases hsz : sized many l.length = true
  · obtain ⟨m, rfl, _⟩ := sized_spec hsz
    exact masked_yes w m s l hb hsz
  · exact masked_no w many s l hb (by simpa using hsz)

end Go.Eng.R36
