/-
  Layer 2: walks of the digest functions. Conditions: each theorem says its own.
-/
import Derived.Test.YtpchamaioceahaaDoorD2T5
import Derived.Test.YtpchamaioceahaaDoorD2T4
import Derived.Test.YtpchamaioceahaaDoorD2V
namespace Go.Abs.D2
open Go Go.Eng Go.Abs Go.Proofs 

set_option linter.unusedSimpArgs false in
set_option maxHeartbeats 1000000 in
theorem digsOf_ok (s : List UInt8) : Con Tryd.prog 16 [.fz s.length (s.map u8)] (Ret (dgs (digs s))) := by
  refine enter Tryd.func16 rfl Tryd.ntmps16 (by kernel_rfl) (Nat.le_of_ble_eq_true rfl) fun w0 X0 hI => ?_
  refine at_seq ?_
  refine at_region ?_
  refine s1 (y_p rfl) rfl <| ?_
  refine at_nil ?_
  refine x_tn ?_
  refine at_seq ?_
  refine at_region ?_
  refine at_op rfl (n_bs 5 rfl Tryd.underlying30 ti26 rfl rfl rfl (by first | (simp [cellsA]; done) | (simp [cellsA, *]; done)) rfl rfl rfl rfl ?_)
  refine s1 (y_p rfl) rfl <| ?_
  refine at_nil ?_
  refine x_tn ?_
  refine at_seq ?_
  refine at_seq ?_
  refine at_region ?_
  refine s1 ((y_p rfl).v (v' := .i .i64 0) rfl) rfl <| ?_
  refine at_nil ?_
  refine x_tn ?_
  refine at_block ?_
  refine at_loop (ι := Nat) (fun i => [(0, .fz s.length (s.map u8)), (3, .sl 5 32 0 i), (4, .i .i64 (i : Nat))]) (fun i => ⟨[(5, some ((digsK s i).flatten.map u8))]⟩) (fun i => i ≤ min s.length 24) (fun i => min s.length 24 - i) ?_ ?_
  · exact at_ex (0) (Nat.zero_le _) [(5, some 5)] hI rfl rfl ⟨⟨_, rfl, .pure pu⟩, ⟨_, rfl, .sl rfl (by first | rfl | omega | (simp; done) | (simp [*]; done) | (simp; omega) | (simp [*]; omega) | (simp [D32.len, -List.length_flatten, *]; done) | (simp [D32.len, -List.length_flatten, *]; omega))⟩, ⟨_, rfl, .pure pu⟩, trivial⟩ ⟨.inr ⟨_, _, rfl, rfl, .of (by rfl) (.pure pul)⟩, trivial⟩
  rintro i hi
  refine at_seq ?_
  refine at_seq ?_
  refine at_region ?_
  refine s1 (y_p rfl) rfl <| s1 (y_p rfl) rfl <| s1 (y_len Tryd.underlying22 rfl rfl rfl) rfl <| s1 (y_p rfl) rfl <| s1 (y_p rfl) rfl <| ?_
  refine g_and 2 rfl rfl rfl rfl (fun hb10 => .step (y_p rfl) rfl rfl <| .step (y_p rfl) rfl rfl <| .done) rfl rfl ?_
  refine at_nil ?_
  refine x_tn ?_
  refine at_cond rfl (fun hc13 => ?_) (fun hc13 => ?_)
  · have hi2 : i < s.length ∧ i < 24 := by simp at hc13; omega
    refine at_skip ?_
    refine x_tn ?_
    refine at_seq ?_
    refine at_block ?_
    refine at_region ?_
    refine s1 (y_p rfl) rfl <| s1 (y_p rfl) rfl <| s1 (y_p rfl) rfl <| s1 (y_ixf _ Tryd.underlying22 ti5 rfl rfl rfl (by omega) rfl) rfl <| s1 (y_load ti5 rfl rfl (getB _ (by omega) rfl)) rfl <| s1 (remB _ 4 rfl rfl (by decide)) rfl <| s1 (y_p rfl) rfl <| s1 (quoN _ 8 rfl rfl rfl rfl (by omega) (by omega)) rfl <| s1 (ofN_u8 _ Tryd.underlying3 Tryd.underlying5 rfl rfl) rfl <| s1 ((y_bldP (vs := [_, _]) ti26 rfl (by kernel_rfl) Tryd.underlying26 ti5 rfl rfl (by simp) rfl rfl).v (v' := .ag ((dig1 s i).map u8)) (congrArg A.ag (dig1_cells s i))) rfl <| ?_
    refine at_op rfl (n_bs 26 rfl Tryd.underlying30 ti26 rfl rfl rfl (by first | (simp [cellsA]; done) | (simp [cellsA, *]; done)) (List.append_nil ((dig1 s i).map u8)) rfl rfl rfl ?_)
    refine at_op rfl (n_app 27 rfl Tryd.underlying30 ti26 rfl (.sl rfl (by rw [List.length_map, (D32_digsK s i).len, len_digsK])) rfl (SM_full rfl (by first | rfl | omega | (simp; done) | (simp [*]; done) | (simp; omega) | (simp [*]; omega) | (simp [D32.len, -List.length_flatten, *]; done) | (simp [D32.len, -List.length_flatten, *]; omega))) (by simp) (by simp only [maxLen]; omega) (by omega) rfl rfl rfl ?_)
    refine s1 (y_p rfl) rfl <| ?_
    refine at_nil ?_
    refine x_bn ?_
    refine x_tn ?_
    refine at_region ?_
    refine s1 (y_p rfl) rfl <| s1 (addN _ 1 rfl rfl rfl rfl (by omega)) rfl <| s1 (y_p rfl) rfl <| ?_
    refine at_nil ?_
    exact at_end (i + 1) (by omega) (by omega) [(5, some 27)] hI rfl rfl ⟨⟨_, rfl, .pure pu⟩, ⟨_, rfl, .sl rfl (by first | rfl | omega | (simp; done) | (simp [*]; done) | (simp; omega) | (simp [*]; omega) | (simp [D32.len, -List.length_flatten, *]; done) | (simp [D32.len, -List.length_flatten, *]; omega))⟩, ⟨_, rfl, .pure pu⟩, trivial⟩ ⟨.inr ⟨_, _, rfl, rfl, .of (flat_succ s i) (.pure pul)⟩, trivial⟩
  · have hi2 : i = min s.length 24 := by simp at hc13; omega
    subst hi2
    refine at_exit ?_
    refine x_te ?_
    refine x_te ?_
    refine x_be ?_
    refine x_tn ?_
    refine at_seq ?_
    refine at_region ?_
    refine s1 (y_p rfl) rfl <| s1 (y_p rfl) rfl <| ?_
    refine at_nil ?_
    refine x_tn ?_
    refine at_ret ?_
    refine at_frz 2 rfl rfl pul (view_eq (by rw [List.length_map, (D32_digsK s _).len, len_digsK]) rfl) ?_
    refine at_result (rs := [.tmp 2]) rfl (r_tmp rfl r_nil) ?_
    show A.fz _ _ = dgs (digsK s _)
    rw [dgs, len_digsK]

set_option linter.unusedSimpArgs false in
set_option maxHeartbeats 1000000 in
theorem same_ok (L M : List (List UInt8)) (hL : D32 L) (hM : D32 M) : Con Tryd.prog 21 [dgs L, dgs M] (Ret (.b (L == M))) := by
  refine enter Tryd.func21 rfl Tryd.ntmps21 (by kernel_rfl) (Nat.le_of_ble_eq_true rfl) fun w0 X0 hI => ?_
  refine at_seq ?_
  refine at_max 0 rfl fun hmx => ?_
  simp only [maxLen] at hmx
  refine at_region ?_
  refine s1 (y_p rfl) rfl <| ?_
  refine at_nil ?_
  refine x_tn ?_
  refine at_seq ?_
  refine at_seq ?_
  refine at_region ?_
  refine s1 (y_p rfl) rfl <| s1 (y_len Tryd.underlying30 rfl rfl rfl) rfl <| s1 (y_p rfl) rfl <| s1 (y_len Tryd.underlying30 rfl rfl rfl) rfl <| s1 (y_p rfl) rfl <| ?_
  refine at_nil ?_
  refine x_tn ?_
  refine at_cond rfl (fun hc10 => ?_) (fun hc10 => ?_)
  · have h10 : L.length ≠ M.length := by have := bne_iff_ne.1 hc10; omega
    refine at_seq ?_
    refine at_region ?_
    refine s1 (y_p rfl) rfl <| ?_
    refine at_nil ?_
    refine x_tn ?_
    refine at_ret ?_
    refine x_tr ?_
    refine at_result (rs := [.tmp 4]) rfl (r_tmp rfl r_nil) ?_
    exact congrArg A.b (by rw [eq_comm, beq_eq_false_iff_ne]; exact fun h => h10 (congrArg List.length h))
  · have h10 : L.length = M.length := by have := bne_eq_false_iff_eq.1 hc10; omega
    refine at_skip ?_
    refine x_tn ?_
    refine at_seq ?_
    refine at_seq ?_
    refine at_region ?_
    refine s1 ((y_p rfl).v (v' := .i .i64 0) rfl) rfl <| ?_
    refine at_nil ?_
    refine x_tn ?_
    refine at_block ?_
    refine at_loop (ι := Nat) (fun j => [(0, dgs L), (1, dgs M), (5, .i .i64 (j : Nat))]) (fun j => ⟨[]⟩) (fun j => j ≤ L.length ∧ L.take j = M.take j) (fun j => L.length - j) ?_ ?_
    · exact at_ex (0) (⟨Nat.zero_le _, rfl⟩) [] hI rfl rfl ⟨⟨_, rfl, .pure pu⟩, ⟨_, rfl, .pure pu⟩, ⟨_, rfl, .pure pu⟩, trivial⟩ trivial
    rintro j ⟨hj, ht⟩
    refine at_seq ?_
    refine at_seq ?_
    refine at_region ?_
    refine s1 (y_p rfl) rfl <| s1 (y_p rfl) rfl <| s1 (y_len Tryd.underlying30 rfl rfl rfl) rfl <| s1 (y_p rfl) rfl <| ?_
    refine at_nil ?_
    refine x_tn ?_
    refine at_cond rfl (fun hc14 => ?_) (fun hc14 => ?_)
    · have hj2 : j < L.length := by have := of_decide_eq_true hc14; omega
      obtain ⟨q, hq⟩ : ∃ q, L[j]? = some q := ⟨_, List.getElem?_eq_getElem hj2⟩
      obtain ⟨r, hr⟩ : ∃ r, M[j]? = some r := ⟨_, List.getElem?_eq_getElem (by omega)⟩
      have hq32 := hL q (List.mem_of_getElem? hq)
      have hr32 := hM r (List.mem_of_getElem? hr)
      refine at_skip ?_
      refine x_tn ?_
      refine at_seq ?_
      refine at_block ?_
      refine at_seq ?_
      refine at_draw_tail 8 hmix (by kernel_rfl) ?_
      refine t1 (y_p rfl) rfl <| t1 (y_p rfl) rfl <| t1 (y_ixf _ Tryd.underlying30 ti26 rfl rfl rfl (by omega) rfl) rfl <| t1 (y_loadA ti26 rfl rfl (get_d hL hq) (by simp [hq32])) rfl <| t1 (y_p rfl) rfl <| t1 (y_p rfl) rfl <| t1 (y_ixf _ Tryd.underlying30 ti26 rfl rfl rfl (by omega) rfl) rfl <| t1 (y_loadA ti26 rfl rfl (get_d hM hr) (by simp [hr32])) rfl <| ?_
      refine at_snil ?_
      refine s1 (y_aqn Tryd.underlying26 Tryd.underlying5 ti5 (by kernel_rfl) rfl rfl (by first | assumption | (simp; done) | (simp [*]; done)) (by first | assumption | (simp; done) | (simp [*]; done))) rfl <| ?_
      refine at_nil ?_
      refine x_tn ?_
      refine at_cond rfl (fun hc25 => ?_) (fun hc25 => ?_)
      · skip
        refine at_seq ?_
        refine at_region ?_
        refine s1 (y_p rfl) rfl <| ?_
        refine at_nil ?_
        refine x_tn ?_
        refine at_ret ?_
        refine x_br ?_
        refine x_tr ?_
        refine x_tr ?_
        refine x_br ?_
        refine x_tr ?_
        refine at_result (rs := [.tmp 4]) rfl (r_tmp rfl r_nil) ?_
        refine congrArg A.b ?_
        rw [eq_comm, beq_eq_false_iff_ne]
        rintro rfl
        rw [hq] at hr
        cases hr
        simp at hc25
      · have hqr : q = r := by simpa using hc25
        refine at_skip ?_
        refine x_bn ?_
        refine x_tn ?_
        refine at_region ?_
        refine s1 (y_p rfl) rfl <| s1 (addN _ 1 rfl rfl rfl rfl (by omega)) rfl <| s1 (y_p rfl) rfl <| ?_
        refine at_nil ?_
        exact at_end (j + 1) (⟨by omega, by rw [List.take_add_one, List.take_add_one, ht, hq, hr, hqr]⟩) (by omega) [] hI rfl rfl ⟨⟨_, rfl, .pure pu⟩, ⟨_, rfl, .pure pu⟩, ⟨_, rfl, .pure pu⟩, trivial⟩ trivial
    · have hj2 : j = L.length := by have := of_decide_eq_false hc14; omega
      subst hj2
      rw [List.take_length, h10, List.take_length] at ht
      refine at_exit ?_
      refine x_te ?_
      refine x_te ?_
      refine x_be ?_
      refine x_tn ?_
      refine at_seq ?_
      refine at_region ?_
      refine s1 (y_p rfl) rfl <| ?_
      refine at_nil ?_
      refine x_tn ?_
      refine at_ret ?_
      refine at_result (rs := [.tmp 4]) rfl (r_tmp rfl r_nil) ?_
      exact congrArg A.b (by rw [ht]; simp)

theorem pathN_ok (L : List (List UInt8)) (a : Int) (hD : D32 L) (hl : L.length ≤ 1048576) : Con Tryd.prog 19 [dgs L, .i .i64 a] (Ret (.tu [dgs (pathN L a), .i .i64 (pathE L a)])) := (pathI_ok L a hD hl).weak fun _ _ _ _ h => V_pathA L a h
theorem rpathN_ok (L : List (List UInt8)) (a : Int) (hD : D32 L) (hl : L.length ≤ 1048576) : Con Tryd.prog 20 [dgs L, .i .i64 a] (Ret (.tu [dgs (pathN L a), .i .i64 (pathE L a)])) := (rpathI_ok L a hD hl).weak fun _ _ _ _ h => V_pathA L a h
theorem climbD_ok (d : List UInt8) (hd : d.length = 32) (a nn : Int) (P : List (List UInt8)) (hD : D32 P) : Con Tryd.prog 22 [.ag (d.map u8), .i .i64 a, .i .i64 nn, dgs P] (Ret (.tu [.ag ((climbD d a nn P).map u8), .i .i64 (climbE a nn P.length)])) := climbA_eq d a nn P ▸ climbI_ok d hd a nn P hD
theorem rclimbD_ok (d : List UInt8) (hd : d.length = 32) (a nn : Int) (P : List (List UInt8)) (hD : D32 P) : Con Tryd.prog 23 [.ag (d.map u8), .i .i64 a, .i .i64 nn, dgs P] (Ret (.tu [.ag ((climbD d a nn P).map u8), .i .i64 (climbE a nn P.length)])) := climbA_eq d a nn P ▸ rclimbI_ok d hd a nn P hD

end Go.Abs.D2
