/-
  Layer 2: walks of the digest functions. Conditions: each theorem says its own.
-/
import Derived.Test.YtpchamaioceahaaDoorD2L2
namespace Go.Abs.D2
open Go Go.Eng Go.Abs Go.Proofs 

set_option linter.unusedSimpArgs false in
set_option maxHeartbeats 1000000 in
theorem law_places (s : List UInt8) (a nn : Int) : Con Tryd.prog 9 [.fz s.length (s.map u8), .i .i64 a, .i .i64 nn] (Ret (.b true)) := by
  refine enter Tryd.func9 rfl Tryd.ntmps9 (by kernel_rfl) (Nat.le_of_ble_eq_true rfl) fun w0 X0 hI => ?_
  refine at_seq ?_
  refine at_region ?_
  refine s1 (y_p rfl) rfl <| ?_
  refine at_nil ?_
  refine x_tn ?_
  refine at_seq ?_
  refine at_seq ?_
  refine at_region ?_
  refine at_op rfl (n_call false rfl (.nil) (sane_ok) pu (.inl rfl) rfl ?_)
  refine s1 (y_p rfl) rfl <| ?_
  refine at_nil ?_
  refine x_tn ?_
  refine at_else rfl ?_
  refine at_skip ?_
  refine x_tn ?_
  refine at_seq ?_
  refine at_region ?_
  refine s1 (y_p rfl) rfl <| ?_
  refine at_op rfl (n_call false rfl (.cons (.pure pu) (.nil)) (digsOf_ok s) pu (.inl rfl) rfl ?_)
  refine s1 (y_p rfl) rfl <| ?_
  refine at_nil ?_
  refine x_tn ?_
  refine at_seq ?_
  refine at_region ?_
  refine s1 (y_p rfl) rfl <| s1 (y_p rfl) rfl <| ?_
  refine at_op rfl (n_call false rfl (.cons (.pure pu) (.cons (.pure pu) (.nil))) (pathN_ok (digs s) a (D32_digs s) (by have := len_digs s; omega)) pu (.inl rfl) rfl ?_)
  refine s1 (y_p rfl) rfl <| s1 (y_p rfl) rfl <| s1 (y_p rfl) rfl <| s1 (y_p rfl) rfl <| s1 (y_p rfl) rfl <| ?_
  refine at_nil ?_
  refine x_tn ?_
  refine at_seq ?_
  refine at_seq ?_
  refine at_region ?_
  refine s1 (y_p rfl) rfl <| s1 (y_p rfl) rfl <| s1 (y_p rfl) rfl <| ?_
  refine g_or 4 rfl rfl rfl rfl (fun hb27 => .step (y_p rfl) rfl rfl <| .step (y_p rfl) rfl rfl <| .step (y_len Tryd.underlying30 rfl rfl rfl) rfl rfl <| .step (y_p rfl) rfl rfl <| .done) rfl rfl ?_
  refine at_nil ?_
  refine x_tn ?_
  refine at_cond rfl (fun hc32 => ?_) (fun hc32 => ?_)
  · have h32 : ¬ (0 ≤ a ∧ a < (digs s).length) := by simp at hc32; omega
    refine at_seq ?_
    refine at_region ?_
    refine s1 (y_p rfl) rfl <| s1 ((y_p rfl).v (v' := .b true) (congrArg A.b (by rw [pathE, if_neg h32]; rfl))) rfl <| s1 (y_p rfl) rfl <| g1 rfl rfl (y_p rfl) rfl <| g1 rfl rfl (y_len Tryd.underlying30 rfl rfl rfl) rfl <| g1 rfl rfl ((y_p rfl).v (v' := .b true) (congrArg A.b (by rw [pathN, if_neg h32]; rfl))) rfl <| s1 (y_p rfl) rfl <| s1 (y_p rfl) rfl <| ?_
    refine at_nil ?_
    refine x_tn ?_
    refine at_ret ?_
    refine x_tr ?_
    refine at_result (rs := [.tmp 6]) rfl (r_tmp rfl r_nil) rfl
  · have h32 : 0 ≤ a ∧ a < (digs s).length := by simp at hc32; omega
    have h24 := len_digs s
    obtain ⟨i, rfl⟩ : ∃ i : Nat, a = (i : Int) := ⟨a.toNat, by omega⟩
    have hi : i < (digs s).length := by omega
    obtain ⟨q, hq⟩ : ∃ q, (digs s)[i]? = some q := ⟨_, List.getElem?_eq_getElem hi⟩
    have hq32 := D32_digs s q (List.mem_of_getElem? hq)
    have hpr := rights_path _ (digs s) i (Nat.le_refl _)
    have hDP := D32_path _ (digs s) i (Nat.le_refl _)
    refine at_say 8 rfl (v' := dgs (path (digs s) i)) (congrArg dgs (pathN_nat hi).1) ?_
    refine at_say 9 rfl (v' := .i .i64 0) (congrArg (A.i .i64) (pathN_nat hi).2) ?_
    refine at_skip ?_
    refine x_tn ?_
    refine at_seq ?_
    refine at_seq ?_
    refine at_region ?_
    refine s1 (y_p rfl) rfl <| s1 ((y_p rfl).v (v' := .b false) (rfl)) rfl <| s1 (y_p rfl) rfl <| g1 rfl rfl (y_p rfl) rfl <| g1 rfl rfl (y_len Tryd.underlying30 rfl rfl rfl) rfl <| g1 rfl rfl (y_p rfl) rfl <| g1 rfl rfl (y_p rfl) rfl <| g1 rfl rfl (y_len Tryd.underlying30 rfl rfl rfl) rfl <| ?_
    refine at_opg rfl rfl rfl (n_call false rfl (.cons (.pure pu) (.cons (.pure pu) (.nil))) (steps_ok i (digs s).length (by omega) hi (by omega)) pu (.inl rfl) rfl ?_)
    refine g1 rfl rfl ((y_p rfl).v (v' := .b false) (congrArg A.b (by rw [hpr]; simp))) rfl <| s1 (y_p rfl) rfl <| ?_
    refine at_nil ?_
    refine x_tn ?_
    refine at_else rfl ?_
    refine at_skip ?_
    refine x_tn ?_
    refine at_seq ?_
    refine at_seq ?_
    refine at_region ?_
    refine s1 (y_p rfl) rfl <| s1 (y_p rfl) rfl <| s1 (y_bits rfl rfl (.inl rfl)) rfl <| s1 (y_p rfl) rfl <| s1 (y_len Tryd.underlying30 rfl rfl rfl) rfl <| s1 (addN (digs s).length 1 rfl rfl rfl rfl (by omega)) rfl <| s1 (y_p rfl) rfl <| s1 (y_len Tryd.underlying30 rfl rfl rfl) rfl <| s1 (mulN 2 (digs s).length rfl rfl rfl rfl (by omega)) rfl <| ?_
    refine at_op rfl (n_bs1 60 rfl Tryd.underlying33 ti3 rfl rfl rfl rfl rfl ?_)
    refine s1 (y_len Tryd.underlying33 rfl rfl rfl) rfl <| s1 ((y_p rfl).v (v' := .i .i64 0) rfl) rfl <| ?_
    refine at_nil ?_
    refine x_tn ?_
    refine at_block ?_
    refine at_loop (ι := Nat) (fun j => [(1, .i .i64 (i : Nat)), (7, dgs (digs s)), (8, dgs (path (digs s) i)), (60, .sl 60 1 0 4), (61, .i .i64 (4 : Nat)), (62, .i .i64 (j : Nat))]) (fun j => ⟨[(60, some ([nn, ibits .and .i64 nn 31, (((digs s).length + 1 : Nat) : Int), ((2 * (digs s).length : Nat) : Int)].map (A.i .i64)))]⟩) (fun j => True) (fun j => 4 - j) ?_ ?_
    · exact at_ex (0) (trivial) [(60, some 60)] hI rfl rfl ⟨⟨_, rfl, .pure pu⟩, ⟨_, rfl, .pure pu⟩, ⟨_, rfl, .pure pu⟩, ⟨_, rfl, .sl rfl (by first | rfl | omega | (simp; done) | (simp [*]; done) | (simp; omega) | (simp [*]; omega) | (simp [D32.len, -List.length_flatten, *]; done) | (simp [D32.len, -List.length_flatten, *]; omega))⟩, ⟨_, rfl, .pure pu⟩, ⟨_, rfl, .pure pu⟩, trivial⟩ ⟨.inr ⟨_, _, rfl, rfl, .pure pul⟩, trivial⟩
    rintro j -
    refine at_seq ?_
    refine at_region ?_
    refine s1 (y_p rfl) rfl <| ?_
    refine at_nil ?_
    refine x_tn ?_
    refine at_seq ?_
    refine at_cond rfl (fun hc63 => ?_) (fun hc63 => ?_)
    · have hj : j < 4 := by have := of_decide_eq_true hc63; omega
      obtain ⟨z, hz⟩ : ∃ z, [nn, ibits .and .i64 nn 31, (((digs s).length + 1 : Nat) : Int), ((2 * (digs s).length : Nat) : Int)][j]? = some z := ⟨_, List.getElem?_eq_getElem (by simpa using hj)⟩
      refine at_skip ?_
      refine x_tn ?_
      refine at_seq ?_
      refine at_block ?_
      refine at_seq ?_
      refine at_region ?_
      refine s1 (y_ixs _ Tryd.underlying33 ti3 rfl rfl rfl rfl (by omega) rfl) rfl <| s1 (y_load ti3 rfl rfl (getZ hz)) rfl <| s1 (y_p rfl) rfl <| ?_
      refine at_nil ?_
      refine x_tn ?_
      refine at_seq ?_
      refine at_region ?_
      refine s1 (y_p rfl) rfl <| s1 (y_p rfl) rfl <| s1 (y_p rfl) rfl <| s1 (y_p rfl) rfl <| ?_
      refine g_and 2 rfl rfl rfl rfl (fun hb69 => .step (y_p rfl) rfl rfl <| .step (y_p rfl) rfl rfl <| .done) rfl rfl ?_
      refine at_bc 72 rfl (fun hc72 => ?_) (fun hc72 => ?_)
      · have h72 : (i : Int) < z ∧ z ≤ 1099511627776 := by simp at hc72; omega
        obtain ⟨n, rfl⟩ : ∃ n : Nat, z = (n : Int) := ⟨z.toNat, by omega⟩
        refine s1 (y_p rfl) rfl <| g1 rfl rfl (y_p rfl) rfl <| g1 rfl rfl (y_p rfl) rfl <| ?_
        refine at_opg rfl rfl rfl (n_call false rfl (.cons (.pure pu) (.cons (.pure pu) (.nil))) (steps_ok i n (by omega) (by omega) (by omega)) pu (.inl rfl) rfl ?_)
        refine g1 rfl rfl (y_p rfl) rfl <| g1 rfl rfl (y_len Tryd.underlying30 rfl rfl rfl) rfl <| g1 rfl rfl (y_p rfl) rfl <| ?_
        refine at_bc 79 rfl (fun hc79 => ?_) (fun hc79 => ?_)
        · have h79 : (rights i n).length = (path (digs s) i).length := by have := eq_of_beq hc79; omega
          have hce : climbE (i : Int) (n : Int) (path (digs s) i).length = 0 := if_pos (fits_nat (by omega) (by omega) h79.symm)
          refine s1 (y_p rfl) rfl <| s1 (y_p rfl) rfl <| ?_
          refine at_nil ?_
          refine x_tn ?_
          refine at_seq ?_
          refine at_region ?_
          refine s1 (y_p rfl) rfl <| s1 (y_p rfl) rfl <| s1 (y_ixf i Tryd.underlying30 ti26 rfl rfl rfl hi rfl) rfl <| s1 (y_loadA ti26 rfl rfl (get_d (D32_digs s) hq) (by simp [hq32])) rfl <| s1 (y_p rfl) rfl <| s1 (y_p rfl) rfl <| s1 (y_p rfl) rfl <| ?_
          refine at_op rfl (n_call false rfl (.cons (.pure pu) (.cons (.pure pu) (.cons (.pure pu) (.cons (.pure pu) (.nil))))) (Con.cast (climbD_ok q hq32 (i : Int) (n : Int) (path (digs s) i) hDP) (by rw [hce])) pu (.inl rfl) rfl ?_)
          refine s1 (y_p rfl) rfl <| s1 (y_p rfl) rfl <| s1 (y_p rfl) rfl <| ?_
          refine at_op rfl (n_alloc 13 rfl ti26 rfl rfl ?_)
          refine at_op rfl (n_storeA ti26 rfl rfl rfl (by first | rfl | omega | (simp; done) | (simp [*]; done) | (simp; omega) | (simp [*]; omega) | (simp [D32.len, -List.length_flatten, *]; done) | (simp [D32.len, -List.length_flatten, *]; omega)) (by first | rfl | omega | (simp; done) | (simp [*]; done) | (simp; omega) | (simp [*]; omega) | (simp [D32.len, -List.length_flatten, *]; done) | (simp [D32.len, -List.length_flatten, *]; omega)) ?_)
          refine s1 (y_p rfl) rfl <| ?_
          refine at_nil ?_
          refine x_tn ?_
          refine at_seq ?_
          refine at_region ?_
          refine s1 (y_p rfl) rfl <| s1 (y_p rfl) rfl <| s1 ((y_p rfl).v (v' := .b true) (rfl)) rfl <| s1 ((y_neb Tryd.underlying4 rfl rfl).v (v' := .b false) (rfl)) rfl <| s1 (y_p rfl) rfl <| g1 rfl rfl (y_p rfl) rfl <| g1 rfl rfl (y_p rfl) rfl <| g1 rfl rfl (y_p rfl) rfl <| g0 rfl rfl rfl rfl <| g0 rfl rfl rfl rfl <| ?_
          refine g1 rfl rfl (y_p rfl) rfl <| s1 (y_p rfl) rfl <| ?_
          refine at_nil ?_
          refine x_tn ?_
          refine at_else rfl ?_
          refine at_skip ?_
          refine x_bn ?_
          refine x_tn ?_
          refine at_region ?_
          refine s1 (addN _ 1 rfl rfl rfl rfl (by omega)) rfl <| s1 (y_p rfl) rfl <| ?_
          refine at_nil ?_
          exact at_end (j + 1) (trivial) (by omega) [(60, some 60)] hI rfl rfl ⟨⟨_, rfl, .pure pu⟩, ⟨_, rfl, .pure pu⟩, ⟨_, rfl, .pure pu⟩, ⟨_, rfl, .sl rfl (by first | rfl | omega | (simp; done) | (simp [*]; done) | (simp; omega) | (simp [*]; omega) | (simp [D32.len, -List.length_flatten, *]; done) | (simp [D32.len, -List.length_flatten, *]; omega))⟩, ⟨_, rfl, .pure pu⟩, ⟨_, rfl, .pure pu⟩, trivial⟩ ⟨.inr ⟨_, _, rfl, rfl, .pure pul⟩, trivial⟩
        · have h79 : ¬ (path (digs s) i).length = (rights i n).length := fun e => by rw [e] at hc79; simp at hc79
          have hce : climbE (i : Int) (n : Int) (path (digs s) i).length = 1 := if_neg fun h => h79 (by have := h.2.2.2.2; rwa [Int.toNat_natCast, Int.toNat_natCast] at this)
          refine s1 (y_p rfl) rfl <| s1 (y_p rfl) rfl <| ?_
          refine at_nil ?_
          refine x_tn ?_
          refine at_seq ?_
          refine at_region ?_
          refine s1 (y_p rfl) rfl <| s1 (y_p rfl) rfl <| s1 (y_ixf i Tryd.underlying30 ti26 rfl rfl rfl hi rfl) rfl <| s1 (y_loadA ti26 rfl rfl (get_d (D32_digs s) hq) (by simp [hq32])) rfl <| s1 (y_p rfl) rfl <| s1 (y_p rfl) rfl <| s1 (y_p rfl) rfl <| ?_
          refine at_op rfl (n_call false rfl (.cons (.pure pu) (.cons (.pure pu) (.cons (.pure pu) (.cons (.pure pu) (.nil))))) (Con.cast (climbD_ok q hq32 (i : Int) (n : Int) (path (digs s) i) hDP) (by rw [hce])) pu (.inl rfl) rfl ?_)
          refine s1 (y_p rfl) rfl <| s1 (y_p rfl) rfl <| s1 (y_p rfl) rfl <| ?_
          refine at_op rfl (n_alloc 13 rfl ti26 rfl rfl ?_)
          refine at_op rfl (n_storeA ti26 rfl rfl rfl (by first | rfl | omega | (simp; done) | (simp [*]; done) | (simp; omega) | (simp [*]; omega) | (simp [D32.len, -List.length_flatten, *]; done) | (simp [D32.len, -List.length_flatten, *]; omega)) (by first | rfl | omega | (simp; done) | (simp [*]; done) | (simp; omega) | (simp [*]; omega) | (simp [D32.len, -List.length_flatten, *]; done) | (simp [D32.len, -List.length_flatten, *]; omega)) ?_)
          refine s1 (y_p rfl) rfl <| ?_
          refine at_nil ?_
          refine x_tn ?_
          refine at_seq ?_
          refine at_region ?_
          refine s1 (y_p rfl) rfl <| s1 (y_p rfl) rfl <| s1 ((y_p rfl).v (v' := .b false) (rfl)) rfl <| s1 ((y_neb Tryd.underlying4 rfl rfl).v (v' := .b false) (rfl)) rfl <| s1 (y_p rfl) rfl <| g1 rfl rfl (y_p rfl) rfl <| g1 rfl rfl (y_p rfl) rfl <| g1 rfl rfl (y_p rfl) rfl <| g1 rfl rfl (y_p rfl) rfl <| g1 rfl rfl ((y_p rfl).v (v' := .b false) (rfl)) rfl <| ?_
          refine g1 rfl rfl (y_p rfl) rfl <| s1 (y_p rfl) rfl <| ?_
          refine at_nil ?_
          refine x_tn ?_
          refine at_else rfl ?_
          refine at_skip ?_
          refine x_bn ?_
          refine x_tn ?_
          refine at_region ?_
          refine s1 (addN _ 1 rfl rfl rfl rfl (by omega)) rfl <| s1 (y_p rfl) rfl <| ?_
          refine at_nil ?_
          exact at_end (j + 1) (trivial) (by omega) [(60, some 60)] hI rfl rfl ⟨⟨_, rfl, .pure pu⟩, ⟨_, rfl, .pure pu⟩, ⟨_, rfl, .pure pu⟩, ⟨_, rfl, .sl rfl (by first | rfl | omega | (simp; done) | (simp [*]; done) | (simp; omega) | (simp [*]; omega) | (simp [D32.len, -List.length_flatten, *]; done) | (simp [D32.len, -List.length_flatten, *]; omega))⟩, ⟨_, rfl, .pure pu⟩, ⟨_, rfl, .pure pu⟩, trivial⟩ ⟨.inr ⟨_, _, rfl, rfl, .pure pul⟩, trivial⟩
      · have h72 : ¬ ((i : Int) < z ∧ z ≤ 1099511627776) := by simp at hc72; omega
        have hce : climbE (i : Int) z (path (digs s) i).length = 1 := if_neg fun h => h72 ⟨h.2.2.2.1, h.2.1⟩
        refine s1 (y_p rfl) rfl <| g0 rfl rfl rfl rfl <| g0 rfl rfl rfl rfl <| g0 rfl rfl rfl rfl <| g0 rfl rfl rfl rfl <| g0 rfl rfl rfl rfl <| g0 rfl rfl rfl rfl <| s1 (y_p rfl) rfl <| s1 (y_p rfl) rfl <| ?_
        refine at_nil ?_
        refine x_tn ?_
        refine at_seq ?_
        refine at_region ?_
        refine s1 (y_p rfl) rfl <| s1 (y_p rfl) rfl <| s1 (y_ixf i Tryd.underlying30 ti26 rfl rfl rfl hi rfl) rfl <| s1 (y_loadA ti26 rfl rfl (get_d (D32_digs s) hq) (by simp [hq32])) rfl <| s1 (y_p rfl) rfl <| s1 (y_p rfl) rfl <| s1 (y_p rfl) rfl <| ?_
        refine at_op rfl (n_call false rfl (.cons (.pure pu) (.cons (.pure pu) (.cons (.pure pu) (.cons (.pure pu) (.nil))))) (Con.cast (climbD_ok q hq32 (i : Int) z (path (digs s) i) hDP) (by rw [hce])) pu (.inl rfl) rfl ?_)
        refine s1 (y_p rfl) rfl <| s1 (y_p rfl) rfl <| s1 (y_p rfl) rfl <| ?_
        refine at_op rfl (n_alloc 13 rfl ti26 rfl rfl ?_)
        refine at_op rfl (n_storeA ti26 rfl rfl rfl (by first | rfl | omega | (simp; done) | (simp [*]; done) | (simp; omega) | (simp [*]; omega) | (simp [D32.len, -List.length_flatten, *]; done) | (simp [D32.len, -List.length_flatten, *]; omega)) (by first | rfl | omega | (simp; done) | (simp [*]; done) | (simp; omega) | (simp [*]; omega) | (simp [D32.len, -List.length_flatten, *]; done) | (simp [D32.len, -List.length_flatten, *]; omega)) ?_)
        refine s1 (y_p rfl) rfl <| ?_
        refine at_nil ?_
        refine x_tn ?_
        refine at_seq ?_
        refine at_region ?_
        refine s1 (y_p rfl) rfl <| s1 (y_p rfl) rfl <| s1 ((y_p rfl).v (v' := .b false) (rfl)) rfl <| s1 ((y_neb Tryd.underlying4 rfl rfl).v (v' := .b false) (rfl)) rfl <| s1 (y_p rfl) rfl <| g1 rfl rfl (y_p rfl) rfl <| g1 rfl rfl (y_p rfl) rfl <| g1 rfl rfl (y_p rfl) rfl <| g1 rfl rfl (y_p rfl) rfl <| g1 rfl rfl ((y_p rfl).v (v' := .b false) (rfl)) rfl <| ?_
        refine g1 rfl rfl (y_p rfl) rfl <| s1 (y_p rfl) rfl <| ?_
        refine at_nil ?_
        refine x_tn ?_
        refine at_else rfl ?_
        refine at_skip ?_
        refine x_bn ?_
        refine x_tn ?_
        refine at_region ?_
        refine s1 (addN _ 1 rfl rfl rfl rfl (by omega)) rfl <| s1 (y_p rfl) rfl <| ?_
        refine at_nil ?_
        exact at_end (j + 1) (trivial) (by omega) [(60, some 60)] hI rfl rfl ⟨⟨_, rfl, .pure pu⟩, ⟨_, rfl, .pure pu⟩, ⟨_, rfl, .pure pu⟩, ⟨_, rfl, .sl rfl (by first | rfl | omega | (simp; done) | (simp [*]; done) | (simp; omega) | (simp [*]; omega) | (simp [D32.len, -List.length_flatten, *]; done) | (simp [D32.len, -List.length_flatten, *]; omega))⟩, ⟨_, rfl, .pure pu⟩, ⟨_, rfl, .pure pu⟩, trivial⟩ ⟨.inr ⟨_, _, rfl, rfl, .pure pul⟩, trivial⟩
    · skip
      refine at_exit ?_
      refine x_te ?_
      refine x_te ?_
      refine x_be ?_
      refine x_tn ?_
      refine at_seq ?_
      refine at_region ?_
      refine s1 (y_p rfl) rfl <| ?_
      refine at_nil ?_
      refine x_tn ?_
      refine at_ret ?_
      refine at_result (rs := [.tmp 6]) rfl (r_tmp rfl r_nil) rfl

set_option linter.unusedSimpArgs false in
set_option maxHeartbeats 1000000 in
theorem law_tree (s : List UInt8) (a nn : Int) (d : List UInt8) (hd : d.length = 32) : Con Tryd.prog 4 [.fz s.length (s.map u8), .i .i64 a, .i .i64 nn, .ag (d.map u8)] (Ret (.b true)) := by
  refine enter Tryd.func4 rfl Tryd.ntmps4 (by kernel_rfl) (Nat.le_of_ble_eq_true rfl) fun w0 X0 hI => ?_
  refine at_seq ?_
  refine at_region ?_
  refine at_op rfl (n_boxA 7 rfl rfl rfl ?_)
  refine s1 (y_p rfl) rfl <| ?_
  refine at_nil ?_
  refine x_tn ?_
  refine at_seq ?_
  refine at_seq ?_
  refine at_region ?_
  refine at_op rfl (n_call false rfl (.nil) (sane_ok) pu (.inl rfl) rfl ?_)
  refine s1 (y_p rfl) rfl <| ?_
  refine at_nil ?_
  refine x_tn ?_
  refine at_else rfl ?_
  refine at_skip ?_
  refine x_tn ?_
  refine at_seq ?_
  refine at_region ?_
  refine s1 (y_p rfl) rfl <| ?_
  refine at_op rfl (n_call false rfl (.cons (.pure pu) (.nil)) (digsOf_ok s) pu (.inl rfl) rfl ?_)
  refine s1 (y_p rfl) rfl <| ?_
  refine at_nil ?_
  refine x_tn ?_
  refine at_seq ?_
  refine at_seq ?_
  refine at_region ?_
  refine s1 (y_p rfl) rfl <| ?_
  refine at_op rfl (n_call false rfl (.cons (.pure pu) (.nil)) (tree_ok _ (digs s) (Nat.le_refl _) (D32_digs s) (by have := len_digs s; omega)) pu (.inl rfl) rfl ?_)
  refine s1 (y_p rfl) rfl <| ?_
  refine at_op rfl (n_call false rfl (.cons (.pure pu) (.nil)) (rtree_ok _ (digs s) (Nat.le_refl _) (D32_digs s) (by have := len_digs s; omega)) pu (.inl rfl) rfl ?_)
  refine s1 ((y_aqn Tryd.underlying26 Tryd.underlying5 ti5 (by kernel_rfl) rfl rfl (by first | assumption | (simp; done) | (simp [*]; done)) (by first | assumption | (simp; done) | (simp [*]; done))).v (v' := .b false) (congrArg A.b (by simp))) rfl <| ?_
  refine at_nil ?_
  refine x_tn ?_
  refine at_else rfl ?_
  refine at_skip ?_
  refine x_tn ?_
  refine at_seq ?_
  refine at_seq ?_
  refine at_region ?_
  refine s1 (y_p rfl) rfl <| s1 (y_p rfl) rfl <| s1 (y_bits rfl rfl (.inl rfl)) rfl <| ?_
  refine at_op rfl (n_bs1 36 rfl Tryd.underlying33 ti3 rfl rfl rfl rfl rfl ?_)
  refine s1 (y_len Tryd.underlying33 rfl rfl rfl) rfl <| s1 ((y_p rfl).v (v' := .i .i64 0) rfl) rfl <| ?_
  refine at_nil ?_
  refine x_tn ?_
  refine at_block ?_
  refine at_loop (ι := Nat) (fun j => [(2, .i .i64 nn), (7, .p 7 0), (9, dgs (digs s)), (36, .sl 36 1 0 2), (37, .i .i64 (2 : Nat)), (38, .i .i64 (j : Nat))]) (fun j => ⟨[(7, some (d.map u8)), (36, some ([a, ibits .and .i64 a 15].map (A.i .i64)))]⟩) (fun j => True) (fun j => 2 - j) ?_ ?_
  · exact at_ex (0) (trivial) [(7, some 7), (36, some 36)] hI rfl rfl ⟨⟨_, rfl, .pure pu⟩, ⟨_, rfl, .p rfl⟩, ⟨_, rfl, .pure pu⟩, ⟨_, rfl, .sl rfl (by first | rfl | omega | (simp; done) | (simp [*]; done) | (simp; omega) | (simp [*]; omega) | (simp [D32.len, -List.length_flatten, *]; done) | (simp [D32.len, -List.length_flatten, *]; omega))⟩, ⟨_, rfl, .pure pu⟩, ⟨_, rfl, .pure pu⟩, trivial⟩ ⟨.inr ⟨_, _, rfl, rfl, .pure pul⟩, .inr ⟨_, _, rfl, rfl, .pure pul⟩, trivial⟩
  rintro j -
  have h24 := len_digs s
  refine at_seq ?_
  refine at_region ?_
  refine s1 (y_p rfl) rfl <| ?_
  refine at_nil ?_
  refine x_tn ?_
  refine at_seq ?_
  refine at_cond rfl (fun hc39 => ?_) (fun hc39 => ?_)
  · have hj : j < 2 := by have := of_decide_eq_true hc39; omega
    obtain ⟨z, hz⟩ : ∃ z, [a, ibits .and .i64 a 15][j]? = some z := ⟨_, List.getElem?_eq_getElem (by simpa using hj)⟩
    have hDQ := D32_pathN (digs s) z
    have hQ := len_pathN (digs s) z
    refine at_skip ?_
    refine x_tn ?_
    refine at_seq ?_
    refine at_block ?_
    refine at_seq ?_
    refine at_region ?_
    refine s1 (y_ixs _ Tryd.underlying33 ti3 rfl rfl rfl rfl (by omega) rfl) rfl <| s1 (y_load ti3 rfl rfl (getZ hz)) rfl <| s1 (y_p rfl) rfl <| ?_
    refine at_nil ?_
    refine x_tn ?_
    refine at_seq ?_
    refine at_region ?_
    refine s1 (y_p rfl) rfl <| s1 (y_p rfl) rfl <| ?_
    refine at_op rfl (n_call false rfl (.cons (.pure pu) (.cons (.pure pu) (.nil))) (pathN_ok (digs s) z (D32_digs s) (by have := len_digs s; omega)) pu (.inl rfl) rfl ?_)
    refine s1 (y_p rfl) rfl <| s1 (y_p rfl) rfl <| s1 (y_p rfl) rfl <| s1 (y_p rfl) rfl <| s1 (y_p rfl) rfl <| ?_
    refine at_nil ?_
    refine x_tn ?_
    refine at_seq ?_
    refine at_region ?_
    refine s1 (y_p rfl) rfl <| s1 (y_p rfl) rfl <| ?_
    refine at_op rfl (n_call false rfl (.cons (.pure pu) (.cons (.pure pu) (.nil))) (rpathN_ok (digs s) z (D32_digs s) (by have := len_digs s; omega)) pu (.inl rfl) rfl ?_)
    refine s1 (y_p rfl) rfl <| s1 (y_p rfl) rfl <| s1 (y_p rfl) rfl <| s1 (y_p rfl) rfl <| s1 (y_p rfl) rfl <| ?_
    refine at_nil ?_
    refine x_tn ?_
    refine at_seq ?_
    refine at_seq ?_
    refine at_region ?_
    refine s1 (y_p rfl) rfl <| s1 (y_p rfl) rfl <| ?_
    refine at_op rfl (n_call false rfl (.cons (.pure pu) (.cons (.pure pu) (.nil))) (same_ok (pathN (digs s) z) (pathN (digs s) z) hDQ hDQ) pu (.inl rfl) rfl ?_)
    refine s1 ((y_p rfl).v (v' := .b false) (congrArg A.b (by simp))) rfl <| s1 (y_p rfl) rfl <| g1 rfl rfl (y_p rfl) rfl <| g1 rfl rfl (y_p rfl) rfl <| g1 rfl rfl ((y_p rfl).v (v' := .b false) (congrArg A.b (by simp))) rfl <| s1 (y_p rfl) rfl <| ?_
    refine at_nil ?_
    refine x_tn ?_
    refine at_else rfl ?_
    refine at_skip ?_
    refine x_tn ?_
    refine at_seq ?_
    refine at_region ?_
    refine s1 (y_p rfl) rfl <| s1 (y_p rfl) rfl <| s1 (y_len Tryd.underlying30 rfl rfl rfl) rfl <| ?_
    refine at_op rfl (n_bs1 66 rfl Tryd.underlying33 ti3 rfl rfl rfl rfl rfl ?_)
    refine s1 (y_len Tryd.underlying33 rfl rfl rfl) rfl <| s1 ((y_p rfl).v (v' := .i .i64 0) rfl) rfl <| ?_
    refine at_nil ?_
    refine x_tn ?_
    refine at_block ?_
    refine at_loop (ι := Nat) (fun k => [(2, .i .i64 nn), (7, .p 7 0), (9, dgs (digs s)), (36, .sl 36 1 0 2), (37, .i .i64 (2 : Nat)), (38, .i .i64 (j : Nat)), (11, .i .i64 z), (14, dgs (pathN (digs s) z)), (66, .sl 66 1 0 2), (67, .i .i64 (2 : Nat)), (68, .i .i64 (k : Nat))]) (fun k => ⟨[(7, some (d.map u8)), (36, some ([a, ibits .and .i64 a 15].map (A.i .i64))), (66, some ([nn, ((digs s).length : Int)].map (A.i .i64)))]⟩) (fun k => True) (fun k => 2 - k) ?_ ?_
    · exact at_ex (0) (trivial) [(7, some 7), (36, some 36), (66, some 66)] hI rfl rfl ⟨⟨_, rfl, .pure pu⟩, ⟨_, rfl, .p rfl⟩, ⟨_, rfl, .pure pu⟩, ⟨_, rfl, .sl rfl (by first | rfl | omega | (simp; done) | (simp [*]; done) | (simp; omega) | (simp [*]; omega) | (simp [D32.len, -List.length_flatten, *]; done) | (simp [D32.len, -List.length_flatten, *]; omega))⟩, ⟨_, rfl, .pure pu⟩, ⟨_, rfl, .pure pu⟩, ⟨_, rfl, .pure pu⟩, ⟨_, rfl, .pure pu⟩, ⟨_, rfl, .sl rfl (by first | rfl | omega | (simp; done) | (simp [*]; done) | (simp; omega) | (simp [*]; omega) | (simp [D32.len, -List.length_flatten, *]; done) | (simp [D32.len, -List.length_flatten, *]; omega))⟩, ⟨_, rfl, .pure pu⟩, ⟨_, rfl, .pure pu⟩, trivial⟩ ⟨.inr ⟨_, _, rfl, rfl, .pure pul⟩, .inr ⟨_, _, rfl, rfl, .pure pul⟩, .inr ⟨_, _, rfl, rfl, .pure pul⟩, trivial⟩
    rintro k -
    refine at_seq ?_
    refine at_region ?_
    refine s1 (y_p rfl) rfl <| ?_
    refine at_nil ?_
    refine x_tn ?_
    refine at_seq ?_
    refine at_cond rfl (fun hc69 => ?_) (fun hc69 => ?_)
    · have hk : k < 2 := by have := of_decide_eq_true hc69; omega
      obtain ⟨m, hm⟩ : ∃ m, [nn, ((digs s).length : Int)][k]? = some m := ⟨_, List.getElem?_eq_getElem (by simpa using hk)⟩
      refine at_skip ?_
      refine x_tn ?_
      refine at_seq ?_
      refine at_block ?_
      refine at_seq ?_
      refine at_region ?_
      refine s1 (y_ixs _ Tryd.underlying33 ti3 rfl rfl rfl rfl (by omega) rfl) rfl <| s1 (y_load ti3 rfl rfl (getZ hm)) rfl <| s1 (y_p rfl) rfl <| ?_
      refine at_nil ?_
      refine x_tn ?_
      refine at_seq ?_
      refine at_fs ⟨_, [], []⟩ 15 4 hmix (le_refl rfl) ?_
      refine fs_q 0 [] [] (y_p rfl) rfl rfl ?_
      refine fs_bs 73 1 [] gy0 Tryd.underlying30 ti26 rfl rfl rfl (by first | (simp [cellsA]; done) | (simp [cellsA, *]; done)) rfl rfl rfl rfl rfl ?_
      refine fs_q 2 [] [] (y_p rfl) rfl rfl ?_
      refine fs_app 75 3 [1, 2] [(73, some 1)] gy0 Tryd.underlying30 ti26 rfl (.sl rfl (by first | rfl | omega | (simp; done) | (simp [*]; done) | (simp; omega) | (simp [*]; omega) | (simp [D32.len, -List.length_flatten, *]; done) | (simp [D32.len, -List.length_flatten, *]; omega))) rfl rfl (by rw [List.length_map, hDQ.len]) (by simp only [maxLen]; omega) (by omega) rfl rfl rfl rfl ?_
      refine fs_q 4 [] [(7, none)] (y_loadA0 ti26 rfl rfl (by simp [hd])) rfl rfl ?_
      refine fs_bs 77 5 [4] gy0 Tryd.underlying30 ti26 rfl rfl rfl (by first | (simp [cellsA]; done) | (simp [cellsA, *]; done)) (List.append_nil (d.map u8)) rfl rfl rfl rfl ?_
      refine fs_app 78 6 [3, 5] [(75, some 3), (77, some 5)] gy0 Tryd.underlying30 ti26 rfl (.sl rfl (by rw [List.length_append, List.length_map, hDQ.len]; simp [flatA])) rfl (SM_full rfl (by first | rfl | omega | (simp; done) | (simp [*]; done) | (simp; omega) | (simp [*]; omega) | (simp [D32.len, -List.length_flatten, *]; done) | (simp [D32.len, -List.length_flatten, *]; omega))) (by simp [hd]) (by simp only [maxLen]; omega) (by omega) rfl (show (flatA [] ++ (pathN (digs s) z).flatten.map u8) ++ d.map u8 = ((pathN (digs s) z) ++ [d]).flatten.map u8 by simp [flatA]) rfl rfl ?_
      refine fs_q 7 [] [] (y_p rfl) rfl rfl ?_
      refine fs_q 8 [] [] (y_p rfl) rfl rfl ?_
      refine fs_q 9 [8] [] (y_len Tryd.underlying30 rfl rfl rfl) rfl rfl ?_
      refine fs_q 10 [9] [] (quoN (pathN (digs s) z).length 2 rfl rfl rfl rfl (by decide) (by omega)) rfl rfl ?_
      refine fs_q 11 [7, 10] [] ((y_cutf ((pathN (digs s) z).length / 2) Tryd.underlying30 ti26 rfl (by rw [List.length_map, hDQ.len]) bn (bs (v := (pathN (digs s) z).length / 2) rfl rfl) (by omega) (by omega) rfl rfl).v (v' := dgs ((pathN (digs s) z).take ((pathN (digs s) z).length / 2))) (cut_take hDQ (by omega))) rfl rfl ?_
      refine fs_bs1 84 12 [0, 6, 11] gy0 Tryd.underlying38 ti30 rfl rfl rfl rfl rfl rfl ?_
      refine fs_q 13 [12] [(84, some 12)] (y_len Tryd.underlying38 rfl rfl rfl) rfl rfl ?_
      refine fs_q 14 [] [] ((y_p rfl).v (v' := .i .i64 0) rfl) rfl rfl ?_
      refine fs_end (by kernel_rfl) ?_
      refine at_nil ?_
      refine x_tn ?_
      refine at_block ?_
      refine at_loop (ι := Nat) (fun l => [(2, .i .i64 nn), (7, .p 7 0), (9, dgs (digs s)), (36, .sl 36 1 0 2), (37, .i .i64 (2 : Nat)), (38, .i .i64 (j : Nat)), (11, .i .i64 z), (14, dgs (pathN (digs s) z)), (66, .sl 66 1 0 2), (67, .i .i64 (2 : Nat)), (68, .i .i64 (k : Nat)), (17, .i .i64 m), (84, .sl 84 1 0 3), (85, .i .i64 (3 : Nat)), (86, .i .i64 (l : Nat))]) (fun l => ⟨[(7, some (d.map u8)), (36, some ([a, ibits .and .i64 a 15].map (A.i .i64))), (66, some ([nn, ((digs s).length : Int)].map (A.i .i64))), (84, some ([(pathN (digs s) z), (pathN (digs s) z) ++ [d], (pathN (digs s) z).take ((pathN (digs s) z).length / 2)].map dgs))]⟩) (fun l => True) (fun l => 3 - l) ?_ ?_
      · skip
        refine at_frzO 84 1 rfl rfl rfl rfl pul (view_eq (by rw [List.length_map, (hDQ.app (.one hd)).len, List.length_append]; simp) rfl) (vs' := [(pathN (digs s) z), (pathN (digs s) z) ++ [d], (pathN (digs s) z).take ((pathN (digs s) z).length / 2)].map dgs) ?_ ?_
        · simp only [List.map_cons, List.map_nil, List.set_cons_succ, List.set_cons_zero, dgs, List.length_append, List.length_cons, List.length_nil, Nat.zero_add]
        exact at_ex (0) (trivial) [(7, some 7), (36, some 36), (66, some 66), (84, some 84)] hI rfl rfl ⟨⟨_, rfl, .pure pu⟩, ⟨_, rfl, .p rfl⟩, ⟨_, rfl, .pure pu⟩, ⟨_, rfl, .sl rfl (by first | rfl | omega | (simp; done) | (simp [*]; done) | (simp; omega) | (simp [*]; omega) | (simp [D32.len, -List.length_flatten, *]; done) | (simp [D32.len, -List.length_flatten, *]; omega))⟩, ⟨_, rfl, .pure pu⟩, ⟨_, rfl, .pure pu⟩, ⟨_, rfl, .pure pu⟩, ⟨_, rfl, .pure pu⟩, ⟨_, rfl, .sl rfl (by first | rfl | omega | (simp; done) | (simp [*]; done) | (simp; omega) | (simp [*]; omega) | (simp [D32.len, -List.length_flatten, *]; done) | (simp [D32.len, -List.length_flatten, *]; omega))⟩, ⟨_, rfl, .pure pu⟩, ⟨_, rfl, .pure pu⟩, ⟨_, rfl, .pure pu⟩, ⟨_, rfl, .sl rfl (by first | rfl | omega | (simp; done) | (simp [*]; done) | (simp; omega) | (simp [*]; omega) | (simp [D32.len, -List.length_flatten, *]; done) | (simp [D32.len, -List.length_flatten, *]; omega))⟩, ⟨_, rfl, .pure pu⟩, ⟨_, rfl, .pure pu⟩, trivial⟩ ⟨.inr ⟨_, _, rfl, rfl, .pure pul⟩, .inr ⟨_, _, rfl, rfl, .pure pul⟩, .inr ⟨_, _, rfl, rfl, .pure pul⟩, .inr ⟨_, _, rfl, rfl, .pure pul⟩, trivial⟩
      rintro l -
      refine at_seq ?_
      refine at_region ?_
      refine s1 (y_p rfl) rfl <| ?_
      refine at_nil ?_
      refine x_tn ?_
      refine at_seq ?_
      refine at_cond rfl (fun hc87 => ?_) (fun hc87 => ?_)
      · have hl : l < 3 := by have := of_decide_eq_true hc87; omega
        obtain ⟨p, hp, hDp⟩ : ∃ p, [(pathN (digs s) z), (pathN (digs s) z) ++ [d], (pathN (digs s) z).take ((pathN (digs s) z).length / 2)][l]? = some p ∧ D32 p := by
          match l, hl with
          | 0, _ => exact ⟨_, rfl, hDQ⟩
          | 1, _ => exact ⟨_, rfl, hDQ.app (.one hd)⟩
          | 2, _ => exact ⟨_, rfl, hDQ.take _⟩
        refine at_skip ?_
        refine x_tn ?_
        refine at_seq ?_
        refine at_block ?_
        refine at_seq ?_
        refine at_region ?_
        refine s1 (y_ixs _ Tryd.underlying38 ti30 rfl rfl rfl rfl (by omega) rfl) rfl <| s1 (y_load ti30 rfl rfl (getDD hp)) rfl <| s1 (y_p rfl) rfl <| ?_
        refine at_nil ?_
        refine x_tn ?_
        refine at_seq ?_
        refine at_region ?_
        refine s1 (y_loadA0 ti26 rfl rfl (by simp [hd])) rfl <| s1 (y_p rfl) rfl <| s1 (y_p rfl) rfl <| s1 (y_p rfl) rfl <| ?_
        refine at_op rfl (n_call false rfl (.cons (.pure pu) (.cons (.pure pu) (.cons (.pure pu) (.cons (.pure pu) (.nil))))) (climbD_ok d hd z m p hDp) pu (.inl rfl) rfl ?_)
        refine s1 (y_p rfl) rfl <| s1 (y_p rfl) rfl <| s1 (y_p rfl) rfl <| ?_
        refine at_op rfl (n_alloc 20 rfl ti26 rfl rfl ?_)
        refine at_op rfl (n_storeA ti26 rfl rfl rfl (by first | rfl | omega | (simp; done) | (simp [*]; done) | (simp; omega) | (simp [*]; omega) | (simp [D32.len, -List.length_flatten, *]; done) | (simp [D32.len, -List.length_flatten, *]; omega)) (by first | rfl | omega | (simp; done) | (simp [*]; done) | (simp; omega) | (simp [*]; omega) | (simp [D32.len, -List.length_flatten, *]; done) | (simp [D32.len, -List.length_flatten, *]; omega)) ?_)
        refine s1 (y_p rfl) rfl <| ?_
        refine at_nil ?_
        refine x_tn ?_
        refine at_seq ?_
        refine at_region ?_
        refine s1 (y_loadA0 ti26 rfl rfl (by simp [hd])) rfl <| s1 (y_p rfl) rfl <| s1 (y_p rfl) rfl <| s1 (y_p rfl) rfl <| ?_
        refine at_op rfl (n_call false rfl (.cons (.pure pu) (.cons (.pure pu) (.cons (.pure pu) (.cons (.pure pu) (.nil))))) (rclimbD_ok d hd z m p hDp) pu (.inl rfl) rfl ?_)
        refine s1 (y_p rfl) rfl <| s1 (y_p rfl) rfl <| s1 (y_p rfl) rfl <| ?_
        refine at_op rfl (n_alloc 22 rfl ti26 rfl rfl ?_)
        refine at_op rfl (n_storeA ti26 rfl rfl rfl (by first | rfl | omega | (simp; done) | (simp [*]; done) | (simp; omega) | (simp [*]; omega) | (simp [D32.len, -List.length_flatten, *]; done) | (simp [D32.len, -List.length_flatten, *]; omega)) (by first | rfl | omega | (simp; done) | (simp [*]; done) | (simp; omega) | (simp [*]; omega) | (simp [D32.len, -List.length_flatten, *]; done) | (simp [D32.len, -List.length_flatten, *]; omega)) ?_)
        refine s1 (y_p rfl) rfl <| ?_
        refine at_nil ?_
        refine x_tn ?_
        refine at_seq ?_
        refine at_region ?_
        refine s1 (y_loadA0 ti26 rfl rfl (by first | rfl | omega | (simp; done) | (simp [*]; done) | (simp; omega) | (simp [*]; omega) | (simp [D32.len, -List.length_flatten, *]; done) | (simp [D32.len, -List.length_flatten, *]; omega))) rfl <| s1 (y_loadA0 ti26 rfl rfl (by first | rfl | omega | (simp; done) | (simp [*]; done) | (simp; omega) | (simp [*]; omega) | (simp [D32.len, -List.length_flatten, *]; done) | (simp [D32.len, -List.length_flatten, *]; omega))) rfl <| s1 ((y_aqn Tryd.underlying26 Tryd.underlying5 ti5 (by kernel_rfl) rfl rfl (by first | assumption | (simp; done) | (simp [*]; done)) (by first | assumption | (simp; done) | (simp [*]; done))).v (v' := .b false) (congrArg A.b (by simp))) rfl <| s1 (y_p rfl) rfl <| g1 rfl rfl (y_p rfl) rfl <| g1 rfl rfl (y_p rfl) rfl <| g1 rfl rfl ((y_p rfl).v (v' := .b false) (congrArg A.b (by simp))) rfl <| s1 (y_p rfl) rfl <| ?_
        refine at_nil ?_
        refine x_tn ?_
        refine at_else rfl ?_
        refine at_skip ?_
        refine x_bn ?_
        refine x_tn ?_
        refine at_region ?_
        refine s1 (addN _ 1 rfl rfl rfl rfl (by omega)) rfl <| s1 (y_p rfl) rfl <| ?_
        refine at_nil ?_
        exact at_end (l + 1) (trivial) (by omega) [(7, some 7), (36, some 36), (66, some 66), (84, some 84)] hI rfl rfl ⟨⟨_, rfl, .pure pu⟩, ⟨_, rfl, .p rfl⟩, ⟨_, rfl, .pure pu⟩, ⟨_, rfl, .sl rfl (by first | rfl | omega | (simp; done) | (simp [*]; done) | (simp; omega) | (simp [*]; omega) | (simp [D32.len, -List.length_flatten, *]; done) | (simp [D32.len, -List.length_flatten, *]; omega))⟩, ⟨_, rfl, .pure pu⟩, ⟨_, rfl, .pure pu⟩, ⟨_, rfl, .pure pu⟩, ⟨_, rfl, .pure pu⟩, ⟨_, rfl, .sl rfl (by first | rfl | omega | (simp; done) | (simp [*]; done) | (simp; omega) | (simp [*]; omega) | (simp [D32.len, -List.length_flatten, *]; done) | (simp [D32.len, -List.length_flatten, *]; omega))⟩, ⟨_, rfl, .pure pu⟩, ⟨_, rfl, .pure pu⟩, ⟨_, rfl, .pure pu⟩, ⟨_, rfl, .sl rfl (by first | rfl | omega | (simp; done) | (simp [*]; done) | (simp; omega) | (simp [*]; omega) | (simp [D32.len, -List.length_flatten, *]; done) | (simp [D32.len, -List.length_flatten, *]; omega))⟩, ⟨_, rfl, .pure pu⟩, ⟨_, rfl, .pure pu⟩, trivial⟩ ⟨.inr ⟨_, _, rfl, rfl, .pure pul⟩, .inr ⟨_, _, rfl, rfl, .pure pul⟩, .inr ⟨_, _, rfl, rfl, .pure pul⟩, .inr ⟨_, _, rfl, rfl, .pure pul⟩, trivial⟩
      · skip
        refine at_exit ?_
        refine x_te ?_
        refine x_te ?_
        refine x_be ?_
        refine x_bn ?_
        refine x_tn ?_
        refine at_region ?_
        refine s1 (addN _ 1 rfl rfl rfl rfl (by omega)) rfl <| s1 (y_p rfl) rfl <| ?_
        refine at_nil ?_
        exact at_end (k + 1) (trivial) (by omega) [(7, some 7), (36, some 36), (66, some 66)] hI rfl rfl ⟨⟨_, rfl, .pure pu⟩, ⟨_, rfl, .p rfl⟩, ⟨_, rfl, .pure pu⟩, ⟨_, rfl, .sl rfl (by first | rfl | omega | (simp; done) | (simp [*]; done) | (simp; omega) | (simp [*]; omega) | (simp [D32.len, -List.length_flatten, *]; done) | (simp [D32.len, -List.length_flatten, *]; omega))⟩, ⟨_, rfl, .pure pu⟩, ⟨_, rfl, .pure pu⟩, ⟨_, rfl, .pure pu⟩, ⟨_, rfl, .pure pu⟩, ⟨_, rfl, .sl rfl (by first | rfl | omega | (simp; done) | (simp [*]; done) | (simp; omega) | (simp [*]; omega) | (simp [D32.len, -List.length_flatten, *]; done) | (simp [D32.len, -List.length_flatten, *]; omega))⟩, ⟨_, rfl, .pure pu⟩, ⟨_, rfl, .pure pu⟩, trivial⟩ ⟨.inr ⟨_, _, rfl, rfl, .pure pul⟩, .inr ⟨_, _, rfl, rfl, .pure pul⟩, .inr ⟨_, _, rfl, rfl, .pure pul⟩, trivial⟩
    · skip
      refine at_exit ?_
      refine x_te ?_
      refine x_te ?_
      refine x_be ?_
      refine x_bn ?_
      refine x_tn ?_
      refine at_region ?_
      refine s1 (addN _ 1 rfl rfl rfl rfl (by omega)) rfl <| s1 (y_p rfl) rfl <| ?_
      refine at_nil ?_
      exact at_end (j + 1) (trivial) (by omega) [(7, some 7), (36, some 36)] hI rfl rfl ⟨⟨_, rfl, .pure pu⟩, ⟨_, rfl, .p rfl⟩, ⟨_, rfl, .pure pu⟩, ⟨_, rfl, .sl rfl (by first | rfl | omega | (simp; done) | (simp [*]; done) | (simp; omega) | (simp [*]; omega) | (simp [D32.len, -List.length_flatten, *]; done) | (simp [D32.len, -List.length_flatten, *]; omega))⟩, ⟨_, rfl, .pure pu⟩, ⟨_, rfl, .pure pu⟩, trivial⟩ ⟨.inr ⟨_, _, rfl, rfl, .pure pul⟩, .inr ⟨_, _, rfl, rfl, .pure pul⟩, trivial⟩
  · skip
    refine at_exit ?_
    refine x_te ?_
    refine x_te ?_
    refine x_be ?_
    refine x_tn ?_
    refine at_seq ?_
    refine at_region ?_
    refine s1 (y_p rfl) rfl <| ?_
    refine at_nil ?_
    refine x_tn ?_
    refine at_ret ?_
    refine at_result (rs := [.tmp 8]) rfl (r_tmp rfl r_nil) rfl

end Go.Abs.D2
