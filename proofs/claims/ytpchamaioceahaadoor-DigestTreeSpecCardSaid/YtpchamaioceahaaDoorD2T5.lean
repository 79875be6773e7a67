/-
  Layer 2: walks of the digest functions. Conditions: each theorem says its own.
-/
import Derived.Test.YtpchamaioceahaaDoorD2T3
namespace Go.Abs.D2
open Go Go.Eng Go.Abs Go.Proofs 

set_option linter.unusedSimpArgs false in
set_option maxHeartbeats 1000000 in
theorem rclimb_bad (d : List UInt8) (_hd : d.length = 32) (a nn : Int) (P : List (List UInt8)) (hc : ¬ (1 ≤ nn ∧ nn ≤ 1099511627776 ∧ 0 ≤ a ∧ a < nn)) : Con Tryd.prog 23 [.ag (d.map u8), .i .i64 a, .i .i64 nn, dgs P] (Ret (climbA d a nn P)) := by
  refine enter Tryd.func23 rfl Tryd.ntmps23 (by kernel_rfl) (Nat.le_of_ble_eq_true rfl) fun w0 X0 hI => ?_
  refine at_seq ?_
  refine at_region ?_
  refine at_op rfl (n_boxA 4 rfl rfl rfl ?_)
  refine at_op rfl (n_alloc 8 rfl ti26 rfl rfl ?_)
  refine s1 ((y_p rfl).v (v' := .i .i64 0) rfl) rfl <| ?_
  refine at_nil ?_
  refine x_tn ?_
  refine at_seq ?_
  refine at_seq ?_
  refine at_region ?_
  refine s1 (y_p rfl) rfl <| s1 (y_p rfl) rfl <| s1 (y_p rfl) rfl <| ?_
  refine g_or 2 rfl rfl rfl rfl (fun hb12 => .step (y_p rfl) rfl rfl <| .step (y_p rfl) rfl rfl <| .done) rfl rfl ?_
  refine s1 (y_p rfl) rfl <| ?_
  refine g_or 2 rfl rfl rfl rfl (fun hb16 => .step (y_p rfl) rfl rfl <| .step (y_p rfl) rfl rfl <| .done) rfl rfl ?_
  refine s1 (y_p rfl) rfl <| ?_
  refine g_or 3 rfl rfl rfl rfl (fun hb20 => .step (y_p rfl) rfl rfl <| .step (y_p rfl) rfl rfl <| .step (y_p rfl) rfl rfl <| .done) rfl rfl ?_
  refine at_say 24 rfl (v' := .b true) (congrArg A.b (by simp; omega)) ?_
  refine s1 (y_p rfl) rfl <| g0 rfl rfl rfl rfl <| g0 rfl rfl rfl rfl <| g0 rfl rfl rfl rfl <| g0 rfl rfl rfl rfl <| g0 rfl rfl rfl rfl <| g0 rfl rfl rfl rfl <| s1 (y_p rfl) rfl <| ?_
  refine at_nil ?_
  refine x_tn ?_
  refine at_then rfl ?_
  refine at_seq ?_
  refine at_region ?_
  refine s1 ((y_bld0 ti26 rfl Tryd.underlying26 ti5 rfl).v (v' := .ag ((List.replicate 32 (0 : UInt8)).map u8)) (by kernel_rfl)) rfl <| ?_
  refine at_op rfl (n_storeA ti26 rfl rfl rfl (by simp) (by simp) ?_)
  refine s1 ((y_p rfl).v (v' := .i .i64 1) rfl) rfl <| ?_
  refine at_nil ?_
  refine x_tn ?_
  refine at_ret ?_
  refine x_tr ?_
  have hbad : ¬ fits a nn P.length := fun h => hc ⟨h.1, h.2.1, h.2.2.1, h.2.2.2.1⟩
  refine at_result (rs := [.cell 8 26, .tmp 9]) rfl (r_cellA ti26 rfl rfl (List.take_of_length_le (by simp)) (by simp) (r_tmp rfl r_nil)) ?_
  rw [climbA, if_neg hbad]
  rfl

set_option linter.unusedSimpArgs false in
set_option maxHeartbeats 1000000 in
theorem rclimb_fit (d : List UInt8) (hd : d.length = 32) (i n : Nat) (P : List (List UInt8)) (hD : D32 P) (h1 : 1 ≤ n) (hn : n ≤ 1099511627776) (hi : i < n) : Con Tryd.prog 23 [.ag (d.map u8), .i .i64 (i : Nat), .i .i64 (n : Nat), dgs P] (Ret (climbA d (i : Int) (n : Int) P)) := by
  refine enter Tryd.func23 rfl Tryd.ntmps23 (by kernel_rfl) (Nat.le_of_ble_eq_true rfl) fun w0 X0 hI => ?_
  refine at_seq ?_
  refine at_region ?_
  refine at_op rfl (n_boxA 4 rfl rfl rfl ?_)
  refine at_op rfl (n_alloc 8 rfl ti26 rfl rfl ?_)
  refine s1 ((y_p rfl).v (v' := .i .i64 0) rfl) rfl <| ?_
  refine at_nil ?_
  refine x_tn ?_
  refine at_seq ?_
  refine at_seq ?_
  refine at_region ?_
  refine s1 (y_p rfl) rfl <| s1 (y_p rfl) rfl <| s1 (y_p rfl) rfl <| ?_
  refine g_or 2 rfl rfl rfl rfl (fun hb12 => .step (y_p rfl) rfl rfl <| .step (y_p rfl) rfl rfl <| .done) rfl rfl ?_
  refine s1 (y_p rfl) rfl <| ?_
  refine g_or 2 rfl rfl rfl rfl (fun hb16 => .step (y_p rfl) rfl rfl <| .step (y_p rfl) rfl rfl <| .done) rfl rfl ?_
  refine s1 (y_p rfl) rfl <| ?_
  refine g_or 3 rfl rfl rfl rfl (fun hb20 => .step (y_p rfl) rfl rfl <| .step (y_p rfl) rfl rfl <| .step (y_p rfl) rfl rfl <| .done) rfl rfl ?_
  refine at_say 24 rfl (v' := .b false) (congrArg A.b (by simp; omega)) ?_
  refine s1 (y_p rfl) rfl <| g1 rfl rfl (y_p rfl) rfl <| g1 rfl rfl (y_len Tryd.underlying30 rfl rfl rfl) rfl <| g1 rfl rfl (y_p rfl) rfl <| g1 rfl rfl (y_p rfl) rfl <| ?_
  refine at_opg rfl rfl rfl (n_call false rfl (.cons (.pure pu) (.cons (.pure pu) (.nil))) (length_ok _ i n (Nat.le_refl _) h1 hi hn) pu (.inl rfl) rfl ?_)
  refine g1 rfl rfl (y_p rfl) rfl <| s1 (y_p rfl) rfl <| ?_
  refine at_nil ?_
  refine x_tn ?_
  refine at_cond rfl (fun hc32 => ?_) (fun hc32 => ?_)
  · have hbad : ¬ fits (i : Int) (n : Int) P.length := by
      intro h
      have h5 := h.2.2.2.2
      rw [Int.toNat_natCast, Int.toNat_natCast] at h5
      have := bne_iff_ne.1 hc32
      omega
    refine at_seq ?_
    refine at_region ?_
    refine s1 ((y_bld0 ti26 rfl Tryd.underlying26 ti5 rfl).v (v' := .ag ((List.replicate 32 (0 : UInt8)).map u8)) (by kernel_rfl)) rfl <| ?_
    refine at_op rfl (n_storeA ti26 rfl rfl rfl (by simp) (by simp) ?_)
    refine s1 ((y_p rfl).v (v' := .i .i64 1) rfl) rfl <| ?_
    refine at_nil ?_
    refine x_tn ?_
    refine at_ret ?_
    refine x_tr ?_
    refine at_result (rs := [.cell 8 26, .tmp 9]) rfl (r_cellA ti26 rfl rfl (List.take_of_length_le (by simp)) (by simp) (r_tmp rfl r_nil)) ?_
    rw [climbA, if_neg hbad]
    rfl
  · have hP : P.length = (rights i n).length := by have := bne_eq_false_iff_eq.1 hc32; omega
    have hfit : fits (i : Int) (n : Int) P.length := ⟨by omega, by omega, by omega, by omega, by rw [Int.toNat_natCast, Int.toNat_natCast]; exact hP⟩
    refine at_skip ?_
    refine x_tn ?_
    refine at_seq ?_
    refine at_region ?_
    refine s1 (y_loadA0 ti26 rfl rfl (by simp [hd])) rfl <| s1 (y_p rfl) rfl <| s1 (y_p rfl) rfl <| s1 (y_p rfl) rfl <| ?_
    refine at_op rfl (n_call false rfl (.cons (.pure pu) (.cons (.pure pu) (.cons (.pure pu) (.cons (.pure pu) (.nil))))) (climb_ok d hd _ i n P (Nat.le_refl _) h1 hi hn hD hP) pu (.inl rfl) rfl ?_)
    refine at_op rfl (n_storeA ti26 rfl rfl rfl (by simp) (by simp) ?_)
    refine s1 ((y_p rfl).v (v' := .i .i64 0) rfl) rfl <| ?_
    refine at_nil ?_
    refine x_tn ?_
    refine at_ret ?_
    refine at_result (rs := [.cell 8 26, .tmp 9]) rfl (r_cellA ti26 rfl rfl (List.take_of_length_le (by simp)) (by simp) (r_tmp rfl r_nil)) ?_
    rw [climbA, if_pos hfit, Int.toNat_natCast, Int.toNat_natCast]
    rfl

theorem rclimbI_ok (d : List UInt8) (hd : d.length = 32) (a nn : Int) (P : List (List UInt8)) (hD : D32 P) : Con Tryd.prog 23 [.ag (d.map u8), .i .i64 a, .i .i64 nn, dgs P] (Ret (climbA d a nn P)) := by
  by_cases h : 1 ≤ nn ∧ nn ≤ 1099511627776 ∧ 0 ≤ a ∧ a < nn
  · obtain ⟨i, rfl⟩ : ∃ i : Nat, a = (i : Int) := ⟨a.toNat, by omega⟩
    obtain ⟨n, rfl⟩ : ∃ n : Nat, nn = (n : Int) := ⟨nn.toNat, by omega⟩
    exact rclimb_fit d hd i n P hD (by omega) (by omega) (by omega)
  · exact rclimb_bad d hd a nn P h

set_option linter.unusedSimpArgs false in
set_option maxHeartbeats 1000000 in
theorem steps_ok (i n : Nat) (h1 : 1 ≤ n) (hi : i < n) (hn : n ≤ 1099511627776) : Con Tryd.prog 24 [.i .i64 (i : Nat), .i .i64 (n : Nat)] (Ret (.i .i64 ((rights i n).length : Nat))) := by
  refine enter Tryd.func24 rfl Tryd.ntmps24 (by kernel_rfl) (Nat.le_of_ble_eq_true rfl) fun w0 X0 hI => ?_
  refine at_seq ?_
  refine at_region ?_
  refine s1 ((y_p rfl).v (v' := .i .i64 0) rfl) rfl <| ?_
  refine at_nil ?_
  refine x_tn ?_
  refine at_seq ?_
  refine at_region ?_
  refine s1 ((y_p rfl).v (v' := .i .i64 0) rfl) rfl <| ?_
  refine at_nil ?_
  refine x_tn ?_
  refine at_seq ?_
  refine at_block ?_
  refine at_loop (ι := Nat × Nat × Nat) (fun ⟨c, i2, n2⟩ => [(0, .i .i64 (i2 : Nat)), (1, .i .i64 (n2 : Nat)), (5, .i .i64 (c : Nat))]) (fun ⟨c, i2, n2⟩ => ⟨[]⟩) (fun ⟨c, i2, n2⟩ => (rights i n).length = c + (rights i2 n2).length ∧ 1 ≤ n2 ∧ i2 < n2 ∧ n2 ≤ n) (fun ⟨c, i2, n2⟩ => n2) ?_ ?_
  · exact at_ex ((0, i, n)) (⟨by simp, h1, hi, Nat.le_refl _⟩) [] hI rfl rfl ⟨⟨_, rfl, .pure pu⟩, ⟨_, rfl, .pure pu⟩, ⟨_, rfl, .pure pu⟩, trivial⟩ trivial
  rintro ⟨c, i2, n2⟩ ⟨hr, h12, hi2, hn2⟩
  dsimp only
  have hrl := rights_le _ i n (Nat.le_refl _)
  refine at_seq ?_
  refine at_seq ?_
  refine at_region ?_
  refine s1 (y_p rfl) rfl <| s1 (y_p rfl) rfl <| ?_
  refine at_nil ?_
  refine x_tn ?_
  refine at_cond rfl (fun hc8 => ?_) (fun hc8 => ?_)
  · have h8 : 2 ≤ n2 := by have := of_decide_eq_true hc8; omega
    have hh := halfN_lt h8
    refine at_skip ?_
    refine x_tn ?_
    refine at_block ?_
    refine at_seq ?_
    refine at_region ?_
    refine s1 ((y_p rfl).v (v' := .i .i64 1) rfl) rfl <| ?_
    refine at_nil ?_
    refine x_tn ?_
    refine at_seq ?_
    refine at_block ?_
    refine at_loop (ι := Nat) (fun e => [(0, .i .i64 (i2 : Nat)), (1, .i .i64 (n2 : Nat)), (5, .i .i64 (c : Nat)), (6, .i .i64 (2 ^ e : Nat))]) (fun e => ⟨[]⟩) (fun e => 2 ^ e < n2) (fun e => n2 - 2 ^ e) ?_ ?_
    · exact at_ex (0) (by omega) [] hI rfl rfl ⟨⟨_, rfl, .pure pu⟩, ⟨_, rfl, .pure pu⟩, ⟨_, rfl, .pure pu⟩, ⟨_, rfl, .of rfl (.pure pu)⟩, trivial⟩ trivial
    rintro e he
    have hpe := Nat.two_pow_pos e
    refine at_seq ?_
    refine at_seq ?_
    refine at_region ?_
    refine s1 (y_p rfl) rfl <| s1 (mulN 2 (2 ^ e) rfl rfl rfl rfl (by omega)) rfl <| s1 (y_p rfl) rfl <| s1 (y_p rfl) rfl <| ?_
    refine at_nil ?_
    refine x_tn ?_
    refine at_cond rfl (fun hc12 => ?_) (fun hc12 => ?_)
    · have h12b : 2 * 2 ^ e < n2 := by have := of_decide_eq_true hc12; omega
      refine at_skip ?_
      refine x_tn ?_
      refine at_block ?_
      refine at_region ?_
      refine s1 (y_p rfl) rfl <| s1 (mulN (2 ^ e) 2 rfl rfl rfl rfl (by omega)) rfl <| s1 (y_p rfl) rfl <| ?_
      refine at_nil ?_
      refine x_bn ?_
      exact at_end (e + 1) (by rw [Nat.pow_succ]; omega) (by rw [Nat.pow_succ]; omega) [] hI rfl rfl ⟨⟨_, rfl, .pure pu⟩, ⟨_, rfl, .pure pu⟩, ⟨_, rfl, .pure pu⟩, ⟨_, rfl, .of (congrArg (fun k : Nat => A.i .i64 (k : Int)) (by rw [Nat.pow_succ])) (.pure pu)⟩, trivial⟩ trivial
    · have h12b : ¬ 2 * 2 ^ e < n2 := by have := of_decide_eq_false hc12; omega
      have hk := halfN_of e rfl he (by omega)
      refine at_say 6 rfl (v' := .i .i64 (halfN n2 : Nat)) (congrArg (fun k : Nat => A.i .i64 (k : Int)) hk) ?_
      refine at_exit ?_
      refine x_te ?_
      refine x_te ?_
      refine x_be ?_
      refine x_tn ?_
      refine at_seq ?_
      refine at_seq ?_
      refine at_region ?_
      refine s1 (y_p rfl) rfl <| s1 (y_p rfl) rfl <| s1 (y_p rfl) rfl <| ?_
      refine at_nil ?_
      refine x_tn ?_
      refine at_cond rfl (fun hc17 => ?_) (fun hc17 => ?_)
      · have h17 : i2 < halfN n2 := by have := of_decide_eq_true hc17; omega
        refine at_region ?_
        refine s1 (y_p rfl) rfl <| s1 (y_p rfl) rfl <| ?_
        refine at_nil ?_
        refine x_tn ?_
        refine at_region ?_
        refine s1 (y_p rfl) rfl <| s1 (addN _ 1 rfl rfl rfl rfl (by omega)) rfl <| s1 (y_p rfl) rfl <| ?_
        refine at_nil ?_
        refine x_bn ?_
        exact at_end (x := (c, i2, n2)) ((c + 1, i2, halfN n2)) (⟨by rw [hr, rights_left (by omega) h17, List.length_cons]; dsimp only; omega, by dsimp only; omega, by dsimp only; omega, by dsimp only; omega⟩) (by dsimp only; omega) [] hI rfl rfl ⟨⟨_, rfl, .pure pu⟩, ⟨_, rfl, .pure pu⟩, ⟨_, rfl, .pure pu⟩, trivial⟩ trivial
      · have h17 : ¬ i2 < halfN n2 := by have := of_decide_eq_false hc17; omega
        refine at_region ?_
        refine s1 (y_p rfl) rfl <| s1 (y_p rfl) rfl <| s1 (subN i2 (halfN n2) rfl rfl rfl rfl (by omega) (by omega)) rfl <| s1 (y_p rfl) rfl <| s1 (y_p rfl) rfl <| s1 (subN n2 (halfN n2) rfl rfl rfl rfl (by omega) (by omega)) rfl <| s1 (y_p rfl) rfl <| s1 (y_p rfl) rfl <| ?_
        refine at_nil ?_
        refine x_tn ?_
        refine at_region ?_
        refine s1 (y_p rfl) rfl <| s1 (addN _ 1 rfl rfl rfl rfl (by omega)) rfl <| s1 (y_p rfl) rfl <| ?_
        refine at_nil ?_
        refine x_bn ?_
        exact at_end (x := (c, i2, n2)) ((c + 1, i2 - halfN n2, n2 - halfN n2)) (⟨by rw [hr, rights_right (by omega) h17, List.length_cons]; dsimp only; omega, by dsimp only; omega, by dsimp only; omega, by dsimp only; omega⟩) (by dsimp only; omega) [] hI rfl rfl ⟨⟨_, rfl, .pure pu⟩, ⟨_, rfl, .pure pu⟩, ⟨_, rfl, .pure pu⟩, trivial⟩ trivial
  · have h8 : n2 = 1 := by have := of_decide_eq_false hc8; omega
    refine at_exit ?_
    refine x_te ?_
    refine x_te ?_
    refine x_be ?_
    refine x_tn ?_
    refine at_seq ?_
    refine at_region ?_
    refine s1 (y_p rfl) rfl <| s1 (y_p rfl) rfl <| ?_
    refine at_nil ?_
    refine x_tn ?_
    refine at_ret ?_
    refine at_result (rs := [.tmp 4]) rfl (r_tmp rfl r_nil) ?_
    exact congrArg (fun k : Nat => A.i .i64 (k : Int)) (by rw [hr, rights_one (i := i2) (by omega)]; rfl)

end Go.Abs.D2
