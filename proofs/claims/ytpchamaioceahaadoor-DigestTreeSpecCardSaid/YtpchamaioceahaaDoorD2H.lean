/-
  Layer 2: walks of the digest functions. Conditions: each theorem says its own.
-/
import Derived.Test.YtpchamaioceahaaDoorD2R
import Derived.Test.YtpchamaioceahaaDoorTy
namespace Go.Abs.D2
open Go Go.Eng Go.Abs Go.Proofs 

set_option linter.unusedSimpArgs false in
set_option maxHeartbeats 1000000 in
theorem len64_ok (X : BitVec 64) : Con Tryd.prog 46 [w64 X] (Ret (.i .i64 (lenN X.toNat : Nat))) := by
  refine enter Tryd.func46 rfl Tryd.ntmps46 (by kernel_rfl) (Nat.le_of_ble_eq_true rfl) fun w0 X0 hI => ?_
  refine at_seq ?_
  refine at_region ?_
  refine s1 ((y_p rfl).v (v' := .i .i64 0) rfl) rfl <| ?_
  refine at_nil ?_
  refine x_tn ?_
  refine at_seq ?_
  refine at_seq ?_
  refine at_region ?_
  refine s1 (y_p rfl) rfl <| s1 (y_p rfl) rfl <| ?_
  refine at_nil ?_
  refine x_tn ?_
  refine at_cond rfl (fun hc4 => ?_) (fun hc4 => ?_)
  · have e4 := lenN_sh X 32 (by have := of_decide_eq_true hc4; omega)
    have y4 := sh_lt X 32 32 X.isLt
    refine at_seq ?_
    refine at_region ?_
    refine s1 (y_p rfl) rfl <| s1 (shr64 _ 32 rfl rfl rfl (by decide)) rfl <| s1 (y_p rfl) rfl <| ?_
    refine at_nil ?_
    refine x_tn ?_
    refine at_region ?_
    refine s1 ((y_p rfl).v (v' := .i .i64 32) rfl) rfl <| ?_
    refine at_nil ?_
    refine x_tn ?_
    refine at_seq ?_
    refine at_seq ?_
    refine at_region ?_
    refine s1 (y_p rfl) rfl <| s1 (y_p rfl) rfl <| ?_
    refine at_nil ?_
    refine x_tn ?_
    refine at_cond rfl (fun hc8 => ?_) (fun hc8 => ?_)
    · have e8 := lenN_sh (X >>> 32) 16 (by have := of_decide_eq_true hc8; omega)
      have y8 := sh_lt (X >>> 32) 16 16 y4
      refine at_seq ?_
      refine at_region ?_
      refine s1 (y_p rfl) rfl <| s1 (shr64 _ 16 rfl rfl rfl (by decide)) rfl <| s1 (y_p rfl) rfl <| ?_
      refine at_nil ?_
      refine x_tn ?_
      refine at_region ?_
      refine s1 ((y_p rfl).v (v' := .i .i64 32) rfl) rfl <| s1 (addN 32 16 rfl rfl rfl rfl (by omega)) rfl <| s1 (y_p rfl) rfl <| ?_
      refine at_nil ?_
      refine x_tn ?_
      refine at_seq ?_
      refine at_seq ?_
      refine at_region ?_
      refine s1 (y_p rfl) rfl <| s1 (y_p rfl) rfl <| ?_
      refine at_nil ?_
      refine x_tn ?_
      refine at_cond rfl (fun hc14 => ?_) (fun hc14 => ?_)
      · have e14 := lenN_sh ((X >>> 32) >>> 16) 8 (by have := of_decide_eq_true hc14; omega)
        have y14 := sh_lt ((X >>> 32) >>> 16) 8 8 y8
        refine at_seq ?_
        refine at_region ?_
        refine s1 (y_p rfl) rfl <| s1 (shr64 _ 8 rfl rfl rfl (by decide)) rfl <| s1 (y_p rfl) rfl <| ?_
        refine at_nil ?_
        refine x_tn ?_
        refine at_region ?_
        refine s1 (y_p rfl) rfl <| s1 (addN _ 8 rfl rfl rfl rfl (by omega)) rfl <| s1 (y_p rfl) rfl <| ?_
        refine at_nil ?_
        refine x_tn ?_
        refine at_seq ?_
        refine at_region ?_
        refine s1 (y_p rfl) rfl <| s1 (y_p rfl) rfl <| s1 (to8_64 _ Tryd.underlying61 Tryd.underlying5 rfl) rfl <| s1 (y_sidT (((X >>> 32) >>> 16) >>> 8).toNat (UInt8.ofNat (lenN (((X >>> 32) >>> 16) >>> 8).toNat)) Tryd.underlying9 rfl (by kernel_rfl) rfl (tab_idx y14) (tab_at _ y14)) rfl <| s1 ((y_conv Tryd.underlying5 Tryd.underlying3 rfl).v (v' := .i .i64 (lenN (((X >>> 32) >>> 16) >>> 8).toNat : Nat)) (tab_conv y14)) rfl <| s1 (addN _ _ rfl rfl rfl rfl (by have := lenN_small y14; omega)) rfl <| s1 (y_p rfl) rfl <| ?_
        refine at_nil ?_
        refine x_tn ?_
        refine at_ret ?_
        refine at_result (rs := [.tmp 2]) rfl (r_tmp rfl r_nil) ?_
        exact congrArg (fun k : Nat => A.i .i64 (k : Int)) (by omega)
      · have e14 : ((X >>> 32) >>> 16).toNat < 2 ^ 8 := by have := of_decide_eq_false hc14; omega
        have y14 := e14
        refine at_skip ?_
        refine x_tn ?_
        refine at_seq ?_
        refine at_region ?_
        refine s1 (y_p rfl) rfl <| s1 (y_p rfl) rfl <| s1 (to8_64 _ Tryd.underlying61 Tryd.underlying5 rfl) rfl <| s1 (y_sidT ((X >>> 32) >>> 16).toNat (UInt8.ofNat (lenN ((X >>> 32) >>> 16).toNat)) Tryd.underlying9 rfl (by kernel_rfl) rfl (tab_idx y14) (tab_at _ y14)) rfl <| s1 ((y_conv Tryd.underlying5 Tryd.underlying3 rfl).v (v' := .i .i64 (lenN ((X >>> 32) >>> 16).toNat : Nat)) (tab_conv y14)) rfl <| s1 (addN _ _ rfl rfl rfl rfl (by have := lenN_small y14; omega)) rfl <| s1 (y_p rfl) rfl <| ?_
        refine at_nil ?_
        refine x_tn ?_
        refine at_ret ?_
        refine at_result (rs := [.tmp 2]) rfl (r_tmp rfl r_nil) ?_
        exact congrArg (fun k : Nat => A.i .i64 (k : Int)) (by omega)
    · have e8 : (X >>> 32).toNat < 2 ^ 16 := by have := of_decide_eq_false hc8; omega
      have y8 := e8
      refine at_skip ?_
      refine x_tn ?_
      refine at_seq ?_
      refine at_seq ?_
      refine at_region ?_
      refine s1 (y_p rfl) rfl <| s1 (y_p rfl) rfl <| ?_
      refine at_nil ?_
      refine x_tn ?_
      refine at_cond rfl (fun hc14 => ?_) (fun hc14 => ?_)
      · have e14 := lenN_sh (X >>> 32) 8 (by have := of_decide_eq_true hc14; omega)
        have y14 := sh_lt (X >>> 32) 8 8 y8
        refine at_seq ?_
        refine at_region ?_
        refine s1 (y_p rfl) rfl <| s1 (shr64 _ 8 rfl rfl rfl (by decide)) rfl <| s1 (y_p rfl) rfl <| ?_
        refine at_nil ?_
        refine x_tn ?_
        refine at_region ?_
        refine s1 ((y_p rfl).v (v' := .i .i64 32) rfl) rfl <| s1 (addN 32 8 rfl rfl rfl rfl (by omega)) rfl <| s1 (y_p rfl) rfl <| ?_
        refine at_nil ?_
        refine x_tn ?_
        refine at_seq ?_
        refine at_region ?_
        refine s1 (y_p rfl) rfl <| s1 (y_p rfl) rfl <| s1 (to8_64 _ Tryd.underlying61 Tryd.underlying5 rfl) rfl <| s1 (y_sidT ((X >>> 32) >>> 8).toNat (UInt8.ofNat (lenN ((X >>> 32) >>> 8).toNat)) Tryd.underlying9 rfl (by kernel_rfl) rfl (tab_idx y14) (tab_at _ y14)) rfl <| s1 ((y_conv Tryd.underlying5 Tryd.underlying3 rfl).v (v' := .i .i64 (lenN ((X >>> 32) >>> 8).toNat : Nat)) (tab_conv y14)) rfl <| s1 (addN _ _ rfl rfl rfl rfl (by have := lenN_small y14; omega)) rfl <| s1 (y_p rfl) rfl <| ?_
        refine at_nil ?_
        refine x_tn ?_
        refine at_ret ?_
        refine at_result (rs := [.tmp 2]) rfl (r_tmp rfl r_nil) ?_
        exact congrArg (fun k : Nat => A.i .i64 (k : Int)) (by omega)
      · have e14 : (X >>> 32).toNat < 2 ^ 8 := by have := of_decide_eq_false hc14; omega
        have y14 := e14
        refine at_skip ?_
        refine x_tn ?_
        refine at_seq ?_
        refine at_region ?_
        refine s1 ((y_p rfl).v (v' := .i .i64 32) rfl) rfl <| s1 (y_p rfl) rfl <| s1 (to8_64 _ Tryd.underlying61 Tryd.underlying5 rfl) rfl <| s1 (y_sidT (X >>> 32).toNat (UInt8.ofNat (lenN (X >>> 32).toNat)) Tryd.underlying9 rfl (by kernel_rfl) rfl (tab_idx y14) (tab_at _ y14)) rfl <| s1 ((y_conv Tryd.underlying5 Tryd.underlying3 rfl).v (v' := .i .i64 (lenN (X >>> 32).toNat : Nat)) (tab_conv y14)) rfl <| s1 (addN 32 _ rfl rfl rfl rfl (by have := lenN_small y14; omega)) rfl <| s1 (y_p rfl) rfl <| ?_
        refine at_nil ?_
        refine x_tn ?_
        refine at_ret ?_
        refine at_result (rs := [.tmp 2]) rfl (r_tmp rfl r_nil) ?_
        exact congrArg (fun k : Nat => A.i .i64 (k : Int)) (by omega)
  · have e4 : X.toNat < 2 ^ 32 := by have := of_decide_eq_false hc4; omega
    have y4 := e4
    refine at_skip ?_
    refine x_tn ?_
    refine at_seq ?_
    refine at_seq ?_
    refine at_region ?_
    refine s1 (y_p rfl) rfl <| s1 (y_p rfl) rfl <| ?_
    refine at_nil ?_
    refine x_tn ?_
    refine at_cond rfl (fun hc8 => ?_) (fun hc8 => ?_)
    · have e8 := lenN_sh X 16 (by have := of_decide_eq_true hc8; omega)
      have y8 := sh_lt X 16 16 y4
      refine at_seq ?_
      refine at_region ?_
      refine s1 (y_p rfl) rfl <| s1 (shr64 _ 16 rfl rfl rfl (by decide)) rfl <| s1 (y_p rfl) rfl <| ?_
      refine at_nil ?_
      refine x_tn ?_
      refine at_region ?_
      refine s1 ((y_p rfl).v (v' := .i .i64 0) rfl) rfl <| s1 (addN 0 16 rfl rfl rfl rfl (by omega)) rfl <| s1 (y_p rfl) rfl <| ?_
      refine at_nil ?_
      refine x_tn ?_
      refine at_seq ?_
      refine at_seq ?_
      refine at_region ?_
      refine s1 (y_p rfl) rfl <| s1 (y_p rfl) rfl <| ?_
      refine at_nil ?_
      refine x_tn ?_
      refine at_cond rfl (fun hc14 => ?_) (fun hc14 => ?_)
      · have e14 := lenN_sh (X >>> 16) 8 (by have := of_decide_eq_true hc14; omega)
        have y14 := sh_lt (X >>> 16) 8 8 y8
        refine at_seq ?_
        refine at_region ?_
        refine s1 (y_p rfl) rfl <| s1 (shr64 _ 8 rfl rfl rfl (by decide)) rfl <| s1 (y_p rfl) rfl <| ?_
        refine at_nil ?_
        refine x_tn ?_
        refine at_region ?_
        refine s1 (y_p rfl) rfl <| s1 (addN _ 8 rfl rfl rfl rfl (by omega)) rfl <| s1 (y_p rfl) rfl <| ?_
        refine at_nil ?_
        refine x_tn ?_
        refine at_seq ?_
        refine at_region ?_
        refine s1 (y_p rfl) rfl <| s1 (y_p rfl) rfl <| s1 (to8_64 _ Tryd.underlying61 Tryd.underlying5 rfl) rfl <| s1 (y_sidT ((X >>> 16) >>> 8).toNat (UInt8.ofNat (lenN ((X >>> 16) >>> 8).toNat)) Tryd.underlying9 rfl (by kernel_rfl) rfl (tab_idx y14) (tab_at _ y14)) rfl <| s1 ((y_conv Tryd.underlying5 Tryd.underlying3 rfl).v (v' := .i .i64 (lenN ((X >>> 16) >>> 8).toNat : Nat)) (tab_conv y14)) rfl <| s1 (addN _ _ rfl rfl rfl rfl (by have := lenN_small y14; omega)) rfl <| s1 (y_p rfl) rfl <| ?_
        refine at_nil ?_
        refine x_tn ?_
        refine at_ret ?_
        refine at_result (rs := [.tmp 2]) rfl (r_tmp rfl r_nil) ?_
        exact congrArg (fun k : Nat => A.i .i64 (k : Int)) (by omega)
      · have e14 : (X >>> 16).toNat < 2 ^ 8 := by have := of_decide_eq_false hc14; omega
        have y14 := e14
        refine at_skip ?_
        refine x_tn ?_
        refine at_seq ?_
        refine at_region ?_
        refine s1 (y_p rfl) rfl <| s1 (y_p rfl) rfl <| s1 (to8_64 _ Tryd.underlying61 Tryd.underlying5 rfl) rfl <| s1 (y_sidT (X >>> 16).toNat (UInt8.ofNat (lenN (X >>> 16).toNat)) Tryd.underlying9 rfl (by kernel_rfl) rfl (tab_idx y14) (tab_at _ y14)) rfl <| s1 ((y_conv Tryd.underlying5 Tryd.underlying3 rfl).v (v' := .i .i64 (lenN (X >>> 16).toNat : Nat)) (tab_conv y14)) rfl <| s1 (addN _ _ rfl rfl rfl rfl (by have := lenN_small y14; omega)) rfl <| s1 (y_p rfl) rfl <| ?_
        refine at_nil ?_
        refine x_tn ?_
        refine at_ret ?_
        refine at_result (rs := [.tmp 2]) rfl (r_tmp rfl r_nil) ?_
        exact congrArg (fun k : Nat => A.i .i64 (k : Int)) (by omega)
    · have e8 : X.toNat < 2 ^ 16 := by have := of_decide_eq_false hc8; omega
      have y8 := e8
      refine at_skip ?_
      refine x_tn ?_
      refine at_seq ?_
      refine at_seq ?_
      refine at_region ?_
      refine s1 (y_p rfl) rfl <| s1 (y_p rfl) rfl <| ?_
      refine at_nil ?_
      refine x_tn ?_
      refine at_cond rfl (fun hc14 => ?_) (fun hc14 => ?_)
      · have e14 := lenN_sh X 8 (by have := of_decide_eq_true hc14; omega)
        have y14 := sh_lt X 8 8 y8
        refine at_seq ?_
        refine at_region ?_
        refine s1 (y_p rfl) rfl <| s1 (shr64 _ 8 rfl rfl rfl (by decide)) rfl <| s1 (y_p rfl) rfl <| ?_
        refine at_nil ?_
        refine x_tn ?_
        refine at_region ?_
        refine s1 ((y_p rfl).v (v' := .i .i64 0) rfl) rfl <| s1 (addN 0 8 rfl rfl rfl rfl (by omega)) rfl <| s1 (y_p rfl) rfl <| ?_
        refine at_nil ?_
        refine x_tn ?_
        refine at_seq ?_
        refine at_region ?_
        refine s1 (y_p rfl) rfl <| s1 (y_p rfl) rfl <| s1 (to8_64 _ Tryd.underlying61 Tryd.underlying5 rfl) rfl <| s1 (y_sidT (X >>> 8).toNat (UInt8.ofNat (lenN (X >>> 8).toNat)) Tryd.underlying9 rfl (by kernel_rfl) rfl (tab_idx y14) (tab_at _ y14)) rfl <| s1 ((y_conv Tryd.underlying5 Tryd.underlying3 rfl).v (v' := .i .i64 (lenN (X >>> 8).toNat : Nat)) (tab_conv y14)) rfl <| s1 (addN _ _ rfl rfl rfl rfl (by have := lenN_small y14; omega)) rfl <| s1 (y_p rfl) rfl <| ?_
        refine at_nil ?_
        refine x_tn ?_
        refine at_ret ?_
        refine at_result (rs := [.tmp 2]) rfl (r_tmp rfl r_nil) ?_
        exact congrArg (fun k : Nat => A.i .i64 (k : Int)) (by omega)
      · have e14 : X.toNat < 2 ^ 8 := by have := of_decide_eq_false hc14; omega
        have y14 := e14
        refine at_skip ?_
        refine x_tn ?_
        refine at_seq ?_
        refine at_region ?_
        refine s1 ((y_p rfl).v (v' := .i .i64 0) rfl) rfl <| s1 (y_p rfl) rfl <| s1 (to8_64 _ Tryd.underlying61 Tryd.underlying5 rfl) rfl <| s1 (y_sidT X.toNat (UInt8.ofNat (lenN X.toNat)) Tryd.underlying9 rfl (by kernel_rfl) rfl (tab_idx y14) (tab_at _ y14)) rfl <| s1 ((y_conv Tryd.underlying5 Tryd.underlying3 rfl).v (v' := .i .i64 (lenN X.toNat : Nat)) (tab_conv y14)) rfl <| s1 (addN 0 _ rfl rfl rfl rfl (by have := lenN_small y14; omega)) rfl <| s1 (y_p rfl) rfl <| ?_
        refine at_nil ?_
        refine x_tn ?_
        refine at_ret ?_
        refine at_result (rs := [.tmp 2]) rfl (r_tmp rfl r_nil) ?_
        exact congrArg (fun k : Nat => A.i .i64 (k : Int)) (by omega)

set_option linter.unusedSimpArgs false in
set_option maxHeartbeats 1000000 in
theorem len_ok (X : BitVec 64) : Con Tryd.prog 43 [w64 X] (Ret (.i .i64 (lenN X.toNat : Nat))) := by
  refine enter Tryd.func43 rfl Tryd.ntmps43 (by kernel_rfl) (Nat.le_of_ble_eq_true rfl) fun w0 X0 hI => ?_
  refine at_seq ?_
  refine at_region ?_
  refine s1 ((y_p rfl).v (v' := .i .i64 0) rfl) rfl <| ?_
  refine at_nil ?_
  refine x_tn ?_
  refine at_seq ?_
  refine at_else rfl ?_
  refine at_skip ?_
  refine x_tn ?_
  refine at_seq ?_
  refine at_region ?_
  refine s1 (y_p rfl) rfl <| ?_
  refine at_op rfl (n_call false rfl (.cons (.pure pu) (.nil)) (len64_ok X) pu (.inl rfl) rfl ?_)
  refine s1 (y_p rfl) rfl <| ?_
  refine at_nil ?_
  refine x_tn ?_
  refine at_ret ?_
  refine at_result (rs := [.tmp 2]) rfl (r_tmp rfl (r_nil)) rfl

set_option linter.unusedSimpArgs false in
set_option maxHeartbeats 1000000 in
theorem half_ok (n : Nat) (h : 2 ≤ n) (hn : n ≤ 1099511627776) : Con Tryd.prog 30 [.i .i64 (n : Nat)] (Ret (.i .i64 (halfN n : Nat))) := by
  refine enter Tryd.func30 rfl Tryd.ntmps30 (by kernel_rfl) (Nat.le_of_ble_eq_true rfl) fun w0 X0 hI => ?_
  refine at_seq ?_
  refine at_region ?_
  refine s1 ((y_p rfl).v (v' := .i .i64 0) rfl) rfl <| ?_
  refine at_nil ?_
  refine x_tn ?_
  refine at_seq ?_
  refine at_region ?_
  refine s1 (y_p rfl) rfl <| s1 (subN n 1 rfl rfl rfl rfl (by omega) (by omega)) rfl <| s1 (ofN_64 (n - 1) Tryd.underlying3 Tryd.underlying65 rfl rfl) rfl <| ?_
  refine at_op rfl (n_call false rfl (.cons (.pure pu) (.nil)) (len_ok (c64 (n - 1))) pu (.inl rfl) rfl ?_)
  refine s1 ((subN (lenN (c64 (n - 1)).toNat) 1 rfl rfl rfl rfl (by rw [c64_n (n := n - 1) (by omega), lenN_pos (by omega)]; omega) (by rw [c64_n (n := n - 1) (by omega)]; have := lenN_le (x := n - 1) (by omega); omega)).v (v' := .i .i64 ((n - 1).log2 : Nat)) (congrArg (fun k : Nat => A.i .i64 (k : Int)) (by rw [c64_n (n := n - 1) (by omega), lenN_pos (by omega)]; omega))) rfl <| s1 ((y_shl rfl rfl (by omega)).v (v' := .i .i64 (halfN n : Nat)) (shl_pow h hn)) rfl <| s1 (y_p rfl) rfl <| ?_
  refine at_nil ?_
  refine x_tn ?_
  refine at_ret ?_
  refine at_result (rs := [.tmp 2]) rfl (r_tmp rfl (r_nil)) rfl

end Go.Abs.D2
