/-
  Layer 2: walks of the digest functions. Conditions: each theorem says its own.
-/
import Derived.Test.YtbjfpoafphggnaaDoorTy
import Derived.Test.YtbjfpoafphggnaaDoorD2P
namespace Go.Abs.D2
open Go Go.Eng Go.Abs Go.Proofs 

set_option linter.unusedSimpArgs false in
set_option linter.unusedVariables false in
set_option maxHeartbeats 1000000 in
theorem rot2 (x : BitVec 32) : Con Tryd.prog 42 [w32 x, .i .i64 (-2)] (Ret (w32 (rotr x 2))) := by
  refine enter Tryd.func42 rfl Tryd.ntmps42 (by kernel_rfl) (Nat.le_of_ble_eq_true rfl) fun w0 X0 hI => ?_
  refine at_seq ?_
  refine at_region ?_
  refine s1 ((y_p rfl).v (v' := .i .u32 0) rfl) rfl <| ?_
  refine at_nil ?_
  refine x_tn ?_
  refine at_seq ?_
  refine at_region ?_
  refine s1 (y_p rfl) rfl <| s1 ((y_conv Tryd.underlying3 Tryd.underlying50 rfl).v (v' := w64 (c64 18446744073709551614)) (congrArg (A.i .u64) (by decide))) rfl <| s1 ((and64 _ (c64 31) rfl rfl).v (v' := w64 (c64 30)) (congrArg w64 (by decide))) rfl <| s1 (y_p rfl) rfl <| ?_
  refine at_nil ?_
  refine x_tn ?_
  refine at_seq ?_
  refine at_region ?_
  refine s1 (y_p rfl) rfl <| s1 (y_p rfl) rfl <| s1 (shl32 _ 30 rfl rfl rfl (by decide)) rfl <| s1 (y_p rfl) rfl <| s1 (y_p rfl) rfl <| s1 ((sub64 (c64 32) (c64 30) rfl rfl (by decide)).v (v' := w64 (c64 2)) (congrArg w64 (by decide))) rfl <| s1 (shr32 _ 2 rfl rfl rfl (by decide)) rfl <| s1 ((or32 _ _ rfl rfl).v (congrArg w32 (rotl_rotr x 2))) rfl <| s1 (y_p rfl) rfl <| ?_
  refine at_nil ?_
  refine x_tn ?_
  refine at_ret ?_
  refine at_result (rs := [.tmp 4]) rfl (r_tmp rfl (r_nil)) rfl

set_option linter.unusedSimpArgs false in
set_option linter.unusedVariables false in
set_option maxHeartbeats 1000000 in
theorem rot6 (x : BitVec 32) : Con Tryd.prog 42 [w32 x, .i .i64 (-6)] (Ret (w32 (rotr x 6))) := by
  refine enter Tryd.func42 rfl Tryd.ntmps42 (by kernel_rfl) (Nat.le_of_ble_eq_true rfl) fun w0 X0 hI => ?_
  refine at_seq ?_
  refine at_region ?_
  refine s1 ((y_p rfl).v (v' := .i .u32 0) rfl) rfl <| ?_
  refine at_nil ?_
  refine x_tn ?_
  refine at_seq ?_
  refine at_region ?_
  refine s1 (y_p rfl) rfl <| s1 ((y_conv Tryd.underlying3 Tryd.underlying50 rfl).v (v' := w64 (c64 18446744073709551610)) (congrArg (A.i .u64) (by decide))) rfl <| s1 ((and64 _ (c64 31) rfl rfl).v (v' := w64 (c64 26)) (congrArg w64 (by decide))) rfl <| s1 (y_p rfl) rfl <| ?_
  refine at_nil ?_
  refine x_tn ?_
  refine at_seq ?_
  refine at_region ?_
  refine s1 (y_p rfl) rfl <| s1 (y_p rfl) rfl <| s1 (shl32 _ 26 rfl rfl rfl (by decide)) rfl <| s1 (y_p rfl) rfl <| s1 (y_p rfl) rfl <| s1 ((sub64 (c64 32) (c64 26) rfl rfl (by decide)).v (v' := w64 (c64 6)) (congrArg w64 (by decide))) rfl <| s1 (shr32 _ 6 rfl rfl rfl (by decide)) rfl <| s1 ((or32 _ _ rfl rfl).v (congrArg w32 (rotl_rotr x 6))) rfl <| s1 (y_p rfl) rfl <| ?_
  refine at_nil ?_
  refine x_tn ?_
  refine at_ret ?_
  refine at_result (rs := [.tmp 4]) rfl (r_tmp rfl (r_nil)) rfl

set_option linter.unusedSimpArgs false in
set_option linter.unusedVariables false in
set_option maxHeartbeats 1000000 in
theorem rot7 (x : BitVec 32) : Con Tryd.prog 42 [w32 x, .i .i64 (-7)] (Ret (w32 (rotr x 7))) := by
  refine enter Tryd.func42 rfl Tryd.ntmps42 (by kernel_rfl) (Nat.le_of_ble_eq_true rfl) fun w0 X0 hI => ?_
  refine at_seq ?_
  refine at_region ?_
  refine s1 ((y_p rfl).v (v' := .i .u32 0) rfl) rfl <| ?_
  refine at_nil ?_
  refine x_tn ?_
  refine at_seq ?_
  refine at_region ?_
  refine s1 (y_p rfl) rfl <| s1 ((y_conv Tryd.underlying3 Tryd.underlying50 rfl).v (v' := w64 (c64 18446744073709551609)) (congrArg (A.i .u64) (by decide))) rfl <| s1 ((and64 _ (c64 31) rfl rfl).v (v' := w64 (c64 25)) (congrArg w64 (by decide))) rfl <| s1 (y_p rfl) rfl <| ?_
  refine at_nil ?_
  refine x_tn ?_
  refine at_seq ?_
  refine at_region ?_
  refine s1 (y_p rfl) rfl <| s1 (y_p rfl) rfl <| s1 (shl32 _ 25 rfl rfl rfl (by decide)) rfl <| s1 (y_p rfl) rfl <| s1 (y_p rfl) rfl <| s1 ((sub64 (c64 32) (c64 25) rfl rfl (by decide)).v (v' := w64 (c64 7)) (congrArg w64 (by decide))) rfl <| s1 (shr32 _ 7 rfl rfl rfl (by decide)) rfl <| s1 ((or32 _ _ rfl rfl).v (congrArg w32 (rotl_rotr x 7))) rfl <| s1 (y_p rfl) rfl <| ?_
  refine at_nil ?_
  refine x_tn ?_
  refine at_ret ?_
  refine at_result (rs := [.tmp 4]) rfl (r_tmp rfl (r_nil)) rfl

set_option linter.unusedSimpArgs false in
set_option linter.unusedVariables false in
set_option maxHeartbeats 1000000 in
theorem rot11 (x : BitVec 32) : Con Tryd.prog 42 [w32 x, .i .i64 (-11)] (Ret (w32 (rotr x 11))) := by
  refine enter Tryd.func42 rfl Tryd.ntmps42 (by kernel_rfl) (Nat.le_of_ble_eq_true rfl) fun w0 X0 hI => ?_
  refine at_seq ?_
  refine at_region ?_
  refine s1 ((y_p rfl).v (v' := .i .u32 0) rfl) rfl <| ?_
  refine at_nil ?_
  refine x_tn ?_
  refine at_seq ?_
  refine at_region ?_
  refine s1 (y_p rfl) rfl <| s1 ((y_conv Tryd.underlying3 Tryd.underlying50 rfl).v (v' := w64 (c64 18446744073709551605)) (congrArg (A.i .u64) (by decide))) rfl <| s1 ((and64 _ (c64 31) rfl rfl).v (v' := w64 (c64 21)) (congrArg w64 (by decide))) rfl <| s1 (y_p rfl) rfl <| ?_
  refine at_nil ?_
  refine x_tn ?_
  refine at_seq ?_
  refine at_region ?_
  refine s1 (y_p rfl) rfl <| s1 (y_p rfl) rfl <| s1 (shl32 _ 21 rfl rfl rfl (by decide)) rfl <| s1 (y_p rfl) rfl <| s1 (y_p rfl) rfl <| s1 ((sub64 (c64 32) (c64 21) rfl rfl (by decide)).v (v' := w64 (c64 11)) (congrArg w64 (by decide))) rfl <| s1 (shr32 _ 11 rfl rfl rfl (by decide)) rfl <| s1 ((or32 _ _ rfl rfl).v (congrArg w32 (rotl_rotr x 11))) rfl <| s1 (y_p rfl) rfl <| ?_
  refine at_nil ?_
  refine x_tn ?_
  refine at_ret ?_
  refine at_result (rs := [.tmp 4]) rfl (r_tmp rfl (r_nil)) rfl

set_option linter.unusedSimpArgs false in
set_option linter.unusedVariables false in
set_option maxHeartbeats 1000000 in
theorem rot13 (x : BitVec 32) : Con Tryd.prog 42 [w32 x, .i .i64 (-13)] (Ret (w32 (rotr x 13))) := by
  refine enter Tryd.func42 rfl Tryd.ntmps42 (by kernel_rfl) (Nat.le_of_ble_eq_true rfl) fun w0 X0 hI => ?_
  refine at_seq ?_
  refine at_region ?_
  refine s1 ((y_p rfl).v (v' := .i .u32 0) rfl) rfl <| ?_
  refine at_nil ?_
  refine x_tn ?_
  refine at_seq ?_
  refine at_region ?_
  refine s1 (y_p rfl) rfl <| s1 ((y_conv Tryd.underlying3 Tryd.underlying50 rfl).v (v' := w64 (c64 18446744073709551603)) (congrArg (A.i .u64) (by decide))) rfl <| s1 ((and64 _ (c64 31) rfl rfl).v (v' := w64 (c64 19)) (congrArg w64 (by decide))) rfl <| s1 (y_p rfl) rfl <| ?_
  refine at_nil ?_
  refine x_tn ?_
  refine at_seq ?_
  refine at_region ?_
  refine s1 (y_p rfl) rfl <| s1 (y_p rfl) rfl <| s1 (shl32 _ 19 rfl rfl rfl (by decide)) rfl <| s1 (y_p rfl) rfl <| s1 (y_p rfl) rfl <| s1 ((sub64 (c64 32) (c64 19) rfl rfl (by decide)).v (v' := w64 (c64 13)) (congrArg w64 (by decide))) rfl <| s1 (shr32 _ 13 rfl rfl rfl (by decide)) rfl <| s1 ((or32 _ _ rfl rfl).v (congrArg w32 (rotl_rotr x 13))) rfl <| s1 (y_p rfl) rfl <| ?_
  refine at_nil ?_
  refine x_tn ?_
  refine at_ret ?_
  refine at_result (rs := [.tmp 4]) rfl (r_tmp rfl (r_nil)) rfl

set_option linter.unusedSimpArgs false in
set_option linter.unusedVariables false in
set_option maxHeartbeats 1000000 in
theorem rot17 (x : BitVec 32) : Con Tryd.prog 42 [w32 x, .i .i64 (-17)] (Ret (w32 (rotr x 17))) := by
  refine enter Tryd.func42 rfl Tryd.ntmps42 (by kernel_rfl) (Nat.le_of_ble_eq_true rfl) fun w0 X0 hI => ?_
  refine at_seq ?_
  refine at_region ?_
  refine s1 ((y_p rfl).v (v' := .i .u32 0) rfl) rfl <| ?_
  refine at_nil ?_
  refine x_tn ?_
  refine at_seq ?_
  refine at_region ?_
  refine s1 (y_p rfl) rfl <| s1 ((y_conv Tryd.underlying3 Tryd.underlying50 rfl).v (v' := w64 (c64 18446744073709551599)) (congrArg (A.i .u64) (by decide))) rfl <| s1 ((and64 _ (c64 31) rfl rfl).v (v' := w64 (c64 15)) (congrArg w64 (by decide))) rfl <| s1 (y_p rfl) rfl <| ?_
  refine at_nil ?_
  refine x_tn ?_
  refine at_seq ?_
  refine at_region ?_
  refine s1 (y_p rfl) rfl <| s1 (y_p rfl) rfl <| s1 (shl32 _ 15 rfl rfl rfl (by decide)) rfl <| s1 (y_p rfl) rfl <| s1 (y_p rfl) rfl <| s1 ((sub64 (c64 32) (c64 15) rfl rfl (by decide)).v (v' := w64 (c64 17)) (congrArg w64 (by decide))) rfl <| s1 (shr32 _ 17 rfl rfl rfl (by decide)) rfl <| s1 ((or32 _ _ rfl rfl).v (congrArg w32 (rotl_rotr x 17))) rfl <| s1 (y_p rfl) rfl <| ?_
  refine at_nil ?_
  refine x_tn ?_
  refine at_ret ?_
  refine at_result (rs := [.tmp 4]) rfl (r_tmp rfl (r_nil)) rfl

set_option linter.unusedSimpArgs false in
set_option linter.unusedVariables false in
set_option maxHeartbeats 1000000 in
theorem rot18 (x : BitVec 32) : Con Tryd.prog 42 [w32 x, .i .i64 (-18)] (Ret (w32 (rotr x 18))) := by
  refine enter Tryd.func42 rfl Tryd.ntmps42 (by kernel_rfl) (Nat.le_of_ble_eq_true rfl) fun w0 X0 hI => ?_
  refine at_seq ?_
  refine at_region ?_
  refine s1 ((y_p rfl).v (v' := .i .u32 0) rfl) rfl <| ?_
  refine at_nil ?_
  refine x_tn ?_
  refine at_seq ?_
  refine at_region ?_
  refine s1 (y_p rfl) rfl <| s1 ((y_conv Tryd.underlying3 Tryd.underlying50 rfl).v (v' := w64 (c64 18446744073709551598)) (congrArg (A.i .u64) (by decide))) rfl <| s1 ((and64 _ (c64 31) rfl rfl).v (v' := w64 (c64 14)) (congrArg w64 (by decide))) rfl <| s1 (y_p rfl) rfl <| ?_
  refine at_nil ?_
  refine x_tn ?_
  refine at_seq ?_
  refine at_region ?_
  refine s1 (y_p rfl) rfl <| s1 (y_p rfl) rfl <| s1 (shl32 _ 14 rfl rfl rfl (by decide)) rfl <| s1 (y_p rfl) rfl <| s1 (y_p rfl) rfl <| s1 ((sub64 (c64 32) (c64 14) rfl rfl (by decide)).v (v' := w64 (c64 18)) (congrArg w64 (by decide))) rfl <| s1 (shr32 _ 18 rfl rfl rfl (by decide)) rfl <| s1 ((or32 _ _ rfl rfl).v (congrArg w32 (rotl_rotr x 18))) rfl <| s1 (y_p rfl) rfl <| ?_
  refine at_nil ?_
  refine x_tn ?_
  refine at_ret ?_
  refine at_result (rs := [.tmp 4]) rfl (r_tmp rfl (r_nil)) rfl

set_option linter.unusedSimpArgs false in
set_option linter.unusedVariables false in
set_option maxHeartbeats 1000000 in
theorem rot19 (x : BitVec 32) : Con Tryd.prog 42 [w32 x, .i .i64 (-19)] (Ret (w32 (rotr x 19))) := by
  refine enter Tryd.func42 rfl Tryd.ntmps42 (by kernel_rfl) (Nat.le_of_ble_eq_true rfl) fun w0 X0 hI => ?_
  refine at_seq ?_
  refine at_region ?_
  refine s1 ((y_p rfl).v (v' := .i .u32 0) rfl) rfl <| ?_
  refine at_nil ?_
  refine x_tn ?_
  refine at_seq ?_
  refine at_region ?_
  refine s1 (y_p rfl) rfl <| s1 ((y_conv Tryd.underlying3 Tryd.underlying50 rfl).v (v' := w64 (c64 18446744073709551597)) (congrArg (A.i .u64) (by decide))) rfl <| s1 ((and64 _ (c64 31) rfl rfl).v (v' := w64 (c64 13)) (congrArg w64 (by decide))) rfl <| s1 (y_p rfl) rfl <| ?_
  refine at_nil ?_
  refine x_tn ?_
  refine at_seq ?_
  refine at_region ?_
  refine s1 (y_p rfl) rfl <| s1 (y_p rfl) rfl <| s1 (shl32 _ 13 rfl rfl rfl (by decide)) rfl <| s1 (y_p rfl) rfl <| s1 (y_p rfl) rfl <| s1 ((sub64 (c64 32) (c64 13) rfl rfl (by decide)).v (v' := w64 (c64 19)) (congrArg w64 (by decide))) rfl <| s1 (shr32 _ 19 rfl rfl rfl (by decide)) rfl <| s1 ((or32 _ _ rfl rfl).v (congrArg w32 (rotl_rotr x 19))) rfl <| s1 (y_p rfl) rfl <| ?_
  refine at_nil ?_
  refine x_tn ?_
  refine at_ret ?_
  refine at_result (rs := [.tmp 4]) rfl (r_tmp rfl (r_nil)) rfl

set_option linter.unusedSimpArgs false in
set_option linter.unusedVariables false in
set_option maxHeartbeats 1000000 in
theorem rot22 (x : BitVec 32) : Con Tryd.prog 42 [w32 x, .i .i64 (-22)] (Ret (w32 (rotr x 22))) := by
  refine enter Tryd.func42 rfl Tryd.ntmps42 (by kernel_rfl) (Nat.le_of_ble_eq_true rfl) fun w0 X0 hI => ?_
  refine at_seq ?_
  refine at_region ?_
  refine s1 ((y_p rfl).v (v' := .i .u32 0) rfl) rfl <| ?_
  refine at_nil ?_
  refine x_tn ?_
  refine at_seq ?_
  refine at_region ?_
  refine s1 (y_p rfl) rfl <| s1 ((y_conv Tryd.underlying3 Tryd.underlying50 rfl).v (v' := w64 (c64 18446744073709551594)) (congrArg (A.i .u64) (by decide))) rfl <| s1 ((and64 _ (c64 31) rfl rfl).v (v' := w64 (c64 10)) (congrArg w64 (by decide))) rfl <| s1 (y_p rfl) rfl <| ?_
  refine at_nil ?_
  refine x_tn ?_
  refine at_seq ?_
  refine at_region ?_
  refine s1 (y_p rfl) rfl <| s1 (y_p rfl) rfl <| s1 (shl32 _ 10 rfl rfl rfl (by decide)) rfl <| s1 (y_p rfl) rfl <| s1 (y_p rfl) rfl <| s1 ((sub64 (c64 32) (c64 10) rfl rfl (by decide)).v (v' := w64 (c64 22)) (congrArg w64 (by decide))) rfl <| s1 (shr32 _ 22 rfl rfl rfl (by decide)) rfl <| s1 ((or32 _ _ rfl rfl).v (congrArg w32 (rotl_rotr x 22))) rfl <| s1 (y_p rfl) rfl <| ?_
  refine at_nil ?_
  refine x_tn ?_
  refine at_ret ?_
  refine at_result (rs := [.tmp 4]) rfl (r_tmp rfl (r_nil)) rfl

set_option linter.unusedSimpArgs false in
set_option linter.unusedVariables false in
set_option maxHeartbeats 1000000 in
theorem rot25 (x : BitVec 32) : Con Tryd.prog 42 [w32 x, .i .i64 (-25)] (Ret (w32 (rotr x 25))) := by
  refine enter Tryd.func42 rfl Tryd.ntmps42 (by kernel_rfl) (Nat.le_of_ble_eq_true rfl) fun w0 X0 hI => ?_
  refine at_seq ?_
  refine at_region ?_
  refine s1 ((y_p rfl).v (v' := .i .u32 0) rfl) rfl <| ?_
  refine at_nil ?_
  refine x_tn ?_
  refine at_seq ?_
  refine at_region ?_
  refine s1 (y_p rfl) rfl <| s1 ((y_conv Tryd.underlying3 Tryd.underlying50 rfl).v (v' := w64 (c64 18446744073709551591)) (congrArg (A.i .u64) (by decide))) rfl <| s1 ((and64 _ (c64 31) rfl rfl).v (v' := w64 (c64 7)) (congrArg w64 (by decide))) rfl <| s1 (y_p rfl) rfl <| ?_
  refine at_nil ?_
  refine x_tn ?_
  refine at_seq ?_
  refine at_region ?_
  refine s1 (y_p rfl) rfl <| s1 (y_p rfl) rfl <| s1 (shl32 _ 7 rfl rfl rfl (by decide)) rfl <| s1 (y_p rfl) rfl <| s1 (y_p rfl) rfl <| s1 ((sub64 (c64 32) (c64 7) rfl rfl (by decide)).v (v' := w64 (c64 25)) (congrArg w64 (by decide))) rfl <| s1 (shr32 _ 25 rfl rfl rfl (by decide)) rfl <| s1 ((or32 _ _ rfl rfl).v (congrArg w32 (rotl_rotr x 25))) rfl <| s1 (y_p rfl) rfl <| ?_
  refine at_nil ?_
  refine x_tn ?_
  refine at_ret ?_
  refine at_result (rs := [.tmp 4]) rfl (r_tmp rfl (r_nil)) rfl

set_option linter.unusedSimpArgs false in
set_option linter.unusedVariables false in
set_option maxHeartbeats 1000000 in
theorem ror_ok (x : BitVec 32) (n : Nat) (h : n ≤ 32) : Con Tryd.prog 44 [w32 x, .i .i64 (n : Int)] (Ret (w32 (rotr x n))) := by
  refine enter Tryd.func44 rfl Tryd.ntmps44 (by kernel_rfl) (Nat.le_of_ble_eq_true rfl) fun w0 X0 hI => ?_
  refine at_seq ?_
  refine at_region ?_
  refine s1 ((y_p rfl).v (v' := .i .u32 0) rfl) rfl <| ?_
  refine at_nil ?_
  refine x_tn ?_
  refine at_seq ?_
  refine at_draw_tail 8 hmix (by kernel_rfl) ?_
  refine t1 (y_p rfl) rfl <| t1 (y_p rfl) rfl <| t1 (shr32 _ n rfl rfl rfl h) rfl <| t1 (y_p rfl) rfl <| t1 (y_p rfl) rfl <| t1 (subN 32 n rfl rfl rfl rfl h (by omega)) rfl <| t1 (shl32 _ (32 - n) rfl rfl rfl (by omega)) rfl <| t1 ((or32 _ _ rfl rfl).v rfl) rfl <| ?_
  refine at_snil ?_
  refine s1 (y_p rfl) rfl <| ?_
  refine at_nil ?_
  refine x_tn ?_
  refine at_ret ?_
  refine at_result (rs := [.tmp 4]) rfl (r_tmp rfl (r_nil)) rfl

set_option linter.unusedSimpArgs false in
set_option linter.unusedVariables false in
set_option maxHeartbeats 1000000 in
theorem word_ok (b : List UInt8) (i : Nat) (h : i + 4 ≤ b.length) : Con Tryd.prog 43 [.fz 4 (((b.map u8).drop (i * 1)).take (4 * 1))] (Ret (w32 (word b i))) := by
  refine enter Tryd.func43 rfl Tryd.ntmps43 (by kernel_rfl) (Nat.le_of_ble_eq_true rfl) fun w0 X0 hI => ?_
  refine at_seq ?_
  refine at_region ?_
  refine s1 ((y_p rfl).v (v' := .i .u32 0) rfl) rfl <| ?_
  refine at_nil ?_
  refine x_tn ?_
  refine at_seq ?_
  refine at_draw_tail 22 hmix (by kernel_rfl) ?_
  refine t1 (y_p rfl) rfl <| t1 (y_ixf 0 Tryd.underlying24 ti5 rfl rfl rfl (by omega) rfl) rfl <| t1 (y_load ti5 rfl rfl (getU8 b (i + 0) (by omega) (k := 0) rfl (by omega) rfl)) rfl <| t1 (of8_32 _ Tryd.underlying5 Tryd.underlying65 rfl) rfl <| t1 (shl32 _ 24 rfl rfl rfl (by decide)) rfl <| t1 (y_p rfl) rfl <| t1 (y_ixf 1 Tryd.underlying24 ti5 rfl rfl rfl (by omega) rfl) rfl <| t1 (y_load ti5 rfl rfl (getU8 b (i + 1) (by omega) (k := 1) rfl (by omega) rfl)) rfl <| t1 (of8_32 _ Tryd.underlying5 Tryd.underlying65 rfl) rfl <| t1 (shl32 _ 16 rfl rfl rfl (by decide)) rfl <| ?_
  refine t1 (or32 _ _ rfl rfl) rfl <| t1 (y_p rfl) rfl <| t1 (y_ixf 2 Tryd.underlying24 ti5 rfl rfl rfl (by omega) rfl) rfl <| t1 (y_load ti5 rfl rfl (getU8 b (i + 2) (by omega) (k := 2) rfl (by omega) rfl)) rfl <| t1 (of8_32 _ Tryd.underlying5 Tryd.underlying65 rfl) rfl <| t1 (shl32 _ 8 rfl rfl rfl (by decide)) rfl <| t1 (or32 _ _ rfl rfl) rfl <| t1 (y_p rfl) rfl <| t1 (y_ixf 3 Tryd.underlying24 ti5 rfl rfl rfl (by omega) rfl) rfl <| t1 (y_load ti5 rfl rfl (getU8 b (i + 3) (by omega) (k := 3) rfl (by omega) rfl)) rfl <| ?_
  refine t1 (of8_32 _ Tryd.underlying5 Tryd.underlying65 rfl) rfl <| t1 (or32 _ _ rfl rfl) rfl <| ?_
  refine at_snil ?_
  refine s1 (y_p rfl) rfl <| ?_
  refine at_nil ?_
  refine x_tn ?_
  refine at_ret ?_
  refine at_result (rs := [.tmp 2]) rfl (r_tmp rfl (r_nil)) rfl

end Go.Abs.D2
