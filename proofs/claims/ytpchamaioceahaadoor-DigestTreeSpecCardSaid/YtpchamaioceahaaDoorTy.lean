/-
  What the table of types says, for the walks. Conditions: none.
-/
import Derived.Test.YtpchamaioceahaaDoorProg
import Derived.Test.YtpchamaioceahaaDoorAbsI
import Derived.KernelRfl
namespace Go.Abs
open Go Go.Eng Go.Proofs

theorem hmix : Tryd.prog.follows .mixedOrders = true := by kernel_rfl
theorem ti3 : TI Tryd.prog 3 1 8 [.int .i64 0] false := TI.of (z := .int .i64 0) (by kernel_rfl) Tryd.underlying3 rfl rfl
theorem ti4 : TI Tryd.prog 4 1 1 [.bool false] false := TI.of (z := .bool false) (by kernel_rfl) Tryd.underlying4 rfl rfl
theorem ti5 : TI Tryd.prog 5 1 1 [.int .u8 0] false := TI.of (z := .int .u8 0) (by kernel_rfl) Tryd.underlying5 rfl rfl
theorem ti22 : TI Tryd.prog 22 1 24 [.slice none 0 0] false := TI.of (z := .slice none 0 0) (by kernel_rfl) Tryd.underlying22 rfl rfl
theorem ti24 : TI Tryd.prog 24 1 24 [.slice none 0 0] false := TI.of (z := .slice none 0 0) (by kernel_rfl) Tryd.underlying24 rfl rfl
theorem ti26 : TI Tryd.prog 26 32 32 (List.replicate 32 (.int .u8 0)) true := TI.of (z := .agg (List.replicate 32 (.int .u8 0) : List Value).toArray) (by kernel_rfl) Tryd.underlying26 rfl rfl
theorem ti30 : TI Tryd.prog 30 1 24 [.slice none 0 0] false := TI.of (z := .slice none 0 0) (by kernel_rfl) Tryd.underlying30 rfl rfl
theorem ti33 : TI Tryd.prog 33 1 24 [.slice none 0 0] false := TI.of (z := .slice none 0 0) (by kernel_rfl) Tryd.underlying33 rfl rfl
theorem ti38 : TI Tryd.prog 38 1 24 [.slice none 0 0] false := TI.of (z := .slice none 0 0) (by kernel_rfl) Tryd.underlying38 rfl rfl
theorem ti50 : TI Tryd.prog 50 1 4 [.int .u32 0] false := TI.of (z := .int .u32 0) (by kernel_rfl) Tryd.underlying50 rfl rfl
theorem ti51 : TI Tryd.prog 51 8 32 [.int .u32 0, .int .u32 0, .int .u32 0, .int .u32 0, .int .u32 0, .int .u32 0, .int .u32 0, .int .u32 0] true := TI.of (z := .agg ([.int .u32 0, .int .u32 0, .int .u32 0, .int .u32 0, .int .u32 0, .int .u32 0, .int .u32 0, .int .u32 0] : List Value).toArray) (by kernel_rfl) Tryd.underlying51 rfl rfl
theorem ti56 : TI Tryd.prog 56 1 24 [.slice none 0 0] false := TI.of (z := .slice none 0 0) (by kernel_rfl) Tryd.underlying56 rfl rfl
theorem ti58 : TI Tryd.prog 58 8 32 [.int .u32 0, .int .u32 0, .int .u32 0, .int .u32 0, .int .u32 0, .int .u32 0, .int .u32 0, .int .u32 0] true := TI.of (z := .agg ([.int .u32 0, .int .u32 0, .int .u32 0, .int .u32 0, .int .u32 0, .int .u32 0, .int .u32 0, .int .u32 0] : List Value).toArray) (by kernel_rfl) Tryd.underlying58 rfl rfl
theorem ti62 : TI Tryd.prog 62 64 256 (List.replicate 64 (.int .u32 0)) true := TI.of (z := .agg (List.replicate 64 (.int .u32 0) : List Value).toArray) (by kernel_rfl) Tryd.underlying62 rfl rfl
theorem ti68 : TI Tryd.prog 68 64 64 (List.replicate 64 (.int .u8 0)) true := TI.of (z := .agg (List.replicate 64 (.int .u8 0) : List Value).toArray) (by kernel_rfl) Tryd.underlying68 rfl rfl
end Go.Abs
