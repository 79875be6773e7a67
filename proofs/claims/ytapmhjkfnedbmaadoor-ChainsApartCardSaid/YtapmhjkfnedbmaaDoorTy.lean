/-
  What the table of types says, for the walks. Conditions: none.
-/
import Derived.Test.YtapmhjkfnedbmaaDoorProg
import Derived.Test.YtapmhjkfnedbmaaDoorAbsI
import Derived.KernelRfl
namespace Go.Abs
open Go Go.Eng Go.Proofs

theorem hmix : Tryd.prog.follows .mixedOrders = true := by kernel_rfl
theorem ti3 : TI Tryd.prog 3 1 8 [.int .i64 0] false := TI.of (z := .int .i64 0) (by kernel_rfl) Tryd.underlying3 rfl rfl
theorem ti4 : TI Tryd.prog 4 1 1 [.bool false] false := TI.of (z := .bool false) (by kernel_rfl) Tryd.underlying4 rfl rfl
theorem ti5 : TI Tryd.prog 5 1 1 [.int .u8 0] false := TI.of (z := .int .u8 0) (by kernel_rfl) Tryd.underlying5 rfl rfl
theorem ti23 : TI Tryd.prog 23 32 32 (List.replicate 32 (.int .u8 0)) true := TI.of (z := .agg (List.replicate 32 (.int .u8 0) : List Value).toArray) (by kernel_rfl) Tryd.underlying23 rfl rfl
theorem ti24 : TI Tryd.prog 24 1 24 [.slice none 0 0] false := TI.of (z := .slice none 0 0) (by kernel_rfl) Tryd.underlying24 rfl rfl
theorem ti29 : TI Tryd.prog 29 1 24 [.slice none 0 0] false := TI.of (z := .slice none 0 0) (by kernel_rfl) Tryd.underlying29 rfl rfl
theorem ti32 : TI Tryd.prog 32 1 8 [.int .i64 0] false := TI.of (z := .int .i64 0) (by kernel_rfl) Tryd.underlying32 rfl rfl
theorem ti41 : TI Tryd.prog 41 1 24 [.slice none 0 0] false := TI.of (z := .slice none 0 0) (by kernel_rfl) Tryd.underlying41 rfl rfl
theorem ti46 : TI Tryd.prog 46 19 152 (List.replicate 19 (.int .i64 0)) true := TI.of (z := .agg (List.replicate 19 (.int .i64 0) : List Value).toArray) (by kernel_rfl) Tryd.underlying46 rfl rfl
theorem ti49 : TI Tryd.prog 49 608 608 (List.replicate 608 (.int .u8 0)) true := TI.of (z := .agg (List.replicate 608 (.int .u8 0) : List Value).toArray) (by kernel_rfl) Tryd.underlying49 rfl rfl
theorem ti57 : TI Tryd.prog 57 1 24 [.slice none 0 0] false := TI.of (z := .slice none 0 0) (by kernel_rfl) Tryd.underlying57 rfl rfl
theorem ti59 : TI Tryd.prog 59 1 4 [.int .u32 0] false := TI.of (z := .int .u32 0) (by kernel_rfl) Tryd.underlying59 rfl rfl
theorem ti60 : TI Tryd.prog 60 8 32 [.int .u32 0, .int .u32 0, .int .u32 0, .int .u32 0, .int .u32 0, .int .u32 0, .int .u32 0, .int .u32 0] true := TI.of (z := .agg ([.int .u32 0, .int .u32 0, .int .u32 0, .int .u32 0, .int .u32 0, .int .u32 0, .int .u32 0, .int .u32 0] : List Value).toArray) (by kernel_rfl) Tryd.underlying60 rfl rfl
theorem ti61 : TI Tryd.prog 61 8 32 [.int .u32 0, .int .u32 0, .int .u32 0, .int .u32 0, .int .u32 0, .int .u32 0, .int .u32 0, .int .u32 0] true := TI.of (z := .agg ([.int .u32 0, .int .u32 0, .int .u32 0, .int .u32 0, .int .u32 0, .int .u32 0, .int .u32 0, .int .u32 0] : List Value).toArray) (by kernel_rfl) Tryd.underlying61 rfl rfl
theorem ti66 : TI Tryd.prog 66 64 64 (List.replicate 64 (.int .u8 0)) true := TI.of (z := .agg (List.replicate 64 (.int .u8 0) : List Value).toArray) (by kernel_rfl) Tryd.underlying66 rfl rfl
theorem ti69 : TI Tryd.prog 69 64 256 (List.replicate 64 (.int .u32 0)) true := TI.of (z := .agg (List.replicate 64 (.int .u32 0) : List Value).toArray) (by kernel_rfl) Tryd.underlying69 rfl rfl
end Go.Abs
