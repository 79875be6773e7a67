/-
  What the table of types says, for the walks. Conditions: none.
-/
import Derived.Test.YtbjfpoafphggnaaDoorProg
import Derived.Test.YtbjfpoafphggnaaDoorAbsI
import Derived.KernelRfl
namespace Go.Abs
open Go Go.Eng Go.Proofs

theorem hmix : Tryd.prog.follows .mixedOrders = true := by kernel_rfl
theorem ti3 : TI Tryd.prog 3 1 8 [.int .i64 0] false := TI.of (z := .int .i64 0) (by kernel_rfl) Tryd.underlying3 rfl rfl
theorem ti4 : TI Tryd.prog 4 1 1 [.bool false] false := TI.of (z := .bool false) (by kernel_rfl) Tryd.underlying4 rfl rfl
theorem ti5 : TI Tryd.prog 5 1 1 [.int .u8 0] false := TI.of (z := .int .u8 0) (by kernel_rfl) Tryd.underlying5 rfl rfl
theorem ti20 : TI Tryd.prog 20 1 16 [.nilIface] false := TI.of (z := .nilIface) (by kernel_rfl) Tryd.underlying20 rfl rfl
theorem ti23 : TI Tryd.prog 23 32 32 (List.replicate 32 (.int .u8 0)) true := TI.of (z := .agg (List.replicate 32 (.int .u8 0) : List Value).toArray) (by kernel_rfl) Tryd.underlying23 rfl rfl
theorem ti24 : TI Tryd.prog 24 1 24 [.slice none 0 0] false := TI.of (z := .slice none 0 0) (by kernel_rfl) Tryd.underlying24 rfl rfl
theorem ti26 : TI Tryd.prog 26 3 40 [.int .i64 0, .int .i64 0, .slice none 0 0] true := TI.of (z := .agg ([.int .i64 0, .int .i64 0, .slice none 0 0] : List Value).toArray) (by kernel_rfl) Tryd.underlying26 rfl rfl
theorem ti31 : TI Tryd.prog 31 1 24 [.slice none 0 0] false := TI.of (z := .slice none 0 0) (by kernel_rfl) Tryd.underlying31 rfl rfl
theorem ti44 : TI Tryd.prog 44 1 2 [.int .u16 0] false := TI.of (z := .int .u16 0) (by kernel_rfl) Tryd.underlying44 rfl rfl
theorem ti65 : TI Tryd.prog 65 1 4 [.int .u32 0] false := TI.of (z := .int .u32 0) (by kernel_rfl) Tryd.underlying65 rfl rfl
theorem ti67 : TI Tryd.prog 67 1 24 [.slice none 0 0] false := TI.of (z := .slice none 0 0) (by kernel_rfl) Tryd.underlying67 rfl rfl
theorem ti68 : TI Tryd.prog 68 8 32 [.int .u32 0, .int .u32 0, .int .u32 0, .int .u32 0, .int .u32 0, .int .u32 0, .int .u32 0, .int .u32 0] true := TI.of (z := .agg ([.int .u32 0, .int .u32 0, .int .u32 0, .int .u32 0, .int .u32 0, .int .u32 0, .int .u32 0, .int .u32 0] : List Value).toArray) (by kernel_rfl) Tryd.underlying68 rfl rfl
theorem ti69 : TI Tryd.prog 69 8 32 [.int .u32 0, .int .u32 0, .int .u32 0, .int .u32 0, .int .u32 0, .int .u32 0, .int .u32 0, .int .u32 0] true := TI.of (z := .agg ([.int .u32 0, .int .u32 0, .int .u32 0, .int .u32 0, .int .u32 0, .int .u32 0, .int .u32 0, .int .u32 0] : List Value).toArray) (by kernel_rfl) Tryd.underlying69 rfl rfl
theorem ti72 : TI Tryd.prog 72 1 24 [.slice none 0 0] false := TI.of (z := .slice none 0 0) (by kernel_rfl) Tryd.underlying72 rfl rfl
theorem ti74 : TI Tryd.prog 74 64 64 (List.replicate 64 (.int .u8 0)) true := TI.of (z := .agg (List.replicate 64 (.int .u8 0) : List Value).toArray) (by kernel_rfl) Tryd.underlying74 rfl rfl
theorem ti77 : TI Tryd.prog 77 64 256 (List.replicate 64 (.int .u32 0)) true := TI.of (z := .agg (List.replicate 64 (.int .u32 0) : List Value).toArray) (by kernel_rfl) Tryd.underlying77 rfl rfl
end Go.Abs
