/-
  What the table of types says, for the walks. Conditions: none.
-/
import Derived.Test.YtjnbpinnjbdnpaaProg
import Derived.Test.YtjnbpinnjbdnpaaAbsI
import Derived.KernelRfl
namespace Go.Abs
open Go Go.Eng Go.Proofs

theorem hmix : Try.prog.follows .mixedOrders = true := by kernel_rfl
theorem ti3 : TI Try.prog 3 1 8 [.int .i64 0] false := TI.of (z := .int .i64 0) (by kernel_rfl) Try.underlying3 rfl rfl
theorem ti5 : TI Try.prog 5 1 1 [.int .u8 0] false := TI.of (z := .int .u8 0) (by kernel_rfl) Try.underlying5 rfl rfl
theorem ti22 : TI Try.prog 22 1 24 [.slice none 0 0] false := TI.of (z := .slice none 0 0) (by kernel_rfl) Try.underlying22 rfl rfl
theorem ti30 : TI Try.prog 30 1 24 [.slice none 0 0] false := TI.of (z := .slice none 0 0) (by kernel_rfl) Try.underlying30 rfl rfl
theorem ti32 : TI Try.prog 32 1 24 [.slice none 0 0] true := TI.of (z := .agg ([.slice none 0 0] : List Value).toArray) (by kernel_rfl) Try.underlying32 rfl rfl
theorem ti35 : TI Try.prog 35 1 24 [.slice none 0 0] true := TI.of (z := .agg ([.slice none 0 0] : List Value).toArray) (by kernel_rfl) Try.underlying35 rfl rfl
theorem ti41 : TI Try.prog 41 1 24 [.slice none 0 0] false := TI.of (z := .slice none 0 0) (by kernel_rfl) Try.underlying41 rfl rfl
theorem ti51 : TI Try.prog 51 1 24 [.slice none 0 0] false := TI.of (z := .slice none 0 0) (by kernel_rfl) Try.underlying51 rfl rfl
end Go.Abs
