/-
  Closed facts on this translation.
-/
import Derived.Test.YtfchknndocooaaaPure
import Derived.Test.YtfchknndocooaaaChecked
namespace Go.Proofs.Ytfchknndocooaaa
open Go Go.RowKit Go.Proofs

theorem mixed : Try.prog.follows .mixedOrders = true := by kernel_rfl
theorem za_25 : (Try.prog.info? 25).map (fun i => i.zero.map (·.cells.toList)) = some (some [.int .i64 0, .int .i64 0, .int .i64 0]) := by kernel_rfl
theorem fo_23_0 : fldo Try.prog 23 0 = some 0 := by kernel_rfl
theorem tk_3 : tyk Try.prog 3 = some (false, 1) := by kernel_rfl
theorem fo_25_0 : fldo Try.prog 25 0 = some 0 := by kernel_rfl
theorem fo_23_1 : fldo Try.prog 23 1 = some 1 := by kernel_rfl
theorem fo_25_1 : fldo Try.prog 25 1 = some 1 := by kernel_rfl
theorem fo_23_2 : fldo Try.prog 23 2 = some 2 := by kernel_rfl
theorem fo_25_2 : fldo Try.prog 25 2 = some 2 := by kernel_rfl
theorem tk_25 : tyk Try.prog 25 = some (true, 3) := by kernel_rfl
theorem nm_13 : (Try.f13.name == "runtime.NumGoroutine") = false := by kernel_rfl
theorem nm_14 : (Try.f14.name == "runtime.NumGoroutine") = false := by kernel_rfl
theorem tk_23 : tyk Try.prog 23 = some (true, 3) := by kernel_rfl
theorem nm_6 : (Try.f6.name == "runtime.NumGoroutine") = false := by kernel_rfl
theorem nm_5 : (Try.f5.name == "runtime.NumGoroutine") = false := by kernel_rfl
theorem nm_7 : (Try.f7.name == "runtime.NumGoroutine") = false := by kernel_rfl
theorem ub_4 : Try.prog.underlying 4 = some .bool := by kernel_rfl
end Go.Proofs.Ytfchknndocooaaa
