/-
  Closed facts on this translation.
-/
import Derived.Test.YtfnfngicgikhgaaDoorPure
import Derived.Test.YtfnfngicgikhgaaDoorChecked
import Derived.KernelRfl
namespace Go.Proofs.YtfnfngicgikhgaaDoor
open Go Go.RowKit Go.Proofs

theorem mixed : Tryd.prog.follows .mixedOrders = true := by kernel_rfl
theorem za_26 : (Tryd.prog.info? 26).map (fun i => i.zero.map (·.cells.toList)) = some (some [.int .i64 0, .int .i64 0, .int .i64 0]) := by kernel_rfl
theorem fo_23_0 : fldo Tryd.prog 23 0 = some 0 := by kernel_rfl
theorem tk_3 : tyk Tryd.prog 3 = some (false, 1) := by kernel_rfl
theorem fo_26_0 : fldo Tryd.prog 26 0 = some 0 := by kernel_rfl
theorem fo_23_1 : fldo Tryd.prog 23 1 = some 1 := by kernel_rfl
theorem fo_26_1 : fldo Tryd.prog 26 1 = some 1 := by kernel_rfl
theorem fo_23_2 : fldo Tryd.prog 23 2 = some 2 := by kernel_rfl
theorem fo_26_2 : fldo Tryd.prog 26 2 = some 2 := by kernel_rfl
theorem tk_26 : tyk Tryd.prog 26 = some (true, 3) := by kernel_rfl
theorem fa_11 : FnAt Tryd.prog 11 := ⟨_, _, Tryd.func11, rfl, by kernel_rfl⟩
theorem isInt_3 : isInt Tryd.prog 3 = true := by kernel_rfl
theorem isU8_5 : isU8 Tryd.prog 5 = true := by kernel_rfl
theorem fa_12 : FnAt Tryd.prog 12 := ⟨_, _, Tryd.func12, rfl, by kernel_rfl⟩
theorem sb_36_1 (z0 : UInt8) : sbuilt Tryd.prog 36 1 [(0, .int .u8 (z0.toNat : Int))] = some [.int .u8 (z0.toNat : Int)] := by kernel_rfl
theorem isBytes_36 : isBytes Tryd.prog 36 = true := by kernel_rfl
theorem isStr_9 : isStr Tryd.prog 9 = true := by kernel_rfl
theorem fa_7 : FnAt Tryd.prog 7 := ⟨_, _, Tryd.func7, rfl, by kernel_rfl⟩
theorem sb_30_7 (z0 : Str) (z1 : Str) (z2 : Str) (z3 : Str) (z4 : Str) (z5 : Str) (z6 : Str) : sbuilt Tryd.prog 30 7 [(0, bs z0), (1, bs z1), (2, bs z2), (3, bs z3), (4, bs z4), (5, bs z5), (6, bs z6)] = some [bs z0, bs z1, bs z2, bs z3, bs z4, bs z5, bs z6] := by kernel_rfl
theorem el_30 : elo Tryd.prog 30 = some 1 := by kernel_rfl
theorem tk_9 : tyk Tryd.prog 9 = some (false, 1) := by kernel_rfl
theorem sb_31_7 (z0 : Int) (z1 : Int) (z2 : Int) (z3 : Int) (z4 : Int) (z5 : Int) (z6 : Int) : sbuilt Tryd.prog 31 7 [(0, .int .i64 z0), (1, .int .i64 z1), (2, .int .i64 z2), (3, .int .i64 z3), (4, .int .i64 z4), (5, .int .i64 z5), (6, .int .i64 z6)] = some [.int .i64 z0, .int .i64 z1, .int .i64 z2, .int .i64 z3, .int .i64 z4, .int .i64 z5, .int .i64 z6] := by kernel_rfl
theorem el_31 : elo Tryd.prog 31 = some 1 := by kernel_rfl
theorem sb_31_2 (z0 : Int) (z1 : Int) : sbuilt Tryd.prog 31 2 [(0, .int .i64 z0), (1, .int .i64 z1)] = some [.int .i64 z0, .int .i64 z1] := by kernel_rfl
theorem fa_8 : FnAt Tryd.prog 8 := ⟨_, _, Tryd.func8, rfl, by kernel_rfl⟩
theorem fa_13 : FnAt Tryd.prog 13 := ⟨_, _, Tryd.func13, rfl, by kernel_rfl⟩
theorem fa_16 : FnAt Tryd.prog 16 := ⟨_, _, Tryd.func16, rfl, by kernel_rfl⟩
theorem sb_30_1 (z0 : Str) : sbuilt Tryd.prog 30 1 [(0, bs z0)] = some [bs z0] := by kernel_rfl
theorem fa_14 : FnAt Tryd.prog 14 := ⟨_, _, Tryd.func14, rfl, by kernel_rfl⟩
theorem ak_30 : aok Tryd.prog 30 1 = true := by kernel_rfl
theorem fa_15 : FnAt Tryd.prog 15 := ⟨_, _, Tryd.func15, rfl, by kernel_rfl⟩
theorem fa_9 : FnAt Tryd.prog 9 := ⟨_, _, Tryd.func9, rfl, by kernel_rfl⟩
theorem sb_31_1 (z0 : Int) : sbuilt Tryd.prog 31 1 [(0, .int .i64 z0)] = some [.int .i64 z0] := by kernel_rfl
theorem fa_10 : FnAt Tryd.prog 10 := ⟨_, _, Tryd.func10, rfl, by kernel_rfl⟩
theorem tk_23 : tyk Tryd.prog 23 = some (true, 3) := by kernel_rfl
theorem fa_5 : FnAt Tryd.prog 5 := ⟨_, _, Tryd.func5, rfl, by kernel_rfl⟩
theorem fa_4 : FnAt Tryd.prog 4 := ⟨_, _, Tryd.func4, rfl, by kernel_rfl⟩
theorem fa_6 : FnAt Tryd.prog 6 := ⟨_, _, Tryd.func6, rfl, by kernel_rfl⟩
theorem ub_4 : Tryd.prog.underlying 4 = some .bool := by kernel_rfl
end Go.Proofs.YtfnfngicgikhgaaDoor
