/-
  Closed facts on this translation.
-/
import Derived.Test.YtidkcdeddlnbdaaDoorPure
import Derived.Test.YtidkcdeddlnbdaaDoorChecked
import Derived.KernelRfl
import Derived.Test.YtidkcdeddlnbdaaDoorErr
namespace Go.Proofs.YtidkcdeddlnbdaaDoor
open Go Go.RowKit Go.Proofs

theorem mixed : Tryd.prog.follows .mixedOrders = true := by kernel_rfl
theorem sb_28_0 : sbuilt Tryd.prog 28 0 [] = some [] := by kernel_rfl
theorem isStr_9 : isStr Tryd.prog 9 = true := by kernel_rfl
theorem sb_28_1 (z0 : Str) : sbuilt Tryd.prog 28 1 [(0, bs z0)] = some [bs z0] := by kernel_rfl
theorem ak_28 : aok Tryd.prog 28 1 = true := by kernel_rfl
theorem el_28 : elo Tryd.prog 28 = some 1 := by kernel_rfl
theorem isInt_3 : isInt Tryd.prog 3 = true := by kernel_rfl
theorem isU8_5 : isU8 Tryd.prog 5 = true := by kernel_rfl
theorem fa_26 : FnAt Tryd.prog 26 := ⟨_, _, Tryd.func26, rfl, by kernel_rfl⟩
theorem sb_47_1 (z0 : UInt8) : sbuilt Tryd.prog 47 1 [(0, .int .u8 (z0.toNat : Int))] = some [.int .u8 (z0.toNat : Int)] := by kernel_rfl
theorem isBytes_47 : isBytes Tryd.prog 47 = true := by kernel_rfl
theorem fa_18 : FnAt Tryd.prog 18 := ⟨_, _, Tryd.func18, rfl, by kernel_rfl⟩
theorem fa_16 : FnAt Tryd.prog 16 := ⟨_, _, Tryd.func16, rfl, by kernel_rfl⟩
theorem fo_23_0 : fldo Tryd.prog 23 0 = some 0 := by kernel_rfl
theorem tk_3 : tyk Tryd.prog 3 = some (false, 1) := by kernel_rfl
theorem fo_23_1 : fldo Tryd.prog 23 1 = some 1 := by kernel_rfl
theorem fa_8 : FnAt Tryd.prog 8 := ⟨_, _, Tryd.func8, rfl, by kernel_rfl⟩
theorem fo_23_2 : fldo Tryd.prog 23 2 = some 2 := by kernel_rfl
theorem tk_23 : tyk Tryd.prog 23 = some (true, 3) := by kernel_rfl
theorem fa_17 : FnAt Tryd.prog 17 := ⟨_, _, Tryd.func17, rfl, by kernel_rfl⟩
theorem sb_28_7 (z0 : Str) (z1 : Str) (z2 : Str) (z3 : Str) (z4 : Str) (z5 : Str) (z6 : Str) : sbuilt Tryd.prog 28 7 [(0, bs z0), (1, bs z1), (2, bs z2), (3, bs z3), (4, bs z4), (5, bs z5), (6, bs z6)] = some [bs z0, bs z1, bs z2, bs z3, bs z4, bs z5, bs z6] := by kernel_rfl
theorem tk_9 : tyk Tryd.prog 9 = some (false, 1) := by kernel_rfl
theorem sb_32_7 (z0 : Int) (z1 : Int) (z2 : Int) (z3 : Int) (z4 : Int) (z5 : Int) (z6 : Int) : sbuilt Tryd.prog 32 7 [(0, .int .i64 z0), (1, .int .i64 z1), (2, .int .i64 z2), (3, .int .i64 z3), (4, .int .i64 z4), (5, .int .i64 z5), (6, .int .i64 z6)] = some [.int .i64 z0, .int .i64 z1, .int .i64 z2, .int .i64 z3, .int .i64 z4, .int .i64 z5, .int .i64 z6] := by kernel_rfl
theorem el_32 : elo Tryd.prog 32 = some 1 := by kernel_rfl
theorem sb_32_2 (z0 : Int) (z1 : Int) : sbuilt Tryd.prog 32 2 [(0, .int .i64 z0), (1, .int .i64 z1)] = some [.int .i64 z0, .int .i64 z1] := by kernel_rfl
theorem za_23 : (Tryd.prog.info? 23).map (fun i => i.zero.map (·.cells.toList)) = some (some [.int .i64 0, .int .i64 0, .int .i64 0]) := by kernel_rfl
theorem fa_7 : FnAt Tryd.prog 7 := ⟨_, _, Tryd.func7, rfl, by kernel_rfl⟩
theorem bd_23 : Tryd.prog.built 23 [] = some #[.int .i64 0, .int .i64 0, .int .i64 0] := by kernel_rfl
theorem sb_32_0 : sbuilt Tryd.prog 32 0 [] = some [] := by kernel_rfl
theorem fa_9 : FnAt Tryd.prog 9 := ⟨_, _, Tryd.func9, rfl, by kernel_rfl⟩
theorem sb_32_1 (z0 : Int) : sbuilt Tryd.prog 32 1 [(0, .int .i64 z0)] = some [.int .i64 z0] := by kernel_rfl
theorem ak_32 : aok Tryd.prog 32 1 = true := by kernel_rfl
theorem bd_23_0_1_2 (z0 : Int) (z1 : Int) (z2 : Int) : Tryd.prog.built 23 [(0, .int .i64 z0), (1, .int .i64 z1), (2, .int .i64 z2)] = some #[.int .i64 z0, .int .i64 z1, .int .i64 z2] := by kernel_rfl
theorem fa_10 : FnAt Tryd.prog 10 := ⟨_, _, Tryd.func10, rfl, by kernel_rfl⟩
theorem fa_29 : FnAt Tryd.prog 29 := ⟨_, _, Tryd.func29, rfl, by kernel_rfl⟩
theorem fa_19 : FnAt Tryd.prog 19 := ⟨_, _, Tryd.func19, rfl, by kernel_rfl⟩
theorem if_42 : isIfc Tryd.prog 42 = true := by kernel_rfl
theorem fa_12 : FnAt Tryd.prog 12 := ⟨_, _, Tryd.func12, rfl, by kernel_rfl⟩
theorem fa_20 : FnAt Tryd.prog 20 := ⟨_, _, Tryd.func20, rfl, by kernel_rfl⟩
theorem fa_15 : FnAt Tryd.prog 15 := ⟨_, _, Tryd.func15, rfl, by kernel_rfl⟩
theorem fa_21 : FnAt Tryd.prog 21 := ⟨_, _, Tryd.func21, rfl, by kernel_rfl⟩
theorem fa_22 : FnAt Tryd.prog 22 := ⟨_, _, Tryd.func22, rfl, by kernel_rfl⟩
theorem fa_11 : FnAt Tryd.prog 11 := ⟨_, _, Tryd.func11, rfl, by kernel_rfl⟩
theorem fa_13 : FnAt Tryd.prog 13 := ⟨_, _, Tryd.func13, rfl, by kernel_rfl⟩
theorem fa_14 : FnAt Tryd.prog 14 := ⟨_, _, Tryd.func14, rfl, by kernel_rfl⟩
theorem fa_4 : FnAt Tryd.prog 4 := ⟨_, _, Tryd.func4, rfl, by kernel_rfl⟩
theorem fa_5 : FnAt Tryd.prog 5 := ⟨_, _, Tryd.func5, rfl, by kernel_rfl⟩
theorem fa_6 : FnAt Tryd.prog 6 := ⟨_, _, Tryd.func6, rfl, by kernel_rfl⟩
theorem ub_4 : Tryd.prog.underlying 4 = some .bool := by kernel_rfl
end Go.Proofs.YtidkcdeddlnbdaaDoor
