/-
  Closed facts on this translation.
-/
import Derived.Test.YtkahnmhkfmjomadDoorPure
import Derived.Test.YtkahnmhkfmjomadDoorChecked
import Derived.KernelRfl
import Derived.Test.YtkahnmhkfmjomadDoorApp
namespace Go.Proofs.YtkahnmhkfmjomadDoor
open Go Go.RowKit Go.Proofs

theorem mixed : Tryd.prog.follows .mixedOrders = true := by kernel_rfl
theorem el_22 : elo Tryd.prog 22 = some 3 := by kernel_rfl
theorem za_33 : (Tryd.prog.info? 33).map (fun i => i.zero.map (·.cells.toList)) = some (some [.int .i64 0, .int .i64 0, .int .i64 0]) := by kernel_rfl
theorem fo_35_0 : fldo Tryd.prog 35 0 = some 0 := by kernel_rfl
theorem tk_3 : tyk Tryd.prog 3 = some (false, 1) := by kernel_rfl
theorem fo_33_0 : fldo Tryd.prog 33 0 = some 0 := by kernel_rfl
theorem fo_35_1 : fldo Tryd.prog 35 1 = some 1 := by kernel_rfl
theorem fo_33_1 : fldo Tryd.prog 33 1 = some 1 := by kernel_rfl
theorem fo_35_2 : fldo Tryd.prog 35 2 = some 2 := by kernel_rfl
theorem fo_33_2 : fldo Tryd.prog 33 2 = some 2 := by kernel_rfl
theorem tk_33 : tyk Tryd.prog 33 = some (true, 3) := by kernel_rfl
theorem mk_26 : mkinfo Tryd.prog 26 = some (3, true, [.int .i64 0, .int .i64 0, .int .i64 0]) := by kernel_rfl
theorem tk_35 : tyk Tryd.prog 35 = some (true, 3) := by kernel_rfl
theorem fa_10 : FnAt Tryd.prog 10 := ⟨_, _, Tryd.func10, rfl, by kernel_rfl⟩
theorem el_26 : elo Tryd.prog 26 = some 3 := by kernel_rfl
theorem fa_17 : FnAt Tryd.prog 17 := ⟨_, _, Tryd.func17, rfl, by kernel_rfl⟩
theorem isInt_3 : isInt Tryd.prog 3 = true := by kernel_rfl
theorem isU8_5 : isU8 Tryd.prog 5 = true := by kernel_rfl
theorem fa_18 : FnAt Tryd.prog 18 := ⟨_, _, Tryd.func18, rfl, by kernel_rfl⟩
theorem sb_30_1 (z0 : UInt8) : sbuilt Tryd.prog 30 1 [(0, .int .u8 (z0.toNat : Int))] = some [.int .u8 (z0.toNat : Int)] := by kernel_rfl
theorem isBytes_30 : isBytes Tryd.prog 30 = true := by kernel_rfl
theorem isStr_9 : isStr Tryd.prog 9 = true := by kernel_rfl
theorem fa_13 : FnAt Tryd.prog 13 := ⟨_, _, Tryd.func13, rfl, by kernel_rfl⟩
theorem sb_38_7 (z0 : Str) (z1 : Str) (z2 : Str) (z3 : Str) (z4 : Str) (z5 : Str) (z6 : Str) : sbuilt Tryd.prog 38 7 [(0, bs z0), (1, bs z1), (2, bs z2), (3, bs z3), (4, bs z4), (5, bs z5), (6, bs z6)] = some [bs z0, bs z1, bs z2, bs z3, bs z4, bs z5, bs z6] := by kernel_rfl
theorem el_38 : elo Tryd.prog 38 = some 1 := by kernel_rfl
theorem tk_9 : tyk Tryd.prog 9 = some (false, 1) := by kernel_rfl
theorem sb_39_7 (z0 : Int) (z1 : Int) (z2 : Int) (z3 : Int) (z4 : Int) (z5 : Int) (z6 : Int) : sbuilt Tryd.prog 39 7 [(0, .int .i64 z0), (1, .int .i64 z1), (2, .int .i64 z2), (3, .int .i64 z3), (4, .int .i64 z4), (5, .int .i64 z5), (6, .int .i64 z6)] = some [.int .i64 z0, .int .i64 z1, .int .i64 z2, .int .i64 z3, .int .i64 z4, .int .i64 z5, .int .i64 z6] := by kernel_rfl
theorem el_39 : elo Tryd.prog 39 = some 1 := by kernel_rfl
theorem sb_39_2 (z0 : Int) (z1 : Int) : sbuilt Tryd.prog 39 2 [(0, .int .i64 z0), (1, .int .i64 z1)] = some [.int .i64 z0, .int .i64 z1] := by kernel_rfl
theorem fa_14 : FnAt Tryd.prog 14 := ⟨_, _, Tryd.func14, rfl, by kernel_rfl⟩
theorem sb_30_0 : sbuilt Tryd.prog 30 0 [] = some [] := by kernel_rfl
theorem fa_9 : FnAt Tryd.prog 9 := ⟨_, _, Tryd.func9, rfl, by kernel_rfl⟩
theorem us_9 : Tryd.prog.underlying 9 = some .string := by kernel_rfl
theorem ak_30 : aok Tryd.prog 30 1 = true := by kernel_rfl
theorem fa_19 : FnAt Tryd.prog 19 := ⟨_, _, Tryd.func19, rfl, by kernel_rfl⟩
theorem fa_22 : FnAt Tryd.prog 22 := ⟨_, _, Tryd.func22, rfl, by kernel_rfl⟩
theorem sb_38_1 (z0 : Str) : sbuilt Tryd.prog 38 1 [(0, bs z0)] = some [bs z0] := by kernel_rfl
theorem fa_20 : FnAt Tryd.prog 20 := ⟨_, _, Tryd.func20, rfl, by kernel_rfl⟩
theorem ak_38 : aok Tryd.prog 38 1 = true := by kernel_rfl
theorem fa_21 : FnAt Tryd.prog 21 := ⟨_, _, Tryd.func21, rfl, by kernel_rfl⟩
theorem fa_15 : FnAt Tryd.prog 15 := ⟨_, _, Tryd.func15, rfl, by kernel_rfl⟩
theorem sb_39_1 (z0 : Int) : sbuilt Tryd.prog 39 1 [(0, .int .i64 z0)] = some [.int .i64 z0] := by kernel_rfl
theorem fa_16 : FnAt Tryd.prog 16 := ⟨_, _, Tryd.func16, rfl, by kernel_rfl⟩
theorem fa_11 : FnAt Tryd.prog 11 := ⟨_, _, Tryd.func11, rfl, by kernel_rfl⟩
theorem fa_12 : FnAt Tryd.prog 12 := ⟨_, _, Tryd.func12, rfl, by kernel_rfl⟩
theorem fa_4 : FnAt Tryd.prog 4 := ⟨_, _, Tryd.func4, rfl, by kernel_rfl⟩
theorem fa_6 : FnAt Tryd.prog 6 := ⟨_, _, Tryd.func6, rfl, by kernel_rfl⟩
theorem fa_5 : FnAt Tryd.prog 5 := ⟨_, _, Tryd.func5, rfl, by kernel_rfl⟩
theorem fa_7 : FnAt Tryd.prog 7 := ⟨_, _, Tryd.func7, rfl, by kernel_rfl⟩
theorem ub_4 : Tryd.prog.underlying 4 = some .bool := by kernel_rfl
theorem fa_8 : FnAt Tryd.prog 8 := ⟨_, _, Tryd.func8, rfl, by kernel_rfl⟩
end Go.Proofs.YtkahnmhkfmjomadDoor
