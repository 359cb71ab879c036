/-
  Closed facts on this translation.
-/
import Derived.Test.YtgimnmlcdidcdahPure
import Derived.Test.YtgimnmlcdidcdahChecked
import Derived.KernelRfl
namespace Go.Proofs.Ytgimnmlcdidcdah
open Go Go.RowKit Go.Proofs

theorem mixed : Try.prog.follows .mixedOrders = true := by kernel_rfl
theorem el_22 : elo Try.prog 22 = some 3 := by kernel_rfl
theorem tk_56 : tyk Try.prog 56 = some (true, 3) := by kernel_rfl
theorem za_56 : (Try.prog.info? 56).map (fun i => i.zero.map (·.cells.toList)) = some (some [.int .i64 0, .int .i64 0, .int .i64 0]) := by kernel_rfl
theorem fo_56_0 : fldo Try.prog 56 0 = some 0 := by kernel_rfl
theorem tk_3 : tyk Try.prog 3 = some (false, 1) := by kernel_rfl
theorem fa_26 : FnAt Try.prog 26 := ⟨_, _, Try.func26, rfl, by kernel_rfl⟩
theorem fo_56_1 : fldo Try.prog 56 1 = some 1 := by kernel_rfl
theorem fo_56_2 : fldo Try.prog 56 2 = some 2 := by kernel_rfl
theorem el_23 : elo Try.prog 23 = some 1 := by kernel_rfl
theorem el_25 : elo Try.prog 25 = some 4 := by kernel_rfl
theorem tk_60 : tyk Try.prog 60 = some (true, 4) := by kernel_rfl
theorem za_60 : (Try.prog.info? 60).map (fun i => i.zero.map (·.cells.toList)) = some (some [.int .i64 0, .int .i64 0, .int .i64 0, .int .i64 0]) := by kernel_rfl
theorem fo_60_0 : fldo Try.prog 60 0 = some 0 := by kernel_rfl
theorem fo_60_1 : fldo Try.prog 60 1 = some 1 := by kernel_rfl
theorem fo_60_2 : fldo Try.prog 60 2 = some 2 := by kernel_rfl
theorem fo_60_3 : fldo Try.prog 60 3 = some 3 := by kernel_rfl
theorem fo_67_0 : fldo Try.prog 67 0 = some 0 := by kernel_rfl
theorem fo_67_1 : fldo Try.prog 67 1 = some 1 := by kernel_rfl
theorem fo_67_2 : fldo Try.prog 67 2 = some 2 := by kernel_rfl
theorem ub_4 : Try.prog.underlying 4 = some .bool := by kernel_rfl
theorem fo_48_0 : fldo Try.prog 48 0 = some 0 := by kernel_rfl
theorem fo_48_1 : fldo Try.prog 48 1 = some 1 := by kernel_rfl
theorem tk_46 : tyk Try.prog 46 = some (false, 1) := by kernel_rfl
theorem el_46 : elo Try.prog 46 = some 3 := by kernel_rfl
theorem tk_67 : tyk Try.prog 67 = some (true, 3) := by kernel_rfl
theorem fa_48 : FnAt Try.prog 48 := ⟨_, _, Try.func48, rfl, by kernel_rfl⟩
theorem fo_50_0 : fldo Try.prog 50 0 = some 0 := by kernel_rfl
theorem fo_50_1 : fldo Try.prog 50 1 = some 1 := by kernel_rfl
theorem fo_50_2 : fldo Try.prog 50 2 = some 2 := by kernel_rfl
theorem tk_48 : tyk Try.prog 48 = some (true, 2) := by kernel_rfl
theorem fa_42 : FnAt Try.prog 42 := ⟨_, _, Try.func42, rfl, by kernel_rfl⟩
theorem sb_23_0 : sbuilt Try.prog 23 0 [] = some [] := by kernel_rfl
theorem fa_23 : FnAt Try.prog 23 := ⟨_, _, Try.func23, rfl, by kernel_rfl⟩
theorem sb_23_1 (z0 : Int) : sbuilt Try.prog 23 1 [(0, .int .i64 z0)] = some [.int .i64 z0] := by kernel_rfl
theorem ak_23 : aok Try.prog 23 1 = true := by kernel_rfl
theorem fo_27_0 : fldo Try.prog 27 0 = some 0 := by kernel_rfl
theorem tk_22 : tyk Try.prog 22 = some (false, 1) := by kernel_rfl
theorem fo_27_5 : fldo Try.prog 27 5 = some 5 := by kernel_rfl
theorem fa_43 : FnAt Try.prog 43 := ⟨_, _, Try.func43, rfl, by kernel_rfl⟩
theorem fo_27_1 : fldo Try.prog 27 1 = some 1 := by kernel_rfl
theorem tk_23 : tyk Try.prog 23 = some (false, 1) := by kernel_rfl
theorem fa_24 : FnAt Try.prog 24 := ⟨_, _, Try.func24, rfl, by kernel_rfl⟩
theorem fo_27_3 : fldo Try.prog 27 3 = some 3 := by kernel_rfl
theorem tk_25 : tyk Try.prog 25 = some (false, 1) := by kernel_rfl
theorem fa_25 : FnAt Try.prog 25 := ⟨_, _, Try.func25, rfl, by kernel_rfl⟩
theorem fo_27_2 : fldo Try.prog 27 2 = some 2 := by kernel_rfl
theorem tk_24 : tyk Try.prog 24 = some (false, 1) := by kernel_rfl
theorem el_24 : elo Try.prog 24 = some 4 := by kernel_rfl
theorem tk_50 : tyk Try.prog 50 = some (true, 4) := by kernel_rfl
theorem za_50 : (Try.prog.info? 50).map (fun i => i.zero.map (·.cells.toList)) = some (some [.int .i64 0, .int .i64 0, .int .i64 0, (Value.slice none 0 0)]) := by kernel_rfl
theorem fa_27 : FnAt Try.prog 27 := ⟨_, _, Try.func27, rfl, by kernel_rfl⟩
theorem fa_28 : FnAt Try.prog 28 := ⟨_, _, Try.func28, rfl, by kernel_rfl⟩
theorem fo_27_4 : fldo Try.prog 27 4 = some 4 := by kernel_rfl
theorem tk_27 : tyk Try.prog 27 = some (true, 6) := by kernel_rfl
theorem fa_29 : FnAt Try.prog 29 := ⟨_, _, Try.func29, rfl, by kernel_rfl⟩
theorem za_27 : (Try.prog.info? 27).map (fun i => i.zero.map (·.cells.toList)) = some (some [(Value.slice none 0 0), (Value.slice none 0 0), (Value.slice none 0 0), (Value.slice none 0 0), .int .i64 0, .int .i64 0]) := by kernel_rfl
theorem bd_27_5 (z0 : Int) : Try.prog.built 27 [(5, .int .i64 z0)] = some #[(Value.slice none 0 0), (Value.slice none 0 0), (Value.slice none 0 0), (Value.slice none 0 0), .int .i64 0, .int .i64 z0] := by kernel_rfl
theorem fa_9 : FnAt Try.prog 9 := ⟨_, _, Try.func9, rfl, by kernel_rfl⟩
theorem bd_27 : Try.prog.built 27 [] = some #[(Value.slice none 0 0), (Value.slice none 0 0), (Value.slice none 0 0), (Value.slice none 0 0), .int .i64 0, .int .i64 0] := by kernel_rfl
theorem fa_35 : FnAt Try.prog 35 := ⟨_, _, Try.func35, rfl, by kernel_rfl⟩
theorem fa_44 : FnAt Try.prog 44 := ⟨_, _, Try.func44, rfl, by kernel_rfl⟩
theorem fa_51 : FnAt Try.prog 51 := ⟨_, _, Try.func51, rfl, by kernel_rfl⟩
theorem za_67 : (Try.prog.info? 67).map (fun i => i.zero.map (·.cells.toList)) = some (some [.int .i64 0, .int .i64 0, .int .i64 0]) := by kernel_rfl
theorem fa_49 : FnAt Try.prog 49 := ⟨_, _, Try.func49, rfl, by kernel_rfl⟩
theorem fa_45 : FnAt Try.prog 45 := ⟨_, _, Try.func45, rfl, by kernel_rfl⟩
theorem fa_30 : FnAt Try.prog 30 := ⟨_, _, Try.func30, rfl, by kernel_rfl⟩
theorem fa_46 : FnAt Try.prog 46 := ⟨_, _, Try.func46, rfl, by kernel_rfl⟩
theorem fa_31 : FnAt Try.prog 31 := ⟨_, _, Try.func31, rfl, by kernel_rfl⟩
theorem fa_32 : FnAt Try.prog 32 := ⟨_, _, Try.func32, rfl, by kernel_rfl⟩
theorem fa_33 : FnAt Try.prog 33 := ⟨_, _, Try.func33, rfl, by kernel_rfl⟩
theorem fa_34 : FnAt Try.prog 34 := ⟨_, _, Try.func34, rfl, by kernel_rfl⟩
theorem fa_36 : FnAt Try.prog 36 := ⟨_, _, Try.func36, rfl, by kernel_rfl⟩
theorem sb_23_6 (z0 : Int) (z1 : Int) (z2 : Int) (z3 : Int) (z4 : Int) (z5 : Int) : sbuilt Try.prog 23 6 [(0, .int .i64 z0), (1, .int .i64 z1), (2, .int .i64 z2), (3, .int .i64 z3), (4, .int .i64 z4), (5, .int .i64 z5)] = some [.int .i64 z0, .int .i64 z1, .int .i64 z2, .int .i64 z3, .int .i64 z4, .int .i64 z5] := by kernel_rfl
theorem bd_27_1_5 (z0 : Hd) (z1 : Int) : Try.prog.built 27 [(1, (sl z0)), (5, .int .i64 z1)] = some #[(Value.slice none 0 0), (sl z0), (Value.slice none 0 0), (Value.slice none 0 0), .int .i64 0, .int .i64 z1] := by kernel_rfl
theorem fa_10 : FnAt Try.prog 10 := ⟨_, _, Try.func10, rfl, by kernel_rfl⟩
theorem fa_37 : FnAt Try.prog 37 := ⟨_, _, Try.func37, rfl, by kernel_rfl⟩
theorem fa_52 : FnAt Try.prog 52 := ⟨_, _, Try.func52, rfl, by kernel_rfl⟩
theorem fa_50 : FnAt Try.prog 50 := ⟨_, _, Try.func50, rfl, by kernel_rfl⟩
theorem fa_47 : FnAt Try.prog 47 := ⟨_, _, Try.func47, rfl, by kernel_rfl⟩
theorem fa_38 : FnAt Try.prog 38 := ⟨_, _, Try.func38, rfl, by kernel_rfl⟩
theorem fa_39 : FnAt Try.prog 39 := ⟨_, _, Try.func39, rfl, by kernel_rfl⟩
theorem fa_11 : FnAt Try.prog 11 := ⟨_, _, Try.func11, rfl, by kernel_rfl⟩
theorem fa_12 : FnAt Try.prog 12 := ⟨_, _, Try.func12, rfl, by kernel_rfl⟩
theorem fa_13 : FnAt Try.prog 13 := ⟨_, _, Try.func13, rfl, by kernel_rfl⟩
theorem fa_14 : FnAt Try.prog 14 := ⟨_, _, Try.func14, rfl, by kernel_rfl⟩
theorem fa_40 : FnAt Try.prog 40 := ⟨_, _, Try.func40, rfl, by kernel_rfl⟩
theorem fa_15 : FnAt Try.prog 15 := ⟨_, _, Try.func15, rfl, by kernel_rfl⟩
theorem fa_16 : FnAt Try.prog 16 := ⟨_, _, Try.func16, rfl, by kernel_rfl⟩
theorem fa_17 : FnAt Try.prog 17 := ⟨_, _, Try.func17, rfl, by kernel_rfl⟩
theorem fa_18 : FnAt Try.prog 18 := ⟨_, _, Try.func18, rfl, by kernel_rfl⟩
theorem fa_41 : FnAt Try.prog 41 := ⟨_, _, Try.func41, rfl, by kernel_rfl⟩
theorem fa_19 : FnAt Try.prog 19 := ⟨_, _, Try.func19, rfl, by kernel_rfl⟩
theorem fa_20 : FnAt Try.prog 20 := ⟨_, _, Try.func20, rfl, by kernel_rfl⟩
theorem fa_21 : FnAt Try.prog 21 := ⟨_, _, Try.func21, rfl, by kernel_rfl⟩
theorem fa_22 : FnAt Try.prog 22 := ⟨_, _, Try.func22, rfl, by kernel_rfl⟩
theorem fa_4 : FnAt Try.prog 4 := ⟨_, _, Try.func4, rfl, by kernel_rfl⟩
theorem fa_5 : FnAt Try.prog 5 := ⟨_, _, Try.func5, rfl, by kernel_rfl⟩
theorem fa_6 : FnAt Try.prog 6 := ⟨_, _, Try.func6, rfl, by kernel_rfl⟩
theorem fa_7 : FnAt Try.prog 7 := ⟨_, _, Try.func7, rfl, by kernel_rfl⟩
theorem fa_8 : FnAt Try.prog 8 := ⟨_, _, Try.func8, rfl, by kernel_rfl⟩
end Go.Proofs.Ytgimnmlcdidcdah
