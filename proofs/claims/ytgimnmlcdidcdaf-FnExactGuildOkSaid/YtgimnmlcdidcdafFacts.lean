/-
  Closed facts on this translation.
-/
import Derived.Test.YtgimnmlcdidcdafPure
import Derived.Test.YtgimnmlcdidcdafChecked
import Derived.KernelRfl
namespace Go.Proofs.Ytgimnmlcdidcdaf
open Go Go.RowKit Go.Proofs

theorem mixed : Try.prog.follows .mixedOrders = true := by kernel_rfl
theorem el_22 : elo Try.prog 22 = some 3 := by kernel_rfl
theorem el_23 : elo Try.prog 23 = some 1 := by kernel_rfl
theorem el_63 : elo Try.prog 63 = some 3 := by kernel_rfl
theorem fo_65_1 : fldo Try.prog 65 1 = some 1 := by kernel_rfl
theorem tk_63 : tyk Try.prog 63 = some (false, 1) := by kernel_rfl
theorem fa_52 : FnAt Try.prog 52 := ⟨_, _, Try.func52, rfl, by kernel_rfl⟩
theorem fo_67_2 : fldo Try.prog 67 2 = some 2 := by kernel_rfl
theorem tk_65 : tyk Try.prog 65 = some (true, 2) := by kernel_rfl
theorem fa_47 : FnAt Try.prog 47 := ⟨_, _, Try.func47, rfl, by kernel_rfl⟩
theorem el_24 : elo Try.prog 24 = some 4 := by kernel_rfl
theorem tk_67 : tyk Try.prog 67 = some (true, 4) := by kernel_rfl
theorem fa_35 : FnAt Try.prog 35 := ⟨_, _, Try.func35, rfl, by kernel_rfl⟩
theorem el_25 : elo Try.prog 25 = some 4 := by kernel_rfl
theorem fo_27_0 : fldo Try.prog 27 0 = some 0 := by kernel_rfl
theorem tk_22 : tyk Try.prog 22 = some (false, 1) := by kernel_rfl
theorem fa_9 : FnAt Try.prog 9 := ⟨_, _, Try.func9, rfl, by kernel_rfl⟩
theorem fo_27_1 : fldo Try.prog 27 1 = some 1 := by kernel_rfl
theorem tk_23 : tyk Try.prog 23 = some (false, 1) := by kernel_rfl
theorem fa_10 : FnAt Try.prog 10 := ⟨_, _, Try.func10, rfl, by kernel_rfl⟩
theorem fo_27_2 : fldo Try.prog 27 2 = some 2 := by kernel_rfl
theorem tk_24 : tyk Try.prog 24 = some (false, 1) := by kernel_rfl
theorem fa_11 : FnAt Try.prog 11 := ⟨_, _, Try.func11, rfl, by kernel_rfl⟩
theorem fo_27_3 : fldo Try.prog 27 3 = some 3 := by kernel_rfl
theorem tk_25 : tyk Try.prog 25 = some (false, 1) := by kernel_rfl
theorem fa_12 : FnAt Try.prog 12 := ⟨_, _, Try.func12, rfl, by kernel_rfl⟩
theorem za_69 : (Try.prog.info? 69).map (fun i => i.zero.map (·.cells.toList)) = some (some [.int .i64 0, .int .i64 0, .int .i64 0]) := by kernel_rfl
theorem fo_75_0 : fldo Try.prog 75 0 = some 0 := by kernel_rfl
theorem tk_3 : tyk Try.prog 3 = some (false, 1) := by kernel_rfl
theorem fo_69_0 : fldo Try.prog 69 0 = some 0 := by kernel_rfl
theorem fo_75_1 : fldo Try.prog 75 1 = some 1 := by kernel_rfl
theorem fo_69_1 : fldo Try.prog 69 1 = some 1 := by kernel_rfl
theorem fo_75_2 : fldo Try.prog 75 2 = some 2 := by kernel_rfl
theorem fo_69_2 : fldo Try.prog 69 2 = some 2 := by kernel_rfl
theorem tk_69 : tyk Try.prog 69 = some (true, 3) := by kernel_rfl
theorem mk_30 : mkinfo Try.prog 30 = some (3, true, [.int .i64 0, .int .i64 0, .int .i64 0]) := by kernel_rfl
theorem tk_75 : tyk Try.prog 75 = some (true, 3) := by kernel_rfl
theorem fa_38 : FnAt Try.prog 38 := ⟨_, _, Try.func38, rfl, by kernel_rfl⟩
theorem el_30 : elo Try.prog 30 = some 3 := by kernel_rfl
theorem mk_23 : mkinfo Try.prog 23 = some (1, true, [.int .i64 0]) := by kernel_rfl
theorem za_86 : (Try.prog.info? 86).map (fun i => i.zero.map (·.cells.toList)) = some (some [.int .i64 0, .int .i64 0, .int .i64 0]) := by kernel_rfl
theorem fo_94_0 : fldo Try.prog 94 0 = some 0 := by kernel_rfl
theorem fo_86_0 : fldo Try.prog 86 0 = some 0 := by kernel_rfl
theorem fo_94_1 : fldo Try.prog 94 1 = some 1 := by kernel_rfl
theorem fo_86_1 : fldo Try.prog 86 1 = some 1 := by kernel_rfl
theorem fo_94_2 : fldo Try.prog 94 2 = some 2 := by kernel_rfl
theorem fo_86_2 : fldo Try.prog 86 2 = some 2 := by kernel_rfl
theorem tk_86 : tyk Try.prog 86 = some (true, 3) := by kernel_rfl
theorem mk_46 : mkinfo Try.prog 46 = some (3, true, [.int .i64 0, .int .i64 0, .int .i64 0]) := by kernel_rfl
theorem tk_94 : tyk Try.prog 94 = some (true, 3) := by kernel_rfl
theorem fa_56 : FnAt Try.prog 56 := ⟨_, _, Try.func56, rfl, by kernel_rfl⟩
theorem el_46 : elo Try.prog 46 = some 3 := by kernel_rfl
theorem za_48 : (Try.prog.info? 48).map (fun i => i.zero.map (·.cells.toList)) = some (some [.int .i64 0, (Value.slice none 0 0)]) := by kernel_rfl
theorem fo_65_0 : fldo Try.prog 65 0 = some 0 := by kernel_rfl
theorem fo_48_0 : fldo Try.prog 48 0 = some 0 := by kernel_rfl
theorem fa_53 : FnAt Try.prog 53 := ⟨_, _, Try.func53, rfl, by kernel_rfl⟩
theorem fo_48_1 : fldo Try.prog 48 1 = some 1 := by kernel_rfl
theorem tk_46 : tyk Try.prog 46 = some (false, 1) := by kernel_rfl
theorem tk_48 : tyk Try.prog 48 = some (true, 2) := by kernel_rfl
theorem za_50 : (Try.prog.info? 50).map (fun i => i.zero.map (·.cells.toList)) = some (some [.int .i64 0, .int .i64 0, .int .i64 0, (Value.slice none 0 0)]) := by kernel_rfl
theorem fo_67_0 : fldo Try.prog 67 0 = some 0 := by kernel_rfl
theorem fo_50_0 : fldo Try.prog 50 0 = some 0 := by kernel_rfl
theorem fo_67_1 : fldo Try.prog 67 1 = some 1 := by kernel_rfl
theorem fo_50_1 : fldo Try.prog 50 1 = some 1 := by kernel_rfl
theorem fa_49 : FnAt Try.prog 49 := ⟨_, _, Try.func49, rfl, by kernel_rfl⟩
theorem fo_50_2 : fldo Try.prog 50 2 = some 2 := by kernel_rfl
theorem tk_50 : tyk Try.prog 50 = some (true, 4) := by kernel_rfl
theorem mk_31 : mkinfo Try.prog 31 = some (4, true, [.int .i64 0, .int .i64 0, .int .i64 0, (Value.slice none 0 0)]) := by kernel_rfl
theorem fa_39 : FnAt Try.prog 39 := ⟨_, _, Try.func39, rfl, by kernel_rfl⟩
theorem el_31 : elo Try.prog 31 = some 4 := by kernel_rfl
theorem za_71 : (Try.prog.info? 71).map (fun i => i.zero.map (·.cells.toList)) = some (some [.int .i64 0, .int .i64 0, .int .i64 0, .int .i64 0]) := by kernel_rfl
theorem fo_78_0 : fldo Try.prog 78 0 = some 0 := by kernel_rfl
theorem fo_71_0 : fldo Try.prog 71 0 = some 0 := by kernel_rfl
theorem fo_78_1 : fldo Try.prog 78 1 = some 1 := by kernel_rfl
theorem fo_71_1 : fldo Try.prog 71 1 = some 1 := by kernel_rfl
theorem fo_78_2 : fldo Try.prog 78 2 = some 2 := by kernel_rfl
theorem fo_71_2 : fldo Try.prog 71 2 = some 2 := by kernel_rfl
theorem fo_78_3 : fldo Try.prog 78 3 = some 3 := by kernel_rfl
theorem fo_71_3 : fldo Try.prog 71 3 = some 3 := by kernel_rfl
theorem tk_71 : tyk Try.prog 71 = some (true, 4) := by kernel_rfl
theorem mk_32 : mkinfo Try.prog 32 = some (4, true, [.int .i64 0, .int .i64 0, .int .i64 0, .int .i64 0]) := by kernel_rfl
theorem tk_78 : tyk Try.prog 78 = some (true, 4) := by kernel_rfl
theorem fa_40 : FnAt Try.prog 40 := ⟨_, _, Try.func40, rfl, by kernel_rfl⟩
theorem el_32 : elo Try.prog 32 = some 4 := by kernel_rfl
theorem za_34 : (Try.prog.info? 34).map (fun i => i.zero.map (·.cells.toList)) = some (some [(Value.slice none 0 0), (Value.slice none 0 0), (Value.slice none 0 0), (Value.slice none 0 0), .int .i64 0, .int .i64 0]) := by kernel_rfl
theorem fa_20 : FnAt Try.prog 20 := ⟨_, _, Try.func20, rfl, by kernel_rfl⟩
theorem fo_34_0 : fldo Try.prog 34 0 = some 0 := by kernel_rfl
theorem tk_30 : tyk Try.prog 30 = some (false, 1) := by kernel_rfl
theorem fa_21 : FnAt Try.prog 21 := ⟨_, _, Try.func21, rfl, by kernel_rfl⟩
theorem fo_34_1 : fldo Try.prog 34 1 = some 1 := by kernel_rfl
theorem fa_22 : FnAt Try.prog 22 := ⟨_, _, Try.func22, rfl, by kernel_rfl⟩
theorem fo_34_2 : fldo Try.prog 34 2 = some 2 := by kernel_rfl
theorem tk_31 : tyk Try.prog 31 = some (false, 1) := by kernel_rfl
theorem fa_23 : FnAt Try.prog 23 := ⟨_, _, Try.func23, rfl, by kernel_rfl⟩
theorem fo_34_3 : fldo Try.prog 34 3 = some 3 := by kernel_rfl
theorem tk_32 : tyk Try.prog 32 = some (false, 1) := by kernel_rfl
theorem fo_27_4 : fldo Try.prog 27 4 = some 4 := by kernel_rfl
theorem fo_34_4 : fldo Try.prog 34 4 = some 4 := by kernel_rfl
theorem fo_27_5 : fldo Try.prog 27 5 = some 5 := by kernel_rfl
theorem fo_34_5 : fldo Try.prog 34 5 = some 5 := by kernel_rfl
theorem tk_34 : tyk Try.prog 34 = some (true, 6) := by kernel_rfl
theorem fa_16 : FnAt Try.prog 16 := ⟨_, _, Try.func16, rfl, by kernel_rfl⟩
theorem ub_4 : Try.prog.underlying 4 = some .bool := by kernel_rfl
theorem fa_48 : FnAt Try.prog 48 := ⟨_, _, Try.func48, rfl, by kernel_rfl⟩
theorem fa_36 : FnAt Try.prog 36 := ⟨_, _, Try.func36, rfl, by kernel_rfl⟩
theorem sb_23_0 : sbuilt Try.prog 23 0 [] = some [] := by kernel_rfl
theorem fa_13 : FnAt Try.prog 13 := ⟨_, _, Try.func13, rfl, by kernel_rfl⟩
theorem sb_23_1 (z0 : Int) : sbuilt Try.prog 23 1 [(0, .int .i64 z0)] = some [.int .i64 z0] := by kernel_rfl
theorem ak_23 : aok Try.prog 23 1 = true := by kernel_rfl
theorem fa_37 : FnAt Try.prog 37 := ⟨_, _, Try.func37, rfl, by kernel_rfl⟩
theorem fa_14 : FnAt Try.prog 14 := ⟨_, _, Try.func14, rfl, by kernel_rfl⟩
theorem fa_15 : FnAt Try.prog 15 := ⟨_, _, Try.func15, rfl, by kernel_rfl⟩
theorem fa_17 : FnAt Try.prog 17 := ⟨_, _, Try.func17, rfl, by kernel_rfl⟩
theorem fa_18 : FnAt Try.prog 18 := ⟨_, _, Try.func18, rfl, by kernel_rfl⟩
theorem fa_19 : FnAt Try.prog 19 := ⟨_, _, Try.func19, rfl, by kernel_rfl⟩
theorem fa_29 : FnAt Try.prog 29 := ⟨_, _, Try.func29, rfl, by kernel_rfl⟩
theorem fa_41 : FnAt Try.prog 41 := ⟨_, _, Try.func41, rfl, by kernel_rfl⟩
theorem fa_54 : FnAt Try.prog 54 := ⟨_, _, Try.func54, rfl, by kernel_rfl⟩
theorem fa_50 : FnAt Try.prog 50 := ⟨_, _, Try.func50, rfl, by kernel_rfl⟩
theorem fa_42 : FnAt Try.prog 42 := ⟨_, _, Try.func42, rfl, by kernel_rfl⟩
theorem fa_24 : FnAt Try.prog 24 := ⟨_, _, Try.func24, rfl, by kernel_rfl⟩
theorem fa_43 : FnAt Try.prog 43 := ⟨_, _, Try.func43, rfl, by kernel_rfl⟩
theorem fa_25 : FnAt Try.prog 25 := ⟨_, _, Try.func25, rfl, by kernel_rfl⟩
theorem fa_26 : FnAt Try.prog 26 := ⟨_, _, Try.func26, rfl, by kernel_rfl⟩
theorem fa_27 : FnAt Try.prog 27 := ⟨_, _, Try.func27, rfl, by kernel_rfl⟩
theorem fa_28 : FnAt Try.prog 28 := ⟨_, _, Try.func28, rfl, by kernel_rfl⟩
theorem fa_30 : FnAt Try.prog 30 := ⟨_, _, Try.func30, rfl, by kernel_rfl⟩
theorem fa_44 : FnAt Try.prog 44 := ⟨_, _, Try.func44, rfl, by kernel_rfl⟩
theorem fa_57 : FnAt Try.prog 57 := ⟨_, _, Try.func57, rfl, by kernel_rfl⟩
theorem fa_55 : FnAt Try.prog 55 := ⟨_, _, Try.func55, rfl, by kernel_rfl⟩
theorem fa_51 : FnAt Try.prog 51 := ⟨_, _, Try.func51, rfl, by kernel_rfl⟩
theorem fa_45 : FnAt Try.prog 45 := ⟨_, _, Try.func45, rfl, by kernel_rfl⟩
theorem fa_46 : FnAt Try.prog 46 := ⟨_, _, Try.func46, rfl, by kernel_rfl⟩
theorem fa_31 : FnAt Try.prog 31 := ⟨_, _, Try.func31, rfl, by kernel_rfl⟩
theorem fa_32 : FnAt Try.prog 32 := ⟨_, _, Try.func32, rfl, by kernel_rfl⟩
theorem fa_33 : FnAt Try.prog 33 := ⟨_, _, Try.func33, rfl, by kernel_rfl⟩
theorem fa_34 : FnAt Try.prog 34 := ⟨_, _, Try.func34, rfl, by kernel_rfl⟩
theorem tk_27 : tyk Try.prog 27 = some (true, 6) := by kernel_rfl
theorem fa_4 : FnAt Try.prog 4 := ⟨_, _, Try.func4, rfl, by kernel_rfl⟩
theorem fa_6 : FnAt Try.prog 6 := ⟨_, _, Try.func6, rfl, by kernel_rfl⟩
theorem fa_5 : FnAt Try.prog 5 := ⟨_, _, Try.func5, rfl, by kernel_rfl⟩
theorem fa_7 : FnAt Try.prog 7 := ⟨_, _, Try.func7, rfl, by kernel_rfl⟩
theorem fa_8 : FnAt Try.prog 8 := ⟨_, _, Try.func8, rfl, by kernel_rfl⟩
end Go.Proofs.Ytgimnmlcdidcdaf
