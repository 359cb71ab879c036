/-
  Closed facts on this translation.
-/
import Derived.Test.YtkahnmhkfmjomacGreatDoorPure
import Derived.Test.YtkahnmhkfmjomacGreatDoorChecked
import Derived.KernelRfl
namespace Go.Proofs.YtkahnmhkfmjomacGreatDoor
open Go Go.RowKit Go.Proofs

theorem mixed : Tryz.prog.follows .mixedOrders = true := by kernel_rfl
theorem el_22 : elo Tryz.prog 22 = some 3 := by kernel_rfl
theorem el_23 : elo Tryz.prog 23 = some 1 := by kernel_rfl
theorem el_70 : elo Tryz.prog 70 = some 3 := by kernel_rfl
theorem fo_72_1 : fldo Tryz.prog 72 1 = some 1 := by kernel_rfl
theorem tk_70 : tyk Tryz.prog 70 = some (false, 1) := by kernel_rfl
theorem fa_80 : FnAt Tryz.prog 80 := ⟨_, _, Tryz.func80, rfl, by kernel_rfl⟩
theorem fo_74_2 : fldo Tryz.prog 74 2 = some 2 := by kernel_rfl
theorem tk_72 : tyk Tryz.prog 72 = some (true, 2) := by kernel_rfl
theorem fa_69 : FnAt Tryz.prog 69 := ⟨_, _, Tryz.func69, rfl, by kernel_rfl⟩
theorem el_24 : elo Tryz.prog 24 = some 4 := by kernel_rfl
theorem tk_74 : tyk Tryz.prog 74 = some (true, 4) := by kernel_rfl
theorem fa_39 : FnAt Tryz.prog 39 := ⟨_, _, Tryz.func39, rfl, by kernel_rfl⟩
theorem el_25 : elo Tryz.prog 25 = some 4 := by kernel_rfl
theorem fo_27_0 : fldo Tryz.prog 27 0 = some 0 := by kernel_rfl
theorem tk_22 : tyk Tryz.prog 22 = some (false, 1) := by kernel_rfl
theorem fa_13 : FnAt Tryz.prog 13 := ⟨_, _, Tryz.func13, rfl, by kernel_rfl⟩
theorem fo_27_1 : fldo Tryz.prog 27 1 = some 1 := by kernel_rfl
theorem tk_23 : tyk Tryz.prog 23 = some (false, 1) := by kernel_rfl
theorem fa_14 : FnAt Tryz.prog 14 := ⟨_, _, Tryz.func14, rfl, by kernel_rfl⟩
theorem fo_27_2 : fldo Tryz.prog 27 2 = some 2 := by kernel_rfl
theorem tk_24 : tyk Tryz.prog 24 = some (false, 1) := by kernel_rfl
theorem fa_15 : FnAt Tryz.prog 15 := ⟨_, _, Tryz.func15, rfl, by kernel_rfl⟩
theorem fo_27_3 : fldo Tryz.prog 27 3 = some 3 := by kernel_rfl
theorem tk_25 : tyk Tryz.prog 25 = some (false, 1) := by kernel_rfl
theorem fa_16 : FnAt Tryz.prog 16 := ⟨_, _, Tryz.func16, rfl, by kernel_rfl⟩
theorem za_49 : (Tryz.prog.info? 49).map (fun i => i.zero.map (·.cells.toList)) = some (some [.int .i64 0, .int .i64 0, .int .i64 0]) := by kernel_rfl
theorem fo_89_0 : fldo Tryz.prog 89 0 = some 0 := by kernel_rfl
theorem tk_3 : tyk Tryz.prog 3 = some (false, 1) := by kernel_rfl
theorem fo_49_0 : fldo Tryz.prog 49 0 = some 0 := by kernel_rfl
theorem fo_89_1 : fldo Tryz.prog 89 1 = some 1 := by kernel_rfl
theorem fo_49_1 : fldo Tryz.prog 49 1 = some 1 := by kernel_rfl
theorem fo_89_2 : fldo Tryz.prog 89 2 = some 2 := by kernel_rfl
theorem fo_49_2 : fldo Tryz.prog 49 2 = some 2 := by kernel_rfl
theorem tk_49 : tyk Tryz.prog 49 = some (true, 3) := by kernel_rfl
theorem mk_31 : mkinfo Tryz.prog 31 = some (3, true, [.int .i64 0, .int .i64 0, .int .i64 0]) := by kernel_rfl
theorem tk_89 : tyk Tryz.prog 89 = some (true, 3) := by kernel_rfl
theorem fa_50 : FnAt Tryz.prog 50 := ⟨_, _, Tryz.func50, rfl, by kernel_rfl⟩
theorem el_31 : elo Tryz.prog 31 = some 3 := by kernel_rfl
theorem mk_23 : mkinfo Tryz.prog 23 = some (1, true, [.int .i64 0]) := by kernel_rfl
theorem za_86 : (Tryz.prog.info? 86).map (fun i => i.zero.map (·.cells.toList)) = some (some [.int .i64 0, .int .i64 0, .int .i64 0]) := by kernel_rfl
theorem fo_123_0 : fldo Tryz.prog 123 0 = some 0 := by kernel_rfl
theorem fo_86_0 : fldo Tryz.prog 86 0 = some 0 := by kernel_rfl
theorem fo_123_1 : fldo Tryz.prog 123 1 = some 1 := by kernel_rfl
theorem fo_86_1 : fldo Tryz.prog 86 1 = some 1 := by kernel_rfl
theorem fo_123_2 : fldo Tryz.prog 123 2 = some 2 := by kernel_rfl
theorem fo_86_2 : fldo Tryz.prog 86 2 = some 2 := by kernel_rfl
theorem tk_86 : tyk Tryz.prog 86 = some (true, 3) := by kernel_rfl
theorem mk_50 : mkinfo Tryz.prog 50 = some (3, true, [.int .i64 0, .int .i64 0, .int .i64 0]) := by kernel_rfl
theorem tk_123 : tyk Tryz.prog 123 = some (true, 3) := by kernel_rfl
theorem fa_87 : FnAt Tryz.prog 87 := ⟨_, _, Tryz.func87, rfl, by kernel_rfl⟩
theorem el_50 : elo Tryz.prog 50 = some 3 := by kernel_rfl
theorem za_52 : (Tryz.prog.info? 52).map (fun i => i.zero.map (·.cells.toList)) = some (some [.int .i64 0, (Value.slice none 0 0)]) := by kernel_rfl
theorem fo_72_0 : fldo Tryz.prog 72 0 = some 0 := by kernel_rfl
theorem fo_52_0 : fldo Tryz.prog 52 0 = some 0 := by kernel_rfl
theorem fa_81 : FnAt Tryz.prog 81 := ⟨_, _, Tryz.func81, rfl, by kernel_rfl⟩
theorem fo_52_1 : fldo Tryz.prog 52 1 = some 1 := by kernel_rfl
theorem tk_50 : tyk Tryz.prog 50 = some (false, 1) := by kernel_rfl
theorem tk_52 : tyk Tryz.prog 52 = some (true, 2) := by kernel_rfl
theorem za_54 : (Tryz.prog.info? 54).map (fun i => i.zero.map (·.cells.toList)) = some (some [.int .i64 0, .int .i64 0, .int .i64 0, (Value.slice none 0 0)]) := by kernel_rfl
theorem fo_74_0 : fldo Tryz.prog 74 0 = some 0 := by kernel_rfl
theorem fo_54_0 : fldo Tryz.prog 54 0 = some 0 := by kernel_rfl
theorem fo_74_1 : fldo Tryz.prog 74 1 = some 1 := by kernel_rfl
theorem fo_54_1 : fldo Tryz.prog 54 1 = some 1 := by kernel_rfl
theorem fa_71 : FnAt Tryz.prog 71 := ⟨_, _, Tryz.func71, rfl, by kernel_rfl⟩
theorem fo_54_2 : fldo Tryz.prog 54 2 = some 2 := by kernel_rfl
theorem tk_54 : tyk Tryz.prog 54 = some (true, 4) := by kernel_rfl
theorem mk_32 : mkinfo Tryz.prog 32 = some (4, true, [.int .i64 0, .int .i64 0, .int .i64 0, (Value.slice none 0 0)]) := by kernel_rfl
theorem fa_51 : FnAt Tryz.prog 51 := ⟨_, _, Tryz.func51, rfl, by kernel_rfl⟩
theorem el_32 : elo Tryz.prog 32 = some 4 := by kernel_rfl
theorem za_92 : (Tryz.prog.info? 92).map (fun i => i.zero.map (·.cells.toList)) = some (some [.int .i64 0, .int .i64 0, .int .i64 0, .int .i64 0]) := by kernel_rfl
theorem fo_94_0 : fldo Tryz.prog 94 0 = some 0 := by kernel_rfl
theorem fo_92_0 : fldo Tryz.prog 92 0 = some 0 := by kernel_rfl
theorem fo_94_1 : fldo Tryz.prog 94 1 = some 1 := by kernel_rfl
theorem fo_92_1 : fldo Tryz.prog 92 1 = some 1 := by kernel_rfl
theorem fo_94_2 : fldo Tryz.prog 94 2 = some 2 := by kernel_rfl
theorem fo_92_2 : fldo Tryz.prog 92 2 = some 2 := by kernel_rfl
theorem fo_94_3 : fldo Tryz.prog 94 3 = some 3 := by kernel_rfl
theorem fo_92_3 : fldo Tryz.prog 92 3 = some 3 := by kernel_rfl
theorem tk_92 : tyk Tryz.prog 92 = some (true, 4) := by kernel_rfl
theorem mk_33 : mkinfo Tryz.prog 33 = some (4, true, [.int .i64 0, .int .i64 0, .int .i64 0, .int .i64 0]) := by kernel_rfl
theorem tk_94 : tyk Tryz.prog 94 = some (true, 4) := by kernel_rfl
theorem fa_52 : FnAt Tryz.prog 52 := ⟨_, _, Tryz.func52, rfl, by kernel_rfl⟩
theorem el_33 : elo Tryz.prog 33 = some 4 := by kernel_rfl
theorem za_35 : (Tryz.prog.info? 35).map (fun i => i.zero.map (·.cells.toList)) = some (some [(Value.slice none 0 0), (Value.slice none 0 0), (Value.slice none 0 0), (Value.slice none 0 0), .int .i64 0, .int .i64 0]) := by kernel_rfl
theorem fa_21 : FnAt Tryz.prog 21 := ⟨_, _, Tryz.func21, rfl, by kernel_rfl⟩
theorem fo_35_0 : fldo Tryz.prog 35 0 = some 0 := by kernel_rfl
theorem tk_31 : tyk Tryz.prog 31 = some (false, 1) := by kernel_rfl
theorem fa_22 : FnAt Tryz.prog 22 := ⟨_, _, Tryz.func22, rfl, by kernel_rfl⟩
theorem fo_35_1 : fldo Tryz.prog 35 1 = some 1 := by kernel_rfl
theorem fa_23 : FnAt Tryz.prog 23 := ⟨_, _, Tryz.func23, rfl, by kernel_rfl⟩
theorem fo_35_2 : fldo Tryz.prog 35 2 = some 2 := by kernel_rfl
theorem tk_32 : tyk Tryz.prog 32 = some (false, 1) := by kernel_rfl
theorem fa_24 : FnAt Tryz.prog 24 := ⟨_, _, Tryz.func24, rfl, by kernel_rfl⟩
theorem fo_35_3 : fldo Tryz.prog 35 3 = some 3 := by kernel_rfl
theorem tk_33 : tyk Tryz.prog 33 = some (false, 1) := by kernel_rfl
theorem fo_27_4 : fldo Tryz.prog 27 4 = some 4 := by kernel_rfl
theorem fo_35_4 : fldo Tryz.prog 35 4 = some 4 := by kernel_rfl
theorem fo_27_5 : fldo Tryz.prog 27 5 = some 5 := by kernel_rfl
theorem fo_35_5 : fldo Tryz.prog 35 5 = some 5 := by kernel_rfl
theorem tk_35 : tyk Tryz.prog 35 = some (true, 6) := by kernel_rfl
theorem fa_43 : FnAt Tryz.prog 43 := ⟨_, _, Tryz.func43, rfl, by kernel_rfl⟩
theorem ub_4 : Tryz.prog.underlying 4 = some .bool := by kernel_rfl
theorem fa_70 : FnAt Tryz.prog 70 := ⟨_, _, Tryz.func70, rfl, by kernel_rfl⟩
theorem fa_47 : FnAt Tryz.prog 47 := ⟨_, _, Tryz.func47, rfl, by kernel_rfl⟩
theorem sb_23_0 : sbuilt Tryz.prog 23 0 [] = some [] := by kernel_rfl
theorem fa_40 : FnAt Tryz.prog 40 := ⟨_, _, Tryz.func40, rfl, by kernel_rfl⟩
theorem sb_23_1 (z0 : Int) : sbuilt Tryz.prog 23 1 [(0, .int .i64 z0)] = some [.int .i64 z0] := by kernel_rfl
theorem ak_23 : aok Tryz.prog 23 1 = true := by kernel_rfl
theorem fa_49 : FnAt Tryz.prog 49 := ⟨_, _, Tryz.func49, rfl, by kernel_rfl⟩
theorem fa_41 : FnAt Tryz.prog 41 := ⟨_, _, Tryz.func41, rfl, by kernel_rfl⟩
theorem fa_42 : FnAt Tryz.prog 42 := ⟨_, _, Tryz.func42, rfl, by kernel_rfl⟩
theorem fa_44 : FnAt Tryz.prog 44 := ⟨_, _, Tryz.func44, rfl, by kernel_rfl⟩
theorem fa_45 : FnAt Tryz.prog 45 := ⟨_, _, Tryz.func45, rfl, by kernel_rfl⟩
theorem fa_20 : FnAt Tryz.prog 20 := ⟨_, _, Tryz.func20, rfl, by kernel_rfl⟩
theorem isInt_3 : isInt Tryz.prog 3 = true := by kernel_rfl
theorem isU8_5 : isU8 Tryz.prog 5 = true := by kernel_rfl
theorem fa_46 : FnAt Tryz.prog 46 := ⟨_, _, Tryz.func46, rfl, by kernel_rfl⟩
theorem sb_82_1 (z0 : UInt8) : sbuilt Tryz.prog 82 1 [(0, .int .u8 (z0.toNat : Int))] = some [.int .u8 (z0.toNat : Int)] := by kernel_rfl
theorem isBytes_82 : isBytes Tryz.prog 82 = true := by kernel_rfl
theorem isStr_9 : isStr Tryz.prog 9 = true := by kernel_rfl
theorem fa_18 : FnAt Tryz.prog 18 := ⟨_, _, Tryz.func18, rfl, by kernel_rfl⟩
theorem fa_48 : FnAt Tryz.prog 48 := ⟨_, _, Tryz.func48, rfl, by kernel_rfl⟩
theorem fa_17 : FnAt Tryz.prog 17 := ⟨_, _, Tryz.func17, rfl, by kernel_rfl⟩
theorem sb_29_0 : sbuilt Tryz.prog 29 0 [] = some [] := by kernel_rfl
theorem sb_29_2 (z0 : Str) (z1 : Str) : sbuilt Tryz.prog 29 2 [(0, bs z0), (1, bs z1)] = some [bs z0, bs z1] := by kernel_rfl
theorem fa_19 : FnAt Tryz.prog 19 := ⟨_, _, Tryz.func19, rfl, by kernel_rfl⟩
theorem sb_29_1 (z0 : Str) : sbuilt Tryz.prog 29 1 [(0, bs z0)] = some [bs z0] := by kernel_rfl
theorem ak_29 : aok Tryz.prog 29 1 = true := by kernel_rfl
theorem fa_58 : FnAt Tryz.prog 58 := ⟨_, _, Tryz.func58, rfl, by kernel_rfl⟩
theorem fa_72 : FnAt Tryz.prog 72 := ⟨_, _, Tryz.func72, rfl, by kernel_rfl⟩
theorem fa_85 : FnAt Tryz.prog 85 := ⟨_, _, Tryz.func85, rfl, by kernel_rfl⟩
theorem fa_77 : FnAt Tryz.prog 77 := ⟨_, _, Tryz.func77, rfl, by kernel_rfl⟩
theorem fa_61 : FnAt Tryz.prog 61 := ⟨_, _, Tryz.func61, rfl, by kernel_rfl⟩
theorem fa_53 : FnAt Tryz.prog 53 := ⟨_, _, Tryz.func53, rfl, by kernel_rfl⟩
theorem fa_64 : FnAt Tryz.prog 64 := ⟨_, _, Tryz.func64, rfl, by kernel_rfl⟩
theorem fa_54 : FnAt Tryz.prog 54 := ⟨_, _, Tryz.func54, rfl, by kernel_rfl⟩
theorem fa_55 : FnAt Tryz.prog 55 := ⟨_, _, Tryz.func55, rfl, by kernel_rfl⟩
theorem fa_56 : FnAt Tryz.prog 56 := ⟨_, _, Tryz.func56, rfl, by kernel_rfl⟩
theorem fa_57 : FnAt Tryz.prog 57 := ⟨_, _, Tryz.func57, rfl, by kernel_rfl⟩
theorem fa_29 : FnAt Tryz.prog 29 := ⟨_, _, Tryz.func29, rfl, by kernel_rfl⟩
theorem fa_60 : FnAt Tryz.prog 60 := ⟨_, _, Tryz.func60, rfl, by kernel_rfl⟩
theorem fa_27 : FnAt Tryz.prog 27 := ⟨_, _, Tryz.func27, rfl, by kernel_rfl⟩
theorem fa_59 : FnAt Tryz.prog 59 := ⟨_, _, Tryz.func59, rfl, by kernel_rfl⟩
theorem fa_78 : FnAt Tryz.prog 78 := ⟨_, _, Tryz.func78, rfl, by kernel_rfl⟩
theorem bd_86 : Tryz.prog.built 86 [] = some #[.int .i64 0, .int .i64 0, .int .i64 0] := by kernel_rfl
theorem sb_29_3 (z0 : Str) (z1 : Str) (z2 : Str) : sbuilt Tryz.prog 29 3 [(0, bs z0), (1, bs z1), (2, bs z2)] = some [bs z0, bs z1, bs z2] := by kernel_rfl
theorem el_29 : elo Tryz.prog 29 = some 1 := by kernel_rfl
theorem tk_9 : tyk Tryz.prog 9 = some (false, 1) := by kernel_rfl
theorem fa_63 : FnAt Tryz.prog 63 := ⟨_, _, Tryz.func63, rfl, by kernel_rfl⟩
theorem fa_62 : FnAt Tryz.prog 62 := ⟨_, _, Tryz.func62, rfl, by kernel_rfl⟩
theorem fa_25 : FnAt Tryz.prog 25 := ⟨_, _, Tryz.func25, rfl, by kernel_rfl⟩
theorem fa_26 : FnAt Tryz.prog 26 := ⟨_, _, Tryz.func26, rfl, by kernel_rfl⟩
theorem fa_28 : FnAt Tryz.prog 28 := ⟨_, _, Tryz.func28, rfl, by kernel_rfl⟩
theorem fa_65 : FnAt Tryz.prog 65 := ⟨_, _, Tryz.func65, rfl, by kernel_rfl⟩
theorem fa_94 : FnAt Tryz.prog 94 := ⟨_, _, Tryz.func94, rfl, by kernel_rfl⟩
theorem fa_86 : FnAt Tryz.prog 86 := ⟨_, _, Tryz.func86, rfl, by kernel_rfl⟩
theorem fa_79 : FnAt Tryz.prog 79 := ⟨_, _, Tryz.func79, rfl, by kernel_rfl⟩
theorem fa_66 : FnAt Tryz.prog 66 := ⟨_, _, Tryz.func66, rfl, by kernel_rfl⟩
theorem fa_67 : FnAt Tryz.prog 67 := ⟨_, _, Tryz.func67, rfl, by kernel_rfl⟩
theorem fa_30 : FnAt Tryz.prog 30 := ⟨_, _, Tryz.func30, rfl, by kernel_rfl⟩
theorem fa_31 : FnAt Tryz.prog 31 := ⟨_, _, Tryz.func31, rfl, by kernel_rfl⟩
theorem fa_32 : FnAt Tryz.prog 32 := ⟨_, _, Tryz.func32, rfl, by kernel_rfl⟩
theorem fa_33 : FnAt Tryz.prog 33 := ⟨_, _, Tryz.func33, rfl, by kernel_rfl⟩
theorem fa_68 : FnAt Tryz.prog 68 := ⟨_, _, Tryz.func68, rfl, by kernel_rfl⟩
theorem fa_34 : FnAt Tryz.prog 34 := ⟨_, _, Tryz.func34, rfl, by kernel_rfl⟩
theorem fa_35 : FnAt Tryz.prog 35 := ⟨_, _, Tryz.func35, rfl, by kernel_rfl⟩
theorem fa_36 : FnAt Tryz.prog 36 := ⟨_, _, Tryz.func36, rfl, by kernel_rfl⟩
theorem fa_37 : FnAt Tryz.prog 37 := ⟨_, _, Tryz.func37, rfl, by kernel_rfl⟩
theorem fa_38 : FnAt Tryz.prog 38 := ⟨_, _, Tryz.func38, rfl, by kernel_rfl⟩
theorem tk_27 : tyk Tryz.prog 27 = some (true, 6) := by kernel_rfl
theorem fa_4 : FnAt Tryz.prog 4 := ⟨_, _, Tryz.func4, rfl, by kernel_rfl⟩
theorem fa_6 : FnAt Tryz.prog 6 := ⟨_, _, Tryz.func6, rfl, by kernel_rfl⟩
theorem fa_5 : FnAt Tryz.prog 5 := ⟨_, _, Tryz.func5, rfl, by kernel_rfl⟩
theorem fa_7 : FnAt Tryz.prog 7 := ⟨_, _, Tryz.func7, rfl, by kernel_rfl⟩
theorem fa_8 : FnAt Tryz.prog 8 := ⟨_, _, Tryz.func8, rfl, by kernel_rfl⟩
theorem fa_9 : FnAt Tryz.prog 9 := ⟨_, _, Tryz.func9, rfl, by kernel_rfl⟩
theorem fa_10 : FnAt Tryz.prog 10 := ⟨_, _, Tryz.func10, rfl, by kernel_rfl⟩
theorem fa_11 : FnAt Tryz.prog 11 := ⟨_, _, Tryz.func11, rfl, by kernel_rfl⟩
theorem fa_12 : FnAt Tryz.prog 12 := ⟨_, _, Tryz.func12, rfl, by kernel_rfl⟩
end Go.Proofs.YtkahnmhkfmjomacGreatDoor
