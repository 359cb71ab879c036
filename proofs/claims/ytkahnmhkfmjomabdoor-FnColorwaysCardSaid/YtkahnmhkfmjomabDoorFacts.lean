/-
  Closed facts on this translation.
-/
import Derived.Test.YtkahnmhkfmjomabDoorPure
import Derived.Test.YtkahnmhkfmjomabDoorChecked
import Derived.KernelRfl
namespace Go.Proofs.YtkahnmhkfmjomabDoor
open Go Go.RowKit Go.Proofs

theorem mixed : Tryd.prog.follows .mixedOrders = true := by kernel_rfl
theorem el_22 : elo Tryd.prog 22 = some 1 := by kernel_rfl
theorem tk_5 : tyk Tryd.prog 5 = some (false, 1) := by kernel_rfl
theorem isU8_5 : isU8 Tryd.prog 5 = true := by kernel_rfl
theorem isInt_3 : isInt Tryd.prog 3 = true := by kernel_rfl
theorem bd_56_0_2 (z0 : Hd) (z1 : Int) : Tryd.prog.built 56 [(0, (sl z0)), (2, .int .i64 z1)] = some #[(sl z0), .int .i64 0, .int .i64 z1] := by kernel_rfl
theorem fo_56_2 : fldo Tryd.prog 56 2 = some 2 := by kernel_rfl
theorem tk_3 : tyk Tryd.prog 3 = some (false, 1) := by kernel_rfl
theorem fo_56_1 : fldo Tryd.prog 56 1 = some 1 := by kernel_rfl
theorem fo_56_0 : fldo Tryd.prog 56 0 = some 0 := by kernel_rfl
theorem tk_22 : tyk Tryd.prog 22 = some (false, 1) := by kernel_rfl
theorem fa_49 : FnAt Tryd.prog 49 := ⟨_, _, Tryd.func49, rfl, by kernel_rfl⟩
theorem za_41 : (Tryd.prog.info? 41).map (fun i => i.zero.map (·.cells.toList)) = some (some [.int .i64 0, .int .i64 0, .int .i64 0]) := by kernel_rfl
theorem fa_33 : FnAt Tryd.prog 33 := ⟨_, _, Tryd.func33, rfl, by kernel_rfl⟩
theorem bd_41 : Tryd.prog.built 41 [] = some #[.int .i64 0, .int .i64 0, .int .i64 0] := by kernel_rfl
theorem tk_41 : tyk Tryd.prog 41 = some (true, 3) := by kernel_rfl
theorem bd_41_1_2 (z0 : Int) (z1 : Int) : Tryd.prog.built 41 [(1, .int .i64 z0), (2, .int .i64 z1)] = some #[.int .i64 0, .int .i64 z0, .int .i64 z1] := by kernel_rfl
theorem za_26 : (Tryd.prog.info? 26).map (fun i => i.zero.map (·.cells.toList)) = some (some [.int .i64 0, (Value.slice none 0 0)]) := by kernel_rfl
theorem fa_59 : FnAt Tryd.prog 59 := ⟨_, _, Tryd.func59, rfl, by kernel_rfl⟩
theorem bd_41_0_1_2 (z0 : Int) (z1 : Int) (z2 : Int) : Tryd.prog.built 41 [(0, .int .i64 z0), (1, .int .i64 z1), (2, .int .i64 z2)] = some #[.int .i64 z0, .int .i64 z1, .int .i64 z2] := by kernel_rfl
theorem sb_24_9 (z0 : Int) (z1 : Int) (z2 : Int) (z3 : Int) (z4 : Int) (z5 : Int) (z6 : Int) (z7 : Int) (z8 : Int) (z9 : Int) (z10 : Int) (z11 : Int) (z12 : Int) (z13 : Int) (z14 : Int) (z15 : Int) (z16 : Int) (z17 : Int) (z18 : Int) (z19 : Int) (z20 : Int) (z21 : Int) (z22 : Int) (z23 : Int) (z24 : Int) (z25 : Int) (z26 : Int) : sbuilt Tryd.prog 24 9 [(0, .agg #[.int .i64 z0, .int .i64 z1, .int .i64 z2]), (1, .agg #[.int .i64 z3, .int .i64 z4, .int .i64 z5]), (2, .agg #[.int .i64 z6, .int .i64 z7, .int .i64 z8]), (3, .agg #[.int .i64 z9, .int .i64 z10, .int .i64 z11]), (4, .agg #[.int .i64 z12, .int .i64 z13, .int .i64 z14]), (5, .agg #[.int .i64 z15, .int .i64 z16, .int .i64 z17]), (6, .agg #[.int .i64 z18, .int .i64 z19, .int .i64 z20]), (7, .agg #[.int .i64 z21, .int .i64 z22, .int .i64 z23]), (8, .agg #[.int .i64 z24, .int .i64 z25, .int .i64 z26])] = some [.int .i64 z0, .int .i64 z1, .int .i64 z2, .int .i64 z3, .int .i64 z4, .int .i64 z5, .int .i64 z6, .int .i64 z7, .int .i64 z8, .int .i64 z9, .int .i64 z10, .int .i64 z11, .int .i64 z12, .int .i64 z13, .int .i64 z14, .int .i64 z15, .int .i64 z16, .int .i64 z17, .int .i64 z18, .int .i64 z19, .int .i64 z20, .int .i64 z21, .int .i64 z22, .int .i64 z23, .int .i64 z24, .int .i64 z25, .int .i64 z26] := by kernel_rfl
theorem bd_26_0_1 (z0 : Int) (z1 : Hd) : Tryd.prog.built 26 [(0, .int .i64 z0), (1, (sl z1))] = some #[.int .i64 z0, (sl z1)] := by kernel_rfl
theorem tk_26 : tyk Tryd.prog 26 = some (true, 2) := by kernel_rfl
theorem bd_26 : Tryd.prog.built 26 [] = some #[.int .i64 0, (Value.slice none 0 0)] := by kernel_rfl
theorem bd_26_0 (z0 : Int) : Tryd.prog.built 26 [(0, .int .i64 z0)] = some #[.int .i64 z0, (Value.slice none 0 0)] := by kernel_rfl
theorem fo_26_1 : fldo Tryd.prog 26 1 = some 1 := by kernel_rfl
theorem tk_24 : tyk Tryd.prog 24 = some (false, 1) := by kernel_rfl
theorem sb_24_1 (z0 : Int) (z1 : Int) (z2 : Int) : sbuilt Tryd.prog 24 1 [(0, .agg #[.int .i64 z0, .int .i64 z1, .int .i64 z2])] = some [.int .i64 z0, .int .i64 z1, .int .i64 z2] := by kernel_rfl
theorem ak_24 : aok Tryd.prog 24 3 = true := by kernel_rfl
theorem fo_41_0 : fldo Tryd.prog 41 0 = some 0 := by kernel_rfl
theorem fo_41_1 : fldo Tryd.prog 41 1 = some 1 := by kernel_rfl
theorem fo_41_2 : fldo Tryd.prog 41 2 = some 2 := by kernel_rfl
theorem ub_4 : Tryd.prog.underlying 4 = some .bool := by kernel_rfl
theorem fa_34 : FnAt Tryd.prog 34 := ⟨_, _, Tryd.func34, rfl, by kernel_rfl⟩
theorem fa_28 : FnAt Tryd.prog 28 := ⟨_, _, Tryd.func28, rfl, by kernel_rfl⟩
theorem fa_50 : FnAt Tryd.prog 50 := ⟨_, _, Tryd.func50, rfl, by kernel_rfl⟩
theorem fa_37 : FnAt Tryd.prog 37 := ⟨_, _, Tryd.func37, rfl, by kernel_rfl⟩
theorem fa_38 : FnAt Tryd.prog 38 := ⟨_, _, Tryd.func38, rfl, by kernel_rfl⟩
theorem fa_29 : FnAt Tryd.prog 29 := ⟨_, _, Tryd.func29, rfl, by kernel_rfl⟩
theorem fa_18 : FnAt Tryd.prog 18 := ⟨_, _, Tryd.func18, rfl, by kernel_rfl⟩
theorem fa_17 : FnAt Tryd.prog 17 := ⟨_, _, Tryd.func17, rfl, by kernel_rfl⟩
theorem fa_22 : FnAt Tryd.prog 22 := ⟨_, _, Tryd.func22, rfl, by kernel_rfl⟩
theorem fa_60 : FnAt Tryd.prog 60 := ⟨_, _, Tryd.func60, rfl, by kernel_rfl⟩
theorem fo_26_0 : fldo Tryd.prog 26 0 = some 0 := by kernel_rfl
theorem el_24 : elo Tryd.prog 24 = some 3 := by kernel_rfl
theorem fa_39 : FnAt Tryd.prog 39 := ⟨_, _, Tryd.func39, rfl, by kernel_rfl⟩
theorem fa_19 : FnAt Tryd.prog 19 := ⟨_, _, Tryd.func19, rfl, by kernel_rfl⟩
theorem fa_61 : FnAt Tryd.prog 61 := ⟨_, _, Tryd.func61, rfl, by kernel_rfl⟩
theorem sb_29_0 : sbuilt Tryd.prog 29 0 [] = some [] := by kernel_rfl
theorem fa_40 : FnAt Tryd.prog 40 := ⟨_, _, Tryd.func40, rfl, by kernel_rfl⟩
theorem sb_29_1 (z0 : Int) : sbuilt Tryd.prog 29 1 [(0, .int .i64 z0)] = some [.int .i64 z0] := by kernel_rfl
theorem ak_29 : aok Tryd.prog 29 1 = true := by kernel_rfl
theorem fa_21 : FnAt Tryd.prog 21 := ⟨_, _, Tryd.func21, rfl, by kernel_rfl⟩
theorem el_29 : elo Tryd.prog 29 = some 1 := by kernel_rfl
theorem fa_20 : FnAt Tryd.prog 20 := ⟨_, _, Tryd.func20, rfl, by kernel_rfl⟩
theorem fa_15 : FnAt Tryd.prog 15 := ⟨_, _, Tryd.func15, rfl, by kernel_rfl⟩
theorem fa_62 : FnAt Tryd.prog 62 := ⟨_, _, Tryd.func62, rfl, by kernel_rfl⟩
theorem sb_24_0 : sbuilt Tryd.prog 24 0 [] = some [] := by kernel_rfl
theorem fa_64 : FnAt Tryd.prog 64 := ⟨_, _, Tryd.func64, rfl, by kernel_rfl⟩
theorem fa_74 : FnAt Tryd.prog 74 := ⟨_, _, Tryd.func74, rfl, by kernel_rfl⟩
theorem fa_41 : FnAt Tryd.prog 41 := ⟨_, _, Tryd.func41, rfl, by kernel_rfl⟩
theorem fa_63 : FnAt Tryd.prog 63 := ⟨_, _, Tryd.func63, rfl, by kernel_rfl⟩
theorem tk_29 : tyk Tryd.prog 29 = some (false, 1) := by kernel_rfl
theorem fa_46 : FnAt Tryd.prog 46 := ⟨_, _, Tryd.func46, rfl, by kernel_rfl⟩
theorem fa_45 : FnAt Tryd.prog 45 := ⟨_, _, Tryd.func45, rfl, by kernel_rfl⟩
theorem fa_42 : FnAt Tryd.prog 42 := ⟨_, _, Tryd.func42, rfl, by kernel_rfl⟩
theorem fa_44 : FnAt Tryd.prog 44 := ⟨_, _, Tryd.func44, rfl, by kernel_rfl⟩
theorem fa_43 : FnAt Tryd.prog 43 := ⟨_, _, Tryd.func43, rfl, by kernel_rfl⟩
theorem fa_6 : FnAt Tryd.prog 6 := ⟨_, _, Tryd.func6, rfl, by kernel_rfl⟩
theorem fa_23 : FnAt Tryd.prog 23 := ⟨_, _, Tryd.func23, rfl, by kernel_rfl⟩
theorem mk_29 : mkinfo Tryd.prog 29 = some (1, true, [.int .i64 0]) := by kernel_rfl
theorem fa_24 : FnAt Tryd.prog 24 := ⟨_, _, Tryd.func24, rfl, by kernel_rfl⟩
theorem sq_41 : seqok Tryd.prog 41 3 = true := by kernel_rfl
theorem fa_88 : FnAt Tryd.prog 88 := ⟨_, _, Tryd.func88, rfl, by kernel_rfl⟩
theorem fa_81 : FnAt Tryd.prog 81 := ⟨_, _, Tryd.func81, rfl, by kernel_rfl⟩
theorem fa_80 : FnAt Tryd.prog 80 := ⟨_, _, Tryd.func80, rfl, by kernel_rfl⟩
theorem fa_75 : FnAt Tryd.prog 75 := ⟨_, _, Tryd.func75, rfl, by kernel_rfl⟩
theorem sb_29_2 (z0 : Int) (z1 : Int) : sbuilt Tryd.prog 29 2 [(0, .int .i64 z0), (1, .int .i64 z1)] = some [.int .i64 z0, .int .i64 z1] := by kernel_rfl
theorem fa_65 : FnAt Tryd.prog 65 := ⟨_, _, Tryd.func65, rfl, by kernel_rfl⟩
theorem fa_66 : FnAt Tryd.prog 66 := ⟨_, _, Tryd.func66, rfl, by kernel_rfl⟩
theorem fa_47 : FnAt Tryd.prog 47 := ⟨_, _, Tryd.func47, rfl, by kernel_rfl⟩
theorem fa_25 : FnAt Tryd.prog 25 := ⟨_, _, Tryd.func25, rfl, by kernel_rfl⟩
theorem fa_10 : FnAt Tryd.prog 10 := ⟨_, _, Tryd.func10, rfl, by kernel_rfl⟩
theorem fa_70 : FnAt Tryd.prog 70 := ⟨_, _, Tryd.func70, rfl, by kernel_rfl⟩
theorem fa_56 : FnAt Tryd.prog 56 := ⟨_, _, Tryd.func56, rfl, by kernel_rfl⟩
theorem fa_71 : FnAt Tryd.prog 71 := ⟨_, _, Tryd.func71, rfl, by kernel_rfl⟩
theorem fa_55 : FnAt Tryd.prog 55 := ⟨_, _, Tryd.func55, rfl, by kernel_rfl⟩
theorem fa_54 : FnAt Tryd.prog 54 := ⟨_, _, Tryd.func54, rfl, by kernel_rfl⟩
theorem fa_72 : FnAt Tryd.prog 72 := ⟨_, _, Tryd.func72, rfl, by kernel_rfl⟩
theorem fa_73 : FnAt Tryd.prog 73 := ⟨_, _, Tryd.func73, rfl, by kernel_rfl⟩
theorem fa_57 : FnAt Tryd.prog 57 := ⟨_, _, Tryd.func57, rfl, by kernel_rfl⟩
theorem fa_58 : FnAt Tryd.prog 58 := ⟨_, _, Tryd.func58, rfl, by kernel_rfl⟩
theorem fa_82 : FnAt Tryd.prog 82 := ⟨_, _, Tryd.func82, rfl, by kernel_rfl⟩
theorem sb_22_1 (z0 : UInt8) : sbuilt Tryd.prog 22 1 [(0, .int .u8 (z0.toNat : Int))] = some [.int .u8 (z0.toNat : Int)] := by kernel_rfl
theorem isBytes_22 : isBytes Tryd.prog 22 = true := by kernel_rfl
theorem isStr_9 : isStr Tryd.prog 9 = true := by kernel_rfl
theorem fa_76 : FnAt Tryd.prog 76 := ⟨_, _, Tryd.func76, rfl, by kernel_rfl⟩
theorem fa_67 : FnAt Tryd.prog 67 := ⟨_, _, Tryd.func67, rfl, by kernel_rfl⟩
theorem fa_35 : FnAt Tryd.prog 35 := ⟨_, _, Tryd.func35, rfl, by kernel_rfl⟩
theorem fa_36 : FnAt Tryd.prog 36 := ⟨_, _, Tryd.func36, rfl, by kernel_rfl⟩
theorem fa_48 : FnAt Tryd.prog 48 := ⟨_, _, Tryd.func48, rfl, by kernel_rfl⟩
theorem fa_27 : FnAt Tryd.prog 27 := ⟨_, _, Tryd.func27, rfl, by kernel_rfl⟩
theorem fa_26 : FnAt Tryd.prog 26 := ⟨_, _, Tryd.func26, rfl, by kernel_rfl⟩
theorem fa_30 : FnAt Tryd.prog 30 := ⟨_, _, Tryd.func30, rfl, by kernel_rfl⟩
theorem fa_84 : FnAt Tryd.prog 84 := ⟨_, _, Tryd.func84, rfl, by kernel_rfl⟩
theorem fa_83 : FnAt Tryd.prog 83 := ⟨_, _, Tryd.func83, rfl, by kernel_rfl⟩
theorem fa_86 : FnAt Tryd.prog 86 := ⟨_, _, Tryd.func86, rfl, by kernel_rfl⟩
theorem fa_85 : FnAt Tryd.prog 85 := ⟨_, _, Tryd.func85, rfl, by kernel_rfl⟩
theorem fa_77 : FnAt Tryd.prog 77 := ⟨_, _, Tryd.func77, rfl, by kernel_rfl⟩
theorem fa_78 : FnAt Tryd.prog 78 := ⟨_, _, Tryd.func78, rfl, by kernel_rfl⟩
theorem sb_49_0 : sbuilt Tryd.prog 49 0 [] = some [] := by kernel_rfl
theorem fa_68 : FnAt Tryd.prog 68 := ⟨_, _, Tryd.func68, rfl, by kernel_rfl⟩
theorem sb_49_1 (z0 : Int) (z1 : Hd) : sbuilt Tryd.prog 49 1 [(0, .agg #[.int .i64 z0, (sl z1)])] = some [.int .i64 z0, (sl z1)] := by kernel_rfl
theorem ak_49 : aok Tryd.prog 49 2 = true := by kernel_rfl
theorem fa_87 : FnAt Tryd.prog 87 := ⟨_, _, Tryd.func87, rfl, by kernel_rfl⟩
theorem sb_80_3 (z0 : Str) (z1 : Str) (z2 : Str) : sbuilt Tryd.prog 80 3 [(0, bs z0), (1, bs z1), (2, bs z2)] = some [bs z0, bs z1, bs z2] := by kernel_rfl
theorem el_80 : elo Tryd.prog 80 = some 1 := by kernel_rfl
theorem tk_9 : tyk Tryd.prog 9 = some (false, 1) := by kernel_rfl
theorem fa_79 : FnAt Tryd.prog 79 := ⟨_, _, Tryd.func79, rfl, by kernel_rfl⟩
theorem fa_69 : FnAt Tryd.prog 69 := ⟨_, _, Tryd.func69, rfl, by kernel_rfl⟩
theorem el_49 : elo Tryd.prog 49 = some 2 := by kernel_rfl
theorem fa_53 : FnAt Tryd.prog 53 := ⟨_, _, Tryd.func53, rfl, by kernel_rfl⟩
theorem fa_52 : FnAt Tryd.prog 52 := ⟨_, _, Tryd.func52, rfl, by kernel_rfl⟩
theorem fa_51 : FnAt Tryd.prog 51 := ⟨_, _, Tryd.func51, rfl, by kernel_rfl⟩
theorem mt_68 : mapT Tryd.prog 68 = true := by kernel_rfl
theorem fa_9 : FnAt Tryd.prog 9 := ⟨_, _, Tryd.func9, rfl, by kernel_rfl⟩
theorem fa_31 : FnAt Tryd.prog 31 := ⟨_, _, Tryd.func31, rfl, by kernel_rfl⟩
theorem fa_32 : FnAt Tryd.prog 32 := ⟨_, _, Tryd.func32, rfl, by kernel_rfl⟩
theorem fa_4 : FnAt Tryd.prog 4 := ⟨_, _, Tryd.func4, rfl, by kernel_rfl⟩
theorem fa_5 : FnAt Tryd.prog 5 := ⟨_, _, Tryd.func5, rfl, by kernel_rfl⟩
theorem fa_7 : FnAt Tryd.prog 7 := ⟨_, _, Tryd.func7, rfl, by kernel_rfl⟩
theorem fa_8 : FnAt Tryd.prog 8 := ⟨_, _, Tryd.func8, rfl, by kernel_rfl⟩
theorem fa_11 : FnAt Tryd.prog 11 := ⟨_, _, Tryd.func11, rfl, by kernel_rfl⟩
theorem fa_12 : FnAt Tryd.prog 12 := ⟨_, _, Tryd.func12, rfl, by kernel_rfl⟩
theorem fa_13 : FnAt Tryd.prog 13 := ⟨_, _, Tryd.func13, rfl, by kernel_rfl⟩
theorem fa_14 : FnAt Tryd.prog 14 := ⟨_, _, Tryd.func14, rfl, by kernel_rfl⟩
theorem fa_16 : FnAt Tryd.prog 16 := ⟨_, _, Tryd.func16, rfl, by kernel_rfl⟩
end Go.Proofs.YtkahnmhkfmjomabDoor
