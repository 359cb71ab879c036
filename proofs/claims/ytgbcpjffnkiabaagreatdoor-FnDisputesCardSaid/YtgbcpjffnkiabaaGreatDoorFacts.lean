/-
  Closed facts on this translation.
-/
import Derived.Test.YtgbcpjffnkiabaaGreatDoorPure
import Derived.Test.YtgbcpjffnkiabaaGreatDoorChecked
import Derived.KernelRfl
namespace Go.Proofs.YtgbcpjffnkiabaaGreatDoor
open Go Go.RowKit Go.Proofs

theorem mixed : Tryz.prog.follows .mixedOrders = true := by kernel_rfl
theorem el_22 : elo Tryz.prog 22 = some 1 := by kernel_rfl
theorem tk_5 : tyk Tryz.prog 5 = some (false, 1) := by kernel_rfl
theorem isU8_5 : isU8 Tryz.prog 5 = true := by kernel_rfl
theorem isInt_3 : isInt Tryz.prog 3 = true := by kernel_rfl
theorem bd_62_0_2 (z0 : Hd) (z1 : Int) : Tryz.prog.built 62 [(0, (sl z0)), (2, .int .i64 z1)] = some #[(sl z0), .int .i64 0, .int .i64 z1] := by kernel_rfl
theorem fo_62_2 : fldo Tryz.prog 62 2 = some 2 := by kernel_rfl
theorem tk_3 : tyk Tryz.prog 3 = some (false, 1) := by kernel_rfl
theorem fo_62_1 : fldo Tryz.prog 62 1 = some 1 := by kernel_rfl
theorem fo_62_0 : fldo Tryz.prog 62 0 = some 0 := by kernel_rfl
theorem tk_22 : tyk Tryz.prog 22 = some (false, 1) := by kernel_rfl
theorem fa_52 : FnAt Tryz.prog 52 := ⟨_, _, Tryz.func52, rfl, by kernel_rfl⟩
theorem za_55 : (Tryz.prog.info? 55).map (fun i => i.zero.map (·.cells.toList)) = some (some [.int .i64 0, .int .i64 0, .int .i64 0]) := by kernel_rfl
theorem fa_22 : FnAt Tryz.prog 22 := ⟨_, _, Tryz.func22, rfl, by kernel_rfl⟩
theorem bd_55 : Tryz.prog.built 55 [] = some #[.int .i64 0, .int .i64 0, .int .i64 0] := by kernel_rfl
theorem tk_55 : tyk Tryz.prog 55 = some (true, 3) := by kernel_rfl
theorem bd_55_1_2 (z0 : Int) (z1 : Int) : Tryz.prog.built 55 [(1, .int .i64 z0), (2, .int .i64 z1)] = some #[.int .i64 0, .int .i64 z0, .int .i64 z1] := by kernel_rfl
theorem za_26 : (Tryz.prog.info? 26).map (fun i => i.zero.map (·.cells.toList)) = some (some [.int .i64 0, (Value.slice none 0 0)]) := by kernel_rfl
theorem fa_29 : FnAt Tryz.prog 29 := ⟨_, _, Tryz.func29, rfl, by kernel_rfl⟩
theorem bd_55_0_1_2 (z0 : Int) (z1 : Int) (z2 : Int) : Tryz.prog.built 55 [(0, .int .i64 z0), (1, .int .i64 z1), (2, .int .i64 z2)] = some #[.int .i64 z0, .int .i64 z1, .int .i64 z2] := by kernel_rfl
theorem sb_24_9 (z0 : Int) (z1 : Int) (z2 : Int) (z3 : Int) (z4 : Int) (z5 : Int) (z6 : Int) (z7 : Int) (z8 : Int) (z9 : Int) (z10 : Int) (z11 : Int) (z12 : Int) (z13 : Int) (z14 : Int) (z15 : Int) (z16 : Int) (z17 : Int) (z18 : Int) (z19 : Int) (z20 : Int) (z21 : Int) (z22 : Int) (z23 : Int) (z24 : Int) (z25 : Int) (z26 : Int) : sbuilt Tryz.prog 24 9 [(0, .agg #[.int .i64 z0, .int .i64 z1, .int .i64 z2]), (1, .agg #[.int .i64 z3, .int .i64 z4, .int .i64 z5]), (2, .agg #[.int .i64 z6, .int .i64 z7, .int .i64 z8]), (3, .agg #[.int .i64 z9, .int .i64 z10, .int .i64 z11]), (4, .agg #[.int .i64 z12, .int .i64 z13, .int .i64 z14]), (5, .agg #[.int .i64 z15, .int .i64 z16, .int .i64 z17]), (6, .agg #[.int .i64 z18, .int .i64 z19, .int .i64 z20]), (7, .agg #[.int .i64 z21, .int .i64 z22, .int .i64 z23]), (8, .agg #[.int .i64 z24, .int .i64 z25, .int .i64 z26])] = some [.int .i64 z0, .int .i64 z1, .int .i64 z2, .int .i64 z3, .int .i64 z4, .int .i64 z5, .int .i64 z6, .int .i64 z7, .int .i64 z8, .int .i64 z9, .int .i64 z10, .int .i64 z11, .int .i64 z12, .int .i64 z13, .int .i64 z14, .int .i64 z15, .int .i64 z16, .int .i64 z17, .int .i64 z18, .int .i64 z19, .int .i64 z20, .int .i64 z21, .int .i64 z22, .int .i64 z23, .int .i64 z24, .int .i64 z25, .int .i64 z26] := by kernel_rfl
theorem bd_26_0_1 (z0 : Int) (z1 : Hd) : Tryz.prog.built 26 [(0, .int .i64 z0), (1, (sl z1))] = some #[.int .i64 z0, (sl z1)] := by kernel_rfl
theorem tk_26 : tyk Tryz.prog 26 = some (true, 2) := by kernel_rfl
theorem bd_26 : Tryz.prog.built 26 [] = some #[.int .i64 0, (Value.slice none 0 0)] := by kernel_rfl
theorem bd_26_0 (z0 : Int) : Tryz.prog.built 26 [(0, .int .i64 z0)] = some #[.int .i64 z0, (Value.slice none 0 0)] := by kernel_rfl
theorem fo_26_1 : fldo Tryz.prog 26 1 = some 1 := by kernel_rfl
theorem tk_24 : tyk Tryz.prog 24 = some (false, 1) := by kernel_rfl
theorem sb_24_1 (z0 : Int) (z1 : Int) (z2 : Int) : sbuilt Tryz.prog 24 1 [(0, .agg #[.int .i64 z0, .int .i64 z1, .int .i64 z2])] = some [.int .i64 z0, .int .i64 z1, .int .i64 z2] := by kernel_rfl
theorem ak_24 : aok Tryz.prog 24 3 = true := by kernel_rfl
theorem fo_55_0 : fldo Tryz.prog 55 0 = some 0 := by kernel_rfl
theorem fo_55_1 : fldo Tryz.prog 55 1 = some 1 := by kernel_rfl
theorem fo_55_2 : fldo Tryz.prog 55 2 = some 2 := by kernel_rfl
theorem ub_4 : Tryz.prog.underlying 4 = some .bool := by kernel_rfl
theorem fa_42 : FnAt Tryz.prog 42 := ⟨_, _, Tryz.func42, rfl, by kernel_rfl⟩
theorem fa_31 : FnAt Tryz.prog 31 := ⟨_, _, Tryz.func31, rfl, by kernel_rfl⟩
theorem fa_68 : FnAt Tryz.prog 68 := ⟨_, _, Tryz.func68, rfl, by kernel_rfl⟩
theorem fa_14 : FnAt Tryz.prog 14 := ⟨_, _, Tryz.func14, rfl, by kernel_rfl⟩
theorem fa_90 : FnAt Tryz.prog 90 := ⟨_, _, Tryz.func90, rfl, by kernel_rfl⟩
theorem fa_43 : FnAt Tryz.prog 43 := ⟨_, _, Tryz.func43, rfl, by kernel_rfl⟩
theorem el_38 : elo Tryz.prog 38 = some 1 := by kernel_rfl
theorem sb_38_4 (z0 : Int) (z1 : Int) (z2 : Int) (z3 : Int) : sbuilt Tryz.prog 38 4 [(0, .int .i64 z0), (1, .int .i64 z1), (2, .int .i64 z2), (3, .int .i64 z3)] = some [.int .i64 z0, .int .i64 z1, .int .i64 z2, .int .i64 z3] := by kernel_rfl
theorem fa_32 : FnAt Tryz.prog 32 := ⟨_, _, Tryz.func32, rfl, by kernel_rfl⟩
theorem fa_75 : FnAt Tryz.prog 75 := ⟨_, _, Tryz.func75, rfl, by kernel_rfl⟩
theorem fo_26_0 : fldo Tryz.prog 26 0 = some 0 := by kernel_rfl
theorem el_24 : elo Tryz.prog 24 = some 3 := by kernel_rfl
theorem fa_76 : FnAt Tryz.prog 76 := ⟨_, _, Tryz.func76, rfl, by kernel_rfl⟩
theorem sb_24_0 : sbuilt Tryz.prog 24 0 [] = some [] := by kernel_rfl
theorem fa_23 : FnAt Tryz.prog 23 := ⟨_, _, Tryz.func23, rfl, by kernel_rfl⟩
theorem fa_88 : FnAt Tryz.prog 88 := ⟨_, _, Tryz.func88, rfl, by kernel_rfl⟩
theorem fa_89 : FnAt Tryz.prog 89 := ⟨_, _, Tryz.func89, rfl, by kernel_rfl⟩
theorem fa_51 : FnAt Tryz.prog 51 := ⟨_, _, Tryz.func51, rfl, by kernel_rfl⟩
theorem fa_71 : FnAt Tryz.prog 71 := ⟨_, _, Tryz.func71, rfl, by kernel_rfl⟩
theorem fa_72 : FnAt Tryz.prog 72 := ⟨_, _, Tryz.func72, rfl, by kernel_rfl⟩
theorem sb_38_0 : sbuilt Tryz.prog 38 0 [] = some [] := by kernel_rfl
theorem sb_38_1 (z0 : Int) : sbuilt Tryz.prog 38 1 [(0, .int .i64 z0)] = some [.int .i64 z0] := by kernel_rfl
theorem ak_38 : aok Tryz.prog 38 1 = true := by kernel_rfl
theorem fa_73 : FnAt Tryz.prog 73 := ⟨_, _, Tryz.func73, rfl, by kernel_rfl⟩
theorem fa_69 : FnAt Tryz.prog 69 := ⟨_, _, Tryz.func69, rfl, by kernel_rfl⟩
theorem fa_70 : FnAt Tryz.prog 70 := ⟨_, _, Tryz.func70, rfl, by kernel_rfl⟩
theorem fa_49 : FnAt Tryz.prog 49 := ⟨_, _, Tryz.func49, rfl, by kernel_rfl⟩
theorem fa_46 : FnAt Tryz.prog 46 := ⟨_, _, Tryz.func46, rfl, by kernel_rfl⟩
theorem fa_50 : FnAt Tryz.prog 50 := ⟨_, _, Tryz.func50, rfl, by kernel_rfl⟩
theorem fa_45 : FnAt Tryz.prog 45 := ⟨_, _, Tryz.func45, rfl, by kernel_rfl⟩
theorem fa_44 : FnAt Tryz.prog 44 := ⟨_, _, Tryz.func44, rfl, by kernel_rfl⟩
theorem za_28 : (Tryz.prog.info? 28).map (fun i => i.zero.map (·.cells.toList)) = some (some [.int .i64 0, .int .i64 0, .int .i64 0, (Value.slice none 0 0)]) := by kernel_rfl
theorem fa_30 : FnAt Tryz.prog 30 := ⟨_, _, Tryz.func30, rfl, by kernel_rfl⟩
theorem bd_28_0_1_2 (z0 : Int) (z1 : Int) (z2 : Int) (z3 : Hd) : Tryz.prog.built 28 [(0, .int .i64 z0), (1, .int .i64 z1), (2, .agg #[.int .i64 z2, (sl z3)])] = some #[.int .i64 z0, .int .i64 z1, .int .i64 z2, (sl z3)] := by kernel_rfl
theorem tk_28 : tyk Tryz.prog 28 = some (true, 4) := by kernel_rfl
theorem sb_38_3 (z0 : Int) (z1 : Int) (z2 : Int) : sbuilt Tryz.prog 38 3 [(0, .int .i64 z0), (1, .int .i64 z1), (2, .int .i64 z2)] = some [.int .i64 z0, .int .i64 z1, .int .i64 z2] := by kernel_rfl
theorem fo_28_0 : fldo Tryz.prog 28 0 = some 0 := by kernel_rfl
theorem fo_28_1 : fldo Tryz.prog 28 1 = some 1 := by kernel_rfl
theorem fa_16 : FnAt Tryz.prog 16 := ⟨_, _, Tryz.func16, rfl, by kernel_rfl⟩
theorem fa_15 : FnAt Tryz.prog 15 := ⟨_, _, Tryz.func15, rfl, by kernel_rfl⟩
theorem fa_27 : FnAt Tryz.prog 27 := ⟨_, _, Tryz.func27, rfl, by kernel_rfl⟩
theorem fa_74 : FnAt Tryz.prog 74 := ⟨_, _, Tryz.func74, rfl, by kernel_rfl⟩
theorem fa_48 : FnAt Tryz.prog 48 := ⟨_, _, Tryz.func48, rfl, by kernel_rfl⟩
theorem fo_28_2 : fldo Tryz.prog 28 2 = some 2 := by kernel_rfl
theorem fa_28 : FnAt Tryz.prog 28 := ⟨_, _, Tryz.func28, rfl, by kernel_rfl⟩
theorem fa_82 : FnAt Tryz.prog 82 := ⟨_, _, Tryz.func82, rfl, by kernel_rfl⟩
theorem fa_63 : FnAt Tryz.prog 63 := ⟨_, _, Tryz.func63, rfl, by kernel_rfl⟩
theorem fa_85 : FnAt Tryz.prog 85 := ⟨_, _, Tryz.func85, rfl, by kernel_rfl⟩
theorem fa_84 : FnAt Tryz.prog 84 := ⟨_, _, Tryz.func84, rfl, by kernel_rfl⟩
theorem fa_60 : FnAt Tryz.prog 60 := ⟨_, _, Tryz.func60, rfl, by kernel_rfl⟩
theorem fa_87 : FnAt Tryz.prog 87 := ⟨_, _, Tryz.func87, rfl, by kernel_rfl⟩
theorem fa_86 : FnAt Tryz.prog 86 := ⟨_, _, Tryz.func86, rfl, by kernel_rfl⟩
theorem fa_59 : FnAt Tryz.prog 59 := ⟨_, _, Tryz.func59, rfl, by kernel_rfl⟩
theorem fa_66 : FnAt Tryz.prog 66 := ⟨_, _, Tryz.func66, rfl, by kernel_rfl⟩
theorem fa_67 : FnAt Tryz.prog 67 := ⟨_, _, Tryz.func67, rfl, by kernel_rfl⟩
theorem sb_47_0 : sbuilt Tryz.prog 47 0 [] = some [] := by kernel_rfl
theorem fa_41 : FnAt Tryz.prog 41 := ⟨_, _, Tryz.func41, rfl, by kernel_rfl⟩
theorem sb_47_1 (z0 : Int) (z1 : Hd) : sbuilt Tryz.prog 47 1 [(0, .agg #[.int .i64 z0, (sl z1)])] = some [.int .i64 z0, (sl z1)] := by kernel_rfl
theorem ak_47 : aok Tryz.prog 47 2 = true := by kernel_rfl
theorem fa_97 : FnAt Tryz.prog 97 := ⟨_, _, Tryz.func97, rfl, by kernel_rfl⟩
theorem fa_80 : FnAt Tryz.prog 80 := ⟨_, _, Tryz.func80, rfl, by kernel_rfl⟩
theorem fa_95 : FnAt Tryz.prog 95 := ⟨_, _, Tryz.func95, rfl, by kernel_rfl⟩
theorem fa_94 : FnAt Tryz.prog 94 := ⟨_, _, Tryz.func94, rfl, by kernel_rfl⟩
theorem fa_83 : FnAt Tryz.prog 83 := ⟨_, _, Tryz.func83, rfl, by kernel_rfl⟩
theorem mk_38 : mkinfo Tryz.prog 38 = some (1, true, [.int .i64 0]) := by kernel_rfl
theorem sb_38_2 (z0 : Int) (z1 : Int) : sbuilt Tryz.prog 38 2 [(0, .int .i64 z0), (1, .int .i64 z1)] = some [.int .i64 z0, .int .i64 z1] := by kernel_rfl
theorem fa_64 : FnAt Tryz.prog 64 := ⟨_, _, Tryz.func64, rfl, by kernel_rfl⟩
theorem fa_65 : FnAt Tryz.prog 65 := ⟨_, _, Tryz.func65, rfl, by kernel_rfl⟩
theorem fa_93 : FnAt Tryz.prog 93 := ⟨_, _, Tryz.func93, rfl, by kernel_rfl⟩
theorem fa_58 : FnAt Tryz.prog 58 := ⟨_, _, Tryz.func58, rfl, by kernel_rfl⟩
theorem fa_81 : FnAt Tryz.prog 81 := ⟨_, _, Tryz.func81, rfl, by kernel_rfl⟩
theorem tk_38 : tyk Tryz.prog 38 = some (false, 1) := by kernel_rfl
theorem fa_62 : FnAt Tryz.prog 62 := ⟨_, _, Tryz.func62, rfl, by kernel_rfl⟩
theorem fa_61 : FnAt Tryz.prog 61 := ⟨_, _, Tryz.func61, rfl, by kernel_rfl⟩
theorem fa_40 : FnAt Tryz.prog 40 := ⟨_, _, Tryz.func40, rfl, by kernel_rfl⟩
theorem fa_39 : FnAt Tryz.prog 39 := ⟨_, _, Tryz.func39, rfl, by kernel_rfl⟩
theorem fa_98 : FnAt Tryz.prog 98 := ⟨_, _, Tryz.func98, rfl, by kernel_rfl⟩
theorem sb_98_3 (z0 : Str) (z1 : Str) (z2 : Str) : sbuilt Tryz.prog 98 3 [(0, bs z0), (1, bs z1), (2, bs z2)] = some [bs z0, bs z1, bs z2] := by kernel_rfl
theorem el_98 : elo Tryz.prog 98 = some 1 := by kernel_rfl
theorem tk_9 : tyk Tryz.prog 9 = some (false, 1) := by kernel_rfl
theorem fa_96 : FnAt Tryz.prog 96 := ⟨_, _, Tryz.func96, rfl, by kernel_rfl⟩
theorem fa_91 : FnAt Tryz.prog 91 := ⟨_, _, Tryz.func91, rfl, by kernel_rfl⟩
theorem el_47 : elo Tryz.prog 47 = some 2 := by kernel_rfl
theorem fa_77 : FnAt Tryz.prog 77 := ⟨_, _, Tryz.func77, rfl, by kernel_rfl⟩
theorem fa_20 : FnAt Tryz.prog 20 := ⟨_, _, Tryz.func20, rfl, by kernel_rfl⟩
theorem fa_19 : FnAt Tryz.prog 19 := ⟨_, _, Tryz.func19, rfl, by kernel_rfl⟩
theorem fa_53 : FnAt Tryz.prog 53 := ⟨_, _, Tryz.func53, rfl, by kernel_rfl⟩
theorem sq_55 : seqok Tryz.prog 55 3 = true := by kernel_rfl
theorem fa_33 : FnAt Tryz.prog 33 := ⟨_, _, Tryz.func33, rfl, by kernel_rfl⟩
theorem fa_21 : FnAt Tryz.prog 21 := ⟨_, _, Tryz.func21, rfl, by kernel_rfl⟩
theorem fa_78 : FnAt Tryz.prog 78 := ⟨_, _, Tryz.func78, rfl, by kernel_rfl⟩
theorem fa_54 : FnAt Tryz.prog 54 := ⟨_, _, Tryz.func54, rfl, by kernel_rfl⟩
theorem fa_35 : FnAt Tryz.prog 35 := ⟨_, _, Tryz.func35, rfl, by kernel_rfl⟩
theorem fa_55 : FnAt Tryz.prog 55 := ⟨_, _, Tryz.func55, rfl, by kernel_rfl⟩
theorem fa_36 : FnAt Tryz.prog 36 := ⟨_, _, Tryz.func36, rfl, by kernel_rfl⟩
theorem fa_56 : FnAt Tryz.prog 56 := ⟨_, _, Tryz.func56, rfl, by kernel_rfl⟩
theorem fa_92 : FnAt Tryz.prog 92 := ⟨_, _, Tryz.func92, rfl, by kernel_rfl⟩
theorem fa_34 : FnAt Tryz.prog 34 := ⟨_, _, Tryz.func34, rfl, by kernel_rfl⟩
theorem fa_79 : FnAt Tryz.prog 79 := ⟨_, _, Tryz.func79, rfl, by kernel_rfl⟩
theorem fa_57 : FnAt Tryz.prog 57 := ⟨_, _, Tryz.func57, rfl, by kernel_rfl⟩
theorem fa_37 : FnAt Tryz.prog 37 := ⟨_, _, Tryz.func37, rfl, by kernel_rfl⟩
theorem fa_38 : FnAt Tryz.prog 38 := ⟨_, _, Tryz.func38, rfl, by kernel_rfl⟩
theorem fa_13 : FnAt Tryz.prog 13 := ⟨_, _, Tryz.func13, rfl, by kernel_rfl⟩
theorem fa_17 : FnAt Tryz.prog 17 := ⟨_, _, Tryz.func17, rfl, by kernel_rfl⟩
theorem fa_18 : FnAt Tryz.prog 18 := ⟨_, _, Tryz.func18, rfl, by kernel_rfl⟩
theorem fa_6 : FnAt Tryz.prog 6 := ⟨_, _, Tryz.func6, rfl, by kernel_rfl⟩
theorem sb_34_0 : sbuilt Tryz.prog 34 0 [] = some [] := by kernel_rfl
theorem el_34 : elo Tryz.prog 34 = some 4 := by kernel_rfl
theorem fa_47 : FnAt Tryz.prog 47 := ⟨_, _, Tryz.func47, rfl, by kernel_rfl⟩
theorem sb_34_1 (z0 : Int) (z1 : Int) (z2 : Int) (z3 : Hd) : sbuilt Tryz.prog 34 1 [(0, .agg #[.int .i64 z0, .int .i64 z1, .int .i64 z2, (sl z3)])] = some [.int .i64 z0, .int .i64 z1, .int .i64 z2, (sl z3)] := by kernel_rfl
theorem ak_34 : aok Tryz.prog 34 4 = true := by kernel_rfl
theorem fa_24 : FnAt Tryz.prog 24 := ⟨_, _, Tryz.func24, rfl, by kernel_rfl⟩
theorem tk_34 : tyk Tryz.prog 34 = some (false, 1) := by kernel_rfl
theorem fa_8 : FnAt Tryz.prog 8 := ⟨_, _, Tryz.func8, rfl, by kernel_rfl⟩
theorem sb_36_0 : sbuilt Tryz.prog 36 0 [] = some [] := by kernel_rfl
theorem sb_36_1 (z0 : Hd) : sbuilt Tryz.prog 36 1 [(0, (sl z0))] = some [(sl z0)] := by kernel_rfl
theorem ak_36 : aok Tryz.prog 36 1 = true := by kernel_rfl
theorem fa_26 : FnAt Tryz.prog 26 := ⟨_, _, Tryz.func26, rfl, by kernel_rfl⟩
theorem fa_25 : FnAt Tryz.prog 25 := ⟨_, _, Tryz.func25, rfl, by kernel_rfl⟩
theorem fa_4 : FnAt Tryz.prog 4 := ⟨_, _, Tryz.func4, rfl, by kernel_rfl⟩
theorem fa_5 : FnAt Tryz.prog 5 := ⟨_, _, Tryz.func5, rfl, by kernel_rfl⟩
theorem fa_7 : FnAt Tryz.prog 7 := ⟨_, _, Tryz.func7, rfl, by kernel_rfl⟩
theorem fa_9 : FnAt Tryz.prog 9 := ⟨_, _, Tryz.func9, rfl, by kernel_rfl⟩
theorem fa_10 : FnAt Tryz.prog 10 := ⟨_, _, Tryz.func10, rfl, by kernel_rfl⟩
theorem fa_11 : FnAt Tryz.prog 11 := ⟨_, _, Tryz.func11, rfl, by kernel_rfl⟩
theorem el_36 : elo Tryz.prog 36 = some 1 := by kernel_rfl
theorem fa_12 : FnAt Tryz.prog 12 := ⟨_, _, Tryz.func12, rfl, by kernel_rfl⟩
theorem bd_28_2 (z0 : Int) (z1 : Hd) : Tryz.prog.built 28 [(2, .agg #[.int .i64 z0, (sl z1)])] = some #[.int .i64 0, .int .i64 0, .int .i64 z0, (sl z1)] := by kernel_rfl
end Go.Proofs.YtgbcpjffnkiabaaGreatDoor
