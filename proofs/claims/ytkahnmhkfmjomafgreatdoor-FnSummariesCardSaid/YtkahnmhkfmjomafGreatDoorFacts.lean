/-
  Closed facts on this translation.
-/
import Derived.Test.YtkahnmhkfmjomafGreatDoorPure
import Derived.Test.YtkahnmhkfmjomafGreatDoorChecked
import Derived.KernelRfl
namespace Go.Proofs.YtkahnmhkfmjomafGreatDoor
open Go Go.RowKit Go.Proofs

theorem mixed : Tryz.prog.follows .mixedOrders = true := by kernel_rfl
theorem el_22 : elo Tryz.prog 22 = some 1 := by kernel_rfl
theorem tk_5 : tyk Tryz.prog 5 = some (false, 1) := by kernel_rfl
theorem isU8_5 : isU8 Tryz.prog 5 = true := by kernel_rfl
theorem isInt_3 : isInt Tryz.prog 3 = true := by kernel_rfl
theorem bd_69_0_2 (z0 : Hd) (z1 : Int) : Tryz.prog.built 69 [(0, (sl z0)), (2, .int .i64 z1)] = some #[(sl z0), .int .i64 0, .int .i64 z1] := by kernel_rfl
theorem fo_69_2 : fldo Tryz.prog 69 2 = some 2 := by kernel_rfl
theorem tk_3 : tyk Tryz.prog 3 = some (false, 1) := by kernel_rfl
theorem fo_69_1 : fldo Tryz.prog 69 1 = some 1 := by kernel_rfl
theorem fo_69_0 : fldo Tryz.prog 69 0 = some 0 := by kernel_rfl
theorem tk_22 : tyk Tryz.prog 22 = some (false, 1) := by kernel_rfl
theorem fa_58 : FnAt Tryz.prog 58 := ⟨_, _, Tryz.func58, rfl, by kernel_rfl⟩
theorem fa_38 : FnAt Tryz.prog 38 := ⟨_, _, Tryz.func38, rfl, by kernel_rfl⟩
theorem el_24 : elo Tryz.prog 24 = some 3 := by kernel_rfl
theorem tk_37 : tyk Tryz.prog 37 = some (true, 3) := by kernel_rfl
theorem za_37 : (Tryz.prog.info? 37).map (fun i => i.zero.map (·.cells.toList)) = some (some [.int .i64 0, .int .i64 0, .int .i64 0]) := by kernel_rfl
theorem fo_37_0 : fldo Tryz.prog 37 0 = some 0 := by kernel_rfl
theorem fa_32 : FnAt Tryz.prog 32 := ⟨_, _, Tryz.func32, rfl, by kernel_rfl⟩
theorem fo_37_1 : fldo Tryz.prog 37 1 = some 1 := by kernel_rfl
theorem fo_37_2 : fldo Tryz.prog 37 2 = some 2 := by kernel_rfl
theorem el_25 : elo Tryz.prog 25 = some 1 := by kernel_rfl
theorem el_27 : elo Tryz.prog 27 = some 4 := by kernel_rfl
theorem tk_102 : tyk Tryz.prog 102 = some (true, 4) := by kernel_rfl
theorem za_102 : (Tryz.prog.info? 102).map (fun i => i.zero.map (·.cells.toList)) = some (some [.int .i64 0, .int .i64 0, .int .i64 0, .int .i64 0]) := by kernel_rfl
theorem fo_102_0 : fldo Tryz.prog 102 0 = some 0 := by kernel_rfl
theorem fo_102_1 : fldo Tryz.prog 102 1 = some 1 := by kernel_rfl
theorem fo_102_2 : fldo Tryz.prog 102 2 = some 2 := by kernel_rfl
theorem fo_102_3 : fldo Tryz.prog 102 3 = some 3 := by kernel_rfl
theorem fo_58_0 : fldo Tryz.prog 58 0 = some 0 := by kernel_rfl
theorem fo_58_1 : fldo Tryz.prog 58 1 = some 1 := by kernel_rfl
theorem fo_58_2 : fldo Tryz.prog 58 2 = some 2 := by kernel_rfl
theorem ub_4 : Tryz.prog.underlying 4 = some .bool := by kernel_rfl
theorem fo_40_0 : fldo Tryz.prog 40 0 = some 0 := by kernel_rfl
theorem fo_40_1 : fldo Tryz.prog 40 1 = some 1 := by kernel_rfl
theorem tk_38 : tyk Tryz.prog 38 = some (false, 1) := by kernel_rfl
theorem el_38 : elo Tryz.prog 38 = some 3 := by kernel_rfl
theorem tk_58 : tyk Tryz.prog 58 = some (true, 3) := by kernel_rfl
theorem fa_33 : FnAt Tryz.prog 33 := ⟨_, _, Tryz.func33, rfl, by kernel_rfl⟩
theorem fo_42_0 : fldo Tryz.prog 42 0 = some 0 := by kernel_rfl
theorem fo_42_1 : fldo Tryz.prog 42 1 = some 1 := by kernel_rfl
theorem fo_42_2 : fldo Tryz.prog 42 2 = some 2 := by kernel_rfl
theorem tk_40 : tyk Tryz.prog 40 = some (true, 2) := by kernel_rfl
theorem fa_12 : FnAt Tryz.prog 12 := ⟨_, _, Tryz.func12, rfl, by kernel_rfl⟩
theorem sb_25_0 : sbuilt Tryz.prog 25 0 [] = some [] := by kernel_rfl
theorem fa_77 : FnAt Tryz.prog 77 := ⟨_, _, Tryz.func77, rfl, by kernel_rfl⟩
theorem sb_25_1 (z0 : Int) : sbuilt Tryz.prog 25 1 [(0, .int .i64 z0)] = some [.int .i64 z0] := by kernel_rfl
theorem ak_25 : aok Tryz.prog 25 1 = true := by kernel_rfl
theorem fo_29_0 : fldo Tryz.prog 29 0 = some 0 := by kernel_rfl
theorem tk_24 : tyk Tryz.prog 24 = some (false, 1) := by kernel_rfl
theorem fo_29_5 : fldo Tryz.prog 29 5 = some 5 := by kernel_rfl
theorem fa_89 : FnAt Tryz.prog 89 := ⟨_, _, Tryz.func89, rfl, by kernel_rfl⟩
theorem fo_29_1 : fldo Tryz.prog 29 1 = some 1 := by kernel_rfl
theorem tk_25 : tyk Tryz.prog 25 = some (false, 1) := by kernel_rfl
theorem fa_78 : FnAt Tryz.prog 78 := ⟨_, _, Tryz.func78, rfl, by kernel_rfl⟩
theorem fo_29_3 : fldo Tryz.prog 29 3 = some 3 := by kernel_rfl
theorem tk_27 : tyk Tryz.prog 27 = some (false, 1) := by kernel_rfl
theorem fa_79 : FnAt Tryz.prog 79 := ⟨_, _, Tryz.func79, rfl, by kernel_rfl⟩
theorem fo_29_2 : fldo Tryz.prog 29 2 = some 2 := by kernel_rfl
theorem tk_26 : tyk Tryz.prog 26 = some (false, 1) := by kernel_rfl
theorem el_26 : elo Tryz.prog 26 = some 4 := by kernel_rfl
theorem tk_42 : tyk Tryz.prog 42 = some (true, 4) := by kernel_rfl
theorem za_42 : (Tryz.prog.info? 42).map (fun i => i.zero.map (·.cells.toList)) = some (some [.int .i64 0, .int .i64 0, .int .i64 0, (Value.slice none 0 0)]) := by kernel_rfl
theorem fa_80 : FnAt Tryz.prog 80 := ⟨_, _, Tryz.func80, rfl, by kernel_rfl⟩
theorem fa_81 : FnAt Tryz.prog 81 := ⟨_, _, Tryz.func81, rfl, by kernel_rfl⟩
theorem fo_29_4 : fldo Tryz.prog 29 4 = some 4 := by kernel_rfl
theorem tk_29 : tyk Tryz.prog 29 = some (true, 6) := by kernel_rfl
theorem fa_82 : FnAt Tryz.prog 82 := ⟨_, _, Tryz.func82, rfl, by kernel_rfl⟩
theorem za_29 : (Tryz.prog.info? 29).map (fun i => i.zero.map (·.cells.toList)) = some (some [(Value.slice none 0 0), (Value.slice none 0 0), (Value.slice none 0 0), (Value.slice none 0 0), .int .i64 0, .int .i64 0]) := by kernel_rfl
theorem bd_29_5 (z0 : Int) : Tryz.prog.built 29 [(5, .int .i64 z0)] = some #[(Value.slice none 0 0), (Value.slice none 0 0), (Value.slice none 0 0), (Value.slice none 0 0), .int .i64 0, .int .i64 z0] := by kernel_rfl
theorem fa_63 : FnAt Tryz.prog 63 := ⟨_, _, Tryz.func63, rfl, by kernel_rfl⟩
theorem bd_29 : Tryz.prog.built 29 [] = some #[(Value.slice none 0 0), (Value.slice none 0 0), (Value.slice none 0 0), (Value.slice none 0 0), .int .i64 0, .int .i64 0] := by kernel_rfl
theorem za_40 : (Tryz.prog.info? 40).map (fun i => i.zero.map (·.cells.toList)) = some (some [.int .i64 0, (Value.slice none 0 0)]) := by kernel_rfl
theorem sb_38_0 : sbuilt Tryz.prog 38 0 [] = some [] := by kernel_rfl
theorem ak_38 : aok Tryz.prog 38 3 = true := by kernel_rfl
theorem bd_40_0_1 (z0 : Int) (z1 : Hd) : Tryz.prog.built 40 [(0, .int .i64 z0), (1, (sl z1))] = some #[.int .i64 z0, (sl z1)] := by kernel_rfl
theorem sb_24_0 : sbuilt Tryz.prog 24 0 [] = some [] := by kernel_rfl
theorem ak_24 : aok Tryz.prog 24 3 = true := by kernel_rfl
theorem sb_27_0 : sbuilt Tryz.prog 27 0 [] = some [] := by kernel_rfl
theorem ak_27 : aok Tryz.prog 27 4 = true := by kernel_rfl
theorem bd_29_0_1_3_4_5 (z0 : Hd) (z1 : Hd) (z2 : Hd) (z3 : Int) (z4 : Int) : Tryz.prog.built 29 [(0, (sl z0)), (1, (sl z1)), (3, (sl z2)), (4, .int .i64 z3), (5, .int .i64 z4)] = some #[(sl z0), (sl z1), (Value.slice none 0 0), (sl z2), .int .i64 z3, .int .i64 z4] := by kernel_rfl
theorem fa_69 : FnAt Tryz.prog 69 := ⟨_, _, Tryz.func69, rfl, by kernel_rfl⟩
theorem sb_26_1 (z0 : Int) (z1 : Int) (z2 : Int) (z3 : Hd) : sbuilt Tryz.prog 26 1 [(0, .agg #[.int .i64 z0, .int .i64 z1, .int .i64 z2, (sl z3)])] = some [.int .i64 z0, .int .i64 z1, .int .i64 z2, (sl z3)] := by kernel_rfl
theorem ak_26 : aok Tryz.prog 26 4 = true := by kernel_rfl
theorem bd_37_0_1_2 (z0 : Int) (z1 : Int) (z2 : Int) : Tryz.prog.built 37 [(0, .int .i64 z0), (1, .int .i64 z1), (2, .int .i64 z2)] = some #[.int .i64 z0, .int .i64 z1, .int .i64 z2] := by kernel_rfl
theorem sb_24_1 (z0 : Int) (z1 : Int) (z2 : Int) : sbuilt Tryz.prog 24 1 [(0, .agg #[.int .i64 z0, .int .i64 z1, .int .i64 z2])] = some [.int .i64 z0, .int .i64 z1, .int .i64 z2] := by kernel_rfl
theorem sb_27_1 (z0 : Int) (z1 : Int) (z2 : Int) (z3 : Int) : sbuilt Tryz.prog 27 1 [(0, .agg #[.int .i64 z0, .int .i64 z1, .int .i64 z2, .int .i64 z3])] = some [.int .i64 z0, .int .i64 z1, .int .i64 z2, .int .i64 z3] := by kernel_rfl
theorem fa_64 : FnAt Tryz.prog 64 := ⟨_, _, Tryz.func64, rfl, by kernel_rfl⟩
theorem fa_65 : FnAt Tryz.prog 65 := ⟨_, _, Tryz.func65, rfl, by kernel_rfl⟩
theorem fa_66 : FnAt Tryz.prog 66 := ⟨_, _, Tryz.func66, rfl, by kernel_rfl⟩
theorem bd_102_0_1_2_3 (z0 : Int) (z1 : Int) (z2 : Int) (z3 : Int) : Tryz.prog.built 102 [(0, .int .i64 z0), (1, .int .i64 z1), (2, .int .i64 z2), (3, .int .i64 z3)] = some #[.int .i64 z0, .int .i64 z1, .int .i64 z2, .int .i64 z3] := by kernel_rfl
theorem fa_67 : FnAt Tryz.prog 67 := ⟨_, _, Tryz.func67, rfl, by kernel_rfl⟩
theorem fa_52 : FnAt Tryz.prog 52 := ⟨_, _, Tryz.func52, rfl, by kernel_rfl⟩
theorem fa_53 : FnAt Tryz.prog 53 := ⟨_, _, Tryz.func53, rfl, by kernel_rfl⟩
theorem za_58 : (Tryz.prog.info? 58).map (fun i => i.zero.map (·.cells.toList)) = some (some [.int .i64 0, .int .i64 0, .int .i64 0]) := by kernel_rfl
theorem bd_58 : Tryz.prog.built 58 [] = some #[.int .i64 0, .int .i64 0, .int .i64 0] := by kernel_rfl
theorem bd_58_1_2 (z0 : Int) (z1 : Int) : Tryz.prog.built 58 [(1, .int .i64 z0), (2, .int .i64 z1)] = some #[.int .i64 0, .int .i64 z0, .int .i64 z1] := by kernel_rfl
theorem fa_34 : FnAt Tryz.prog 34 := ⟨_, _, Tryz.func34, rfl, by kernel_rfl⟩
theorem bd_58_0_1_2 (z0 : Int) (z1 : Int) (z2 : Int) : Tryz.prog.built 58 [(0, .int .i64 z0), (1, .int .i64 z1), (2, .int .i64 z2)] = some #[.int .i64 z0, .int .i64 z1, .int .i64 z2] := by kernel_rfl
theorem fa_68 : FnAt Tryz.prog 68 := ⟨_, _, Tryz.func68, rfl, by kernel_rfl⟩
theorem fa_111 : FnAt Tryz.prog 111 := ⟨_, _, Tryz.func111, rfl, by kernel_rfl⟩
theorem bd_40_0 (z0 : Int) : Tryz.prog.built 40 [(0, .int .i64 z0)] = some #[.int .i64 z0, (Value.slice none 0 0)] := by kernel_rfl
theorem fa_112 : FnAt Tryz.prog 112 := ⟨_, _, Tryz.func112, rfl, by kernel_rfl⟩
theorem sb_38_1 (z0 : Int) (z1 : Int) (z2 : Int) : sbuilt Tryz.prog 38 1 [(0, .agg #[.int .i64 z0, .int .i64 z1, .int .i64 z2])] = some [.int .i64 z0, .int .i64 z1, .int .i64 z2] := by kernel_rfl
theorem fa_107 : FnAt Tryz.prog 107 := ⟨_, _, Tryz.func107, rfl, by kernel_rfl⟩
theorem fa_106 : FnAt Tryz.prog 106 := ⟨_, _, Tryz.func106, rfl, by kernel_rfl⟩
theorem bd_40 : Tryz.prog.built 40 [] = some #[.int .i64 0, (Value.slice none 0 0)] := by kernel_rfl
theorem fa_109 : FnAt Tryz.prog 109 := ⟨_, _, Tryz.func109, rfl, by kernel_rfl⟩
theorem fa_110 : FnAt Tryz.prog 110 := ⟨_, _, Tryz.func110, rfl, by kernel_rfl⟩
theorem fa_104 : FnAt Tryz.prog 104 := ⟨_, _, Tryz.func104, rfl, by kernel_rfl⟩
theorem fa_105 : FnAt Tryz.prog 105 := ⟨_, _, Tryz.func105, rfl, by kernel_rfl⟩
theorem fa_114 : FnAt Tryz.prog 114 := ⟨_, _, Tryz.func114, rfl, by kernel_rfl⟩
theorem sb_22_1 (z0 : UInt8) : sbuilt Tryz.prog 22 1 [(0, .int .u8 (z0.toNat : Int))] = some [.int .u8 (z0.toNat : Int)] := by kernel_rfl
theorem isBytes_22 : isBytes Tryz.prog 22 = true := by kernel_rfl
theorem isStr_9 : isStr Tryz.prog 9 = true := by kernel_rfl
theorem fa_113 : FnAt Tryz.prog 113 := ⟨_, _, Tryz.func113, rfl, by kernel_rfl⟩
theorem fa_108 : FnAt Tryz.prog 108 := ⟨_, _, Tryz.func108, rfl, by kernel_rfl⟩
theorem fa_101 : FnAt Tryz.prog 101 := ⟨_, _, Tryz.func101, rfl, by kernel_rfl⟩
theorem fa_100 : FnAt Tryz.prog 100 := ⟨_, _, Tryz.func100, rfl, by kernel_rfl⟩
theorem fa_102 : FnAt Tryz.prog 102 := ⟨_, _, Tryz.func102, rfl, by kernel_rfl⟩
theorem sq_58 : seqok Tryz.prog 58 3 = true := by kernel_rfl
theorem fa_95 : FnAt Tryz.prog 95 := ⟨_, _, Tryz.func95, rfl, by kernel_rfl⟩
theorem fa_94 : FnAt Tryz.prog 94 := ⟨_, _, Tryz.func94, rfl, by kernel_rfl⟩
theorem sb_133_0 : sbuilt Tryz.prog 133 0 [] = some [] := by kernel_rfl
theorem mk_25 : mkinfo Tryz.prog 25 = some (1, true, [.int .i64 0]) := by kernel_rfl
theorem sb_133_1 (z0 : Hd) : sbuilt Tryz.prog 133 1 [(0, (sl z0))] = some [(sl z0)] := by kernel_rfl
theorem ak_133 : aok Tryz.prog 133 1 = true := by kernel_rfl
theorem fa_103 : FnAt Tryz.prog 103 := ⟨_, _, Tryz.func103, rfl, by kernel_rfl⟩
theorem el_133 : elo Tryz.prog 133 = some 1 := by kernel_rfl
theorem fa_98 : FnAt Tryz.prog 98 := ⟨_, _, Tryz.func98, rfl, by kernel_rfl⟩
theorem fa_96 : FnAt Tryz.prog 96 := ⟨_, _, Tryz.func96, rfl, by kernel_rfl⟩
theorem fa_97 : FnAt Tryz.prog 97 := ⟨_, _, Tryz.func97, rfl, by kernel_rfl⟩
theorem fa_99 : FnAt Tryz.prog 99 := ⟨_, _, Tryz.func99, rfl, by kernel_rfl⟩
theorem fa_90 : FnAt Tryz.prog 90 := ⟨_, _, Tryz.func90, rfl, by kernel_rfl⟩
theorem fa_91 : FnAt Tryz.prog 91 := ⟨_, _, Tryz.func91, rfl, by kernel_rfl⟩
theorem fa_83 : FnAt Tryz.prog 83 := ⟨_, _, Tryz.func83, rfl, by kernel_rfl⟩
theorem bd_42_0_1_2 (z0 : Int) (z1 : Int) (z2 : Int) (z3 : Hd) : Tryz.prog.built 42 [(0, .int .i64 z0), (1, .int .i64 z1), (2, .agg #[.int .i64 z2, (sl z3)])] = some #[.int .i64 z0, .int .i64 z1, .int .i64 z2, (sl z3)] := by kernel_rfl
theorem fa_70 : FnAt Tryz.prog 70 := ⟨_, _, Tryz.func70, rfl, by kernel_rfl⟩
theorem fa_54 : FnAt Tryz.prog 54 := ⟨_, _, Tryz.func54, rfl, by kernel_rfl⟩
theorem fa_55 : FnAt Tryz.prog 55 := ⟨_, _, Tryz.func55, rfl, by kernel_rfl⟩
theorem fa_56 : FnAt Tryz.prog 56 := ⟨_, _, Tryz.func56, rfl, by kernel_rfl⟩
theorem fa_35 : FnAt Tryz.prog 35 := ⟨_, _, Tryz.func35, rfl, by kernel_rfl⟩
theorem fa_57 : FnAt Tryz.prog 57 := ⟨_, _, Tryz.func57, rfl, by kernel_rfl⟩
theorem fa_36 : FnAt Tryz.prog 36 := ⟨_, _, Tryz.func36, rfl, by kernel_rfl⟩
theorem fa_37 : FnAt Tryz.prog 37 := ⟨_, _, Tryz.func37, rfl, by kernel_rfl⟩
theorem za_74 : (Tryz.prog.info? 74).map (fun i => i.zero.map (·.cells.toList)) = some (some [.int .i64 0, .int .i64 0, .int .i64 0]) := by kernel_rfl
theorem bd_74_0_1 (z0 : Int) (z1 : Int) : Tryz.prog.built 74 [(0, .int .i64 z0), (1, .int .i64 z1)] = some #[.int .i64 z0, .int .i64 z1, .int .i64 0] := by kernel_rfl
theorem tk_74 : tyk Tryz.prog 74 = some (true, 3) := by kernel_rfl
theorem bd_74_0_1_2 (z0 : Int) (z1 : Int) (z2 : Int) : Tryz.prog.built 74 [(0, .int .i64 z0), (1, .int .i64 z1), (2, .int .i64 z2)] = some #[.int .i64 z0, .int .i64 z1, .int .i64 z2] := by kernel_rfl
theorem bd_74_0 (z0 : Int) : Tryz.prog.built 74 [(0, .int .i64 z0)] = some #[.int .i64 z0, .int .i64 0, .int .i64 0] := by kernel_rfl
theorem sb_30_0 : sbuilt Tryz.prog 30 0 [] = some [] := by kernel_rfl
theorem fa_39 : FnAt Tryz.prog 39 := ⟨_, _, Tryz.func39, rfl, by kernel_rfl⟩
theorem sb_30_1 (z0 : Int) (z1 : Int) (z2 : Int) : sbuilt Tryz.prog 30 1 [(0, .agg #[.int .i64 z0, .int .i64 z1, .int .i64 z2])] = some [.int .i64 z0, .int .i64 z1, .int .i64 z2] := by kernel_rfl
theorem ak_30 : aok Tryz.prog 30 3 = true := by kernel_rfl
theorem fa_15 : FnAt Tryz.prog 15 := ⟨_, _, Tryz.func15, rfl, by kernel_rfl⟩
theorem fa_16 : FnAt Tryz.prog 16 := ⟨_, _, Tryz.func16, rfl, by kernel_rfl⟩
theorem fa_17 : FnAt Tryz.prog 17 := ⟨_, _, Tryz.func17, rfl, by kernel_rfl⟩
theorem fa_26 : FnAt Tryz.prog 26 := ⟨_, _, Tryz.func26, rfl, by kernel_rfl⟩
theorem fa_59 : FnAt Tryz.prog 59 := ⟨_, _, Tryz.func59, rfl, by kernel_rfl⟩
theorem fa_51 : FnAt Tryz.prog 51 := ⟨_, _, Tryz.func51, rfl, by kernel_rfl⟩
theorem fa_46 : FnAt Tryz.prog 46 := ⟨_, _, Tryz.func46, rfl, by kernel_rfl⟩
theorem fa_21 : FnAt Tryz.prog 21 := ⟨_, _, Tryz.func21, rfl, by kernel_rfl⟩
theorem fa_40 : FnAt Tryz.prog 40 := ⟨_, _, Tryz.func40, rfl, by kernel_rfl⟩
theorem fa_31 : FnAt Tryz.prog 31 := ⟨_, _, Tryz.func31, rfl, by kernel_rfl⟩
theorem fa_41 : FnAt Tryz.prog 41 := ⟨_, _, Tryz.func41, rfl, by kernel_rfl⟩
theorem fa_42 : FnAt Tryz.prog 42 := ⟨_, _, Tryz.func42, rfl, by kernel_rfl⟩
theorem fa_43 : FnAt Tryz.prog 43 := ⟨_, _, Tryz.func43, rfl, by kernel_rfl⟩
theorem fa_44 : FnAt Tryz.prog 44 := ⟨_, _, Tryz.func44, rfl, by kernel_rfl⟩
theorem fa_11 : FnAt Tryz.prog 11 := ⟨_, _, Tryz.func11, rfl, by kernel_rfl⟩
theorem fa_20 : FnAt Tryz.prog 20 := ⟨_, _, Tryz.func20, rfl, by kernel_rfl⟩
theorem sb_33_1 (z0 : Str) : sbuilt Tryz.prog 33 1 [(0, bs z0)] = some [bs z0] := by kernel_rfl
theorem fa_7 : FnAt Tryz.prog 7 := ⟨_, _, Tryz.func7, rfl, by kernel_rfl⟩
theorem ak_33 : aok Tryz.prog 33 1 = true := by kernel_rfl
theorem fa_24 : FnAt Tryz.prog 24 := ⟨_, _, Tryz.func24, rfl, by kernel_rfl⟩
theorem fa_47 : FnAt Tryz.prog 47 := ⟨_, _, Tryz.func47, rfl, by kernel_rfl⟩
theorem sb_33_3 (z0 : Str) (z1 : Str) (z2 : Str) : sbuilt Tryz.prog 33 3 [(0, bs z0), (1, bs z1), (2, bs z2)] = some [bs z0, bs z1, bs z2] := by kernel_rfl
theorem el_33 : elo Tryz.prog 33 = some 1 := by kernel_rfl
theorem tk_9 : tyk Tryz.prog 9 = some (false, 1) := by kernel_rfl
theorem sb_33_0 : sbuilt Tryz.prog 33 0 [] = some [] := by kernel_rfl
theorem fa_23 : FnAt Tryz.prog 23 := ⟨_, _, Tryz.func23, rfl, by kernel_rfl⟩
theorem fa_22 : FnAt Tryz.prog 22 := ⟨_, _, Tryz.func22, rfl, by kernel_rfl⟩
theorem fa_18 : FnAt Tryz.prog 18 := ⟨_, _, Tryz.func18, rfl, by kernel_rfl⟩
theorem fa_19 : FnAt Tryz.prog 19 := ⟨_, _, Tryz.func19, rfl, by kernel_rfl⟩
theorem sb_33_2 (z0 : Str) (z1 : Str) : sbuilt Tryz.prog 33 2 [(0, bs z0), (1, bs z1)] = some [bs z0, bs z1] := by kernel_rfl
theorem fa_8 : FnAt Tryz.prog 8 := ⟨_, _, Tryz.func8, rfl, by kernel_rfl⟩
theorem fa_30 : FnAt Tryz.prog 30 := ⟨_, _, Tryz.func30, rfl, by kernel_rfl⟩
theorem fa_29 : FnAt Tryz.prog 29 := ⟨_, _, Tryz.func29, rfl, by kernel_rfl⟩
theorem sb_38_9 (z0 : Int) (z1 : Int) (z2 : Int) (z3 : Int) (z4 : Int) (z5 : Int) (z6 : Int) (z7 : Int) (z8 : Int) (z9 : Int) (z10 : Int) (z11 : Int) (z12 : Int) (z13 : Int) (z14 : Int) (z15 : Int) (z16 : Int) (z17 : Int) (z18 : Int) (z19 : Int) (z20 : Int) (z21 : Int) (z22 : Int) (z23 : Int) (z24 : Int) (z25 : Int) (z26 : Int) : sbuilt Tryz.prog 38 9 [(0, .agg #[.int .i64 z0, .int .i64 z1, .int .i64 z2]), (1, .agg #[.int .i64 z3, .int .i64 z4, .int .i64 z5]), (2, .agg #[.int .i64 z6, .int .i64 z7, .int .i64 z8]), (3, .agg #[.int .i64 z9, .int .i64 z10, .int .i64 z11]), (4, .agg #[.int .i64 z12, .int .i64 z13, .int .i64 z14]), (5, .agg #[.int .i64 z15, .int .i64 z16, .int .i64 z17]), (6, .agg #[.int .i64 z18, .int .i64 z19, .int .i64 z20]), (7, .agg #[.int .i64 z21, .int .i64 z22, .int .i64 z23]), (8, .agg #[.int .i64 z24, .int .i64 z25, .int .i64 z26])] = some [.int .i64 z0, .int .i64 z1, .int .i64 z2, .int .i64 z3, .int .i64 z4, .int .i64 z5, .int .i64 z6, .int .i64 z7, .int .i64 z8, .int .i64 z9, .int .i64 z10, .int .i64 z11, .int .i64 z12, .int .i64 z13, .int .i64 z14, .int .i64 z15, .int .i64 z16, .int .i64 z17, .int .i64 z18, .int .i64 z19, .int .i64 z20, .int .i64 z21, .int .i64 z22, .int .i64 z23, .int .i64 z24, .int .i64 z25, .int .i64 z26] := by kernel_rfl
theorem fa_25 : FnAt Tryz.prog 25 := ⟨_, _, Tryz.func25, rfl, by kernel_rfl⟩
theorem fa_28 : FnAt Tryz.prog 28 := ⟨_, _, Tryz.func28, rfl, by kernel_rfl⟩
theorem fa_27 : FnAt Tryz.prog 27 := ⟨_, _, Tryz.func27, rfl, by kernel_rfl⟩
theorem fa_4 : FnAt Tryz.prog 4 := ⟨_, _, Tryz.func4, rfl, by kernel_rfl⟩
theorem fa_5 : FnAt Tryz.prog 5 := ⟨_, _, Tryz.func5, rfl, by kernel_rfl⟩
theorem fa_6 : FnAt Tryz.prog 6 := ⟨_, _, Tryz.func6, rfl, by kernel_rfl⟩
theorem fa_10 : FnAt Tryz.prog 10 := ⟨_, _, Tryz.func10, rfl, by kernel_rfl⟩
theorem fa_9 : FnAt Tryz.prog 9 := ⟨_, _, Tryz.func9, rfl, by kernel_rfl⟩
theorem fa_14 : FnAt Tryz.prog 14 := ⟨_, _, Tryz.func14, rfl, by kernel_rfl⟩
theorem fa_13 : FnAt Tryz.prog 13 := ⟨_, _, Tryz.func13, rfl, by kernel_rfl⟩
end Go.Proofs.YtkahnmhkfmjomafGreatDoor
