/-
  Closed facts on this translation.
-/
import Derived.Test.YtkahnmhkfmjomaaGreatDoorPure
import Derived.Test.YtkahnmhkfmjomaaGreatDoorChecked
import Derived.KernelRfl
namespace Go.Proofs.YtkahnmhkfmjomaaGreatDoor
open Go Go.RowKit Go.Proofs

theorem mixed : Tryz.prog.follows .mixedOrders = true := by kernel_rfl
theorem el_22 : elo Tryz.prog 22 = some 1 := by kernel_rfl
theorem tk_5 : tyk Tryz.prog 5 = some (false, 1) := by kernel_rfl
theorem isU8_5 : isU8 Tryz.prog 5 = true := by kernel_rfl
theorem isInt_3 : isInt Tryz.prog 3 = true := by kernel_rfl
theorem bd_63_0_2 (z0 : Hd) (z1 : Int) : Tryz.prog.built 63 [(0, (sl z0)), (2, .int .i64 z1)] = some #[(sl z0), .int .i64 0, .int .i64 z1] := by kernel_rfl
theorem fo_63_2 : fldo Tryz.prog 63 2 = some 2 := by kernel_rfl
theorem tk_3 : tyk Tryz.prog 3 = some (false, 1) := by kernel_rfl
theorem fo_63_1 : fldo Tryz.prog 63 1 = some 1 := by kernel_rfl
theorem fo_63_0 : fldo Tryz.prog 63 0 = some 0 := by kernel_rfl
theorem tk_22 : tyk Tryz.prog 22 = some (false, 1) := by kernel_rfl
theorem fa_26 : FnAt Tryz.prog 26 := ⟨_, _, Tryz.func26, rfl, by kernel_rfl⟩
theorem fa_14 : FnAt Tryz.prog 14 := ⟨_, _, Tryz.func14, rfl, by kernel_rfl⟩
theorem el_24 : elo Tryz.prog 24 = some 3 := by kernel_rfl
theorem tk_52 : tyk Tryz.prog 52 = some (true, 3) := by kernel_rfl
theorem za_52 : (Tryz.prog.info? 52).map (fun i => i.zero.map (·.cells.toList)) = some (some [.int .i64 0, .int .i64 0, .int .i64 0]) := by kernel_rfl
theorem fo_52_0 : fldo Tryz.prog 52 0 = some 0 := by kernel_rfl
theorem fa_93 : FnAt Tryz.prog 93 := ⟨_, _, Tryz.func93, rfl, by kernel_rfl⟩
theorem fo_52_1 : fldo Tryz.prog 52 1 = some 1 := by kernel_rfl
theorem fo_52_2 : fldo Tryz.prog 52 2 = some 2 := by kernel_rfl
theorem el_25 : elo Tryz.prog 25 = some 1 := by kernel_rfl
theorem el_27 : elo Tryz.prog 27 = some 4 := by kernel_rfl
theorem tk_96 : tyk Tryz.prog 96 = some (true, 4) := by kernel_rfl
theorem za_96 : (Tryz.prog.info? 96).map (fun i => i.zero.map (·.cells.toList)) = some (some [.int .i64 0, .int .i64 0, .int .i64 0, .int .i64 0]) := by kernel_rfl
theorem fo_96_0 : fldo Tryz.prog 96 0 = some 0 := by kernel_rfl
theorem fo_96_1 : fldo Tryz.prog 96 1 = some 1 := by kernel_rfl
theorem fo_96_2 : fldo Tryz.prog 96 2 = some 2 := by kernel_rfl
theorem fo_96_3 : fldo Tryz.prog 96 3 = some 3 := by kernel_rfl
theorem fo_87_0 : fldo Tryz.prog 87 0 = some 0 := by kernel_rfl
theorem fo_87_1 : fldo Tryz.prog 87 1 = some 1 := by kernel_rfl
theorem fo_87_2 : fldo Tryz.prog 87 2 = some 2 := by kernel_rfl
theorem ub_4 : Tryz.prog.underlying 4 = some .bool := by kernel_rfl
theorem fo_56_0 : fldo Tryz.prog 56 0 = some 0 := by kernel_rfl
theorem fo_56_1 : fldo Tryz.prog 56 1 = some 1 := by kernel_rfl
theorem tk_54 : tyk Tryz.prog 54 = some (false, 1) := by kernel_rfl
theorem el_54 : elo Tryz.prog 54 = some 3 := by kernel_rfl
theorem tk_87 : tyk Tryz.prog 87 = some (true, 3) := by kernel_rfl
theorem fa_98 : FnAt Tryz.prog 98 := ⟨_, _, Tryz.func98, rfl, by kernel_rfl⟩
theorem fo_58_0 : fldo Tryz.prog 58 0 = some 0 := by kernel_rfl
theorem fo_58_1 : fldo Tryz.prog 58 1 = some 1 := by kernel_rfl
theorem fo_58_2 : fldo Tryz.prog 58 2 = some 2 := by kernel_rfl
theorem tk_56 : tyk Tryz.prog 56 = some (true, 2) := by kernel_rfl
theorem fa_109 : FnAt Tryz.prog 109 := ⟨_, _, Tryz.func109, rfl, by kernel_rfl⟩
theorem sb_25_0 : sbuilt Tryz.prog 25 0 [] = some [] := by kernel_rfl
theorem fa_90 : FnAt Tryz.prog 90 := ⟨_, _, Tryz.func90, rfl, by kernel_rfl⟩
theorem sb_25_1 (z0 : Int) : sbuilt Tryz.prog 25 1 [(0, .int .i64 z0)] = some [.int .i64 z0] := by kernel_rfl
theorem ak_25 : aok Tryz.prog 25 1 = true := by kernel_rfl
theorem fo_29_0 : fldo Tryz.prog 29 0 = some 0 := by kernel_rfl
theorem tk_24 : tyk Tryz.prog 24 = some (false, 1) := by kernel_rfl
theorem fo_29_5 : fldo Tryz.prog 29 5 = some 5 := by kernel_rfl
theorem fa_110 : FnAt Tryz.prog 110 := ⟨_, _, Tryz.func110, rfl, by kernel_rfl⟩
theorem fo_29_1 : fldo Tryz.prog 29 1 = some 1 := by kernel_rfl
theorem tk_25 : tyk Tryz.prog 25 = some (false, 1) := by kernel_rfl
theorem fa_91 : FnAt Tryz.prog 91 := ⟨_, _, Tryz.func91, rfl, by kernel_rfl⟩
theorem fo_29_3 : fldo Tryz.prog 29 3 = some 3 := by kernel_rfl
theorem tk_27 : tyk Tryz.prog 27 = some (false, 1) := by kernel_rfl
theorem fa_92 : FnAt Tryz.prog 92 := ⟨_, _, Tryz.func92, rfl, by kernel_rfl⟩
theorem fo_29_2 : fldo Tryz.prog 29 2 = some 2 := by kernel_rfl
theorem tk_26 : tyk Tryz.prog 26 = some (false, 1) := by kernel_rfl
theorem el_26 : elo Tryz.prog 26 = some 4 := by kernel_rfl
theorem tk_58 : tyk Tryz.prog 58 = some (true, 4) := by kernel_rfl
theorem za_58 : (Tryz.prog.info? 58).map (fun i => i.zero.map (·.cells.toList)) = some (some [.int .i64 0, .int .i64 0, .int .i64 0, (Value.slice none 0 0)]) := by kernel_rfl
theorem fa_94 : FnAt Tryz.prog 94 := ⟨_, _, Tryz.func94, rfl, by kernel_rfl⟩
theorem fa_95 : FnAt Tryz.prog 95 := ⟨_, _, Tryz.func95, rfl, by kernel_rfl⟩
theorem fo_29_4 : fldo Tryz.prog 29 4 = some 4 := by kernel_rfl
theorem tk_29 : tyk Tryz.prog 29 = some (true, 6) := by kernel_rfl
theorem fa_96 : FnAt Tryz.prog 96 := ⟨_, _, Tryz.func96, rfl, by kernel_rfl⟩
theorem za_29 : (Tryz.prog.info? 29).map (fun i => i.zero.map (·.cells.toList)) = some (some [(Value.slice none 0 0), (Value.slice none 0 0), (Value.slice none 0 0), (Value.slice none 0 0), .int .i64 0, .int .i64 0]) := by kernel_rfl
theorem bd_29_5 (z0 : Int) : Tryz.prog.built 29 [(5, .int .i64 z0)] = some #[(Value.slice none 0 0), (Value.slice none 0 0), (Value.slice none 0 0), (Value.slice none 0 0), .int .i64 0, .int .i64 z0] := by kernel_rfl
theorem fa_76 : FnAt Tryz.prog 76 := ⟨_, _, Tryz.func76, rfl, by kernel_rfl⟩
theorem bd_29 : Tryz.prog.built 29 [] = some #[(Value.slice none 0 0), (Value.slice none 0 0), (Value.slice none 0 0), (Value.slice none 0 0), .int .i64 0, .int .i64 0] := by kernel_rfl
theorem za_56 : (Tryz.prog.info? 56).map (fun i => i.zero.map (·.cells.toList)) = some (some [.int .i64 0, (Value.slice none 0 0)]) := by kernel_rfl
theorem sb_54_0 : sbuilt Tryz.prog 54 0 [] = some [] := by kernel_rfl
theorem ak_54 : aok Tryz.prog 54 3 = true := by kernel_rfl
theorem bd_56_0_1 (z0 : Int) (z1 : Hd) : Tryz.prog.built 56 [(0, .int .i64 z0), (1, (sl z1))] = some #[.int .i64 z0, (sl z1)] := by kernel_rfl
theorem sb_24_0 : sbuilt Tryz.prog 24 0 [] = some [] := by kernel_rfl
theorem ak_24 : aok Tryz.prog 24 3 = true := by kernel_rfl
theorem sb_27_0 : sbuilt Tryz.prog 27 0 [] = some [] := by kernel_rfl
theorem ak_27 : aok Tryz.prog 27 4 = true := by kernel_rfl
theorem bd_29_0_1_3_4_5 (z0 : Hd) (z1 : Hd) (z2 : Hd) (z3 : Int) (z4 : Int) : Tryz.prog.built 29 [(0, (sl z0)), (1, (sl z1)), (3, (sl z2)), (4, .int .i64 z3), (5, .int .i64 z4)] = some #[(sl z0), (sl z1), (Value.slice none 0 0), (sl z2), .int .i64 z3, .int .i64 z4] := by kernel_rfl
theorem fa_82 : FnAt Tryz.prog 82 := ⟨_, _, Tryz.func82, rfl, by kernel_rfl⟩
theorem sb_26_1 (z0 : Int) (z1 : Int) (z2 : Int) (z3 : Hd) : sbuilt Tryz.prog 26 1 [(0, .agg #[.int .i64 z0, .int .i64 z1, .int .i64 z2, (sl z3)])] = some [.int .i64 z0, .int .i64 z1, .int .i64 z2, (sl z3)] := by kernel_rfl
theorem ak_26 : aok Tryz.prog 26 4 = true := by kernel_rfl
theorem bd_52_0_1_2 (z0 : Int) (z1 : Int) (z2 : Int) : Tryz.prog.built 52 [(0, .int .i64 z0), (1, .int .i64 z1), (2, .int .i64 z2)] = some #[.int .i64 z0, .int .i64 z1, .int .i64 z2] := by kernel_rfl
theorem sb_24_1 (z0 : Int) (z1 : Int) (z2 : Int) : sbuilt Tryz.prog 24 1 [(0, .agg #[.int .i64 z0, .int .i64 z1, .int .i64 z2])] = some [.int .i64 z0, .int .i64 z1, .int .i64 z2] := by kernel_rfl
theorem sb_27_1 (z0 : Int) (z1 : Int) (z2 : Int) (z3 : Int) : sbuilt Tryz.prog 27 1 [(0, .agg #[.int .i64 z0, .int .i64 z1, .int .i64 z2, .int .i64 z3])] = some [.int .i64 z0, .int .i64 z1, .int .i64 z2, .int .i64 z3] := by kernel_rfl
theorem fa_77 : FnAt Tryz.prog 77 := ⟨_, _, Tryz.func77, rfl, by kernel_rfl⟩
theorem fa_78 : FnAt Tryz.prog 78 := ⟨_, _, Tryz.func78, rfl, by kernel_rfl⟩
theorem fa_79 : FnAt Tryz.prog 79 := ⟨_, _, Tryz.func79, rfl, by kernel_rfl⟩
theorem bd_96_0_1_2_3 (z0 : Int) (z1 : Int) (z2 : Int) (z3 : Int) : Tryz.prog.built 96 [(0, .int .i64 z0), (1, .int .i64 z1), (2, .int .i64 z2), (3, .int .i64 z3)] = some #[.int .i64 z0, .int .i64 z1, .int .i64 z2, .int .i64 z3] := by kernel_rfl
theorem fa_80 : FnAt Tryz.prog 80 := ⟨_, _, Tryz.func80, rfl, by kernel_rfl⟩
theorem fa_50 : FnAt Tryz.prog 50 := ⟨_, _, Tryz.func50, rfl, by kernel_rfl⟩
theorem fa_51 : FnAt Tryz.prog 51 := ⟨_, _, Tryz.func51, rfl, by kernel_rfl⟩
theorem za_87 : (Tryz.prog.info? 87).map (fun i => i.zero.map (·.cells.toList)) = some (some [.int .i64 0, .int .i64 0, .int .i64 0]) := by kernel_rfl
theorem bd_87 : Tryz.prog.built 87 [] = some #[.int .i64 0, .int .i64 0, .int .i64 0] := by kernel_rfl
theorem bd_87_1_2 (z0 : Int) (z1 : Int) : Tryz.prog.built 87 [(1, .int .i64 z0), (2, .int .i64 z1)] = some #[.int .i64 0, .int .i64 z0, .int .i64 z1] := by kernel_rfl
theorem fa_97 : FnAt Tryz.prog 97 := ⟨_, _, Tryz.func97, rfl, by kernel_rfl⟩
theorem bd_87_0_1_2 (z0 : Int) (z1 : Int) (z2 : Int) : Tryz.prog.built 87 [(0, .int .i64 z0), (1, .int .i64 z1), (2, .int .i64 z2)] = some #[.int .i64 z0, .int .i64 z1, .int .i64 z2] := by kernel_rfl
theorem fa_81 : FnAt Tryz.prog 81 := ⟨_, _, Tryz.func81, rfl, by kernel_rfl⟩
theorem fa_163 : FnAt Tryz.prog 163 := ⟨_, _, Tryz.func163, rfl, by kernel_rfl⟩
theorem bd_56_0 (z0 : Int) : Tryz.prog.built 56 [(0, .int .i64 z0)] = some #[.int .i64 z0, (Value.slice none 0 0)] := by kernel_rfl
theorem fa_164 : FnAt Tryz.prog 164 := ⟨_, _, Tryz.func164, rfl, by kernel_rfl⟩
theorem sb_54_1 (z0 : Int) (z1 : Int) (z2 : Int) : sbuilt Tryz.prog 54 1 [(0, .agg #[.int .i64 z0, .int .i64 z1, .int .i64 z2])] = some [.int .i64 z0, .int .i64 z1, .int .i64 z2] := by kernel_rfl
theorem fa_154 : FnAt Tryz.prog 154 := ⟨_, _, Tryz.func154, rfl, by kernel_rfl⟩
theorem fa_153 : FnAt Tryz.prog 153 := ⟨_, _, Tryz.func153, rfl, by kernel_rfl⟩
theorem bd_56 : Tryz.prog.built 56 [] = some #[.int .i64 0, (Value.slice none 0 0)] := by kernel_rfl
theorem fa_156 : FnAt Tryz.prog 156 := ⟨_, _, Tryz.func156, rfl, by kernel_rfl⟩
theorem fa_157 : FnAt Tryz.prog 157 := ⟨_, _, Tryz.func157, rfl, by kernel_rfl⟩
theorem fa_144 : FnAt Tryz.prog 144 := ⟨_, _, Tryz.func144, rfl, by kernel_rfl⟩
theorem fa_145 : FnAt Tryz.prog 145 := ⟨_, _, Tryz.func145, rfl, by kernel_rfl⟩
theorem fa_171 : FnAt Tryz.prog 171 := ⟨_, _, Tryz.func171, rfl, by kernel_rfl⟩
theorem sb_22_1 (z0 : UInt8) : sbuilt Tryz.prog 22 1 [(0, .int .u8 (z0.toNat : Int))] = some [.int .u8 (z0.toNat : Int)] := by kernel_rfl
theorem isBytes_22 : isBytes Tryz.prog 22 = true := by kernel_rfl
theorem isStr_9 : isStr Tryz.prog 9 = true := by kernel_rfl
theorem fa_165 : FnAt Tryz.prog 165 := ⟨_, _, Tryz.func165, rfl, by kernel_rfl⟩
theorem fa_155 : FnAt Tryz.prog 155 := ⟨_, _, Tryz.func155, rfl, by kernel_rfl⟩
theorem fa_141 : FnAt Tryz.prog 141 := ⟨_, _, Tryz.func141, rfl, by kernel_rfl⟩
theorem fa_131 : FnAt Tryz.prog 131 := ⟨_, _, Tryz.func131, rfl, by kernel_rfl⟩
theorem fa_142 : FnAt Tryz.prog 142 := ⟨_, _, Tryz.func142, rfl, by kernel_rfl⟩
theorem sq_87 : seqok Tryz.prog 87 3 = true := by kernel_rfl
theorem fa_126 : FnAt Tryz.prog 126 := ⟨_, _, Tryz.func126, rfl, by kernel_rfl⟩
theorem fa_125 : FnAt Tryz.prog 125 := ⟨_, _, Tryz.func125, rfl, by kernel_rfl⟩
theorem sb_151_0 : sbuilt Tryz.prog 151 0 [] = some [] := by kernel_rfl
theorem mk_25 : mkinfo Tryz.prog 25 = some (1, true, [.int .i64 0]) := by kernel_rfl
theorem sb_151_1 (z0 : Hd) : sbuilt Tryz.prog 151 1 [(0, (sl z0))] = some [(sl z0)] := by kernel_rfl
theorem ak_151 : aok Tryz.prog 151 1 = true := by kernel_rfl
theorem fa_143 : FnAt Tryz.prog 143 := ⟨_, _, Tryz.func143, rfl, by kernel_rfl⟩
theorem el_151 : elo Tryz.prog 151 = some 1 := by kernel_rfl
theorem fa_129 : FnAt Tryz.prog 129 := ⟨_, _, Tryz.func129, rfl, by kernel_rfl⟩
theorem fa_127 : FnAt Tryz.prog 127 := ⟨_, _, Tryz.func127, rfl, by kernel_rfl⟩
theorem fa_128 : FnAt Tryz.prog 128 := ⟨_, _, Tryz.func128, rfl, by kernel_rfl⟩
theorem fa_130 : FnAt Tryz.prog 130 := ⟨_, _, Tryz.func130, rfl, by kernel_rfl⟩
theorem fa_111 : FnAt Tryz.prog 111 := ⟨_, _, Tryz.func111, rfl, by kernel_rfl⟩
theorem fa_112 : FnAt Tryz.prog 112 := ⟨_, _, Tryz.func112, rfl, by kernel_rfl⟩
theorem fa_99 : FnAt Tryz.prog 99 := ⟨_, _, Tryz.func99, rfl, by kernel_rfl⟩
theorem bd_58_0_1_2 (z0 : Int) (z1 : Int) (z2 : Int) (z3 : Hd) : Tryz.prog.built 58 [(0, .int .i64 z0), (1, .int .i64 z1), (2, .agg #[.int .i64 z2, (sl z3)])] = some #[.int .i64 z0, .int .i64 z1, .int .i64 z2, (sl z3)] := by kernel_rfl
theorem fa_83 : FnAt Tryz.prog 83 := ⟨_, _, Tryz.func83, rfl, by kernel_rfl⟩
theorem fa_52 : FnAt Tryz.prog 52 := ⟨_, _, Tryz.func52, rfl, by kernel_rfl⟩
theorem fa_53 : FnAt Tryz.prog 53 := ⟨_, _, Tryz.func53, rfl, by kernel_rfl⟩
theorem fa_54 : FnAt Tryz.prog 54 := ⟨_, _, Tryz.func54, rfl, by kernel_rfl⟩
theorem fa_22 : FnAt Tryz.prog 22 := ⟨_, _, Tryz.func22, rfl, by kernel_rfl⟩
theorem fa_55 : FnAt Tryz.prog 55 := ⟨_, _, Tryz.func55, rfl, by kernel_rfl⟩
theorem fa_23 : FnAt Tryz.prog 23 := ⟨_, _, Tryz.func23, rfl, by kernel_rfl⟩
theorem fa_24 : FnAt Tryz.prog 24 := ⟨_, _, Tryz.func24, rfl, by kernel_rfl⟩
theorem za_48 : (Tryz.prog.info? 48).map (fun i => i.zero.map (·.cells.toList)) = some (some [.int .i64 0, .int .i64 0, .int .i64 0]) := by kernel_rfl
theorem bd_48_0_1 (z0 : Int) (z1 : Int) : Tryz.prog.built 48 [(0, .int .i64 z0), (1, .int .i64 z1)] = some #[.int .i64 z0, .int .i64 z1, .int .i64 0] := by kernel_rfl
theorem tk_48 : tyk Tryz.prog 48 = some (true, 3) := by kernel_rfl
theorem bd_48_0_1_2 (z0 : Int) (z1 : Int) (z2 : Int) : Tryz.prog.built 48 [(0, .int .i64 z0), (1, .int .i64 z1), (2, .int .i64 z2)] = some #[.int .i64 z0, .int .i64 z1, .int .i64 z2] := by kernel_rfl
theorem bd_48_0 (z0 : Int) : Tryz.prog.built 48 [(0, .int .i64 z0)] = some #[.int .i64 z0, .int .i64 0, .int .i64 0] := by kernel_rfl
theorem sb_30_0 : sbuilt Tryz.prog 30 0 [] = some [] := by kernel_rfl
theorem fa_25 : FnAt Tryz.prog 25 := ⟨_, _, Tryz.func25, rfl, by kernel_rfl⟩
theorem sb_30_1 (z0 : Int) (z1 : Int) (z2 : Int) : sbuilt Tryz.prog 30 1 [(0, .agg #[.int .i64 z0, .int .i64 z1, .int .i64 z2])] = some [.int .i64 z0, .int .i64 z1, .int .i64 z2] := by kernel_rfl
theorem ak_30 : aok Tryz.prog 30 3 = true := by kernel_rfl
theorem fa_11 : FnAt Tryz.prog 11 := ⟨_, _, Tryz.func11, rfl, by kernel_rfl⟩
theorem fa_12 : FnAt Tryz.prog 12 := ⟨_, _, Tryz.func12, rfl, by kernel_rfl⟩
theorem fa_13 : FnAt Tryz.prog 13 := ⟨_, _, Tryz.func13, rfl, by kernel_rfl⟩
theorem fa_27 : FnAt Tryz.prog 27 := ⟨_, _, Tryz.func27, rfl, by kernel_rfl⟩
theorem fa_28 : FnAt Tryz.prog 28 := ⟨_, _, Tryz.func28, rfl, by kernel_rfl⟩
theorem fa_29 : FnAt Tryz.prog 29 := ⟨_, _, Tryz.func29, rfl, by kernel_rfl⟩
theorem fa_35 : FnAt Tryz.prog 35 := ⟨_, _, Tryz.func35, rfl, by kernel_rfl⟩
theorem fa_56 : FnAt Tryz.prog 56 := ⟨_, _, Tryz.func56, rfl, by kernel_rfl⟩
theorem fa_85 : FnAt Tryz.prog 85 := ⟨_, _, Tryz.func85, rfl, by kernel_rfl⟩
theorem fa_74 : FnAt Tryz.prog 74 := ⟨_, _, Tryz.func74, rfl, by kernel_rfl⟩
theorem fa_46 : FnAt Tryz.prog 46 := ⟨_, _, Tryz.func46, rfl, by kernel_rfl⟩
theorem fa_30 : FnAt Tryz.prog 30 := ⟨_, _, Tryz.func30, rfl, by kernel_rfl⟩
theorem fa_49 : FnAt Tryz.prog 49 := ⟨_, _, Tryz.func49, rfl, by kernel_rfl⟩
theorem fa_31 : FnAt Tryz.prog 31 := ⟨_, _, Tryz.func31, rfl, by kernel_rfl⟩
theorem fa_32 : FnAt Tryz.prog 32 := ⟨_, _, Tryz.func32, rfl, by kernel_rfl⟩
theorem fa_33 : FnAt Tryz.prog 33 := ⟨_, _, Tryz.func33, rfl, by kernel_rfl⟩
theorem fa_34 : FnAt Tryz.prog 34 := ⟨_, _, Tryz.func34, rfl, by kernel_rfl⟩
theorem fa_21 : FnAt Tryz.prog 21 := ⟨_, _, Tryz.func21, rfl, by kernel_rfl⟩
theorem fo_48_0 : fldo Tryz.prog 48 0 = some 0 := by kernel_rfl
theorem fo_48_1 : fldo Tryz.prog 48 1 = some 1 := by kernel_rfl
theorem fo_48_2 : fldo Tryz.prog 48 2 = some 2 := by kernel_rfl
theorem fa_16 : FnAt Tryz.prog 16 := ⟨_, _, Tryz.func16, rfl, by kernel_rfl⟩
theorem fa_15 : FnAt Tryz.prog 15 := ⟨_, _, Tryz.func15, rfl, by kernel_rfl⟩
theorem fa_57 : FnAt Tryz.prog 57 := ⟨_, _, Tryz.func57, rfl, by kernel_rfl⟩
theorem fa_58 : FnAt Tryz.prog 58 := ⟨_, _, Tryz.func58, rfl, by kernel_rfl⟩
theorem fa_59 : FnAt Tryz.prog 59 := ⟨_, _, Tryz.func59, rfl, by kernel_rfl⟩
theorem fa_60 : FnAt Tryz.prog 60 := ⟨_, _, Tryz.func60, rfl, by kernel_rfl⟩
theorem fa_66 : FnAt Tryz.prog 66 := ⟨_, _, Tryz.func66, rfl, by kernel_rfl⟩
theorem fa_65 : FnAt Tryz.prog 65 := ⟨_, _, Tryz.func65, rfl, by kernel_rfl⟩
theorem sb_54_9 (z0 : Int) (z1 : Int) (z2 : Int) (z3 : Int) (z4 : Int) (z5 : Int) (z6 : Int) (z7 : Int) (z8 : Int) (z9 : Int) (z10 : Int) (z11 : Int) (z12 : Int) (z13 : Int) (z14 : Int) (z15 : Int) (z16 : Int) (z17 : Int) (z18 : Int) (z19 : Int) (z20 : Int) (z21 : Int) (z22 : Int) (z23 : Int) (z24 : Int) (z25 : Int) (z26 : Int) : sbuilt Tryz.prog 54 9 [(0, .agg #[.int .i64 z0, .int .i64 z1, .int .i64 z2]), (1, .agg #[.int .i64 z3, .int .i64 z4, .int .i64 z5]), (2, .agg #[.int .i64 z6, .int .i64 z7, .int .i64 z8]), (3, .agg #[.int .i64 z9, .int .i64 z10, .int .i64 z11]), (4, .agg #[.int .i64 z12, .int .i64 z13, .int .i64 z14]), (5, .agg #[.int .i64 z15, .int .i64 z16, .int .i64 z17]), (6, .agg #[.int .i64 z18, .int .i64 z19, .int .i64 z20]), (7, .agg #[.int .i64 z21, .int .i64 z22, .int .i64 z23]), (8, .agg #[.int .i64 z24, .int .i64 z25, .int .i64 z26])] = some [.int .i64 z0, .int .i64 z1, .int .i64 z2, .int .i64 z3, .int .i64 z4, .int .i64 z5, .int .i64 z6, .int .i64 z7, .int .i64 z8, .int .i64 z9, .int .i64 z10, .int .i64 z11, .int .i64 z12, .int .i64 z13, .int .i64 z14, .int .i64 z15, .int .i64 z16, .int .i64 z17, .int .i64 z18, .int .i64 z19, .int .i64 z20, .int .i64 z21, .int .i64 z22, .int .i64 z23, .int .i64 z24, .int .i64 z25, .int .i64 z26] := by kernel_rfl
theorem fa_62 : FnAt Tryz.prog 62 := ⟨_, _, Tryz.func62, rfl, by kernel_rfl⟩
theorem fa_64 : FnAt Tryz.prog 64 := ⟨_, _, Tryz.func64, rfl, by kernel_rfl⟩
theorem fa_63 : FnAt Tryz.prog 63 := ⟨_, _, Tryz.func63, rfl, by kernel_rfl⟩
theorem fa_75 : FnAt Tryz.prog 75 := ⟨_, _, Tryz.func75, rfl, by kernel_rfl⟩
theorem fa_48 : FnAt Tryz.prog 48 := ⟨_, _, Tryz.func48, rfl, by kernel_rfl⟩
theorem fa_167 : FnAt Tryz.prog 167 := ⟨_, _, Tryz.func167, rfl, by kernel_rfl⟩
theorem fa_166 : FnAt Tryz.prog 166 := ⟨_, _, Tryz.func166, rfl, by kernel_rfl⟩
theorem fa_169 : FnAt Tryz.prog 169 := ⟨_, _, Tryz.func169, rfl, by kernel_rfl⟩
theorem fa_168 : FnAt Tryz.prog 168 := ⟨_, _, Tryz.func168, rfl, by kernel_rfl⟩
theorem fa_158 : FnAt Tryz.prog 158 := ⟨_, _, Tryz.func158, rfl, by kernel_rfl⟩
theorem fa_159 : FnAt Tryz.prog 159 := ⟨_, _, Tryz.func159, rfl, by kernel_rfl⟩
theorem sb_154_0 : sbuilt Tryz.prog 154 0 [] = some [] := by kernel_rfl
theorem fa_146 : FnAt Tryz.prog 146 := ⟨_, _, Tryz.func146, rfl, by kernel_rfl⟩
theorem sb_154_1 (z0 : Int) (z1 : Hd) : sbuilt Tryz.prog 154 1 [(0, .agg #[.int .i64 z0, (sl z1)])] = some [.int .i64 z0, (sl z1)] := by kernel_rfl
theorem ak_154 : aok Tryz.prog 154 2 = true := by kernel_rfl
theorem fa_174 : FnAt Tryz.prog 174 := ⟨_, _, Tryz.func174, rfl, by kernel_rfl⟩
theorem fa_173 : FnAt Tryz.prog 173 := ⟨_, _, Tryz.func173, rfl, by kernel_rfl⟩
theorem fa_172 : FnAt Tryz.prog 172 := ⟨_, _, Tryz.func172, rfl, by kernel_rfl⟩
theorem fa_170 : FnAt Tryz.prog 170 := ⟨_, _, Tryz.func170, rfl, by kernel_rfl⟩
theorem sb_25_2 (z0 : Int) (z1 : Int) : sbuilt Tryz.prog 25 2 [(0, .int .i64 z0), (1, .int .i64 z1)] = some [.int .i64 z0, .int .i64 z1] := by kernel_rfl
theorem fa_160 : FnAt Tryz.prog 160 := ⟨_, _, Tryz.func160, rfl, by kernel_rfl⟩
theorem fa_161 : FnAt Tryz.prog 161 := ⟨_, _, Tryz.func161, rfl, by kernel_rfl⟩
theorem fa_149 : FnAt Tryz.prog 149 := ⟨_, _, Tryz.func149, rfl, by kernel_rfl⟩
theorem fa_151 : FnAt Tryz.prog 151 := ⟨_, _, Tryz.func151, rfl, by kernel_rfl⟩
theorem fa_150 : FnAt Tryz.prog 150 := ⟨_, _, Tryz.func150, rfl, by kernel_rfl⟩
theorem fa_147 : FnAt Tryz.prog 147 := ⟨_, _, Tryz.func147, rfl, by kernel_rfl⟩
theorem fa_137 : FnAt Tryz.prog 137 := ⟨_, _, Tryz.func137, rfl, by kernel_rfl⟩
theorem fa_45 : FnAt Tryz.prog 45 := ⟨_, _, Tryz.func45, rfl, by kernel_rfl⟩
theorem sb_36_3 (z0 : Str) (z1 : Str) (z2 : Str) : sbuilt Tryz.prog 36 3 [(0, bs z0), (1, bs z1), (2, bs z2)] = some [bs z0, bs z1, bs z2] := by kernel_rfl
theorem el_36 : elo Tryz.prog 36 = some 1 := by kernel_rfl
theorem tk_9 : tyk Tryz.prog 9 = some (false, 1) := by kernel_rfl
theorem fa_19 : FnAt Tryz.prog 19 := ⟨_, _, Tryz.func19, rfl, by kernel_rfl⟩
theorem fa_47 : FnAt Tryz.prog 47 := ⟨_, _, Tryz.func47, rfl, by kernel_rfl⟩
theorem el_154 : elo Tryz.prog 154 = some 2 := by kernel_rfl
theorem fa_148 : FnAt Tryz.prog 148 := ⟨_, _, Tryz.func148, rfl, by kernel_rfl⟩
theorem fa_132 : FnAt Tryz.prog 132 := ⟨_, _, Tryz.func132, rfl, by kernel_rfl⟩
theorem fa_133 : FnAt Tryz.prog 133 := ⟨_, _, Tryz.func133, rfl, by kernel_rfl⟩
theorem fa_134 : FnAt Tryz.prog 134 := ⟨_, _, Tryz.func134, rfl, by kernel_rfl⟩
theorem fa_114 : FnAt Tryz.prog 114 := ⟨_, _, Tryz.func114, rfl, by kernel_rfl⟩
theorem fa_113 : FnAt Tryz.prog 113 := ⟨_, _, Tryz.func113, rfl, by kernel_rfl⟩
theorem fa_102 : FnAt Tryz.prog 102 := ⟨_, _, Tryz.func102, rfl, by kernel_rfl⟩
theorem fa_86 : FnAt Tryz.prog 86 := ⟨_, _, Tryz.func86, rfl, by kernel_rfl⟩
theorem fa_116 : FnAt Tryz.prog 116 := ⟨_, _, Tryz.func116, rfl, by kernel_rfl⟩
theorem fa_135 : FnAt Tryz.prog 135 := ⟨_, _, Tryz.func135, rfl, by kernel_rfl⟩
theorem fa_117 : FnAt Tryz.prog 117 := ⟨_, _, Tryz.func117, rfl, by kernel_rfl⟩
theorem fa_136 : FnAt Tryz.prog 136 := ⟨_, _, Tryz.func136, rfl, by kernel_rfl⟩
theorem fa_162 : FnAt Tryz.prog 162 := ⟨_, _, Tryz.func162, rfl, by kernel_rfl⟩
theorem fa_115 : FnAt Tryz.prog 115 := ⟨_, _, Tryz.func115, rfl, by kernel_rfl⟩
theorem fa_152 : FnAt Tryz.prog 152 := ⟨_, _, Tryz.func152, rfl, by kernel_rfl⟩
theorem fa_138 : FnAt Tryz.prog 138 := ⟨_, _, Tryz.func138, rfl, by kernel_rfl⟩
theorem fa_118 : FnAt Tryz.prog 118 := ⟨_, _, Tryz.func118, rfl, by kernel_rfl⟩
theorem fa_119 : FnAt Tryz.prog 119 := ⟨_, _, Tryz.func119, rfl, by kernel_rfl⟩
theorem fa_100 : FnAt Tryz.prog 100 := ⟨_, _, Tryz.func100, rfl, by kernel_rfl⟩
theorem fa_101 : FnAt Tryz.prog 101 := ⟨_, _, Tryz.func101, rfl, by kernel_rfl⟩
theorem fa_84 : FnAt Tryz.prog 84 := ⟨_, _, Tryz.func84, rfl, by kernel_rfl⟩
theorem fa_61 : FnAt Tryz.prog 61 := ⟨_, _, Tryz.func61, rfl, by kernel_rfl⟩
theorem fa_67 : FnAt Tryz.prog 67 := ⟨_, _, Tryz.func67, rfl, by kernel_rfl⟩
theorem fa_68 : FnAt Tryz.prog 68 := ⟨_, _, Tryz.func68, rfl, by kernel_rfl⟩
theorem fa_69 : FnAt Tryz.prog 69 := ⟨_, _, Tryz.func69, rfl, by kernel_rfl⟩
theorem fa_36 : FnAt Tryz.prog 36 := ⟨_, _, Tryz.func36, rfl, by kernel_rfl⟩
theorem fa_37 : FnAt Tryz.prog 37 := ⟨_, _, Tryz.func37, rfl, by kernel_rfl⟩
theorem fa_39 : FnAt Tryz.prog 39 := ⟨_, _, Tryz.func39, rfl, by kernel_rfl⟩
theorem fa_38 : FnAt Tryz.prog 38 := ⟨_, _, Tryz.func38, rfl, by kernel_rfl⟩
theorem fa_40 : FnAt Tryz.prog 40 := ⟨_, _, Tryz.func40, rfl, by kernel_rfl⟩
theorem fa_41 : FnAt Tryz.prog 41 := ⟨_, _, Tryz.func41, rfl, by kernel_rfl⟩
theorem fa_42 : FnAt Tryz.prog 42 := ⟨_, _, Tryz.func42, rfl, by kernel_rfl⟩
theorem fa_43 : FnAt Tryz.prog 43 := ⟨_, _, Tryz.func43, rfl, by kernel_rfl⟩
theorem el_30 : elo Tryz.prog 30 = some 3 := by kernel_rfl
theorem fa_17 : FnAt Tryz.prog 17 := ⟨_, _, Tryz.func17, rfl, by kernel_rfl⟩
theorem sb_36_1 (z0 : Str) : sbuilt Tryz.prog 36 1 [(0, bs z0)] = some [bs z0] := by kernel_rfl
theorem ak_36 : aok Tryz.prog 36 1 = true := by kernel_rfl
theorem fa_44 : FnAt Tryz.prog 44 := ⟨_, _, Tryz.func44, rfl, by kernel_rfl⟩
theorem sb_36_0 : sbuilt Tryz.prog 36 0 [] = some [] := by kernel_rfl
theorem fa_18 : FnAt Tryz.prog 18 := ⟨_, _, Tryz.func18, rfl, by kernel_rfl⟩
theorem sb_36_2 (z0 : Str) (z1 : Str) : sbuilt Tryz.prog 36 2 [(0, bs z0), (1, bs z1)] = some [bs z0, bs z1] := by kernel_rfl
theorem fa_20 : FnAt Tryz.prog 20 := ⟨_, _, Tryz.func20, rfl, by kernel_rfl⟩
theorem fa_4 : FnAt Tryz.prog 4 := ⟨_, _, Tryz.func4, rfl, by kernel_rfl⟩
theorem fa_5 : FnAt Tryz.prog 5 := ⟨_, _, Tryz.func5, rfl, by kernel_rfl⟩
theorem fa_6 : FnAt Tryz.prog 6 := ⟨_, _, Tryz.func6, rfl, by kernel_rfl⟩
theorem fa_7 : FnAt Tryz.prog 7 := ⟨_, _, Tryz.func7, rfl, by kernel_rfl⟩
theorem fa_8 : FnAt Tryz.prog 8 := ⟨_, _, Tryz.func8, rfl, by kernel_rfl⟩
theorem fa_9 : FnAt Tryz.prog 9 := ⟨_, _, Tryz.func9, rfl, by kernel_rfl⟩
theorem fa_10 : FnAt Tryz.prog 10 := ⟨_, _, Tryz.func10, rfl, by kernel_rfl⟩
end Go.Proofs.YtkahnmhkfmjomaaGreatDoor
