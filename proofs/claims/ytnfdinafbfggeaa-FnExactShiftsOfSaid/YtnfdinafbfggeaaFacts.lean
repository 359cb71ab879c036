/-
  Closed facts on this translation.
-/
import Derived.Test.YtnfdinafbfggeaaPure
import Derived.Test.YtnfdinafbfggeaaChecked
import Derived.KernelRfl
namespace Go.Proofs.Ytnfdinafbfggeaa
open Go Go.RowKit Go.Proofs

theorem mixed : Try.prog.follows .mixedOrders = true := by kernel_rfl
theorem el_22 : elo Try.prog 22 = some 2 := by kernel_rfl
theorem fo_24_2 : fldo Try.prog 24 2 = some 2 := by kernel_rfl
theorem tk_22 : tyk Try.prog 22 = some (false, 1) := by kernel_rfl
theorem fa_70 : FnAt Try.prog 70 := ⟨_, _, Try.func70, rfl, by kernel_rfl⟩
theorem el_43 : elo Try.prog 43 = some 3 := by kernel_rfl
theorem fo_45_1 : fldo Try.prog 45 1 = some 1 := by kernel_rfl
theorem tk_43 : tyk Try.prog 43 = some (false, 1) := by kernel_rfl
theorem fa_63 : FnAt Try.prog 63 := ⟨_, _, Try.func63, rfl, by kernel_rfl⟩
theorem el_25 : elo Try.prog 25 = some 2 := by kernel_rfl
theorem tk_45 : tyk Try.prog 45 = some (true, 2) := by kernel_rfl
theorem fa_23 : FnAt Try.prog 23 := ⟨_, _, Try.func23, rfl, by kernel_rfl⟩
theorem za_108 : (Try.prog.info? 108).map (fun i => i.zero.map (·.cells.toList)) = some (some [.int .i64 0, .int .i64 0]) := by kernel_rfl
theorem fo_116_0 : fldo Try.prog 116 0 = some 0 := by kernel_rfl
theorem tk_3 : tyk Try.prog 3 = some (false, 1) := by kernel_rfl
theorem fo_108_0 : fldo Try.prog 108 0 = some 0 := by kernel_rfl
theorem fo_116_1 : fldo Try.prog 116 1 = some 1 := by kernel_rfl
theorem fo_108_1 : fldo Try.prog 108 1 = some 1 := by kernel_rfl
theorem tk_108 : tyk Try.prog 108 = some (true, 2) := by kernel_rfl
theorem mk_31 : mkinfo Try.prog 31 = some (2, true, [.int .i64 0, .int .i64 0]) := by kernel_rfl
theorem tk_116 : tyk Try.prog 116 = some (true, 2) := by kernel_rfl
theorem fa_93 : FnAt Try.prog 93 := ⟨_, _, Try.func93, rfl, by kernel_rfl⟩
theorem el_31 : elo Try.prog 31 = some 2 := by kernel_rfl
theorem za_33 : (Try.prog.info? 33).map (fun i => i.zero.map (·.cells.toList)) = some (some [.int .i64 0, .int .i64 0, (Value.slice none 0 0)]) := by kernel_rfl
theorem fo_24_0 : fldo Try.prog 24 0 = some 0 := by kernel_rfl
theorem fo_33_0 : fldo Try.prog 33 0 = some 0 := by kernel_rfl
theorem fo_24_1 : fldo Try.prog 24 1 = some 1 := by kernel_rfl
theorem fo_33_1 : fldo Try.prog 33 1 = some 1 := by kernel_rfl
theorem fa_71 : FnAt Try.prog 71 := ⟨_, _, Try.func71, rfl, by kernel_rfl⟩
theorem fo_33_2 : fldo Try.prog 33 2 = some 2 := by kernel_rfl
theorem tk_31 : tyk Try.prog 31 = some (false, 1) := by kernel_rfl
theorem tk_33 : tyk Try.prog 33 = some (true, 3) := by kernel_rfl
theorem za_83 : (Try.prog.info? 83).map (fun i => i.zero.map (·.cells.toList)) = some (some [.int .i64 0, .int .i64 0, .int .i64 0]) := by kernel_rfl
theorem fo_113_0 : fldo Try.prog 113 0 = some 0 := by kernel_rfl
theorem fo_83_0 : fldo Try.prog 83 0 = some 0 := by kernel_rfl
theorem fo_113_1 : fldo Try.prog 113 1 = some 1 := by kernel_rfl
theorem fo_83_1 : fldo Try.prog 83 1 = some 1 := by kernel_rfl
theorem fo_113_2 : fldo Try.prog 113 2 = some 2 := by kernel_rfl
theorem fo_83_2 : fldo Try.prog 83 2 = some 2 := by kernel_rfl
theorem tk_83 : tyk Try.prog 83 = some (true, 3) := by kernel_rfl
theorem mk_50 : mkinfo Try.prog 50 = some (3, true, [.int .i64 0, .int .i64 0, .int .i64 0]) := by kernel_rfl
theorem tk_113 : tyk Try.prog 113 = some (true, 3) := by kernel_rfl
theorem fa_91 : FnAt Try.prog 91 := ⟨_, _, Try.func91, rfl, by kernel_rfl⟩
theorem el_50 : elo Try.prog 50 = some 3 := by kernel_rfl
theorem za_52 : (Try.prog.info? 52).map (fun i => i.zero.map (·.cells.toList)) = some (some [.int .i64 0, (Value.slice none 0 0)]) := by kernel_rfl
theorem fo_45_0 : fldo Try.prog 45 0 = some 0 := by kernel_rfl
theorem fo_52_0 : fldo Try.prog 52 0 = some 0 := by kernel_rfl
theorem fa_65 : FnAt Try.prog 65 := ⟨_, _, Try.func65, rfl, by kernel_rfl⟩
theorem fo_52_1 : fldo Try.prog 52 1 = some 1 := by kernel_rfl
theorem tk_50 : tyk Try.prog 50 = some (false, 1) := by kernel_rfl
theorem tk_52 : tyk Try.prog 52 = some (true, 2) := by kernel_rfl
theorem mk_34 : mkinfo Try.prog 34 = some (2, true, [.int .i64 0, (Value.slice none 0 0)]) := by kernel_rfl
theorem fa_25 : FnAt Try.prog 25 := ⟨_, _, Try.func25, rfl, by kernel_rfl⟩
theorem el_34 : elo Try.prog 34 = some 2 := by kernel_rfl
theorem fa_79 : FnAt Try.prog 79 := ⟨_, _, Try.func79, rfl, by kernel_rfl⟩
theorem ub_4 : Try.prog.underlying 4 = some .bool := by kernel_rfl
theorem fa_90 : FnAt Try.prog 90 := ⟨_, _, Try.func90, rfl, by kernel_rfl⟩
theorem fa_64 : FnAt Try.prog 64 := ⟨_, _, Try.func64, rfl, by kernel_rfl⟩
theorem sb_50_0 : sbuilt Try.prog 50 0 [] = some [] := by kernel_rfl
theorem ak_50 : aok Try.prog 50 3 = true := by kernel_rfl
theorem bd_52_0_1 (z0 : Int) (z1 : Hd) : Try.prog.built 52 [(0, .int .i64 z0), (1, (sl z1))] = some #[.int .i64 z0, (sl z1)] := by kernel_rfl
theorem bd_83 : Try.prog.built 83 [] = some #[.int .i64 0, .int .i64 0, .int .i64 0] := by kernel_rfl
theorem bd_83_0_1_2 (z0 : Int) (z1 : Int) (z2 : Int) : Try.prog.built 83 [(0, .int .i64 z0), (1, .int .i64 z1), (2, .int .i64 z2)] = some #[.int .i64 z0, .int .i64 z1, .int .i64 z2] := by kernel_rfl
theorem bd_52 : Try.prog.built 52 [] = some #[.int .i64 0, (Value.slice none 0 0)] := by kernel_rfl
theorem bd_52_0 (z0 : Int) : Try.prog.built 52 [(0, .int .i64 z0)] = some #[.int .i64 z0, (Value.slice none 0 0)] := by kernel_rfl
theorem fa_104 : FnAt Try.prog 104 := ⟨_, _, Try.func104, rfl, by kernel_rfl⟩
theorem sb_50_1 (z0 : Int) (z1 : Int) (z2 : Int) : sbuilt Try.prog 50 1 [(0, .agg #[.int .i64 z0, .int .i64 z1, .int .i64 z2])] = some [.int .i64 z0, .int .i64 z1, .int .i64 z2] := by kernel_rfl
theorem fa_105 : FnAt Try.prog 105 := ⟨_, _, Try.func105, rfl, by kernel_rfl⟩
theorem fa_84 : FnAt Try.prog 84 := ⟨_, _, Try.func84, rfl, by kernel_rfl⟩
theorem fa_85 : FnAt Try.prog 85 := ⟨_, _, Try.func85, rfl, by kernel_rfl⟩
theorem fa_86 : FnAt Try.prog 86 := ⟨_, _, Try.func86, rfl, by kernel_rfl⟩
theorem isInt_3 : isInt Try.prog 3 = true := by kernel_rfl
theorem isU8_5 : isU8 Try.prog 5 = true := by kernel_rfl
theorem fa_130 : FnAt Try.prog 130 := ⟨_, _, Try.func130, rfl, by kernel_rfl⟩
theorem sb_138_1 (z0 : UInt8) : sbuilt Try.prog 138 1 [(0, .int .u8 (z0.toNat : Int))] = some [.int .u8 (z0.toNat : Int)] := by kernel_rfl
theorem isBytes_138 : isBytes Try.prog 138 = true := by kernel_rfl
theorem isStr_9 : isStr Try.prog 9 = true := by kernel_rfl
theorem fa_125 : FnAt Try.prog 125 := ⟨_, _, Try.func125, rfl, by kernel_rfl⟩
theorem fa_114 : FnAt Try.prog 114 := ⟨_, _, Try.func114, rfl, by kernel_rfl⟩
theorem sb_101_0 : sbuilt Try.prog 101 0 [] = some [] := by kernel_rfl
theorem fa_58 : FnAt Try.prog 58 := ⟨_, _, Try.func58, rfl, by kernel_rfl⟩
theorem fa_96 : FnAt Try.prog 96 := ⟨_, _, Try.func96, rfl, by kernel_rfl⟩
theorem sb_101_1 (z0 : Str) : sbuilt Try.prog 101 1 [(0, bs z0)] = some [bs z0] := by kernel_rfl
theorem ak_101 : aok Try.prog 101 1 = true := by kernel_rfl
theorem el_101 : elo Try.prog 101 = some 1 := by kernel_rfl
theorem tk_9 : tyk Try.prog 9 = some (false, 1) := by kernel_rfl
theorem sb_74_0 : sbuilt Try.prog 74 0 [] = some [] := by kernel_rfl
theorem fa_74 : FnAt Try.prog 74 := ⟨_, _, Try.func74, rfl, by kernel_rfl⟩
theorem fa_75 : FnAt Try.prog 75 := ⟨_, _, Try.func75, rfl, by kernel_rfl⟩
theorem fa_76 : FnAt Try.prog 76 := ⟨_, _, Try.func76, rfl, by kernel_rfl⟩
theorem sb_29_2 (z0 : Int) (z1 : Int) : sbuilt Try.prog 29 2 [(0, .int .i64 z0), (1, .int .i64 z1)] = some [.int .i64 z0, .int .i64 z1] := by kernel_rfl
theorem sb_74_1 (z0 : Hd) : sbuilt Try.prog 74 1 [(0, (sl z0))] = some [(sl z0)] := by kernel_rfl
theorem ak_74 : aok Try.prog 74 1 = true := by kernel_rfl
theorem fa_80 : FnAt Try.prog 80 := ⟨_, _, Try.func80, rfl, by kernel_rfl⟩
theorem fa_120 : FnAt Try.prog 120 := ⟨_, _, Try.func120, rfl, by kernel_rfl⟩
theorem fa_106 : FnAt Try.prog 106 := ⟨_, _, Try.func106, rfl, by kernel_rfl⟩
theorem fa_94 : FnAt Try.prog 94 := ⟨_, _, Try.func94, rfl, by kernel_rfl⟩
theorem fa_87 : FnAt Try.prog 87 := ⟨_, _, Try.func87, rfl, by kernel_rfl⟩
theorem fa_123 : FnAt Try.prog 123 := ⟨_, _, Try.func123, rfl, by kernel_rfl⟩
theorem fa_111 : FnAt Try.prog 111 := ⟨_, _, Try.func111, rfl, by kernel_rfl⟩
theorem fa_116 : FnAt Try.prog 116 := ⟨_, _, Try.func116, rfl, by kernel_rfl⟩
theorem fa_115 : FnAt Try.prog 115 := ⟨_, _, Try.func115, rfl, by kernel_rfl⟩
theorem fa_108 : FnAt Try.prog 108 := ⟨_, _, Try.func108, rfl, by kernel_rfl⟩
theorem fa_118 : FnAt Try.prog 118 := ⟨_, _, Try.func118, rfl, by kernel_rfl⟩
theorem fa_117 : FnAt Try.prog 117 := ⟨_, _, Try.func117, rfl, by kernel_rfl⟩
theorem fa_99 : FnAt Try.prog 99 := ⟨_, _, Try.func99, rfl, by kernel_rfl⟩
theorem fa_100 : FnAt Try.prog 100 := ⟨_, _, Try.func100, rfl, by kernel_rfl⟩
theorem fa_101 : FnAt Try.prog 101 := ⟨_, _, Try.func101, rfl, by kernel_rfl⟩
theorem sb_34_0 : sbuilt Try.prog 34 0 [] = some [] := by kernel_rfl
theorem fa_81 : FnAt Try.prog 81 := ⟨_, _, Try.func81, rfl, by kernel_rfl⟩
theorem sb_34_1 (z0 : Int) (z1 : Hd) : sbuilt Try.prog 34 1 [(0, .agg #[.int .i64 z0, (sl z1)])] = some [.int .i64 z0, (sl z1)] := by kernel_rfl
theorem ak_34 : aok Try.prog 34 2 = true := by kernel_rfl
theorem sq_83 : seqok Try.prog 83 3 = true := by kernel_rfl
theorem fa_72 : FnAt Try.prog 72 := ⟨_, _, Try.func72, rfl, by kernel_rfl⟩
theorem fa_97 : FnAt Try.prog 97 := ⟨_, _, Try.func97, rfl, by kernel_rfl⟩
theorem fa_51 : FnAt Try.prog 51 := ⟨_, _, Try.func51, rfl, by kernel_rfl⟩
theorem fa_98 : FnAt Try.prog 98 := ⟨_, _, Try.func98, rfl, by kernel_rfl⟩
theorem fa_62 : FnAt Try.prog 62 := ⟨_, _, Try.func62, rfl, by kernel_rfl⟩
theorem fa_77 : FnAt Try.prog 77 := ⟨_, _, Try.func77, rfl, by kernel_rfl⟩
theorem el_29 : elo Try.prog 29 = some 1 := by kernel_rfl
theorem el_74 : elo Try.prog 74 = some 1 := by kernel_rfl
theorem tk_29 : tyk Try.prog 29 = some (false, 1) := by kernel_rfl
theorem fa_13 : FnAt Try.prog 13 := ⟨_, _, Try.func13, rfl, by kernel_rfl⟩
theorem fa_95 : FnAt Try.prog 95 := ⟨_, _, Try.func95, rfl, by kernel_rfl⟩
theorem fa_73 : FnAt Try.prog 73 := ⟨_, _, Try.func73, rfl, by kernel_rfl⟩
theorem fa_92 : FnAt Try.prog 92 := ⟨_, _, Try.func92, rfl, by kernel_rfl⟩
theorem fa_68 : FnAt Try.prog 68 := ⟨_, _, Try.func68, rfl, by kernel_rfl⟩
theorem fa_27 : FnAt Try.prog 27 := ⟨_, _, Try.func27, rfl, by kernel_rfl⟩
theorem fa_78 : FnAt Try.prog 78 := ⟨_, _, Try.func78, rfl, by kernel_rfl⟩
theorem fa_69 : FnAt Try.prog 69 := ⟨_, _, Try.func69, rfl, by kernel_rfl⟩
theorem fa_16 : FnAt Try.prog 16 := ⟨_, _, Try.func16, rfl, by kernel_rfl⟩
theorem fa_17 : FnAt Try.prog 17 := ⟨_, _, Try.func17, rfl, by kernel_rfl⟩
theorem tk_24 : tyk Try.prog 24 = some (true, 3) := by kernel_rfl
theorem fa_29 : FnAt Try.prog 29 := ⟨_, _, Try.func29, rfl, by kernel_rfl⟩
theorem fa_30 : FnAt Try.prog 30 := ⟨_, _, Try.func30, rfl, by kernel_rfl⟩
theorem fa_32 : FnAt Try.prog 32 := ⟨_, _, Try.func32, rfl, by kernel_rfl⟩
theorem fa_33 : FnAt Try.prog 33 := ⟨_, _, Try.func33, rfl, by kernel_rfl⟩
theorem fa_39 : FnAt Try.prog 39 := ⟨_, _, Try.func39, rfl, by kernel_rfl⟩
theorem fa_40 : FnAt Try.prog 40 := ⟨_, _, Try.func40, rfl, by kernel_rfl⟩
theorem fa_41 : FnAt Try.prog 41 := ⟨_, _, Try.func41, rfl, by kernel_rfl⟩
theorem fa_35 : FnAt Try.prog 35 := ⟨_, _, Try.func35, rfl, by kernel_rfl⟩
theorem fa_36 : FnAt Try.prog 36 := ⟨_, _, Try.func36, rfl, by kernel_rfl⟩
theorem fa_42 : FnAt Try.prog 42 := ⟨_, _, Try.func42, rfl, by kernel_rfl⟩
theorem fa_43 : FnAt Try.prog 43 := ⟨_, _, Try.func43, rfl, by kernel_rfl⟩
theorem fa_44 : FnAt Try.prog 44 := ⟨_, _, Try.func44, rfl, by kernel_rfl⟩
theorem fa_45 : FnAt Try.prog 45 := ⟨_, _, Try.func45, rfl, by kernel_rfl⟩
end Go.Proofs.Ytnfdinafbfggeaa
