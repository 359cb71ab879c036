/-
  Closed facts on this translation.
-/
import Derived.Test.YtnfdinafbfggeaaPure
import Derived.Test.YtnfdinafbfggeaaChecked
import Derived.KernelRfl
namespace Go.Proofs.Ytnfdinafbfggeaa
open Go Go.RowKit Go.Proofs

theorem mixed : Try.prog.follows .mixedOrders = true := by kernel_rfl
theorem el_43 : elo Try.prog 43 = some 3 := by kernel_rfl
theorem fo_45_1 : fldo Try.prog 45 1 = some 1 := by kernel_rfl
theorem tk_43 : tyk Try.prog 43 = some (false, 1) := by kernel_rfl
theorem fa_63 : FnAt Try.prog 63 := ⟨_, _, Try.func63, rfl, by kernel_rfl⟩
theorem za_83 : (Try.prog.info? 83).map (fun i => i.zero.map (·.cells.toList)) = some (some [.int .i64 0, .int .i64 0, .int .i64 0]) := by kernel_rfl
theorem fo_113_0 : fldo Try.prog 113 0 = some 0 := by kernel_rfl
theorem tk_3 : tyk Try.prog 3 = some (false, 1) := by kernel_rfl
theorem fo_83_0 : fldo Try.prog 83 0 = some 0 := by kernel_rfl
theorem fo_113_1 : fldo Try.prog 113 1 = some 1 := by kernel_rfl
theorem fo_83_1 : fldo Try.prog 83 1 = some 1 := by kernel_rfl
theorem fo_113_2 : fldo Try.prog 113 2 = some 2 := by kernel_rfl
theorem fo_83_2 : fldo Try.prog 83 2 = some 2 := by kernel_rfl
theorem tk_83 : tyk Try.prog 83 = some (true, 3) := by kernel_rfl
theorem mk_50 : mkinfo Try.prog 50 = some (3, true, [.int .i64 0, .int .i64 0, .int .i64 0]) := by kernel_rfl
theorem tk_113 : tyk Try.prog 113 = some (true, 3) := by kernel_rfl
theorem fa_91 : FnAt Try.prog 91 := ⟨_, _, Try.func91, rfl, by kernel_rfl⟩
theorem el_50 : elo Try.prog 50 = some 3 := by kernel_rfl
theorem za_52 : (Try.prog.info? 52).map (fun i => i.zero.map (·.cells.toList)) = some (some [.int .i64 0, (Value.slice none 0 0)]) := by kernel_rfl
theorem fo_45_0 : fldo Try.prog 45 0 = some 0 := by kernel_rfl
theorem fo_52_0 : fldo Try.prog 52 0 = some 0 := by kernel_rfl
theorem fa_65 : FnAt Try.prog 65 := ⟨_, _, Try.func65, rfl, by kernel_rfl⟩
theorem fo_52_1 : fldo Try.prog 52 1 = some 1 := by kernel_rfl
theorem tk_50 : tyk Try.prog 50 = some (false, 1) := by kernel_rfl
theorem tk_52 : tyk Try.prog 52 = some (true, 2) := by kernel_rfl
theorem fa_79 : FnAt Try.prog 79 := ⟨_, _, Try.func79, rfl, by kernel_rfl⟩
theorem ub_4 : Try.prog.underlying 4 = some .bool := by kernel_rfl
theorem fa_90 : FnAt Try.prog 90 := ⟨_, _, Try.func90, rfl, by kernel_rfl⟩
theorem sb_50_0 : sbuilt Try.prog 50 0 [] = some [] := by kernel_rfl
theorem ak_50 : aok Try.prog 50 3 = true := by kernel_rfl
theorem bd_52_0_1 (z0 : Int) (z1 : Hd) : Try.prog.built 52 [(0, .int .i64 z0), (1, (sl z1))] = some #[.int .i64 z0, (sl z1)] := by kernel_rfl
theorem bd_83 : Try.prog.built 83 [] = some #[.int .i64 0, .int .i64 0, .int .i64 0] := by kernel_rfl
theorem bd_83_0_1_2 (z0 : Int) (z1 : Int) (z2 : Int) : Try.prog.built 83 [(0, .int .i64 z0), (1, .int .i64 z1), (2, .int .i64 z2)] = some #[.int .i64 z0, .int .i64 z1, .int .i64 z2] := by kernel_rfl
theorem fa_64 : FnAt Try.prog 64 := ⟨_, _, Try.func64, rfl, by kernel_rfl⟩
theorem bd_52 : Try.prog.built 52 [] = some #[.int .i64 0, (Value.slice none 0 0)] := by kernel_rfl
theorem bd_52_0 (z0 : Int) : Try.prog.built 52 [(0, .int .i64 z0)] = some #[.int .i64 z0, (Value.slice none 0 0)] := by kernel_rfl
theorem fa_104 : FnAt Try.prog 104 := ⟨_, _, Try.func104, rfl, by kernel_rfl⟩
theorem sb_50_1 (z0 : Int) (z1 : Int) (z2 : Int) : sbuilt Try.prog 50 1 [(0, .agg #[.int .i64 z0, .int .i64 z1, .int .i64 z2])] = some [.int .i64 z0, .int .i64 z1, .int .i64 z2] := by kernel_rfl
theorem fa_105 : FnAt Try.prog 105 := ⟨_, _, Try.func105, rfl, by kernel_rfl⟩
theorem fa_84 : FnAt Try.prog 84 := ⟨_, _, Try.func84, rfl, by kernel_rfl⟩
theorem fa_85 : FnAt Try.prog 85 := ⟨_, _, Try.func85, rfl, by kernel_rfl⟩
theorem fa_86 : FnAt Try.prog 86 := ⟨_, _, Try.func86, rfl, by kernel_rfl⟩
theorem sb_29_0 : sbuilt Try.prog 29 0 [] = some [] := by kernel_rfl
theorem sb_29_1 (z0 : Int) : sbuilt Try.prog 29 1 [(0, .int .i64 z0)] = some [.int .i64 z0] := by kernel_rfl
theorem ak_29 : aok Try.prog 29 1 = true := by kernel_rfl
theorem el_29 : elo Try.prog 29 = some 1 := by kernel_rfl
theorem bd_83_1_2 (z0 : Int) (z1 : Int) : Try.prog.built 83 [(1, .int .i64 z0), (2, .int .i64 z1)] = some #[.int .i64 0, .int .i64 z0, .int .i64 z1] := by kernel_rfl
theorem fa_126 : FnAt Try.prog 126 := ⟨_, _, Try.func126, rfl, by kernel_rfl⟩
theorem fa_102 : FnAt Try.prog 102 := ⟨_, _, Try.func102, rfl, by kernel_rfl⟩
theorem fa_119 : FnAt Try.prog 119 := ⟨_, _, Try.func119, rfl, by kernel_rfl⟩
theorem fa_103 : FnAt Try.prog 103 := ⟨_, _, Try.func103, rfl, by kernel_rfl⟩
theorem fa_83 : FnAt Try.prog 83 := ⟨_, _, Try.func83, rfl, by kernel_rfl⟩
theorem fa_82 : FnAt Try.prog 82 := ⟨_, _, Try.func82, rfl, by kernel_rfl⟩
theorem sq_83 : seqok Try.prog 83 3 = true := by kernel_rfl
theorem fa_58 : FnAt Try.prog 58 := ⟨_, _, Try.func58, rfl, by kernel_rfl⟩
theorem fa_56 : FnAt Try.prog 56 := ⟨_, _, Try.func56, rfl, by kernel_rfl⟩
theorem fa_57 : FnAt Try.prog 57 := ⟨_, _, Try.func57, rfl, by kernel_rfl⟩
theorem fa_80 : FnAt Try.prog 80 := ⟨_, _, Try.func80, rfl, by kernel_rfl⟩
theorem fa_120 : FnAt Try.prog 120 := ⟨_, _, Try.func120, rfl, by kernel_rfl⟩
theorem fa_106 : FnAt Try.prog 106 := ⟨_, _, Try.func106, rfl, by kernel_rfl⟩
theorem fa_131 : FnAt Try.prog 131 := ⟨_, _, Try.func131, rfl, by kernel_rfl⟩
theorem fa_121 : FnAt Try.prog 121 := ⟨_, _, Try.func121, rfl, by kernel_rfl⟩
theorem fa_129 : FnAt Try.prog 129 := ⟨_, _, Try.func129, rfl, by kernel_rfl⟩
theorem fa_128 : FnAt Try.prog 128 := ⟨_, _, Try.func128, rfl, by kernel_rfl⟩
theorem fa_124 : FnAt Try.prog 124 := ⟨_, _, Try.func124, rfl, by kernel_rfl⟩
theorem mk_29 : mkinfo Try.prog 29 = some (1, true, [.int .i64 0]) := by kernel_rfl
theorem fa_87 : FnAt Try.prog 87 := ⟨_, _, Try.func87, rfl, by kernel_rfl⟩
theorem sb_29_2 (z0 : Int) (z1 : Int) : sbuilt Try.prog 29 2 [(0, .int .i64 z0), (1, .int .i64 z1)] = some [.int .i64 z0, .int .i64 z1] := by kernel_rfl
theorem fa_112 : FnAt Try.prog 112 := ⟨_, _, Try.func112, rfl, by kernel_rfl⟩
theorem fa_113 : FnAt Try.prog 113 := ⟨_, _, Try.func113, rfl, by kernel_rfl⟩
theorem fa_123 : FnAt Try.prog 123 := ⟨_, _, Try.func123, rfl, by kernel_rfl⟩
theorem fa_127 : FnAt Try.prog 127 := ⟨_, _, Try.func127, rfl, by kernel_rfl⟩
theorem fa_107 : FnAt Try.prog 107 := ⟨_, _, Try.func107, rfl, by kernel_rfl⟩
theorem fa_122 : FnAt Try.prog 122 := ⟨_, _, Try.func122, rfl, by kernel_rfl⟩
theorem tk_29 : tyk Try.prog 29 = some (false, 1) := by kernel_rfl
theorem fa_111 : FnAt Try.prog 111 := ⟨_, _, Try.func111, rfl, by kernel_rfl⟩
theorem fa_110 : FnAt Try.prog 110 := ⟨_, _, Try.func110, rfl, by kernel_rfl⟩
theorem fa_99 : FnAt Try.prog 99 := ⟨_, _, Try.func99, rfl, by kernel_rfl⟩
theorem fa_109 : FnAt Try.prog 109 := ⟨_, _, Try.func109, rfl, by kernel_rfl⟩
theorem fa_108 : FnAt Try.prog 108 := ⟨_, _, Try.func108, rfl, by kernel_rfl⟩
theorem fa_89 : FnAt Try.prog 89 := ⟨_, _, Try.func89, rfl, by kernel_rfl⟩
theorem fa_88 : FnAt Try.prog 88 := ⟨_, _, Try.func88, rfl, by kernel_rfl⟩
theorem fa_60 : FnAt Try.prog 60 := ⟨_, _, Try.func60, rfl, by kernel_rfl⟩
theorem fa_62 : FnAt Try.prog 62 := ⟨_, _, Try.func62, rfl, by kernel_rfl⟩
theorem fa_116 : FnAt Try.prog 116 := ⟨_, _, Try.func116, rfl, by kernel_rfl⟩
theorem fa_115 : FnAt Try.prog 115 := ⟨_, _, Try.func115, rfl, by kernel_rfl⟩
theorem fa_118 : FnAt Try.prog 118 := ⟨_, _, Try.func118, rfl, by kernel_rfl⟩
theorem fa_117 : FnAt Try.prog 117 := ⟨_, _, Try.func117, rfl, by kernel_rfl⟩
theorem fa_100 : FnAt Try.prog 100 := ⟨_, _, Try.func100, rfl, by kernel_rfl⟩
theorem fa_101 : FnAt Try.prog 101 := ⟨_, _, Try.func101, rfl, by kernel_rfl⟩
theorem sb_34_0 : sbuilt Try.prog 34 0 [] = some [] := by kernel_rfl
theorem fa_81 : FnAt Try.prog 81 := ⟨_, _, Try.func81, rfl, by kernel_rfl⟩
theorem sb_34_1 (z0 : Int) (z1 : Hd) : sbuilt Try.prog 34 1 [(0, .agg #[.int .i64 z0, (sl z1)])] = some [.int .i64 z0, (sl z1)] := by kernel_rfl
theorem ak_34 : aok Try.prog 34 2 = true := by kernel_rfl
theorem fa_61 : FnAt Try.prog 61 := ⟨_, _, Try.func61, rfl, by kernel_rfl⟩
theorem el_34 : elo Try.prog 34 = some 2 := by kernel_rfl
theorem fa_67 : FnAt Try.prog 67 := ⟨_, _, Try.func67, rfl, by kernel_rfl⟩
theorem fa_66 : FnAt Try.prog 66 := ⟨_, _, Try.func66, rfl, by kernel_rfl⟩
theorem fa_92 : FnAt Try.prog 92 := ⟨_, _, Try.func92, rfl, by kernel_rfl⟩
theorem fa_68 : FnAt Try.prog 68 := ⟨_, _, Try.func68, rfl, by kernel_rfl⟩
theorem fa_69 : FnAt Try.prog 69 := ⟨_, _, Try.func69, rfl, by kernel_rfl⟩
theorem tk_45 : tyk Try.prog 45 = some (true, 2) := by kernel_rfl
theorem fa_23 : FnAt Try.prog 23 := ⟨_, _, Try.func23, rfl, by kernel_rfl⟩
theorem fa_25 : FnAt Try.prog 25 := ⟨_, _, Try.func25, rfl, by kernel_rfl⟩
theorem fa_24 : FnAt Try.prog 24 := ⟨_, _, Try.func24, rfl, by kernel_rfl⟩
theorem fa_26 : FnAt Try.prog 26 := ⟨_, _, Try.func26, rfl, by kernel_rfl⟩
theorem fa_13 : FnAt Try.prog 13 := ⟨_, _, Try.func13, rfl, by kernel_rfl⟩
theorem fa_27 : FnAt Try.prog 27 := ⟨_, _, Try.func27, rfl, by kernel_rfl⟩
theorem fa_28 : FnAt Try.prog 28 := ⟨_, _, Try.func28, rfl, by kernel_rfl⟩
theorem fa_16 : FnAt Try.prog 16 := ⟨_, _, Try.func16, rfl, by kernel_rfl⟩
theorem fa_17 : FnAt Try.prog 17 := ⟨_, _, Try.func17, rfl, by kernel_rfl⟩
end Go.Proofs.Ytnfdinafbfggeaa
