/-
  Closed facts on this translation.
-/
import Derived.Test.YtnfdinafbfggeabPure
import Derived.Test.YtnfdinafbfggeabChecked
import Derived.KernelRfl
namespace Go.Proofs.Ytnfdinafbfggeab
open Go Go.RowKit Go.Proofs

theorem mixed : Try.prog.follows .mixedOrders = true := by kernel_rfl
theorem el_22 : elo Try.prog 22 = some 3 := by kernel_rfl
theorem fo_24_1 : fldo Try.prog 24 1 = some 1 := by kernel_rfl
theorem tk_22 : tyk Try.prog 22 = some (false, 1) := by kernel_rfl
theorem fa_29 : FnAt Try.prog 29 := ⟨_, _, Try.func29, rfl, by kernel_rfl⟩
theorem za_99 : (Try.prog.info? 99).map (fun i => i.zero.map (·.cells.toList)) = some (some [.int .i64 0, .int .i64 0, .int .i64 0]) := by kernel_rfl
theorem fo_103_0 : fldo Try.prog 103 0 = some 0 := by kernel_rfl
theorem tk_3 : tyk Try.prog 3 = some (false, 1) := by kernel_rfl
theorem fo_99_0 : fldo Try.prog 99 0 = some 0 := by kernel_rfl
theorem fo_103_1 : fldo Try.prog 103 1 = some 1 := by kernel_rfl
theorem fo_99_1 : fldo Try.prog 99 1 = some 1 := by kernel_rfl
theorem fo_103_2 : fldo Try.prog 103 2 = some 2 := by kernel_rfl
theorem fo_99_2 : fldo Try.prog 99 2 = some 2 := by kernel_rfl
theorem tk_99 : tyk Try.prog 99 = some (true, 3) := by kernel_rfl
theorem mk_27 : mkinfo Try.prog 27 = some (3, true, [.int .i64 0, .int .i64 0, .int .i64 0]) := by kernel_rfl
theorem tk_103 : tyk Try.prog 103 = some (true, 3) := by kernel_rfl
theorem fa_88 : FnAt Try.prog 88 := ⟨_, _, Try.func88, rfl, by kernel_rfl⟩
theorem el_27 : elo Try.prog 27 = some 3 := by kernel_rfl
theorem za_29 : (Try.prog.info? 29).map (fun i => i.zero.map (·.cells.toList)) = some (some [.int .i64 0, (Value.slice none 0 0)]) := by kernel_rfl
theorem fo_24_0 : fldo Try.prog 24 0 = some 0 := by kernel_rfl
theorem fo_29_0 : fldo Try.prog 29 0 = some 0 := by kernel_rfl
theorem fa_35 : FnAt Try.prog 35 := ⟨_, _, Try.func35, rfl, by kernel_rfl⟩
theorem fo_29_1 : fldo Try.prog 29 1 = some 1 := by kernel_rfl
theorem tk_27 : tyk Try.prog 27 = some (false, 1) := by kernel_rfl
theorem tk_29 : tyk Try.prog 29 = some (true, 2) := by kernel_rfl
theorem fa_70 : FnAt Try.prog 70 := ⟨_, _, Try.func70, rfl, by kernel_rfl⟩
theorem ub_4 : Try.prog.underlying 4 = some .bool := by kernel_rfl
theorem fa_123 : FnAt Try.prog 123 := ⟨_, _, Try.func123, rfl, by kernel_rfl⟩
theorem sb_34_0 : sbuilt Try.prog 34 0 [] = some [] := by kernel_rfl
theorem fa_83 : FnAt Try.prog 83 := ⟨_, _, Try.func83, rfl, by kernel_rfl⟩
theorem sb_34_1 (z0 : Int) : sbuilt Try.prog 34 1 [(0, .int .i64 z0)] = some [.int .i64 z0] := by kernel_rfl
theorem ak_34 : aok Try.prog 34 1 = true := by kernel_rfl
theorem sb_27_0 : sbuilt Try.prog 27 0 [] = some [] := by kernel_rfl
theorem ak_27 : aok Try.prog 27 3 = true := by kernel_rfl
theorem bd_29_0_1 (z0 : Int) (z1 : Hd) : Try.prog.built 29 [(0, .int .i64 z0), (1, (sl z1))] = some #[.int .i64 z0, (sl z1)] := by kernel_rfl
theorem bd_99 : Try.prog.built 99 [] = some #[.int .i64 0, .int .i64 0, .int .i64 0] := by kernel_rfl
theorem bd_99_0_1_2 (z0 : Int) (z1 : Int) (z2 : Int) : Try.prog.built 99 [(0, .int .i64 z0), (1, .int .i64 z1), (2, .int .i64 z2)] = some #[.int .i64 z0, .int .i64 z1, .int .i64 z2] := by kernel_rfl
theorem bd_29 : Try.prog.built 29 [] = some #[.int .i64 0, (Value.slice none 0 0)] := by kernel_rfl
theorem bd_29_0 (z0 : Int) : Try.prog.built 29 [(0, .int .i64 z0)] = some #[.int .i64 z0, (Value.slice none 0 0)] := by kernel_rfl
theorem fa_124 : FnAt Try.prog 124 := ⟨_, _, Try.func124, rfl, by kernel_rfl⟩
theorem sb_27_1 (z0 : Int) (z1 : Int) (z2 : Int) : sbuilt Try.prog 27 1 [(0, .agg #[.int .i64 z0, .int .i64 z1, .int .i64 z2])] = some [.int .i64 z0, .int .i64 z1, .int .i64 z2] := by kernel_rfl
theorem fa_125 : FnAt Try.prog 125 := ⟨_, _, Try.func125, rfl, by kernel_rfl⟩
theorem fa_85 : FnAt Try.prog 85 := ⟨_, _, Try.func85, rfl, by kernel_rfl⟩
theorem fa_86 : FnAt Try.prog 86 := ⟨_, _, Try.func86, rfl, by kernel_rfl⟩
theorem fa_87 : FnAt Try.prog 87 := ⟨_, _, Try.func87, rfl, by kernel_rfl⟩
theorem sb_58_0 : sbuilt Try.prog 58 0 [] = some [] := by kernel_rfl
theorem mk_34 : mkinfo Try.prog 34 = some (1, true, [.int .i64 0]) := by kernel_rfl
theorem sb_58_1 (z0 : Hd) : sbuilt Try.prog 58 1 [(0, (sl z0))] = some [(sl z0)] := by kernel_rfl
theorem ak_58 : aok Try.prog 58 1 = true := by kernel_rfl
theorem fa_84 : FnAt Try.prog 84 := ⟨_, _, Try.func84, rfl, by kernel_rfl⟩
theorem el_58 : elo Try.prog 58 = some 1 := by kernel_rfl
theorem tk_34 : tyk Try.prog 34 = some (false, 1) := by kernel_rfl
theorem el_34 : elo Try.prog 34 = some 1 := by kernel_rfl
theorem fa_32 : FnAt Try.prog 32 := ⟨_, _, Try.func32, rfl, by kernel_rfl⟩
theorem fa_30 : FnAt Try.prog 30 := ⟨_, _, Try.func30, rfl, by kernel_rfl⟩
theorem fa_31 : FnAt Try.prog 31 := ⟨_, _, Try.func31, rfl, by kernel_rfl⟩
theorem fa_34 : FnAt Try.prog 34 := ⟨_, _, Try.func34, rfl, by kernel_rfl⟩
theorem fa_33 : FnAt Try.prog 33 := ⟨_, _, Try.func33, rfl, by kernel_rfl⟩
theorem fa_74 : FnAt Try.prog 74 := ⟨_, _, Try.func74, rfl, by kernel_rfl⟩
theorem fa_122 : FnAt Try.prog 122 := ⟨_, _, Try.func122, rfl, by kernel_rfl⟩
theorem fa_126 : FnAt Try.prog 126 := ⟨_, _, Try.func126, rfl, by kernel_rfl⟩
theorem fa_89 : FnAt Try.prog 89 := ⟨_, _, Try.func89, rfl, by kernel_rfl⟩
theorem fa_127 : FnAt Try.prog 127 := ⟨_, _, Try.func127, rfl, by kernel_rfl⟩
theorem fa_90 : FnAt Try.prog 90 := ⟨_, _, Try.func90, rfl, by kernel_rfl⟩
theorem fa_37 : FnAt Try.prog 37 := ⟨_, _, Try.func37, rfl, by kernel_rfl⟩
theorem fa_91 : FnAt Try.prog 91 := ⟨_, _, Try.func91, rfl, by kernel_rfl⟩
theorem fa_136 : FnAt Try.prog 136 := ⟨_, _, Try.func136, rfl, by kernel_rfl⟩
theorem fa_138 : FnAt Try.prog 138 := ⟨_, _, Try.func138, rfl, by kernel_rfl⟩
theorem bd_99_1_2 (z0 : Int) (z1 : Int) : Try.prog.built 99 [(1, .int .i64 z0), (2, .int .i64 z1)] = some #[.int .i64 0, .int .i64 z0, .int .i64 z1] := by kernel_rfl
theorem fa_142 : FnAt Try.prog 142 := ⟨_, _, Try.func142, rfl, by kernel_rfl⟩
theorem fa_128 : FnAt Try.prog 128 := ⟨_, _, Try.func128, rfl, by kernel_rfl⟩
theorem fa_137 : FnAt Try.prog 137 := ⟨_, _, Try.func137, rfl, by kernel_rfl⟩
theorem fa_132 : FnAt Try.prog 132 := ⟨_, _, Try.func132, rfl, by kernel_rfl⟩
theorem fa_131 : FnAt Try.prog 131 := ⟨_, _, Try.func131, rfl, by kernel_rfl⟩
theorem fa_113 : FnAt Try.prog 113 := ⟨_, _, Try.func113, rfl, by kernel_rfl⟩
theorem fa_130 : FnAt Try.prog 130 := ⟨_, _, Try.func130, rfl, by kernel_rfl⟩
theorem fa_129 : FnAt Try.prog 129 := ⟨_, _, Try.func129, rfl, by kernel_rfl⟩
theorem fa_38 : FnAt Try.prog 38 := ⟨_, _, Try.func38, rfl, by kernel_rfl⟩
theorem fa_92 : FnAt Try.prog 92 := ⟨_, _, Try.func92, rfl, by kernel_rfl⟩
theorem fa_93 : FnAt Try.prog 93 := ⟨_, _, Try.func93, rfl, by kernel_rfl⟩
theorem fa_144 : FnAt Try.prog 144 := ⟨_, _, Try.func144, rfl, by kernel_rfl⟩
theorem fa_143 : FnAt Try.prog 143 := ⟨_, _, Try.func143, rfl, by kernel_rfl⟩
theorem fa_146 : FnAt Try.prog 146 := ⟨_, _, Try.func146, rfl, by kernel_rfl⟩
theorem fa_145 : FnAt Try.prog 145 := ⟨_, _, Try.func145, rfl, by kernel_rfl⟩
theorem fa_139 : FnAt Try.prog 139 := ⟨_, _, Try.func139, rfl, by kernel_rfl⟩
theorem fa_140 : FnAt Try.prog 140 := ⟨_, _, Try.func140, rfl, by kernel_rfl⟩
theorem sb_108_0 : sbuilt Try.prog 108 0 [] = some [] := by kernel_rfl
theorem fa_133 : FnAt Try.prog 133 := ⟨_, _, Try.func133, rfl, by kernel_rfl⟩
theorem sb_108_1 (z0 : Int) (z1 : Hd) : sbuilt Try.prog 108 1 [(0, .agg #[.int .i64 z0, (sl z1)])] = some [.int .i64 z0, (sl z1)] := by kernel_rfl
theorem ak_108 : aok Try.prog 108 2 = true := by kernel_rfl
theorem fa_141 : FnAt Try.prog 141 := ⟨_, _, Try.func141, rfl, by kernel_rfl⟩
theorem fa_36 : FnAt Try.prog 36 := ⟨_, _, Try.func36, rfl, by kernel_rfl⟩
theorem fa_134 : FnAt Try.prog 134 := ⟨_, _, Try.func134, rfl, by kernel_rfl⟩
theorem fa_94 : FnAt Try.prog 94 := ⟨_, _, Try.func94, rfl, by kernel_rfl⟩
theorem el_108 : elo Try.prog 108 = some 2 := by kernel_rfl
theorem fa_95 : FnAt Try.prog 95 := ⟨_, _, Try.func95, rfl, by kernel_rfl⟩
theorem fa_39 : FnAt Try.prog 39 := ⟨_, _, Try.func39, rfl, by kernel_rfl⟩
theorem fa_40 : FnAt Try.prog 40 := ⟨_, _, Try.func40, rfl, by kernel_rfl⟩
theorem fa_96 : FnAt Try.prog 96 := ⟨_, _, Try.func96, rfl, by kernel_rfl⟩
theorem fa_41 : FnAt Try.prog 41 := ⟨_, _, Try.func41, rfl, by kernel_rfl⟩
theorem tk_24 : tyk Try.prog 24 = some (true, 2) := by kernel_rfl
theorem fa_9 : FnAt Try.prog 9 := ⟨_, _, Try.func9, rfl, by kernel_rfl⟩
theorem fa_11 : FnAt Try.prog 11 := ⟨_, _, Try.func11, rfl, by kernel_rfl⟩
theorem fa_10 : FnAt Try.prog 10 := ⟨_, _, Try.func10, rfl, by kernel_rfl⟩
theorem fa_12 : FnAt Try.prog 12 := ⟨_, _, Try.func12, rfl, by kernel_rfl⟩
theorem fa_13 : FnAt Try.prog 13 := ⟨_, _, Try.func13, rfl, by kernel_rfl⟩
end Go.Proofs.Ytnfdinafbfggeab
