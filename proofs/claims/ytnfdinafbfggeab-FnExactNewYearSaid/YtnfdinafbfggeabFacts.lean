/-
  Closed facts on this translation.
-/
import Derived.Test.YtnfdinafbfggeabPure
import Derived.Test.YtnfdinafbfggeabChecked
import Derived.KernelRfl
namespace Go.Proofs.Ytnfdinafbfggeab
open Go Go.RowKit Go.Proofs

theorem mixed : Try.prog.follows .mixedOrders = true := by kernel_rfl
theorem el_43 : elo Try.prog 43 = some 3 := by kernel_rfl
theorem el_34 : elo Try.prog 34 = some 1 := by kernel_rfl
theorem el_22 : elo Try.prog 22 = some 3 := by kernel_rfl
theorem fo_24_1 : fldo Try.prog 24 1 = some 1 := by kernel_rfl
theorem tk_22 : tyk Try.prog 22 = some (false, 1) := by kernel_rfl
theorem fa_29 : FnAt Try.prog 29 := ⟨_, _, Try.func29, rfl, by kernel_rfl⟩
theorem fo_119_2 : fldo Try.prog 119 2 = some 2 := by kernel_rfl
theorem tk_24 : tyk Try.prog 24 = some (true, 2) := by kernel_rfl
theorem fa_9 : FnAt Try.prog 9 := ⟨_, _, Try.func9, rfl, by kernel_rfl⟩
theorem el_44 : elo Try.prog 44 = some 4 := by kernel_rfl
theorem tk_119 : tyk Try.prog 119 = some (true, 4) := by kernel_rfl
theorem fa_102 : FnAt Try.prog 102 := ⟨_, _, Try.func102, rfl, by kernel_rfl⟩
theorem el_45 : elo Try.prog 45 = some 4 := by kernel_rfl
theorem fo_47_0 : fldo Try.prog 47 0 = some 0 := by kernel_rfl
theorem tk_43 : tyk Try.prog 43 = some (false, 1) := by kernel_rfl
theorem fa_56 : FnAt Try.prog 56 := ⟨_, _, Try.func56, rfl, by kernel_rfl⟩
theorem fo_47_1 : fldo Try.prog 47 1 = some 1 := by kernel_rfl
theorem tk_34 : tyk Try.prog 34 = some (false, 1) := by kernel_rfl
theorem fa_57 : FnAt Try.prog 57 := ⟨_, _, Try.func57, rfl, by kernel_rfl⟩
theorem fo_47_2 : fldo Try.prog 47 2 = some 2 := by kernel_rfl
theorem tk_44 : tyk Try.prog 44 = some (false, 1) := by kernel_rfl
theorem fa_58 : FnAt Try.prog 58 := ⟨_, _, Try.func58, rfl, by kernel_rfl⟩
theorem fo_47_3 : fldo Try.prog 47 3 = some 3 := by kernel_rfl
theorem tk_45 : tyk Try.prog 45 = some (false, 1) := by kernel_rfl
theorem fa_59 : FnAt Try.prog 59 := ⟨_, _, Try.func59, rfl, by kernel_rfl⟩
theorem za_113 : (Try.prog.info? 113).map (fun i => i.zero.map (·.cells.toList)) = some (some [.int .i64 0, .int .i64 0, .int .i64 0]) := by kernel_rfl
theorem fo_126_0 : fldo Try.prog 126 0 = some 0 := by kernel_rfl
theorem tk_3 : tyk Try.prog 3 = some (false, 1) := by kernel_rfl
theorem fo_113_0 : fldo Try.prog 113 0 = some 0 := by kernel_rfl
theorem fo_126_1 : fldo Try.prog 126 1 = some 1 := by kernel_rfl
theorem fo_113_1 : fldo Try.prog 113 1 = some 1 := by kernel_rfl
theorem fo_126_2 : fldo Try.prog 126 2 = some 2 := by kernel_rfl
theorem fo_113_2 : fldo Try.prog 113 2 = some 2 := by kernel_rfl
theorem tk_113 : tyk Try.prog 113 = some (true, 3) := by kernel_rfl
theorem mk_33 : mkinfo Try.prog 33 = some (3, true, [.int .i64 0, .int .i64 0, .int .i64 0]) := by kernel_rfl
theorem tk_126 : tyk Try.prog 126 = some (true, 3) := by kernel_rfl
theorem fa_108 : FnAt Try.prog 108 := ⟨_, _, Try.func108, rfl, by kernel_rfl⟩
theorem el_33 : elo Try.prog 33 = some 3 := by kernel_rfl
theorem mk_34 : mkinfo Try.prog 34 = some (1, true, [.int .i64 0]) := by kernel_rfl
theorem za_99 : (Try.prog.info? 99).map (fun i => i.zero.map (·.cells.toList)) = some (some [.int .i64 0, .int .i64 0, .int .i64 0]) := by kernel_rfl
theorem fo_103_0 : fldo Try.prog 103 0 = some 0 := by kernel_rfl
theorem fo_99_0 : fldo Try.prog 99 0 = some 0 := by kernel_rfl
theorem fo_103_1 : fldo Try.prog 103 1 = some 1 := by kernel_rfl
theorem fo_99_1 : fldo Try.prog 99 1 = some 1 := by kernel_rfl
theorem fo_103_2 : fldo Try.prog 103 2 = some 2 := by kernel_rfl
theorem fo_99_2 : fldo Try.prog 99 2 = some 2 := by kernel_rfl
theorem tk_99 : tyk Try.prog 99 = some (true, 3) := by kernel_rfl
theorem mk_27 : mkinfo Try.prog 27 = some (3, true, [.int .i64 0, .int .i64 0, .int .i64 0]) := by kernel_rfl
theorem tk_103 : tyk Try.prog 103 = some (true, 3) := by kernel_rfl
theorem fa_88 : FnAt Try.prog 88 := ⟨_, _, Try.func88, rfl, by kernel_rfl⟩
theorem el_27 : elo Try.prog 27 = some 3 := by kernel_rfl
theorem za_29 : (Try.prog.info? 29).map (fun i => i.zero.map (·.cells.toList)) = some (some [.int .i64 0, (Value.slice none 0 0)]) := by kernel_rfl
theorem fo_24_0 : fldo Try.prog 24 0 = some 0 := by kernel_rfl
theorem fo_29_0 : fldo Try.prog 29 0 = some 0 := by kernel_rfl
theorem fa_35 : FnAt Try.prog 35 := ⟨_, _, Try.func35, rfl, by kernel_rfl⟩
theorem fo_29_1 : fldo Try.prog 29 1 = some 1 := by kernel_rfl
theorem tk_27 : tyk Try.prog 27 = some (false, 1) := by kernel_rfl
theorem tk_29 : tyk Try.prog 29 = some (true, 2) := by kernel_rfl
theorem za_88 : (Try.prog.info? 88).map (fun i => i.zero.map (·.cells.toList)) = some (some [.int .i64 0, .int .i64 0, .int .i64 0, (Value.slice none 0 0)]) := by kernel_rfl
theorem fo_119_0 : fldo Try.prog 119 0 = some 0 := by kernel_rfl
theorem fo_88_0 : fldo Try.prog 88 0 = some 0 := by kernel_rfl
theorem fo_119_1 : fldo Try.prog 119 1 = some 1 := by kernel_rfl
theorem fo_88_1 : fldo Try.prog 88 1 = some 1 := by kernel_rfl
theorem fa_11 : FnAt Try.prog 11 := ⟨_, _, Try.func11, rfl, by kernel_rfl⟩
theorem fo_88_2 : fldo Try.prog 88 2 = some 2 := by kernel_rfl
theorem tk_88 : tyk Try.prog 88 = some (true, 4) := by kernel_rfl
theorem mk_35 : mkinfo Try.prog 35 = some (4, true, [.int .i64 0, .int .i64 0, .int .i64 0, (Value.slice none 0 0)]) := by kernel_rfl
theorem fa_109 : FnAt Try.prog 109 := ⟨_, _, Try.func109, rfl, by kernel_rfl⟩
theorem el_35 : elo Try.prog 35 = some 4 := by kernel_rfl
theorem za_92 : (Try.prog.info? 92).map (fun i => i.zero.map (·.cells.toList)) = some (some [.int .i64 0, .int .i64 0, .int .i64 0, .int .i64 0]) := by kernel_rfl
theorem fo_129_0 : fldo Try.prog 129 0 = some 0 := by kernel_rfl
theorem fo_92_0 : fldo Try.prog 92 0 = some 0 := by kernel_rfl
theorem fo_129_1 : fldo Try.prog 129 1 = some 1 := by kernel_rfl
theorem fo_92_1 : fldo Try.prog 92 1 = some 1 := by kernel_rfl
theorem fo_129_2 : fldo Try.prog 129 2 = some 2 := by kernel_rfl
theorem fo_92_2 : fldo Try.prog 92 2 = some 2 := by kernel_rfl
theorem fo_129_3 : fldo Try.prog 129 3 = some 3 := by kernel_rfl
theorem fo_92_3 : fldo Try.prog 92 3 = some 3 := by kernel_rfl
theorem tk_92 : tyk Try.prog 92 = some (true, 4) := by kernel_rfl
theorem mk_36 : mkinfo Try.prog 36 = some (4, true, [.int .i64 0, .int .i64 0, .int .i64 0, .int .i64 0]) := by kernel_rfl
theorem tk_129 : tyk Try.prog 129 = some (true, 4) := by kernel_rfl
theorem fa_110 : FnAt Try.prog 110 := ⟨_, _, Try.func110, rfl, by kernel_rfl⟩
theorem el_36 : elo Try.prog 36 = some 4 := by kernel_rfl
theorem za_38 : (Try.prog.info? 38).map (fun i => i.zero.map (·.cells.toList)) = some (some [(Value.slice none 0 0), (Value.slice none 0 0), (Value.slice none 0 0), (Value.slice none 0 0), .int .i64 0, .int .i64 0]) := by kernel_rfl
theorem fa_62 : FnAt Try.prog 62 := ⟨_, _, Try.func62, rfl, by kernel_rfl⟩
theorem fo_38_0 : fldo Try.prog 38 0 = some 0 := by kernel_rfl
theorem tk_33 : tyk Try.prog 33 = some (false, 1) := by kernel_rfl
theorem fa_63 : FnAt Try.prog 63 := ⟨_, _, Try.func63, rfl, by kernel_rfl⟩
theorem fo_38_1 : fldo Try.prog 38 1 = some 1 := by kernel_rfl
theorem fa_64 : FnAt Try.prog 64 := ⟨_, _, Try.func64, rfl, by kernel_rfl⟩
theorem fo_38_2 : fldo Try.prog 38 2 = some 2 := by kernel_rfl
theorem tk_35 : tyk Try.prog 35 = some (false, 1) := by kernel_rfl
theorem fa_65 : FnAt Try.prog 65 := ⟨_, _, Try.func65, rfl, by kernel_rfl⟩
theorem fo_38_3 : fldo Try.prog 38 3 = some 3 := by kernel_rfl
theorem tk_36 : tyk Try.prog 36 = some (false, 1) := by kernel_rfl
theorem fo_47_4 : fldo Try.prog 47 4 = some 4 := by kernel_rfl
theorem fo_38_4 : fldo Try.prog 38 4 = some 4 := by kernel_rfl
theorem fo_47_5 : fldo Try.prog 47 5 = some 5 := by kernel_rfl
theorem fo_38_5 : fldo Try.prog 38 5 = some 5 := by kernel_rfl
theorem tk_38 : tyk Try.prog 38 = some (true, 6) := by kernel_rfl
theorem sb_27_0 : sbuilt Try.prog 27 0 [] = some [] := by kernel_rfl
theorem ak_27 : aok Try.prog 27 3 = true := by kernel_rfl
theorem bd_29_0_1 (z0 : Int) (z1 : Hd) : Try.prog.built 29 [(0, .int .i64 z0), (1, (sl z1))] = some #[.int .i64 z0, (sl z1)] := by kernel_rfl
theorem sb_33_0 : sbuilt Try.prog 33 0 [] = some [] := by kernel_rfl
theorem ak_33 : aok Try.prog 33 3 = true := by kernel_rfl
theorem sb_34_0 : sbuilt Try.prog 34 0 [] = some [] := by kernel_rfl
theorem ak_34 : aok Try.prog 34 1 = true := by kernel_rfl
theorem sb_36_0 : sbuilt Try.prog 36 0 [] = some [] := by kernel_rfl
theorem ak_36 : aok Try.prog 36 4 = true := by kernel_rfl
theorem bd_38_0_1_3_4_5 (z0 : Hd) (z1 : Hd) (z2 : Hd) (z3 : Int) (z4 : Int) : Try.prog.built 38 [(0, (sl z0)), (1, (sl z1)), (3, (sl z2)), (4, .int .i64 z3), (5, .int .i64 z4)] = some #[(sl z0), (sl z1), (Value.slice none 0 0), (sl z2), .int .i64 z3, .int .i64 z4] := by kernel_rfl
theorem fa_85 : FnAt Try.prog 85 := ⟨_, _, Try.func85, rfl, by kernel_rfl⟩
theorem sb_35_1 (z0 : Int) (z1 : Int) (z2 : Int) (z3 : Hd) : sbuilt Try.prog 35 1 [(0, .agg #[.int .i64 z0, .int .i64 z1, .int .i64 z2, (sl z3)])] = some [.int .i64 z0, .int .i64 z1, .int .i64 z2, (sl z3)] := by kernel_rfl
theorem ak_35 : aok Try.prog 35 4 = true := by kernel_rfl
theorem fa_70 : FnAt Try.prog 70 := ⟨_, _, Try.func70, rfl, by kernel_rfl⟩
theorem ub_4 : Try.prog.underlying 4 = some .bool := by kernel_rfl
theorem fa_123 : FnAt Try.prog 123 := ⟨_, _, Try.func123, rfl, by kernel_rfl⟩
theorem fa_83 : FnAt Try.prog 83 := ⟨_, _, Try.func83, rfl, by kernel_rfl⟩
theorem fa_103 : FnAt Try.prog 103 := ⟨_, _, Try.func103, rfl, by kernel_rfl⟩
theorem sb_34_1 (z0 : Int) : sbuilt Try.prog 34 1 [(0, .int .i64 z0)] = some [.int .i64 z0] := by kernel_rfl
theorem fa_114 : FnAt Try.prog 114 := ⟨_, _, Try.func114, rfl, by kernel_rfl⟩
theorem fa_104 : FnAt Try.prog 104 := ⟨_, _, Try.func104, rfl, by kernel_rfl⟩
theorem fa_105 : FnAt Try.prog 105 := ⟨_, _, Try.func105, rfl, by kernel_rfl⟩
theorem fa_106 : FnAt Try.prog 106 := ⟨_, _, Try.func106, rfl, by kernel_rfl⟩
theorem fa_107 : FnAt Try.prog 107 := ⟨_, _, Try.func107, rfl, by kernel_rfl⟩
theorem fa_68 : FnAt Try.prog 68 := ⟨_, _, Try.func68, rfl, by kernel_rfl⟩
theorem fa_60 : FnAt Try.prog 60 := ⟨_, _, Try.func60, rfl, by kernel_rfl⟩
theorem fa_61 : FnAt Try.prog 61 := ⟨_, _, Try.func61, rfl, by kernel_rfl⟩
theorem fa_111 : FnAt Try.prog 111 := ⟨_, _, Try.func111, rfl, by kernel_rfl⟩
theorem fa_112 : FnAt Try.prog 112 := ⟨_, _, Try.func112, rfl, by kernel_rfl⟩
theorem fa_113 : FnAt Try.prog 113 := ⟨_, _, Try.func113, rfl, by kernel_rfl⟩
theorem bd_88_0_1_2 (z0 : Int) (z1 : Int) (z2 : Int) (z3 : Hd) : Try.prog.built 88 [(0, .int .i64 z0), (1, .int .i64 z1), (2, .agg #[.int .i64 z2, (sl z3)])] = some #[.int .i64 z0, .int .i64 z1, .int .i64 z2, (sl z3)] := by kernel_rfl
theorem fa_74 : FnAt Try.prog 74 := ⟨_, _, Try.func74, rfl, by kernel_rfl⟩
theorem fa_117 : FnAt Try.prog 117 := ⟨_, _, Try.func117, rfl, by kernel_rfl⟩
theorem fa_115 : FnAt Try.prog 115 := ⟨_, _, Try.func115, rfl, by kernel_rfl⟩
theorem fa_136 : FnAt Try.prog 136 := ⟨_, _, Try.func136, rfl, by kernel_rfl⟩
theorem fa_122 : FnAt Try.prog 122 := ⟨_, _, Try.func122, rfl, by kernel_rfl⟩
theorem fa_126 : FnAt Try.prog 126 := ⟨_, _, Try.func126, rfl, by kernel_rfl⟩
theorem fa_89 : FnAt Try.prog 89 := ⟨_, _, Try.func89, rfl, by kernel_rfl⟩
theorem fa_118 : FnAt Try.prog 118 := ⟨_, _, Try.func118, rfl, by kernel_rfl⟩
theorem fa_119 : FnAt Try.prog 119 := ⟨_, _, Try.func119, rfl, by kernel_rfl⟩
theorem fa_120 : FnAt Try.prog 120 := ⟨_, _, Try.func120, rfl, by kernel_rfl⟩
theorem fa_121 : FnAt Try.prog 121 := ⟨_, _, Try.func121, rfl, by kernel_rfl⟩
theorem fa_69 : FnAt Try.prog 69 := ⟨_, _, Try.func69, rfl, by kernel_rfl⟩
theorem fa_73 : FnAt Try.prog 73 := ⟨_, _, Try.func73, rfl, by kernel_rfl⟩
theorem fa_66 : FnAt Try.prog 66 := ⟨_, _, Try.func66, rfl, by kernel_rfl⟩
theorem fa_67 : FnAt Try.prog 67 := ⟨_, _, Try.func67, rfl, by kernel_rfl⟩
theorem fa_97 : FnAt Try.prog 97 := ⟨_, _, Try.func97, rfl, by kernel_rfl⟩
theorem fa_96 : FnAt Try.prog 96 := ⟨_, _, Try.func96, rfl, by kernel_rfl⟩
theorem fa_41 : FnAt Try.prog 41 := ⟨_, _, Try.func41, rfl, by kernel_rfl⟩
theorem fa_13 : FnAt Try.prog 13 := ⟨_, _, Try.func13, rfl, by kernel_rfl⟩
theorem fa_98 : FnAt Try.prog 98 := ⟨_, _, Try.func98, rfl, by kernel_rfl⟩
theorem fa_99 : FnAt Try.prog 99 := ⟨_, _, Try.func99, rfl, by kernel_rfl⟩
theorem fa_44 : FnAt Try.prog 44 := ⟨_, _, Try.func44, rfl, by kernel_rfl⟩
theorem fa_45 : FnAt Try.prog 45 := ⟨_, _, Try.func45, rfl, by kernel_rfl⟩
theorem fa_46 : FnAt Try.prog 46 := ⟨_, _, Try.func46, rfl, by kernel_rfl⟩
theorem fa_47 : FnAt Try.prog 47 := ⟨_, _, Try.func47, rfl, by kernel_rfl⟩
theorem fa_100 : FnAt Try.prog 100 := ⟨_, _, Try.func100, rfl, by kernel_rfl⟩
theorem fa_48 : FnAt Try.prog 48 := ⟨_, _, Try.func48, rfl, by kernel_rfl⟩
theorem fa_49 : FnAt Try.prog 49 := ⟨_, _, Try.func49, rfl, by kernel_rfl⟩
theorem fa_50 : FnAt Try.prog 50 := ⟨_, _, Try.func50, rfl, by kernel_rfl⟩
theorem fa_51 : FnAt Try.prog 51 := ⟨_, _, Try.func51, rfl, by kernel_rfl⟩
theorem fa_101 : FnAt Try.prog 101 := ⟨_, _, Try.func101, rfl, by kernel_rfl⟩
theorem fa_52 : FnAt Try.prog 52 := ⟨_, _, Try.func52, rfl, by kernel_rfl⟩
theorem fa_53 : FnAt Try.prog 53 := ⟨_, _, Try.func53, rfl, by kernel_rfl⟩
theorem fa_54 : FnAt Try.prog 54 := ⟨_, _, Try.func54, rfl, by kernel_rfl⟩
theorem fa_55 : FnAt Try.prog 55 := ⟨_, _, Try.func55, rfl, by kernel_rfl⟩
theorem tk_47 : tyk Try.prog 47 = some (true, 6) := by kernel_rfl
theorem fa_19 : FnAt Try.prog 19 := ⟨_, _, Try.func19, rfl, by kernel_rfl⟩
theorem fa_21 : FnAt Try.prog 21 := ⟨_, _, Try.func21, rfl, by kernel_rfl⟩
theorem fa_23 : FnAt Try.prog 23 := ⟨_, _, Try.func23, rfl, by kernel_rfl⟩
theorem fa_24 : FnAt Try.prog 24 := ⟨_, _, Try.func24, rfl, by kernel_rfl⟩
theorem fa_16 : FnAt Try.prog 16 := ⟨_, _, Try.func16, rfl, by kernel_rfl⟩
theorem fa_17 : FnAt Try.prog 17 := ⟨_, _, Try.func17, rfl, by kernel_rfl⟩
theorem fa_18 : FnAt Try.prog 18 := ⟨_, _, Try.func18, rfl, by kernel_rfl⟩
end Go.Proofs.Ytnfdinafbfggeab
