/-
  Closed facts on this translation.
-/
import Derived.Test.YtnfdinafbfggeabPure
import Derived.Test.YtnfdinafbfggeabChecked
import Derived.KernelRfl
namespace Go.Proofs.Ytnfdinafbfggeab
open Go Go.RowKit Go.Proofs

theorem mixed : Try.prog.follows .mixedOrders = true := by kernel_rfl
theorem el_33 : elo Try.prog 33 = some 3 := by kernel_rfl
theorem tk_113 : tyk Try.prog 113 = some (true, 3) := by kernel_rfl
theorem za_113 : (Try.prog.info? 113).map (fun i => i.zero.map (·.cells.toList)) = some (some [.int .i64 0, .int .i64 0, .int .i64 0]) := by kernel_rfl
theorem fo_113_0 : fldo Try.prog 113 0 = some 0 := by kernel_rfl
theorem tk_3 : tyk Try.prog 3 = some (false, 1) := by kernel_rfl
theorem fa_70 : FnAt Try.prog 70 := ⟨_, _, Try.func70, rfl, by kernel_rfl⟩
theorem fo_113_1 : fldo Try.prog 113 1 = some 1 := by kernel_rfl
theorem fo_113_2 : fldo Try.prog 113 2 = some 2 := by kernel_rfl
theorem el_34 : elo Try.prog 34 = some 1 := by kernel_rfl
theorem el_36 : elo Try.prog 36 = some 4 := by kernel_rfl
theorem tk_92 : tyk Try.prog 92 = some (true, 4) := by kernel_rfl
theorem za_92 : (Try.prog.info? 92).map (fun i => i.zero.map (·.cells.toList)) = some (some [.int .i64 0, .int .i64 0, .int .i64 0, .int .i64 0]) := by kernel_rfl
theorem fo_92_0 : fldo Try.prog 92 0 = some 0 := by kernel_rfl
theorem fo_92_1 : fldo Try.prog 92 1 = some 1 := by kernel_rfl
theorem fo_92_2 : fldo Try.prog 92 2 = some 2 := by kernel_rfl
theorem fo_92_3 : fldo Try.prog 92 3 = some 3 := by kernel_rfl
theorem fo_99_0 : fldo Try.prog 99 0 = some 0 := by kernel_rfl
theorem fo_99_1 : fldo Try.prog 99 1 = some 1 := by kernel_rfl
theorem fo_99_2 : fldo Try.prog 99 2 = some 2 := by kernel_rfl
theorem ub_4 : Try.prog.underlying 4 = some .bool := by kernel_rfl
theorem fo_29_0 : fldo Try.prog 29 0 = some 0 := by kernel_rfl
theorem fo_29_1 : fldo Try.prog 29 1 = some 1 := by kernel_rfl
theorem tk_27 : tyk Try.prog 27 = some (false, 1) := by kernel_rfl
theorem el_27 : elo Try.prog 27 = some 3 := by kernel_rfl
theorem tk_99 : tyk Try.prog 99 = some (true, 3) := by kernel_rfl
theorem fa_123 : FnAt Try.prog 123 := ⟨_, _, Try.func123, rfl, by kernel_rfl⟩
theorem fo_88_0 : fldo Try.prog 88 0 = some 0 := by kernel_rfl
theorem fo_88_1 : fldo Try.prog 88 1 = some 1 := by kernel_rfl
theorem fo_88_2 : fldo Try.prog 88 2 = some 2 := by kernel_rfl
theorem tk_29 : tyk Try.prog 29 = some (true, 2) := by kernel_rfl
theorem fa_83 : FnAt Try.prog 83 := ⟨_, _, Try.func83, rfl, by kernel_rfl⟩
theorem sb_34_0 : sbuilt Try.prog 34 0 [] = some [] := by kernel_rfl
theorem fa_103 : FnAt Try.prog 103 := ⟨_, _, Try.func103, rfl, by kernel_rfl⟩
theorem sb_34_1 (z0 : Int) : sbuilt Try.prog 34 1 [(0, .int .i64 z0)] = some [.int .i64 z0] := by kernel_rfl
theorem ak_34 : aok Try.prog 34 1 = true := by kernel_rfl
theorem fo_38_0 : fldo Try.prog 38 0 = some 0 := by kernel_rfl
theorem tk_33 : tyk Try.prog 33 = some (false, 1) := by kernel_rfl
theorem fo_38_5 : fldo Try.prog 38 5 = some 5 := by kernel_rfl
theorem fa_114 : FnAt Try.prog 114 := ⟨_, _, Try.func114, rfl, by kernel_rfl⟩
theorem fo_38_1 : fldo Try.prog 38 1 = some 1 := by kernel_rfl
theorem tk_34 : tyk Try.prog 34 = some (false, 1) := by kernel_rfl
theorem fa_104 : FnAt Try.prog 104 := ⟨_, _, Try.func104, rfl, by kernel_rfl⟩
theorem fo_38_3 : fldo Try.prog 38 3 = some 3 := by kernel_rfl
theorem tk_36 : tyk Try.prog 36 = some (false, 1) := by kernel_rfl
theorem fa_105 : FnAt Try.prog 105 := ⟨_, _, Try.func105, rfl, by kernel_rfl⟩
theorem fo_38_2 : fldo Try.prog 38 2 = some 2 := by kernel_rfl
theorem tk_35 : tyk Try.prog 35 = some (false, 1) := by kernel_rfl
theorem el_35 : elo Try.prog 35 = some 4 := by kernel_rfl
theorem tk_88 : tyk Try.prog 88 = some (true, 4) := by kernel_rfl
theorem za_88 : (Try.prog.info? 88).map (fun i => i.zero.map (·.cells.toList)) = some (some [.int .i64 0, .int .i64 0, .int .i64 0, (Value.slice none 0 0)]) := by kernel_rfl
theorem fa_106 : FnAt Try.prog 106 := ⟨_, _, Try.func106, rfl, by kernel_rfl⟩
theorem fa_107 : FnAt Try.prog 107 := ⟨_, _, Try.func107, rfl, by kernel_rfl⟩
theorem fo_38_4 : fldo Try.prog 38 4 = some 4 := by kernel_rfl
theorem tk_38 : tyk Try.prog 38 = some (true, 6) := by kernel_rfl
theorem fa_68 : FnAt Try.prog 68 := ⟨_, _, Try.func68, rfl, by kernel_rfl⟩
theorem za_38 : (Try.prog.info? 38).map (fun i => i.zero.map (·.cells.toList)) = some (some [(Value.slice none 0 0), (Value.slice none 0 0), (Value.slice none 0 0), (Value.slice none 0 0), .int .i64 0, .int .i64 0]) := by kernel_rfl
theorem bd_38_5 (z0 : Int) : Try.prog.built 38 [(5, .int .i64 z0)] = some #[(Value.slice none 0 0), (Value.slice none 0 0), (Value.slice none 0 0), (Value.slice none 0 0), .int .i64 0, .int .i64 z0] := by kernel_rfl
theorem fa_61 : FnAt Try.prog 61 := ⟨_, _, Try.func61, rfl, by kernel_rfl⟩
theorem bd_38 : Try.prog.built 38 [] = some #[(Value.slice none 0 0), (Value.slice none 0 0), (Value.slice none 0 0), (Value.slice none 0 0), .int .i64 0, .int .i64 0] := by kernel_rfl
theorem za_29 : (Try.prog.info? 29).map (fun i => i.zero.map (·.cells.toList)) = some (some [.int .i64 0, (Value.slice none 0 0)]) := by kernel_rfl
theorem sb_27_0 : sbuilt Try.prog 27 0 [] = some [] := by kernel_rfl
theorem ak_27 : aok Try.prog 27 3 = true := by kernel_rfl
theorem bd_29_0_1 (z0 : Int) (z1 : Hd) : Try.prog.built 29 [(0, .int .i64 z0), (1, (sl z1))] = some #[.int .i64 z0, (sl z1)] := by kernel_rfl
theorem sb_33_0 : sbuilt Try.prog 33 0 [] = some [] := by kernel_rfl
theorem ak_33 : aok Try.prog 33 3 = true := by kernel_rfl
theorem sb_36_0 : sbuilt Try.prog 36 0 [] = some [] := by kernel_rfl
theorem ak_36 : aok Try.prog 36 4 = true := by kernel_rfl
theorem bd_38_0_1_3_4_5 (z0 : Hd) (z1 : Hd) (z2 : Hd) (z3 : Int) (z4 : Int) : Try.prog.built 38 [(0, (sl z0)), (1, (sl z1)), (3, (sl z2)), (4, .int .i64 z3), (5, .int .i64 z4)] = some #[(sl z0), (sl z1), (Value.slice none 0 0), (sl z2), .int .i64 z3, .int .i64 z4] := by kernel_rfl
theorem fa_85 : FnAt Try.prog 85 := ⟨_, _, Try.func85, rfl, by kernel_rfl⟩
theorem sb_35_1 (z0 : Int) (z1 : Int) (z2 : Int) (z3 : Hd) : sbuilt Try.prog 35 1 [(0, .agg #[.int .i64 z0, .int .i64 z1, .int .i64 z2, (sl z3)])] = some [.int .i64 z0, .int .i64 z1, .int .i64 z2, (sl z3)] := by kernel_rfl
theorem ak_35 : aok Try.prog 35 4 = true := by kernel_rfl
theorem bd_113_0_1_2 (z0 : Int) (z1 : Int) (z2 : Int) : Try.prog.built 113 [(0, .int .i64 z0), (1, .int .i64 z1), (2, .int .i64 z2)] = some #[.int .i64 z0, .int .i64 z1, .int .i64 z2] := by kernel_rfl
theorem sb_33_1 (z0 : Int) (z1 : Int) (z2 : Int) : sbuilt Try.prog 33 1 [(0, .agg #[.int .i64 z0, .int .i64 z1, .int .i64 z2])] = some [.int .i64 z0, .int .i64 z1, .int .i64 z2] := by kernel_rfl
theorem sb_36_1 (z0 : Int) (z1 : Int) (z2 : Int) (z3 : Int) : sbuilt Try.prog 36 1 [(0, .agg #[.int .i64 z0, .int .i64 z1, .int .i64 z2, .int .i64 z3])] = some [.int .i64 z0, .int .i64 z1, .int .i64 z2, .int .i64 z3] := by kernel_rfl
theorem fa_60 : FnAt Try.prog 60 := ⟨_, _, Try.func60, rfl, by kernel_rfl⟩
theorem fa_77 : FnAt Try.prog 77 := ⟨_, _, Try.func77, rfl, by kernel_rfl⟩
theorem fa_78 : FnAt Try.prog 78 := ⟨_, _, Try.func78, rfl, by kernel_rfl⟩
theorem bd_92_0_1_2_3 (z0 : Int) (z1 : Int) (z2 : Int) (z3 : Int) : Try.prog.built 92 [(0, .int .i64 z0), (1, .int .i64 z1), (2, .int .i64 z2), (3, .int .i64 z3)] = some #[.int .i64 z0, .int .i64 z1, .int .i64 z2, .int .i64 z3] := by kernel_rfl
theorem fa_79 : FnAt Try.prog 79 := ⟨_, _, Try.func79, rfl, by kernel_rfl⟩
theorem fa_42 : FnAt Try.prog 42 := ⟨_, _, Try.func42, rfl, by kernel_rfl⟩
theorem fa_27 : FnAt Try.prog 27 := ⟨_, _, Try.func27, rfl, by kernel_rfl⟩
theorem fa_74 : FnAt Try.prog 74 := ⟨_, _, Try.func74, rfl, by kernel_rfl⟩
theorem fa_136 : FnAt Try.prog 136 := ⟨_, _, Try.func136, rfl, by kernel_rfl⟩
theorem fa_122 : FnAt Try.prog 122 := ⟨_, _, Try.func122, rfl, by kernel_rfl⟩
theorem za_99 : (Try.prog.info? 99).map (fun i => i.zero.map (·.cells.toList)) = some (some [.int .i64 0, .int .i64 0, .int .i64 0]) := by kernel_rfl
theorem fa_126 : FnAt Try.prog 126 := ⟨_, _, Try.func126, rfl, by kernel_rfl⟩
theorem fa_89 : FnAt Try.prog 89 := ⟨_, _, Try.func89, rfl, by kernel_rfl⟩
theorem fa_117 : FnAt Try.prog 117 := ⟨_, _, Try.func117, rfl, by kernel_rfl⟩
theorem fa_115 : FnAt Try.prog 115 := ⟨_, _, Try.func115, rfl, by kernel_rfl⟩
theorem fa_118 : FnAt Try.prog 118 := ⟨_, _, Try.func118, rfl, by kernel_rfl⟩
theorem fa_119 : FnAt Try.prog 119 := ⟨_, _, Try.func119, rfl, by kernel_rfl⟩
theorem fa_120 : FnAt Try.prog 120 := ⟨_, _, Try.func120, rfl, by kernel_rfl⟩
theorem fa_121 : FnAt Try.prog 121 := ⟨_, _, Try.func121, rfl, by kernel_rfl⟩
theorem fa_69 : FnAt Try.prog 69 := ⟨_, _, Try.func69, rfl, by kernel_rfl⟩
theorem sb_34_6 (z0 : Int) (z1 : Int) (z2 : Int) (z3 : Int) (z4 : Int) (z5 : Int) : sbuilt Try.prog 34 6 [(0, .int .i64 z0), (1, .int .i64 z1), (2, .int .i64 z2), (3, .int .i64 z3), (4, .int .i64 z4), (5, .int .i64 z5)] = some [.int .i64 z0, .int .i64 z1, .int .i64 z2, .int .i64 z3, .int .i64 z4, .int .i64 z5] := by kernel_rfl
theorem bd_38_1_5 (z0 : Hd) (z1 : Int) : Try.prog.built 38 [(1, (sl z0)), (5, .int .i64 z1)] = some #[(Value.slice none 0 0), (sl z0), (Value.slice none 0 0), (Value.slice none 0 0), .int .i64 0, .int .i64 z1] := by kernel_rfl
theorem fa_73 : FnAt Try.prog 73 := ⟨_, _, Try.func73, rfl, by kernel_rfl⟩
theorem fa_111 : FnAt Try.prog 111 := ⟨_, _, Try.func111, rfl, by kernel_rfl⟩
theorem fa_112 : FnAt Try.prog 112 := ⟨_, _, Try.func112, rfl, by kernel_rfl⟩
theorem fa_113 : FnAt Try.prog 113 := ⟨_, _, Try.func113, rfl, by kernel_rfl⟩
theorem bd_88_0_1_2 (z0 : Int) (z1 : Int) (z2 : Int) (z3 : Hd) : Try.prog.built 88 [(0, .int .i64 z0), (1, .int .i64 z1), (2, .agg #[.int .i64 z2, (sl z3)])] = some #[.int .i64 z0, .int .i64 z1, .int .i64 z2, (sl z3)] := by kernel_rfl
theorem fa_66 : FnAt Try.prog 66 := ⟨_, _, Try.func66, rfl, by kernel_rfl⟩
theorem fa_80 : FnAt Try.prog 80 := ⟨_, _, Try.func80, rfl, by kernel_rfl⟩
theorem fa_81 : FnAt Try.prog 81 := ⟨_, _, Try.func81, rfl, by kernel_rfl⟩
theorem fa_82 : FnAt Try.prog 82 := ⟨_, _, Try.func82, rfl, by kernel_rfl⟩
theorem fa_67 : FnAt Try.prog 67 := ⟨_, _, Try.func67, rfl, by kernel_rfl⟩
theorem fa_43 : FnAt Try.prog 43 := ⟨_, _, Try.func43, rfl, by kernel_rfl⟩
theorem fa_28 : FnAt Try.prog 28 := ⟨_, _, Try.func28, rfl, by kernel_rfl⟩
theorem fa_97 : FnAt Try.prog 97 := ⟨_, _, Try.func97, rfl, by kernel_rfl⟩
theorem fa_96 : FnAt Try.prog 96 := ⟨_, _, Try.func96, rfl, by kernel_rfl⟩
theorem fa_41 : FnAt Try.prog 41 := ⟨_, _, Try.func41, rfl, by kernel_rfl⟩
theorem fa_13 : FnAt Try.prog 13 := ⟨_, _, Try.func13, rfl, by kernel_rfl⟩
theorem fa_98 : FnAt Try.prog 98 := ⟨_, _, Try.func98, rfl, by kernel_rfl⟩
theorem fa_99 : FnAt Try.prog 99 := ⟨_, _, Try.func99, rfl, by kernel_rfl⟩
theorem fa_44 : FnAt Try.prog 44 := ⟨_, _, Try.func44, rfl, by kernel_rfl⟩
theorem fa_45 : FnAt Try.prog 45 := ⟨_, _, Try.func45, rfl, by kernel_rfl⟩
theorem fa_46 : FnAt Try.prog 46 := ⟨_, _, Try.func46, rfl, by kernel_rfl⟩
theorem fa_47 : FnAt Try.prog 47 := ⟨_, _, Try.func47, rfl, by kernel_rfl⟩
theorem fa_100 : FnAt Try.prog 100 := ⟨_, _, Try.func100, rfl, by kernel_rfl⟩
theorem fa_48 : FnAt Try.prog 48 := ⟨_, _, Try.func48, rfl, by kernel_rfl⟩
theorem fa_49 : FnAt Try.prog 49 := ⟨_, _, Try.func49, rfl, by kernel_rfl⟩
theorem fa_50 : FnAt Try.prog 50 := ⟨_, _, Try.func50, rfl, by kernel_rfl⟩
theorem fa_51 : FnAt Try.prog 51 := ⟨_, _, Try.func51, rfl, by kernel_rfl⟩
theorem fa_101 : FnAt Try.prog 101 := ⟨_, _, Try.func101, rfl, by kernel_rfl⟩
theorem fa_52 : FnAt Try.prog 52 := ⟨_, _, Try.func52, rfl, by kernel_rfl⟩
theorem fa_53 : FnAt Try.prog 53 := ⟨_, _, Try.func53, rfl, by kernel_rfl⟩
theorem fa_54 : FnAt Try.prog 54 := ⟨_, _, Try.func54, rfl, by kernel_rfl⟩
theorem fa_55 : FnAt Try.prog 55 := ⟨_, _, Try.func55, rfl, by kernel_rfl⟩
theorem fa_14 : FnAt Try.prog 14 := ⟨_, _, Try.func14, rfl, by kernel_rfl⟩
theorem fa_15 : FnAt Try.prog 15 := ⟨_, _, Try.func15, rfl, by kernel_rfl⟩
theorem fa_16 : FnAt Try.prog 16 := ⟨_, _, Try.func16, rfl, by kernel_rfl⟩
theorem fa_17 : FnAt Try.prog 17 := ⟨_, _, Try.func17, rfl, by kernel_rfl⟩
theorem fa_18 : FnAt Try.prog 18 := ⟨_, _, Try.func18, rfl, by kernel_rfl⟩
end Go.Proofs.Ytnfdinafbfggeab
