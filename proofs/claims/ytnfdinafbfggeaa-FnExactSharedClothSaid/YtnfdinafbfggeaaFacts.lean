/-
  Closed facts on this translation.
-/
import Derived.Test.YtnfdinafbfggeaaPure
import Derived.Test.YtnfdinafbfggeaaChecked
import Derived.KernelRfl
namespace Go.Proofs.Ytnfdinafbfggeaa
open Go Go.RowKit Go.Proofs

theorem mixed : Try.prog.follows .mixedOrders = true := by kernel_rfl
theorem el_22 : elo Try.prog 22 = some 2 := by kernel_rfl
theorem fo_24_2 : fldo Try.prog 24 2 = some 2 := by kernel_rfl
theorem tk_22 : tyk Try.prog 22 = some (false, 1) := by kernel_rfl
theorem fa_70 : FnAt Try.prog 70 := ⟨_, _, Try.func70, rfl, by kernel_rfl⟩
theorem el_43 : elo Try.prog 43 = some 3 := by kernel_rfl
theorem fo_45_1 : fldo Try.prog 45 1 = some 1 := by kernel_rfl
theorem tk_43 : tyk Try.prog 43 = some (false, 1) := by kernel_rfl
theorem fa_63 : FnAt Try.prog 63 := ⟨_, _, Try.func63, rfl, by kernel_rfl⟩
theorem el_25 : elo Try.prog 25 = some 2 := by kernel_rfl
theorem tk_45 : tyk Try.prog 45 = some (true, 2) := by kernel_rfl
theorem fa_23 : FnAt Try.prog 23 := ⟨_, _, Try.func23, rfl, by kernel_rfl⟩
theorem fo_27_0 : fldo Try.prog 27 0 = some 0 := by kernel_rfl
theorem tk_24 : tyk Try.prog 24 = some (true, 3) := by kernel_rfl
theorem fa_29 : FnAt Try.prog 29 := ⟨_, _, Try.func29, rfl, by kernel_rfl⟩
theorem fo_27_1 : fldo Try.prog 27 1 = some 3 := by kernel_rfl
theorem tk_25 : tyk Try.prog 25 = some (false, 1) := by kernel_rfl
theorem fa_30 : FnAt Try.prog 30 := ⟨_, _, Try.func30, rfl, by kernel_rfl⟩
theorem za_108 : (Try.prog.info? 108).map (fun i => i.zero.map (·.cells.toList)) = some (some [.int .i64 0, .int .i64 0]) := by kernel_rfl
theorem fo_116_0 : fldo Try.prog 116 0 = some 0 := by kernel_rfl
theorem tk_3 : tyk Try.prog 3 = some (false, 1) := by kernel_rfl
theorem fo_108_0 : fldo Try.prog 108 0 = some 0 := by kernel_rfl
theorem fo_116_1 : fldo Try.prog 116 1 = some 1 := by kernel_rfl
theorem fo_108_1 : fldo Try.prog 108 1 = some 1 := by kernel_rfl
theorem tk_108 : tyk Try.prog 108 = some (true, 2) := by kernel_rfl
theorem mk_31 : mkinfo Try.prog 31 = some (2, true, [.int .i64 0, .int .i64 0]) := by kernel_rfl
theorem tk_116 : tyk Try.prog 116 = some (true, 2) := by kernel_rfl
theorem fa_93 : FnAt Try.prog 93 := ⟨_, _, Try.func93, rfl, by kernel_rfl⟩
theorem el_31 : elo Try.prog 31 = some 2 := by kernel_rfl
theorem za_33 : (Try.prog.info? 33).map (fun i => i.zero.map (·.cells.toList)) = some (some [.int .i64 0, .int .i64 0, (Value.slice none 0 0)]) := by kernel_rfl
theorem fo_24_0 : fldo Try.prog 24 0 = some 0 := by kernel_rfl
theorem fo_33_0 : fldo Try.prog 33 0 = some 0 := by kernel_rfl
theorem fo_24_1 : fldo Try.prog 24 1 = some 1 := by kernel_rfl
theorem fo_33_1 : fldo Try.prog 33 1 = some 1 := by kernel_rfl
theorem fa_71 : FnAt Try.prog 71 := ⟨_, _, Try.func71, rfl, by kernel_rfl⟩
theorem fo_33_2 : fldo Try.prog 33 2 = some 2 := by kernel_rfl
theorem tk_31 : tyk Try.prog 31 = some (false, 1) := by kernel_rfl
theorem tk_33 : tyk Try.prog 33 = some (true, 3) := by kernel_rfl
theorem za_83 : (Try.prog.info? 83).map (fun i => i.zero.map (·.cells.toList)) = some (some [.int .i64 0, .int .i64 0, .int .i64 0]) := by kernel_rfl
theorem fo_113_0 : fldo Try.prog 113 0 = some 0 := by kernel_rfl
theorem fo_83_0 : fldo Try.prog 83 0 = some 0 := by kernel_rfl
theorem fo_113_1 : fldo Try.prog 113 1 = some 1 := by kernel_rfl
theorem fo_83_1 : fldo Try.prog 83 1 = some 1 := by kernel_rfl
theorem fo_113_2 : fldo Try.prog 113 2 = some 2 := by kernel_rfl
theorem fo_83_2 : fldo Try.prog 83 2 = some 2 := by kernel_rfl
theorem tk_83 : tyk Try.prog 83 = some (true, 3) := by kernel_rfl
theorem mk_50 : mkinfo Try.prog 50 = some (3, true, [.int .i64 0, .int .i64 0, .int .i64 0]) := by kernel_rfl
theorem tk_113 : tyk Try.prog 113 = some (true, 3) := by kernel_rfl
theorem fa_91 : FnAt Try.prog 91 := ⟨_, _, Try.func91, rfl, by kernel_rfl⟩
theorem el_50 : elo Try.prog 50 = some 3 := by kernel_rfl
theorem za_52 : (Try.prog.info? 52).map (fun i => i.zero.map (·.cells.toList)) = some (some [.int .i64 0, (Value.slice none 0 0)]) := by kernel_rfl
theorem fo_45_0 : fldo Try.prog 45 0 = some 0 := by kernel_rfl
theorem fo_52_0 : fldo Try.prog 52 0 = some 0 := by kernel_rfl
theorem fa_65 : FnAt Try.prog 65 := ⟨_, _, Try.func65, rfl, by kernel_rfl⟩
theorem fo_52_1 : fldo Try.prog 52 1 = some 1 := by kernel_rfl
theorem tk_50 : tyk Try.prog 50 = some (false, 1) := by kernel_rfl
theorem tk_52 : tyk Try.prog 52 = some (true, 2) := by kernel_rfl
theorem mk_34 : mkinfo Try.prog 34 = some (2, true, [.int .i64 0, (Value.slice none 0 0)]) := by kernel_rfl
theorem fa_25 : FnAt Try.prog 25 := ⟨_, _, Try.func25, rfl, by kernel_rfl⟩
theorem el_34 : elo Try.prog 34 = some 2 := by kernel_rfl
theorem za_36 : (Try.prog.info? 36).map (fun i => i.zero.map (·.cells.toList)) = some (some [.int .i64 0, .int .i64 0, (Value.slice none 0 0), (Value.slice none 0 0), .int .i64 0]) := by kernel_rfl
theorem fa_32 : FnAt Try.prog 32 := ⟨_, _, Try.func32, rfl, by kernel_rfl⟩
theorem fo_36_0 : fldo Try.prog 36 0 = some 0 := by kernel_rfl
theorem fa_33 : FnAt Try.prog 33 := ⟨_, _, Try.func33, rfl, by kernel_rfl⟩
theorem fo_36_1 : fldo Try.prog 36 1 = some 3 := by kernel_rfl
theorem tk_34 : tyk Try.prog 34 = some (false, 1) := by kernel_rfl
theorem fo_27_2 : fldo Try.prog 27 2 = some 4 := by kernel_rfl
theorem fo_36_2 : fldo Try.prog 36 2 = some 4 := by kernel_rfl
theorem tk_36 : tyk Try.prog 36 = some (true, 5) := by kernel_rfl
theorem fa_79 : FnAt Try.prog 79 := ⟨_, _, Try.func79, rfl, by kernel_rfl⟩
theorem ub_4 : Try.prog.underlying 4 = some .bool := by kernel_rfl
theorem fa_90 : FnAt Try.prog 90 := ⟨_, _, Try.func90, rfl, by kernel_rfl⟩
theorem fa_64 : FnAt Try.prog 64 := ⟨_, _, Try.func64, rfl, by kernel_rfl⟩
theorem fa_74 : FnAt Try.prog 74 := ⟨_, _, Try.func74, rfl, by kernel_rfl⟩
theorem sb_29_0 : sbuilt Try.prog 29 0 [] = some [] := by kernel_rfl
theorem mk_29 : mkinfo Try.prog 29 = some (1, true, [.int .i64 0]) := by kernel_rfl
theorem el_29 : elo Try.prog 29 = some 1 := by kernel_rfl
theorem fa_46 : FnAt Try.prog 46 := ⟨_, _, Try.func46, rfl, by kernel_rfl⟩
theorem fa_47 : FnAt Try.prog 47 := ⟨_, _, Try.func47, rfl, by kernel_rfl⟩
theorem fa_48 : FnAt Try.prog 48 := ⟨_, _, Try.func48, rfl, by kernel_rfl⟩
theorem fa_49 : FnAt Try.prog 49 := ⟨_, _, Try.func49, rfl, by kernel_rfl⟩
theorem sb_29_1 (z0 : Int) : sbuilt Try.prog 29 1 [(0, .int .i64 z0)] = some [.int .i64 z0] := by kernel_rfl
theorem ak_29 : aok Try.prog 29 1 = true := by kernel_rfl
theorem fa_10 : FnAt Try.prog 10 := ⟨_, _, Try.func10, rfl, by kernel_rfl⟩
theorem fa_80 : FnAt Try.prog 80 := ⟨_, _, Try.func80, rfl, by kernel_rfl⟩
theorem fa_120 : FnAt Try.prog 120 := ⟨_, _, Try.func120, rfl, by kernel_rfl⟩
theorem fa_106 : FnAt Try.prog 106 := ⟨_, _, Try.func106, rfl, by kernel_rfl⟩
theorem fa_94 : FnAt Try.prog 94 := ⟨_, _, Try.func94, rfl, by kernel_rfl⟩
theorem fa_87 : FnAt Try.prog 87 := ⟨_, _, Try.func87, rfl, by kernel_rfl⟩
theorem fa_72 : FnAt Try.prog 72 := ⟨_, _, Try.func72, rfl, by kernel_rfl⟩
theorem sb_50_0 : sbuilt Try.prog 50 0 [] = some [] := by kernel_rfl
theorem ak_50 : aok Try.prog 50 3 = true := by kernel_rfl
theorem bd_52_0_1 (z0 : Int) (z1 : Hd) : Try.prog.built 52 [(0, .int .i64 z0), (1, (sl z1))] = some #[.int .i64 z0, (sl z1)] := by kernel_rfl
theorem fa_123 : FnAt Try.prog 123 := ⟨_, _, Try.func123, rfl, by kernel_rfl⟩
theorem bd_83 : Try.prog.built 83 [] = some #[.int .i64 0, .int .i64 0, .int .i64 0] := by kernel_rfl
theorem bd_83_0_1_2 (z0 : Int) (z1 : Int) (z2 : Int) : Try.prog.built 83 [(0, .int .i64 z0), (1, .int .i64 z1), (2, .int .i64 z2)] = some #[.int .i64 z0, .int .i64 z1, .int .i64 z2] := by kernel_rfl
theorem fa_111 : FnAt Try.prog 111 := ⟨_, _, Try.func111, rfl, by kernel_rfl⟩
theorem fa_116 : FnAt Try.prog 116 := ⟨_, _, Try.func116, rfl, by kernel_rfl⟩
theorem bd_52_0 (z0 : Int) : Try.prog.built 52 [(0, .int .i64 z0)] = some #[.int .i64 z0, (Value.slice none 0 0)] := by kernel_rfl
theorem sb_50_1 (z0 : Int) (z1 : Int) (z2 : Int) : sbuilt Try.prog 50 1 [(0, .agg #[.int .i64 z0, .int .i64 z1, .int .i64 z2])] = some [.int .i64 z0, .int .i64 z1, .int .i64 z2] := by kernel_rfl
theorem bd_52 : Try.prog.built 52 [] = some #[.int .i64 0, (Value.slice none 0 0)] := by kernel_rfl
theorem fa_115 : FnAt Try.prog 115 := ⟨_, _, Try.func115, rfl, by kernel_rfl⟩
theorem fa_108 : FnAt Try.prog 108 := ⟨_, _, Try.func108, rfl, by kernel_rfl⟩
theorem fa_118 : FnAt Try.prog 118 := ⟨_, _, Try.func118, rfl, by kernel_rfl⟩
theorem fa_117 : FnAt Try.prog 117 := ⟨_, _, Try.func117, rfl, by kernel_rfl⟩
theorem fa_99 : FnAt Try.prog 99 := ⟨_, _, Try.func99, rfl, by kernel_rfl⟩
theorem fa_100 : FnAt Try.prog 100 := ⟨_, _, Try.func100, rfl, by kernel_rfl⟩
theorem fa_101 : FnAt Try.prog 101 := ⟨_, _, Try.func101, rfl, by kernel_rfl⟩
theorem sb_34_0 : sbuilt Try.prog 34 0 [] = some [] := by kernel_rfl
theorem fa_81 : FnAt Try.prog 81 := ⟨_, _, Try.func81, rfl, by kernel_rfl⟩
theorem sb_34_1 (z0 : Int) (z1 : Hd) : sbuilt Try.prog 34 1 [(0, .agg #[.int .i64 z0, (sl z1)])] = some [.int .i64 z0, (sl z1)] := by kernel_rfl
theorem ak_34 : aok Try.prog 34 2 = true := by kernel_rfl
theorem fa_50 : FnAt Try.prog 50 := ⟨_, _, Try.func50, rfl, by kernel_rfl⟩
theorem fa_51 : FnAt Try.prog 51 := ⟨_, _, Try.func51, rfl, by kernel_rfl⟩
theorem fa_52 : FnAt Try.prog 52 := ⟨_, _, Try.func52, rfl, by kernel_rfl⟩
theorem fa_53 : FnAt Try.prog 53 := ⟨_, _, Try.func53, rfl, by kernel_rfl⟩
theorem fa_54 : FnAt Try.prog 54 := ⟨_, _, Try.func54, rfl, by kernel_rfl⟩
theorem fa_12 : FnAt Try.prog 12 := ⟨_, _, Try.func12, rfl, by kernel_rfl⟩
theorem fa_95 : FnAt Try.prog 95 := ⟨_, _, Try.func95, rfl, by kernel_rfl⟩
theorem fa_73 : FnAt Try.prog 73 := ⟨_, _, Try.func73, rfl, by kernel_rfl⟩
theorem fa_92 : FnAt Try.prog 92 := ⟨_, _, Try.func92, rfl, by kernel_rfl⟩
theorem fa_68 : FnAt Try.prog 68 := ⟨_, _, Try.func68, rfl, by kernel_rfl⟩
theorem fa_27 : FnAt Try.prog 27 := ⟨_, _, Try.func27, rfl, by kernel_rfl⟩
theorem fa_35 : FnAt Try.prog 35 := ⟨_, _, Try.func35, rfl, by kernel_rfl⟩
theorem fa_36 : FnAt Try.prog 36 := ⟨_, _, Try.func36, rfl, by kernel_rfl⟩
theorem fa_78 : FnAt Try.prog 78 := ⟨_, _, Try.func78, rfl, by kernel_rfl⟩
theorem fa_69 : FnAt Try.prog 69 := ⟨_, _, Try.func69, rfl, by kernel_rfl⟩
theorem fa_42 : FnAt Try.prog 42 := ⟨_, _, Try.func42, rfl, by kernel_rfl⟩
theorem fa_43 : FnAt Try.prog 43 := ⟨_, _, Try.func43, rfl, by kernel_rfl⟩
theorem tk_27 : tyk Try.prog 27 = some (true, 5) := by kernel_rfl
theorem fa_9 : FnAt Try.prog 9 := ⟨_, _, Try.func9, rfl, by kernel_rfl⟩
theorem fa_11 : FnAt Try.prog 11 := ⟨_, _, Try.func11, rfl, by kernel_rfl⟩
theorem fa_37 : FnAt Try.prog 37 := ⟨_, _, Try.func37, rfl, by kernel_rfl⟩
theorem fa_38 : FnAt Try.prog 38 := ⟨_, _, Try.func38, rfl, by kernel_rfl⟩
theorem fa_13 : FnAt Try.prog 13 := ⟨_, _, Try.func13, rfl, by kernel_rfl⟩
theorem fa_14 : FnAt Try.prog 14 := ⟨_, _, Try.func14, rfl, by kernel_rfl⟩
theorem fa_15 : FnAt Try.prog 15 := ⟨_, _, Try.func15, rfl, by kernel_rfl⟩
theorem fa_16 : FnAt Try.prog 16 := ⟨_, _, Try.func16, rfl, by kernel_rfl⟩
theorem fa_17 : FnAt Try.prog 17 := ⟨_, _, Try.func17, rfl, by kernel_rfl⟩
end Go.Proofs.Ytnfdinafbfggeaa
