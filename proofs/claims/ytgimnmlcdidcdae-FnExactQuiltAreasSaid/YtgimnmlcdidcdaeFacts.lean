/-
  Closed facts on this translation.
-/
import Derived.Test.YtgimnmlcdidcdaePure
import Derived.Test.YtgimnmlcdidcdaeChecked
import Derived.KernelRfl
namespace Go.Proofs.Ytgimnmlcdidcdae
open Go Go.RowKit Go.Proofs

theorem mixed : Try.prog.follows .mixedOrders = true := by kernel_rfl
theorem el_22 : elo Try.prog 22 = some 2 := by kernel_rfl
theorem fo_24_2 : fldo Try.prog 24 2 = some 2 := by kernel_rfl
theorem tk_22 : tyk Try.prog 22 = some (false, 1) := by kernel_rfl
theorem fa_17 : FnAt Try.prog 17 := ⟨_, _, Try.func17, rfl, by kernel_rfl⟩
theorem el_45 : elo Try.prog 45 = some 3 := by kernel_rfl
theorem fo_47_1 : fldo Try.prog 47 1 = some 1 := by kernel_rfl
theorem tk_45 : tyk Try.prog 45 = some (false, 1) := by kernel_rfl
theorem fa_30 : FnAt Try.prog 30 := ⟨_, _, Try.func30, rfl, by kernel_rfl⟩
theorem el_25 : elo Try.prog 25 = some 2 := by kernel_rfl
theorem tk_47 : tyk Try.prog 47 = some (true, 2) := by kernel_rfl
theorem fa_18 : FnAt Try.prog 18 := ⟨_, _, Try.func18, rfl, by kernel_rfl⟩
theorem za_62 : (Try.prog.info? 62).map (fun i => i.zero.map (·.cells.toList)) = some (some [.int .i64 0, .int .i64 0]) := by kernel_rfl
theorem fo_68_0 : fldo Try.prog 68 0 = some 0 := by kernel_rfl
theorem tk_3 : tyk Try.prog 3 = some (false, 1) := by kernel_rfl
theorem fo_62_0 : fldo Try.prog 62 0 = some 0 := by kernel_rfl
theorem fo_68_1 : fldo Try.prog 68 1 = some 1 := by kernel_rfl
theorem fo_62_1 : fldo Try.prog 62 1 = some 1 := by kernel_rfl
theorem tk_62 : tyk Try.prog 62 = some (true, 2) := by kernel_rfl
theorem mk_30 : mkinfo Try.prog 30 = some (2, true, [.int .i64 0, .int .i64 0]) := by kernel_rfl
theorem tk_68 : tyk Try.prog 68 = some (true, 2) := by kernel_rfl
theorem fa_34 : FnAt Try.prog 34 := ⟨_, _, Try.func34, rfl, by kernel_rfl⟩
theorem el_30 : elo Try.prog 30 = some 2 := by kernel_rfl
theorem za_32 : (Try.prog.info? 32).map (fun i => i.zero.map (·.cells.toList)) = some (some [.int .i64 0, .int .i64 0, (Value.slice none 0 0)]) := by kernel_rfl
theorem fo_24_0 : fldo Try.prog 24 0 = some 0 := by kernel_rfl
theorem fo_32_0 : fldo Try.prog 32 0 = some 0 := by kernel_rfl
theorem fo_24_1 : fldo Try.prog 24 1 = some 1 := by kernel_rfl
theorem fo_32_1 : fldo Try.prog 32 1 = some 1 := by kernel_rfl
theorem fa_21 : FnAt Try.prog 21 := ⟨_, _, Try.func21, rfl, by kernel_rfl⟩
theorem fo_32_2 : fldo Try.prog 32 2 = some 2 := by kernel_rfl
theorem tk_30 : tyk Try.prog 30 = some (false, 1) := by kernel_rfl
theorem tk_32 : tyk Try.prog 32 = some (true, 3) := by kernel_rfl
theorem za_66 : (Try.prog.info? 66).map (fun i => i.zero.map (·.cells.toList)) = some (some [.int .i64 0, .int .i64 0, .int .i64 0]) := by kernel_rfl
theorem fo_77_0 : fldo Try.prog 77 0 = some 0 := by kernel_rfl
theorem fo_66_0 : fldo Try.prog 66 0 = some 0 := by kernel_rfl
theorem fo_77_1 : fldo Try.prog 77 1 = some 1 := by kernel_rfl
theorem fo_66_1 : fldo Try.prog 66 1 = some 1 := by kernel_rfl
theorem fo_77_2 : fldo Try.prog 77 2 = some 2 := by kernel_rfl
theorem fo_66_2 : fldo Try.prog 66 2 = some 2 := by kernel_rfl
theorem tk_66 : tyk Try.prog 66 = some (true, 3) := by kernel_rfl
theorem mk_49 : mkinfo Try.prog 49 = some (3, true, [.int .i64 0, .int .i64 0, .int .i64 0]) := by kernel_rfl
theorem tk_77 : tyk Try.prog 77 = some (true, 3) := by kernel_rfl
theorem fa_45 : FnAt Try.prog 45 := ⟨_, _, Try.func45, rfl, by kernel_rfl⟩
theorem el_49 : elo Try.prog 49 = some 3 := by kernel_rfl
theorem za_51 : (Try.prog.info? 51).map (fun i => i.zero.map (·.cells.toList)) = some (some [.int .i64 0, (Value.slice none 0 0)]) := by kernel_rfl
theorem fo_47_0 : fldo Try.prog 47 0 = some 0 := by kernel_rfl
theorem fo_51_0 : fldo Try.prog 51 0 = some 0 := by kernel_rfl
theorem fa_35 : FnAt Try.prog 35 := ⟨_, _, Try.func35, rfl, by kernel_rfl⟩
theorem fo_51_1 : fldo Try.prog 51 1 = some 1 := by kernel_rfl
theorem tk_49 : tyk Try.prog 49 = some (false, 1) := by kernel_rfl
theorem tk_51 : tyk Try.prog 51 = some (true, 2) := by kernel_rfl
theorem mk_34 : mkinfo Try.prog 34 = some (2, true, [.int .i64 0, (Value.slice none 0 0)]) := by kernel_rfl
theorem fa_22 : FnAt Try.prog 22 := ⟨_, _, Try.func22, rfl, by kernel_rfl⟩
theorem el_34 : elo Try.prog 34 = some 2 := by kernel_rfl
theorem fa_43 : FnAt Try.prog 43 := ⟨_, _, Try.func43, rfl, by kernel_rfl⟩
theorem ub_4 : Try.prog.underlying 4 = some .bool := by kernel_rfl
theorem fa_44 : FnAt Try.prog 44 := ⟨_, _, Try.func44, rfl, by kernel_rfl⟩
theorem fa_32 : FnAt Try.prog 32 := ⟨_, _, Try.func32, rfl, by kernel_rfl⟩
theorem fa_31 : FnAt Try.prog 31 := ⟨_, _, Try.func31, rfl, by kernel_rfl⟩
theorem sb_28_0 : sbuilt Try.prog 28 0 [] = some [] := by kernel_rfl
theorem mk_28 : mkinfo Try.prog 28 = some (1, true, [.int .i64 0]) := by kernel_rfl
theorem el_28 : elo Try.prog 28 = some 1 := by kernel_rfl
theorem fa_33 : FnAt Try.prog 33 := ⟨_, _, Try.func33, rfl, by kernel_rfl⟩
theorem fa_19 : FnAt Try.prog 19 := ⟨_, _, Try.func19, rfl, by kernel_rfl⟩
theorem fa_20 : FnAt Try.prog 20 := ⟨_, _, Try.func20, rfl, by kernel_rfl⟩
theorem fa_37 : FnAt Try.prog 37 := ⟨_, _, Try.func37, rfl, by kernel_rfl⟩
theorem fa_51 : FnAt Try.prog 51 := ⟨_, _, Try.func51, rfl, by kernel_rfl⟩
theorem fa_46 : FnAt Try.prog 46 := ⟨_, _, Try.func46, rfl, by kernel_rfl⟩
theorem fa_36 : FnAt Try.prog 36 := ⟨_, _, Try.func36, rfl, by kernel_rfl⟩
theorem fa_38 : FnAt Try.prog 38 := ⟨_, _, Try.func38, rfl, by kernel_rfl⟩
theorem sb_49_0 : sbuilt Try.prog 49 0 [] = some [] := by kernel_rfl
theorem ak_49 : aok Try.prog 49 3 = true := by kernel_rfl
theorem bd_51_0_1 (z0 : Int) (z1 : Hd) : Try.prog.built 51 [(0, .int .i64 z0), (1, (sl z1))] = some #[.int .i64 z0, (sl z1)] := by kernel_rfl
theorem fa_58 : FnAt Try.prog 58 := ⟨_, _, Try.func58, rfl, by kernel_rfl⟩
theorem bd_66 : Try.prog.built 66 [] = some #[.int .i64 0, .int .i64 0, .int .i64 0] := by kernel_rfl
theorem bd_66_0_1_2 (z0 : Int) (z1 : Int) (z2 : Int) : Try.prog.built 66 [(0, .int .i64 z0), (1, .int .i64 z1), (2, .int .i64 z2)] = some #[.int .i64 z0, .int .i64 z1, .int .i64 z2] := by kernel_rfl
theorem fa_55 : FnAt Try.prog 55 := ⟨_, _, Try.func55, rfl, by kernel_rfl⟩
theorem fa_54 : FnAt Try.prog 54 := ⟨_, _, Try.func54, rfl, by kernel_rfl⟩
theorem bd_51_0 (z0 : Int) : Try.prog.built 51 [(0, .int .i64 z0)] = some #[.int .i64 z0, (Value.slice none 0 0)] := by kernel_rfl
theorem sb_49_1 (z0 : Int) (z1 : Int) (z2 : Int) : sbuilt Try.prog 49 1 [(0, .agg #[.int .i64 z0, .int .i64 z1, .int .i64 z2])] = some [.int .i64 z0, .int .i64 z1, .int .i64 z2] := by kernel_rfl
theorem bd_51 : Try.prog.built 51 [] = some #[.int .i64 0, (Value.slice none 0 0)] := by kernel_rfl
theorem fa_53 : FnAt Try.prog 53 := ⟨_, _, Try.func53, rfl, by kernel_rfl⟩
theorem fa_52 : FnAt Try.prog 52 := ⟨_, _, Try.func52, rfl, by kernel_rfl⟩
theorem fa_57 : FnAt Try.prog 57 := ⟨_, _, Try.func57, rfl, by kernel_rfl⟩
theorem fa_56 : FnAt Try.prog 56 := ⟨_, _, Try.func56, rfl, by kernel_rfl⟩
theorem fa_47 : FnAt Try.prog 47 := ⟨_, _, Try.func47, rfl, by kernel_rfl⟩
theorem fa_48 : FnAt Try.prog 48 := ⟨_, _, Try.func48, rfl, by kernel_rfl⟩
theorem fa_49 : FnAt Try.prog 49 := ⟨_, _, Try.func49, rfl, by kernel_rfl⟩
theorem sb_34_0 : sbuilt Try.prog 34 0 [] = some [] := by kernel_rfl
theorem fa_39 : FnAt Try.prog 39 := ⟨_, _, Try.func39, rfl, by kernel_rfl⟩
theorem sb_34_1 (z0 : Int) (z1 : Hd) : sbuilt Try.prog 34 1 [(0, .agg #[.int .i64 z0, (sl z1)])] = some [.int .i64 z0, (sl z1)] := by kernel_rfl
theorem ak_34 : aok Try.prog 34 2 = true := by kernel_rfl
theorem fa_40 : FnAt Try.prog 40 := ⟨_, _, Try.func40, rfl, by kernel_rfl⟩
theorem fa_23 : FnAt Try.prog 23 := ⟨_, _, Try.func23, rfl, by kernel_rfl⟩
theorem fa_24 : FnAt Try.prog 24 := ⟨_, _, Try.func24, rfl, by kernel_rfl⟩
theorem fa_25 : FnAt Try.prog 25 := ⟨_, _, Try.func25, rfl, by kernel_rfl⟩
theorem fa_41 : FnAt Try.prog 41 := ⟨_, _, Try.func41, rfl, by kernel_rfl⟩
theorem fa_26 : FnAt Try.prog 26 := ⟨_, _, Try.func26, rfl, by kernel_rfl⟩
theorem fa_50 : FnAt Try.prog 50 := ⟨_, _, Try.func50, rfl, by kernel_rfl⟩
theorem fa_42 : FnAt Try.prog 42 := ⟨_, _, Try.func42, rfl, by kernel_rfl⟩
theorem fa_27 : FnAt Try.prog 27 := ⟨_, _, Try.func27, rfl, by kernel_rfl⟩
theorem fa_28 : FnAt Try.prog 28 := ⟨_, _, Try.func28, rfl, by kernel_rfl⟩
theorem fa_29 : FnAt Try.prog 29 := ⟨_, _, Try.func29, rfl, by kernel_rfl⟩
theorem tk_24 : tyk Try.prog 24 = some (true, 3) := by kernel_rfl
theorem fa_4 : FnAt Try.prog 4 := ⟨_, _, Try.func4, rfl, by kernel_rfl⟩
theorem fa_5 : FnAt Try.prog 5 := ⟨_, _, Try.func5, rfl, by kernel_rfl⟩
theorem fa_7 : FnAt Try.prog 7 := ⟨_, _, Try.func7, rfl, by kernel_rfl⟩
theorem fa_8 : FnAt Try.prog 8 := ⟨_, _, Try.func8, rfl, by kernel_rfl⟩
theorem fa_6 : FnAt Try.prog 6 := ⟨_, _, Try.func6, rfl, by kernel_rfl⟩
theorem fa_9 : FnAt Try.prog 9 := ⟨_, _, Try.func9, rfl, by kernel_rfl⟩
theorem fa_10 : FnAt Try.prog 10 := ⟨_, _, Try.func10, rfl, by kernel_rfl⟩
theorem fa_11 : FnAt Try.prog 11 := ⟨_, _, Try.func11, rfl, by kernel_rfl⟩
theorem fa_12 : FnAt Try.prog 12 := ⟨_, _, Try.func12, rfl, by kernel_rfl⟩
theorem fa_13 : FnAt Try.prog 13 := ⟨_, _, Try.func13, rfl, by kernel_rfl⟩
theorem fa_14 : FnAt Try.prog 14 := ⟨_, _, Try.func14, rfl, by kernel_rfl⟩
theorem fa_15 : FnAt Try.prog 15 := ⟨_, _, Try.func15, rfl, by kernel_rfl⟩
theorem fa_16 : FnAt Try.prog 16 := ⟨_, _, Try.func16, rfl, by kernel_rfl⟩
end Go.Proofs.Ytgimnmlcdidcdae
