/-
  Closed facts on this translation.
-/
import Derived.Test.YtkahnmhkfmjomaePure
import Derived.Test.YtkahnmhkfmjomaeChecked
import Derived.KernelRfl
namespace Go.Proofs.Ytkahnmhkfmjomae
open Go Go.RowKit Go.Proofs

theorem mixed : Try.prog.follows .mixedOrders = true := by kernel_rfl
theorem el_22 : elo Try.prog 22 = some 1 := by kernel_rfl
theorem tk_5 : tyk Try.prog 5 = some (false, 1) := by kernel_rfl
theorem isU8_5 : isU8 Try.prog 5 = true := by kernel_rfl
theorem isInt_3 : isInt Try.prog 3 = true := by kernel_rfl
theorem bd_61_0_2 (z0 : Hd) (z1 : Int) : Try.prog.built 61 [(0, (sl z0)), (2, .int .i64 z1)] = some #[(sl z0), .int .i64 0, .int .i64 z1] := by kernel_rfl
theorem fo_61_2 : fldo Try.prog 61 2 = some 2 := by kernel_rfl
theorem tk_3 : tyk Try.prog 3 = some (false, 1) := by kernel_rfl
theorem fo_61_1 : fldo Try.prog 61 1 = some 1 := by kernel_rfl
theorem fo_61_0 : fldo Try.prog 61 0 = some 0 := by kernel_rfl
theorem tk_22 : tyk Try.prog 22 = some (false, 1) := by kernel_rfl
theorem fa_38 : FnAt Try.prog 38 := ⟨_, _, Try.func38, rfl, by kernel_rfl⟩
theorem za_57 : (Try.prog.info? 57).map (fun i => i.zero.map (·.cells.toList)) = some (some [.int .i64 0, .int .i64 0, .int .i64 0]) := by kernel_rfl
theorem fa_25 : FnAt Try.prog 25 := ⟨_, _, Try.func25, rfl, by kernel_rfl⟩
theorem bd_57 : Try.prog.built 57 [] = some #[.int .i64 0, .int .i64 0, .int .i64 0] := by kernel_rfl
theorem tk_57 : tyk Try.prog 57 = some (true, 3) := by kernel_rfl
theorem bd_57_1_2 (z0 : Int) (z1 : Int) : Try.prog.built 57 [(1, .int .i64 z0), (2, .int .i64 z1)] = some #[.int .i64 0, .int .i64 z0, .int .i64 z1] := by kernel_rfl
theorem fo_57_0 : fldo Try.prog 57 0 = some 0 := by kernel_rfl
theorem fo_57_1 : fldo Try.prog 57 1 = some 1 := by kernel_rfl
theorem fo_57_2 : fldo Try.prog 57 2 = some 2 := by kernel_rfl
theorem ub_4 : Try.prog.underlying 4 = some .bool := by kernel_rfl
theorem fa_47 : FnAt Try.prog 47 := ⟨_, _, Try.func47, rfl, by kernel_rfl⟩
theorem bd_57_0_1_2 (z0 : Int) (z1 : Int) (z2 : Int) : Try.prog.built 57 [(0, .int .i64 z0), (1, .int .i64 z1), (2, .int .i64 z2)] = some #[.int .i64 z0, .int .i64 z1, .int .i64 z2] := by kernel_rfl
theorem fa_44 : FnAt Try.prog 44 := ⟨_, _, Try.func44, rfl, by kernel_rfl⟩
theorem fa_27 : FnAt Try.prog 27 := ⟨_, _, Try.func27, rfl, by kernel_rfl⟩
theorem fa_39 : FnAt Try.prog 39 := ⟨_, _, Try.func39, rfl, by kernel_rfl⟩
theorem sb_27_0 : sbuilt Try.prog 27 0 [] = some [] := by kernel_rfl
theorem bd_44_0 (z0 : Int) : Try.prog.built 44 [(0, .int .i64 z0)] = some #[.int .i64 z0, (Value.slice none 0 0)] := by kernel_rfl
theorem za_44 : (Try.prog.info? 44).map (fun i => i.zero.map (·.cells.toList)) = some (some [.int .i64 0, (Value.slice none 0 0)]) := by kernel_rfl
theorem tk_44 : tyk Try.prog 44 = some (true, 2) := by kernel_rfl
theorem fa_28 : FnAt Try.prog 28 := ⟨_, _, Try.func28, rfl, by kernel_rfl⟩
theorem fo_44_1 : fldo Try.prog 44 1 = some 1 := by kernel_rfl
theorem tk_42 : tyk Try.prog 42 = some (false, 1) := by kernel_rfl
theorem sb_42_1 (z0 : Int) (z1 : Int) (z2 : Int) : sbuilt Try.prog 42 1 [(0, .agg #[.int .i64 z0, .int .i64 z1, .int .i64 z2])] = some [.int .i64 z0, .int .i64 z1, .int .i64 z2] := by kernel_rfl
theorem ak_42 : aok Try.prog 42 3 = true := by kernel_rfl
theorem sb_27_1 (z0 : Int) (z1 : Hd) : sbuilt Try.prog 27 1 [(0, .agg #[.int .i64 z0, (sl z1)])] = some [.int .i64 z0, (sl z1)] := by kernel_rfl
theorem ak_27 : aok Try.prog 27 2 = true := by kernel_rfl
theorem za_26 : (Try.prog.info? 26).map (fun i => i.zero.map (·.cells.toList)) = some (some [.int .i64 0, .int .i64 0, (Value.slice none 0 0)]) := by kernel_rfl
theorem bd_26_0_1 (z0 : Int) (z1 : Int) : Try.prog.built 26 [(0, .int .i64 z0), (1, .int .i64 z1)] = some #[.int .i64 z0, .int .i64 z1, (Value.slice none 0 0)] := by kernel_rfl
theorem tk_26 : tyk Try.prog 26 = some (true, 3) := by kernel_rfl
theorem fa_29 : FnAt Try.prog 29 := ⟨_, _, Try.func29, rfl, by kernel_rfl⟩
theorem fo_26_0 : fldo Try.prog 26 0 = some 0 := by kernel_rfl
theorem fo_26_1 : fldo Try.prog 26 1 = some 1 := by kernel_rfl
theorem bd_40_0_1 (z0 : Int) (z1 : Int) : Try.prog.built 40 [(0, .int .i64 z0), (1, .int .i64 z1)] = some #[.int .i64 z0, .int .i64 z1] := by kernel_rfl
theorem za_40 : (Try.prog.info? 40).map (fun i => i.zero.map (·.cells.toList)) = some (some [.int .i64 0, .int .i64 0]) := by kernel_rfl
theorem tk_40 : tyk Try.prog 40 = some (true, 2) := by kernel_rfl
theorem fo_26_2 : fldo Try.prog 26 2 = some 2 := by kernel_rfl
theorem tk_24 : tyk Try.prog 24 = some (false, 1) := by kernel_rfl
theorem sb_24_1 (z0 : Int) (z1 : Int) : sbuilt Try.prog 24 1 [(0, .agg #[.int .i64 z0, .int .i64 z1])] = some [.int .i64 z0, .int .i64 z1] := by kernel_rfl
theorem ak_24 : aok Try.prog 24 2 = true := by kernel_rfl
theorem fa_14 : FnAt Try.prog 14 := ⟨_, _, Try.func14, rfl, by kernel_rfl⟩
theorem fa_15 : FnAt Try.prog 15 := ⟨_, _, Try.func15, rfl, by kernel_rfl⟩
theorem el_27 : elo Try.prog 27 = some 2 := by kernel_rfl
theorem fa_16 : FnAt Try.prog 16 := ⟨_, _, Try.func16, rfl, by kernel_rfl⟩
theorem fa_31 : FnAt Try.prog 31 := ⟨_, _, Try.func31, rfl, by kernel_rfl⟩
theorem el_24 : elo Try.prog 24 = some 2 := by kernel_rfl
theorem fo_40_0 : fldo Try.prog 40 0 = some 0 := by kernel_rfl
theorem fo_40_1 : fldo Try.prog 40 1 = some 1 := by kernel_rfl
theorem fa_48 : FnAt Try.prog 48 := ⟨_, _, Try.func48, rfl, by kernel_rfl⟩
theorem fo_44_0 : fldo Try.prog 44 0 = some 0 := by kernel_rfl
theorem el_42 : elo Try.prog 42 = some 3 := by kernel_rfl
theorem fa_40 : FnAt Try.prog 40 := ⟨_, _, Try.func40, rfl, by kernel_rfl⟩
theorem fa_30 : FnAt Try.prog 30 := ⟨_, _, Try.func30, rfl, by kernel_rfl⟩
theorem fa_32 : FnAt Try.prog 32 := ⟨_, _, Try.func32, rfl, by kernel_rfl⟩
theorem sb_42_0 : sbuilt Try.prog 42 0 [] = some [] := by kernel_rfl
theorem bd_44_0_1 (z0 : Int) (z1 : Hd) : Try.prog.built 44 [(0, .int .i64 z0), (1, (sl z1))] = some #[.int .i64 z0, (sl z1)] := by kernel_rfl
theorem fa_55 : FnAt Try.prog 55 := ⟨_, _, Try.func55, rfl, by kernel_rfl⟩
theorem fa_52 : FnAt Try.prog 52 := ⟨_, _, Try.func52, rfl, by kernel_rfl⟩
theorem fa_51 : FnAt Try.prog 51 := ⟨_, _, Try.func51, rfl, by kernel_rfl⟩
theorem bd_44 : Try.prog.built 44 [] = some #[.int .i64 0, (Value.slice none 0 0)] := by kernel_rfl
theorem fa_50 : FnAt Try.prog 50 := ⟨_, _, Try.func50, rfl, by kernel_rfl⟩
theorem fa_49 : FnAt Try.prog 49 := ⟨_, _, Try.func49, rfl, by kernel_rfl⟩
theorem fa_54 : FnAt Try.prog 54 := ⟨_, _, Try.func54, rfl, by kernel_rfl⟩
theorem fa_53 : FnAt Try.prog 53 := ⟨_, _, Try.func53, rfl, by kernel_rfl⟩
theorem fa_41 : FnAt Try.prog 41 := ⟨_, _, Try.func41, rfl, by kernel_rfl⟩
theorem fa_42 : FnAt Try.prog 42 := ⟨_, _, Try.func42, rfl, by kernel_rfl⟩
theorem fa_43 : FnAt Try.prog 43 := ⟨_, _, Try.func43, rfl, by kernel_rfl⟩
theorem fa_33 : FnAt Try.prog 33 := ⟨_, _, Try.func33, rfl, by kernel_rfl⟩
theorem sq_57 : seqok Try.prog 57 3 = true := by kernel_rfl
theorem fa_17 : FnAt Try.prog 17 := ⟨_, _, Try.func17, rfl, by kernel_rfl⟩
theorem fa_18 : FnAt Try.prog 18 := ⟨_, _, Try.func18, rfl, by kernel_rfl⟩
theorem fa_19 : FnAt Try.prog 19 := ⟨_, _, Try.func19, rfl, by kernel_rfl⟩
theorem fa_21 : FnAt Try.prog 21 := ⟨_, _, Try.func21, rfl, by kernel_rfl⟩
theorem fa_20 : FnAt Try.prog 20 := ⟨_, _, Try.func20, rfl, by kernel_rfl⟩
theorem sb_30_0 : sbuilt Try.prog 30 0 [] = some [] := by kernel_rfl
theorem fa_8 : FnAt Try.prog 8 := ⟨_, _, Try.func8, rfl, by kernel_rfl⟩
theorem sb_34_2 (z0 : Int) (z1 : Int) : sbuilt Try.prog 34 2 [(0, .int .i64 z0), (1, .int .i64 z1)] = some [.int .i64 z0, .int .i64 z1] := by kernel_rfl
theorem sb_30_1 (z0 : Hd) : sbuilt Try.prog 30 1 [(0, (sl z0))] = some [(sl z0)] := by kernel_rfl
theorem ak_30 : aok Try.prog 30 1 = true := by kernel_rfl
theorem fa_6 : FnAt Try.prog 6 := ⟨_, _, Try.func6, rfl, by kernel_rfl⟩
theorem el_30 : elo Try.prog 30 = some 1 := by kernel_rfl
theorem sb_24_0 : sbuilt Try.prog 24 0 [] = some [] := by kernel_rfl
theorem bd_26_0_1_2 (z0 : Int) (z1 : Int) (z2 : Hd) : Try.prog.built 26 [(0, .int .i64 z0), (1, .int .i64 z1), (2, (sl z2))] = some #[.int .i64 z0, .int .i64 z1, (sl z2)] := by kernel_rfl
theorem fa_22 : FnAt Try.prog 22 := ⟨_, _, Try.func22, rfl, by kernel_rfl⟩
theorem sq_40 : seqok Try.prog 40 2 = true := by kernel_rfl
theorem fa_10 : FnAt Try.prog 10 := ⟨_, _, Try.func10, rfl, by kernel_rfl⟩
theorem fa_23 : FnAt Try.prog 23 := ⟨_, _, Try.func23, rfl, by kernel_rfl⟩
theorem fa_34 : FnAt Try.prog 34 := ⟨_, _, Try.func34, rfl, by kernel_rfl⟩
theorem fa_45 : FnAt Try.prog 45 := ⟨_, _, Try.func45, rfl, by kernel_rfl⟩
theorem fa_46 : FnAt Try.prog 46 := ⟨_, _, Try.func46, rfl, by kernel_rfl⟩
theorem fa_35 : FnAt Try.prog 35 := ⟨_, _, Try.func35, rfl, by kernel_rfl⟩
theorem fa_36 : FnAt Try.prog 36 := ⟨_, _, Try.func36, rfl, by kernel_rfl⟩
theorem fa_37 : FnAt Try.prog 37 := ⟨_, _, Try.func37, rfl, by kernel_rfl⟩
theorem fa_24 : FnAt Try.prog 24 := ⟨_, _, Try.func24, rfl, by kernel_rfl⟩
theorem fa_26 : FnAt Try.prog 26 := ⟨_, _, Try.func26, rfl, by kernel_rfl⟩
theorem fa_4 : FnAt Try.prog 4 := ⟨_, _, Try.func4, rfl, by kernel_rfl⟩
theorem fa_5 : FnAt Try.prog 5 := ⟨_, _, Try.func5, rfl, by kernel_rfl⟩
theorem fa_7 : FnAt Try.prog 7 := ⟨_, _, Try.func7, rfl, by kernel_rfl⟩
theorem tk_34 : tyk Try.prog 34 = some (false, 1) := by kernel_rfl
theorem el_34 : elo Try.prog 34 = some 1 := by kernel_rfl
theorem fa_9 : FnAt Try.prog 9 := ⟨_, _, Try.func9, rfl, by kernel_rfl⟩
theorem fa_11 : FnAt Try.prog 11 := ⟨_, _, Try.func11, rfl, by kernel_rfl⟩
theorem fa_13 : FnAt Try.prog 13 := ⟨_, _, Try.func13, rfl, by kernel_rfl⟩
theorem fa_12 : FnAt Try.prog 12 := ⟨_, _, Try.func12, rfl, by kernel_rfl⟩
end Go.Proofs.Ytkahnmhkfmjomae
