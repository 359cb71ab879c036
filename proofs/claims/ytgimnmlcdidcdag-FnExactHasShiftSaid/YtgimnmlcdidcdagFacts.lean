/-
  Closed facts on this translation.
-/
import Derived.Test.YtgimnmlcdidcdagPure
import Derived.Test.YtgimnmlcdidcdagChecked
import Derived.KernelRfl
namespace Go.Proofs.Ytgimnmlcdidcdag
open Go Go.RowKit Go.Proofs

theorem mixed : Try.prog.follows .mixedOrders = true := by kernel_rfl
theorem el_22 : elo Try.prog 22 = some 2 := by kernel_rfl
theorem fo_24_2 : fldo Try.prog 24 2 = some 2 := by kernel_rfl
theorem tk_22 : tyk Try.prog 22 = some (false, 1) := by kernel_rfl
theorem fa_12 : FnAt Try.prog 12 := ⟨_, _, Try.func12, rfl, by kernel_rfl⟩
theorem el_40 : elo Try.prog 40 = some 3 := by kernel_rfl
theorem fo_42_1 : fldo Try.prog 42 1 = some 1 := by kernel_rfl
theorem tk_40 : tyk Try.prog 40 = some (false, 1) := by kernel_rfl
theorem fa_27 : FnAt Try.prog 27 := ⟨_, _, Try.func27, rfl, by kernel_rfl⟩
theorem el_25 : elo Try.prog 25 = some 2 := by kernel_rfl
theorem tk_42 : tyk Try.prog 42 = some (true, 2) := by kernel_rfl
theorem fa_13 : FnAt Try.prog 13 := ⟨_, _, Try.func13, rfl, by kernel_rfl⟩
theorem za_61 : (Try.prog.info? 61).map (fun i => i.zero.map (·.cells.toList)) = some (some [.int .i64 0, .int .i64 0]) := by kernel_rfl
theorem fo_65_0 : fldo Try.prog 65 0 = some 0 := by kernel_rfl
theorem tk_3 : tyk Try.prog 3 = some (false, 1) := by kernel_rfl
theorem fo_61_0 : fldo Try.prog 61 0 = some 0 := by kernel_rfl
theorem fo_65_1 : fldo Try.prog 65 1 = some 1 := by kernel_rfl
theorem fo_61_1 : fldo Try.prog 61 1 = some 1 := by kernel_rfl
theorem tk_61 : tyk Try.prog 61 = some (true, 2) := by kernel_rfl
theorem mk_29 : mkinfo Try.prog 29 = some (2, true, [.int .i64 0, .int .i64 0]) := by kernel_rfl
theorem tk_65 : tyk Try.prog 65 = some (true, 2) := by kernel_rfl
theorem fa_31 : FnAt Try.prog 31 := ⟨_, _, Try.func31, rfl, by kernel_rfl⟩
theorem el_29 : elo Try.prog 29 = some 2 := by kernel_rfl
theorem za_31 : (Try.prog.info? 31).map (fun i => i.zero.map (·.cells.toList)) = some (some [.int .i64 0, .int .i64 0, (Value.slice none 0 0)]) := by kernel_rfl
theorem fo_24_0 : fldo Try.prog 24 0 = some 0 := by kernel_rfl
theorem fo_31_0 : fldo Try.prog 31 0 = some 0 := by kernel_rfl
theorem fo_24_1 : fldo Try.prog 24 1 = some 1 := by kernel_rfl
theorem fo_31_1 : fldo Try.prog 31 1 = some 1 := by kernel_rfl
theorem fa_18 : FnAt Try.prog 18 := ⟨_, _, Try.func18, rfl, by kernel_rfl⟩
theorem fo_31_2 : fldo Try.prog 31 2 = some 2 := by kernel_rfl
theorem tk_29 : tyk Try.prog 29 = some (false, 1) := by kernel_rfl
theorem tk_31 : tyk Try.prog 31 = some (true, 3) := by kernel_rfl
theorem za_69 : (Try.prog.info? 69).map (fun i => i.zero.map (·.cells.toList)) = some (some [.int .i64 0, .int .i64 0, .int .i64 0]) := by kernel_rfl
theorem fo_76_0 : fldo Try.prog 76 0 = some 0 := by kernel_rfl
theorem fo_69_0 : fldo Try.prog 69 0 = some 0 := by kernel_rfl
theorem fo_76_1 : fldo Try.prog 76 1 = some 1 := by kernel_rfl
theorem fo_69_1 : fldo Try.prog 69 1 = some 1 := by kernel_rfl
theorem fo_76_2 : fldo Try.prog 76 2 = some 2 := by kernel_rfl
theorem fo_69_2 : fldo Try.prog 69 2 = some 2 := by kernel_rfl
theorem tk_69 : tyk Try.prog 69 = some (true, 3) := by kernel_rfl
theorem mk_49 : mkinfo Try.prog 49 = some (3, true, [.int .i64 0, .int .i64 0, .int .i64 0]) := by kernel_rfl
theorem tk_76 : tyk Try.prog 76 = some (true, 3) := by kernel_rfl
theorem fa_44 : FnAt Try.prog 44 := ⟨_, _, Try.func44, rfl, by kernel_rfl⟩
theorem el_49 : elo Try.prog 49 = some 3 := by kernel_rfl
theorem za_51 : (Try.prog.info? 51).map (fun i => i.zero.map (·.cells.toList)) = some (some [.int .i64 0, (Value.slice none 0 0)]) := by kernel_rfl
theorem fo_42_0 : fldo Try.prog 42 0 = some 0 := by kernel_rfl
theorem fo_51_0 : fldo Try.prog 51 0 = some 0 := by kernel_rfl
theorem fa_32 : FnAt Try.prog 32 := ⟨_, _, Try.func32, rfl, by kernel_rfl⟩
theorem fo_51_1 : fldo Try.prog 51 1 = some 1 := by kernel_rfl
theorem tk_49 : tyk Try.prog 49 = some (false, 1) := by kernel_rfl
theorem tk_51 : tyk Try.prog 51 = some (true, 2) := by kernel_rfl
theorem mk_33 : mkinfo Try.prog 33 = some (2, true, [.int .i64 0, (Value.slice none 0 0)]) := by kernel_rfl
theorem fa_19 : FnAt Try.prog 19 := ⟨_, _, Try.func19, rfl, by kernel_rfl⟩
theorem el_33 : elo Try.prog 33 = some 2 := by kernel_rfl
theorem fa_15 : FnAt Try.prog 15 := ⟨_, _, Try.func15, rfl, by kernel_rfl⟩
theorem ub_4 : Try.prog.underlying 4 = some .bool := by kernel_rfl
theorem fa_39 : FnAt Try.prog 39 := ⟨_, _, Try.func39, rfl, by kernel_rfl⟩
theorem fa_28 : FnAt Try.prog 28 := ⟨_, _, Try.func28, rfl, by kernel_rfl⟩
theorem sb_49_0 : sbuilt Try.prog 49 0 [] = some [] := by kernel_rfl
theorem ak_49 : aok Try.prog 49 3 = true := by kernel_rfl
theorem bd_51_0_1 (z0 : Int) (z1 : Hd) : Try.prog.built 51 [(0, .int .i64 z0), (1, (sl z1))] = some #[.int .i64 z0, (sl z1)] := by kernel_rfl
theorem bd_69 : Try.prog.built 69 [] = some #[.int .i64 0, .int .i64 0, .int .i64 0] := by kernel_rfl
theorem bd_69_0_1_2 (z0 : Int) (z1 : Int) (z2 : Int) : Try.prog.built 69 [(0, .int .i64 z0), (1, .int .i64 z1), (2, .int .i64 z2)] = some #[.int .i64 z0, .int .i64 z1, .int .i64 z2] := by kernel_rfl
theorem bd_51 : Try.prog.built 51 [] = some #[.int .i64 0, (Value.slice none 0 0)] := by kernel_rfl
theorem bd_51_0 (z0 : Int) : Try.prog.built 51 [(0, .int .i64 z0)] = some #[.int .i64 z0, (Value.slice none 0 0)] := by kernel_rfl
theorem fa_51 : FnAt Try.prog 51 := ⟨_, _, Try.func51, rfl, by kernel_rfl⟩
theorem sb_49_1 (z0 : Int) (z1 : Int) (z2 : Int) : sbuilt Try.prog 49 1 [(0, .agg #[.int .i64 z0, .int .i64 z1, .int .i64 z2])] = some [.int .i64 z0, .int .i64 z1, .int .i64 z2] := by kernel_rfl
theorem fa_52 : FnAt Try.prog 52 := ⟨_, _, Try.func52, rfl, by kernel_rfl⟩
theorem fa_41 : FnAt Try.prog 41 := ⟨_, _, Try.func41, rfl, by kernel_rfl⟩
theorem fa_42 : FnAt Try.prog 42 := ⟨_, _, Try.func42, rfl, by kernel_rfl⟩
theorem fa_43 : FnAt Try.prog 43 := ⟨_, _, Try.func43, rfl, by kernel_rfl⟩
theorem isInt_3 : isInt Try.prog 3 = true := by kernel_rfl
theorem isU8_5 : isU8 Try.prog 5 = true := by kernel_rfl
theorem fa_60 : FnAt Try.prog 60 := ⟨_, _, Try.func60, rfl, by kernel_rfl⟩
theorem sb_86_1 (z0 : UInt8) : sbuilt Try.prog 86 1 [(0, .int .u8 (z0.toNat : Int))] = some [.int .u8 (z0.toNat : Int)] := by kernel_rfl
theorem isBytes_86 : isBytes Try.prog 86 = true := by kernel_rfl
theorem isStr_9 : isStr Try.prog 9 = true := by kernel_rfl
theorem fa_50 : FnAt Try.prog 50 := ⟨_, _, Try.func50, rfl, by kernel_rfl⟩
theorem fa_40 : FnAt Try.prog 40 := ⟨_, _, Try.func40, rfl, by kernel_rfl⟩
theorem sb_46_0 : sbuilt Try.prog 46 0 [] = some [] := by kernel_rfl
theorem fa_30 : FnAt Try.prog 30 := ⟨_, _, Try.func30, rfl, by kernel_rfl⟩
theorem fa_29 : FnAt Try.prog 29 := ⟨_, _, Try.func29, rfl, by kernel_rfl⟩
theorem sb_46_1 (z0 : Str) : sbuilt Try.prog 46 1 [(0, bs z0)] = some [bs z0] := by kernel_rfl
theorem ak_46 : aok Try.prog 46 1 = true := by kernel_rfl
theorem el_46 : elo Try.prog 46 = some 1 := by kernel_rfl
theorem tk_9 : tyk Try.prog 9 = some (false, 1) := by kernel_rfl
theorem fa_14 : FnAt Try.prog 14 := ⟨_, _, Try.func14, rfl, by kernel_rfl⟩
theorem fa_17 : FnAt Try.prog 17 := ⟨_, _, Try.func17, rfl, by kernel_rfl⟩
theorem fa_16 : FnAt Try.prog 16 := ⟨_, _, Try.func16, rfl, by kernel_rfl⟩
theorem fa_34 : FnAt Try.prog 34 := ⟨_, _, Try.func34, rfl, by kernel_rfl⟩
theorem fa_53 : FnAt Try.prog 53 := ⟨_, _, Try.func53, rfl, by kernel_rfl⟩
theorem fa_45 : FnAt Try.prog 45 := ⟨_, _, Try.func45, rfl, by kernel_rfl⟩
theorem fa_33 : FnAt Try.prog 33 := ⟨_, _, Try.func33, rfl, by kernel_rfl⟩
theorem fa_35 : FnAt Try.prog 35 := ⟨_, _, Try.func35, rfl, by kernel_rfl⟩
theorem fa_61 : FnAt Try.prog 61 := ⟨_, _, Try.func61, rfl, by kernel_rfl⟩
theorem fa_57 : FnAt Try.prog 57 := ⟨_, _, Try.func57, rfl, by kernel_rfl⟩
theorem fa_56 : FnAt Try.prog 56 := ⟨_, _, Try.func56, rfl, by kernel_rfl⟩
theorem fa_55 : FnAt Try.prog 55 := ⟨_, _, Try.func55, rfl, by kernel_rfl⟩
theorem fa_54 : FnAt Try.prog 54 := ⟨_, _, Try.func54, rfl, by kernel_rfl⟩
theorem fa_59 : FnAt Try.prog 59 := ⟨_, _, Try.func59, rfl, by kernel_rfl⟩
theorem fa_58 : FnAt Try.prog 58 := ⟨_, _, Try.func58, rfl, by kernel_rfl⟩
theorem fa_46 : FnAt Try.prog 46 := ⟨_, _, Try.func46, rfl, by kernel_rfl⟩
theorem fa_47 : FnAt Try.prog 47 := ⟨_, _, Try.func47, rfl, by kernel_rfl⟩
theorem fa_48 : FnAt Try.prog 48 := ⟨_, _, Try.func48, rfl, by kernel_rfl⟩
theorem sb_33_0 : sbuilt Try.prog 33 0 [] = some [] := by kernel_rfl
theorem fa_36 : FnAt Try.prog 36 := ⟨_, _, Try.func36, rfl, by kernel_rfl⟩
theorem sb_33_1 (z0 : Int) (z1 : Hd) : sbuilt Try.prog 33 1 [(0, .agg #[.int .i64 z0, (sl z1)])] = some [.int .i64 z0, (sl z1)] := by kernel_rfl
theorem ak_33 : aok Try.prog 33 2 = true := by kernel_rfl
theorem sq_69 : seqok Try.prog 69 3 = true := by kernel_rfl
theorem fa_20 : FnAt Try.prog 20 := ⟨_, _, Try.func20, rfl, by kernel_rfl⟩
theorem fa_21 : FnAt Try.prog 21 := ⟨_, _, Try.func21, rfl, by kernel_rfl⟩
theorem fa_22 : FnAt Try.prog 22 := ⟨_, _, Try.func22, rfl, by kernel_rfl⟩
theorem fa_24 : FnAt Try.prog 24 := ⟨_, _, Try.func24, rfl, by kernel_rfl⟩
theorem fa_23 : FnAt Try.prog 23 := ⟨_, _, Try.func23, rfl, by kernel_rfl⟩
theorem fa_37 : FnAt Try.prog 37 := ⟨_, _, Try.func37, rfl, by kernel_rfl⟩
theorem fa_25 : FnAt Try.prog 25 := ⟨_, _, Try.func25, rfl, by kernel_rfl⟩
theorem fa_49 : FnAt Try.prog 49 := ⟨_, _, Try.func49, rfl, by kernel_rfl⟩
theorem fa_38 : FnAt Try.prog 38 := ⟨_, _, Try.func38, rfl, by kernel_rfl⟩
theorem fa_26 : FnAt Try.prog 26 := ⟨_, _, Try.func26, rfl, by kernel_rfl⟩
theorem tk_24 : tyk Try.prog 24 = some (true, 3) := by kernel_rfl
theorem fa_4 : FnAt Try.prog 4 := ⟨_, _, Try.func4, rfl, by kernel_rfl⟩
theorem fa_5 : FnAt Try.prog 5 := ⟨_, _, Try.func5, rfl, by kernel_rfl⟩
theorem fa_7 : FnAt Try.prog 7 := ⟨_, _, Try.func7, rfl, by kernel_rfl⟩
theorem fa_8 : FnAt Try.prog 8 := ⟨_, _, Try.func8, rfl, by kernel_rfl⟩
theorem fa_6 : FnAt Try.prog 6 := ⟨_, _, Try.func6, rfl, by kernel_rfl⟩
theorem fa_9 : FnAt Try.prog 9 := ⟨_, _, Try.func9, rfl, by kernel_rfl⟩
theorem fa_10 : FnAt Try.prog 10 := ⟨_, _, Try.func10, rfl, by kernel_rfl⟩
theorem fa_11 : FnAt Try.prog 11 := ⟨_, _, Try.func11, rfl, by kernel_rfl⟩
end Go.Proofs.Ytgimnmlcdidcdag
