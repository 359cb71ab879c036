/-
  Closed facts on this translation.
-/
import Derived.Test.YtfnfngicgikhgabPure
import Derived.Test.YtfnfngicgikhgabChecked
import Derived.KernelRfl
namespace Go.Proofs.Ytfnfngicgikhgab
open Go Go.RowKit Go.Proofs

theorem mixed : Try.prog.follows .mixedOrders = true := by kernel_rfl
theorem el_22 : elo Try.prog 22 = some 1 := by kernel_rfl
theorem tk_5 : tyk Try.prog 5 = some (false, 1) := by kernel_rfl
theorem isU8_5 : isU8 Try.prog 5 = true := by kernel_rfl
theorem isInt_3 : isInt Try.prog 3 = true := by kernel_rfl
theorem bd_57_0_2 (z0 : Hd) (z1 : Int) : Try.prog.built 57 [(0, (sl z0)), (2, .int .i64 z1)] = some #[(sl z0), .int .i64 0, .int .i64 z1] := by kernel_rfl
theorem fo_57_2 : fldo Try.prog 57 2 = some 2 := by kernel_rfl
theorem tk_3 : tyk Try.prog 3 = some (false, 1) := by kernel_rfl
theorem fo_57_1 : fldo Try.prog 57 1 = some 1 := by kernel_rfl
theorem fo_57_0 : fldo Try.prog 57 0 = some 0 := by kernel_rfl
theorem tk_22 : tyk Try.prog 22 = some (false, 1) := by kernel_rfl
theorem fa_54 : FnAt Try.prog 54 := ⟨_, _, Try.func54, rfl, by kernel_rfl⟩
theorem za_33 : (Try.prog.info? 33).map (fun i => i.zero.map (·.cells.toList)) = some (some [.int .i64 0, .int .i64 0, .int .i64 0]) := by kernel_rfl
theorem fa_23 : FnAt Try.prog 23 := ⟨_, _, Try.func23, rfl, by kernel_rfl⟩
theorem bd_33 : Try.prog.built 33 [] = some #[.int .i64 0, .int .i64 0, .int .i64 0] := by kernel_rfl
theorem tk_33 : tyk Try.prog 33 = some (true, 3) := by kernel_rfl
theorem bd_33_1_2 (z0 : Int) (z1 : Int) : Try.prog.built 33 [(1, .int .i64 z0), (2, .int .i64 z1)] = some #[.int .i64 0, .int .i64 z0, .int .i64 z1] := by kernel_rfl
theorem za_26 : (Try.prog.info? 26).map (fun i => i.zero.map (·.cells.toList)) = some (some [.int .i64 0, (Value.slice none 0 0)]) := by kernel_rfl
theorem fa_72 : FnAt Try.prog 72 := ⟨_, _, Try.func72, rfl, by kernel_rfl⟩
theorem bd_33_0_1_2 (z0 : Int) (z1 : Int) (z2 : Int) : Try.prog.built 33 [(0, .int .i64 z0), (1, .int .i64 z1), (2, .int .i64 z2)] = some #[.int .i64 z0, .int .i64 z1, .int .i64 z2] := by kernel_rfl
theorem sb_24_9 (z0 : Int) (z1 : Int) (z2 : Int) (z3 : Int) (z4 : Int) (z5 : Int) (z6 : Int) (z7 : Int) (z8 : Int) (z9 : Int) (z10 : Int) (z11 : Int) (z12 : Int) (z13 : Int) (z14 : Int) (z15 : Int) (z16 : Int) (z17 : Int) (z18 : Int) (z19 : Int) (z20 : Int) (z21 : Int) (z22 : Int) (z23 : Int) (z24 : Int) (z25 : Int) (z26 : Int) : sbuilt Try.prog 24 9 [(0, .agg #[.int .i64 z0, .int .i64 z1, .int .i64 z2]), (1, .agg #[.int .i64 z3, .int .i64 z4, .int .i64 z5]), (2, .agg #[.int .i64 z6, .int .i64 z7, .int .i64 z8]), (3, .agg #[.int .i64 z9, .int .i64 z10, .int .i64 z11]), (4, .agg #[.int .i64 z12, .int .i64 z13, .int .i64 z14]), (5, .agg #[.int .i64 z15, .int .i64 z16, .int .i64 z17]), (6, .agg #[.int .i64 z18, .int .i64 z19, .int .i64 z20]), (7, .agg #[.int .i64 z21, .int .i64 z22, .int .i64 z23]), (8, .agg #[.int .i64 z24, .int .i64 z25, .int .i64 z26])] = some [.int .i64 z0, .int .i64 z1, .int .i64 z2, .int .i64 z3, .int .i64 z4, .int .i64 z5, .int .i64 z6, .int .i64 z7, .int .i64 z8, .int .i64 z9, .int .i64 z10, .int .i64 z11, .int .i64 z12, .int .i64 z13, .int .i64 z14, .int .i64 z15, .int .i64 z16, .int .i64 z17, .int .i64 z18, .int .i64 z19, .int .i64 z20, .int .i64 z21, .int .i64 z22, .int .i64 z23, .int .i64 z24, .int .i64 z25, .int .i64 z26] := by kernel_rfl
theorem bd_26_0_1 (z0 : Int) (z1 : Hd) : Try.prog.built 26 [(0, .int .i64 z0), (1, (sl z1))] = some #[.int .i64 z0, (sl z1)] := by kernel_rfl
theorem tk_26 : tyk Try.prog 26 = some (true, 2) := by kernel_rfl
theorem bd_26 : Try.prog.built 26 [] = some #[.int .i64 0, (Value.slice none 0 0)] := by kernel_rfl
theorem bd_26_0 (z0 : Int) : Try.prog.built 26 [(0, .int .i64 z0)] = some #[.int .i64 z0, (Value.slice none 0 0)] := by kernel_rfl
theorem fo_26_1 : fldo Try.prog 26 1 = some 1 := by kernel_rfl
theorem tk_24 : tyk Try.prog 24 = some (false, 1) := by kernel_rfl
theorem sb_24_1 (z0 : Int) (z1 : Int) (z2 : Int) : sbuilt Try.prog 24 1 [(0, .agg #[.int .i64 z0, .int .i64 z1, .int .i64 z2])] = some [.int .i64 z0, .int .i64 z1, .int .i64 z2] := by kernel_rfl
theorem ak_24 : aok Try.prog 24 3 = true := by kernel_rfl
theorem fo_33_0 : fldo Try.prog 33 0 = some 0 := by kernel_rfl
theorem fo_33_1 : fldo Try.prog 33 1 = some 1 := by kernel_rfl
theorem fo_33_2 : fldo Try.prog 33 2 = some 2 := by kernel_rfl
theorem ub_4 : Try.prog.underlying 4 = some .bool := by kernel_rfl
theorem fa_24 : FnAt Try.prog 24 := ⟨_, _, Try.func24, rfl, by kernel_rfl⟩
theorem fa_34 : FnAt Try.prog 34 := ⟨_, _, Try.func34, rfl, by kernel_rfl⟩
theorem fa_58 : FnAt Try.prog 58 := ⟨_, _, Try.func58, rfl, by kernel_rfl⟩
theorem fa_70 : FnAt Try.prog 70 := ⟨_, _, Try.func70, rfl, by kernel_rfl⟩
theorem fa_71 : FnAt Try.prog 71 := ⟨_, _, Try.func71, rfl, by kernel_rfl⟩
theorem fa_38 : FnAt Try.prog 38 := ⟨_, _, Try.func38, rfl, by kernel_rfl⟩
theorem el_34 : elo Try.prog 34 = some 1 := by kernel_rfl
theorem sb_34_4 (z0 : Int) (z1 : Int) (z2 : Int) (z3 : Int) : sbuilt Try.prog 34 4 [(0, .int .i64 z0), (1, .int .i64 z1), (2, .int .i64 z2), (3, .int .i64 z3)] = some [.int .i64 z0, .int .i64 z1, .int .i64 z2, .int .i64 z3] := by kernel_rfl
theorem fa_52 : FnAt Try.prog 52 := ⟨_, _, Try.func52, rfl, by kernel_rfl⟩
theorem fa_51 : FnAt Try.prog 51 := ⟨_, _, Try.func51, rfl, by kernel_rfl⟩
theorem fo_26_0 : fldo Try.prog 26 0 = some 0 := by kernel_rfl
theorem el_24 : elo Try.prog 24 = some 3 := by kernel_rfl
theorem fa_53 : FnAt Try.prog 53 := ⟨_, _, Try.func53, rfl, by kernel_rfl⟩
theorem sb_24_0 : sbuilt Try.prog 24 0 [] = some [] := by kernel_rfl
theorem fa_10 : FnAt Try.prog 10 := ⟨_, _, Try.func10, rfl, by kernel_rfl⟩
theorem fa_47 : FnAt Try.prog 47 := ⟨_, _, Try.func47, rfl, by kernel_rfl⟩
theorem fa_48 : FnAt Try.prog 48 := ⟨_, _, Try.func48, rfl, by kernel_rfl⟩
theorem fa_27 : FnAt Try.prog 27 := ⟨_, _, Try.func27, rfl, by kernel_rfl⟩
theorem fa_28 : FnAt Try.prog 28 := ⟨_, _, Try.func28, rfl, by kernel_rfl⟩
theorem fa_29 : FnAt Try.prog 29 := ⟨_, _, Try.func29, rfl, by kernel_rfl⟩
theorem sb_34_0 : sbuilt Try.prog 34 0 [] = some [] := by kernel_rfl
theorem sb_34_1 (z0 : Int) : sbuilt Try.prog 34 1 [(0, .int .i64 z0)] = some [.int .i64 z0] := by kernel_rfl
theorem ak_34 : aok Try.prog 34 1 = true := by kernel_rfl
theorem fa_57 : FnAt Try.prog 57 := ⟨_, _, Try.func57, rfl, by kernel_rfl⟩
theorem fa_55 : FnAt Try.prog 55 := ⟨_, _, Try.func55, rfl, by kernel_rfl⟩
theorem fa_56 : FnAt Try.prog 56 := ⟨_, _, Try.func56, rfl, by kernel_rfl⟩
theorem fa_33 : FnAt Try.prog 33 := ⟨_, _, Try.func33, rfl, by kernel_rfl⟩
theorem fa_13 : FnAt Try.prog 13 := ⟨_, _, Try.func13, rfl, by kernel_rfl⟩
theorem fa_36 : FnAt Try.prog 36 := ⟨_, _, Try.func36, rfl, by kernel_rfl⟩
theorem fa_35 : FnAt Try.prog 35 := ⟨_, _, Try.func35, rfl, by kernel_rfl⟩
theorem fa_37 : FnAt Try.prog 37 := ⟨_, _, Try.func37, rfl, by kernel_rfl⟩
theorem fa_17 : FnAt Try.prog 17 := ⟨_, _, Try.func17, rfl, by kernel_rfl⟩
theorem fa_16 : FnAt Try.prog 16 := ⟨_, _, Try.func16, rfl, by kernel_rfl⟩
theorem fa_43 : FnAt Try.prog 43 := ⟨_, _, Try.func43, rfl, by kernel_rfl⟩
theorem fa_46 : FnAt Try.prog 46 := ⟨_, _, Try.func46, rfl, by kernel_rfl⟩
theorem fa_25 : FnAt Try.prog 25 := ⟨_, _, Try.func25, rfl, by kernel_rfl⟩
theorem fa_39 : FnAt Try.prog 39 := ⟨_, _, Try.func39, rfl, by kernel_rfl⟩
theorem fa_26 : FnAt Try.prog 26 := ⟨_, _, Try.func26, rfl, by kernel_rfl⟩
theorem fa_18 : FnAt Try.prog 18 := ⟨_, _, Try.func18, rfl, by kernel_rfl⟩
theorem fa_11 : FnAt Try.prog 11 := ⟨_, _, Try.func11, rfl, by kernel_rfl⟩
theorem fa_79 : FnAt Try.prog 79 := ⟨_, _, Try.func79, rfl, by kernel_rfl⟩
theorem fa_67 : FnAt Try.prog 67 := ⟨_, _, Try.func67, rfl, by kernel_rfl⟩
theorem fa_74 : FnAt Try.prog 74 := ⟨_, _, Try.func74, rfl, by kernel_rfl⟩
theorem fa_73 : FnAt Try.prog 73 := ⟨_, _, Try.func73, rfl, by kernel_rfl⟩
theorem fa_64 : FnAt Try.prog 64 := ⟨_, _, Try.func64, rfl, by kernel_rfl⟩
theorem fa_76 : FnAt Try.prog 76 := ⟨_, _, Try.func76, rfl, by kernel_rfl⟩
theorem fa_75 : FnAt Try.prog 75 := ⟨_, _, Try.func75, rfl, by kernel_rfl⟩
theorem fa_59 : FnAt Try.prog 59 := ⟨_, _, Try.func59, rfl, by kernel_rfl⟩
theorem fa_60 : FnAt Try.prog 60 := ⟨_, _, Try.func60, rfl, by kernel_rfl⟩
theorem fa_61 : FnAt Try.prog 61 := ⟨_, _, Try.func61, rfl, by kernel_rfl⟩
theorem sb_41_0 : sbuilt Try.prog 41 0 [] = some [] := by kernel_rfl
theorem fa_40 : FnAt Try.prog 40 := ⟨_, _, Try.func40, rfl, by kernel_rfl⟩
theorem sb_41_1 (z0 : Int) (z1 : Hd) : sbuilt Try.prog 41 1 [(0, .agg #[.int .i64 z0, (sl z1)])] = some [.int .i64 z0, (sl z1)] := by kernel_rfl
theorem ak_41 : aok Try.prog 41 2 = true := by kernel_rfl
theorem fa_19 : FnAt Try.prog 19 := ⟨_, _, Try.func19, rfl, by kernel_rfl⟩
theorem el_41 : elo Try.prog 41 = some 2 := by kernel_rfl
theorem fa_6 : FnAt Try.prog 6 := ⟨_, _, Try.func6, rfl, by kernel_rfl⟩
theorem fa_7 : FnAt Try.prog 7 := ⟨_, _, Try.func7, rfl, by kernel_rfl⟩
theorem fa_62 : FnAt Try.prog 62 := ⟨_, _, Try.func62, rfl, by kernel_rfl⟩
theorem fa_41 : FnAt Try.prog 41 := ⟨_, _, Try.func41, rfl, by kernel_rfl⟩
theorem fa_20 : FnAt Try.prog 20 := ⟨_, _, Try.func20, rfl, by kernel_rfl⟩
theorem fa_42 : FnAt Try.prog 42 := ⟨_, _, Try.func42, rfl, by kernel_rfl⟩
theorem fa_77 : FnAt Try.prog 77 := ⟨_, _, Try.func77, rfl, by kernel_rfl⟩
theorem fa_81 : FnAt Try.prog 81 := ⟨_, _, Try.func81, rfl, by kernel_rfl⟩
theorem fa_63 : FnAt Try.prog 63 := ⟨_, _, Try.func63, rfl, by kernel_rfl⟩
theorem fa_78 : FnAt Try.prog 78 := ⟨_, _, Try.func78, rfl, by kernel_rfl⟩
theorem tk_34 : tyk Try.prog 34 = some (false, 1) := by kernel_rfl
theorem fa_66 : FnAt Try.prog 66 := ⟨_, _, Try.func66, rfl, by kernel_rfl⟩
theorem fa_65 : FnAt Try.prog 65 := ⟨_, _, Try.func65, rfl, by kernel_rfl⟩
theorem fa_21 : FnAt Try.prog 21 := ⟨_, _, Try.func21, rfl, by kernel_rfl⟩
theorem fa_44 : FnAt Try.prog 44 := ⟨_, _, Try.func44, rfl, by kernel_rfl⟩
theorem mk_34 : mkinfo Try.prog 34 = some (1, true, [.int .i64 0]) := by kernel_rfl
theorem fa_45 : FnAt Try.prog 45 := ⟨_, _, Try.func45, rfl, by kernel_rfl⟩
theorem fa_22 : FnAt Try.prog 22 := ⟨_, _, Try.func22, rfl, by kernel_rfl⟩
theorem fa_82 : FnAt Try.prog 82 := ⟨_, _, Try.func82, rfl, by kernel_rfl⟩
theorem sb_22_1 (z0 : UInt8) : sbuilt Try.prog 22 1 [(0, .int .u8 (z0.toNat : Int))] = some [.int .u8 (z0.toNat : Int)] := by kernel_rfl
theorem isBytes_22 : isBytes Try.prog 22 = true := by kernel_rfl
theorem isStr_9 : isStr Try.prog 9 = true := by kernel_rfl
theorem fa_80 : FnAt Try.prog 80 := ⟨_, _, Try.func80, rfl, by kernel_rfl⟩
theorem fa_68 : FnAt Try.prog 68 := ⟨_, _, Try.func68, rfl, by kernel_rfl⟩
theorem fa_49 : FnAt Try.prog 49 := ⟨_, _, Try.func49, rfl, by kernel_rfl⟩
theorem sq_33 : seqok Try.prog 33 3 = true := by kernel_rfl
theorem fa_31 : FnAt Try.prog 31 := ⟨_, _, Try.func31, rfl, by kernel_rfl⟩
theorem fa_30 : FnAt Try.prog 30 := ⟨_, _, Try.func30, rfl, by kernel_rfl⟩
theorem fa_69 : FnAt Try.prog 69 := ⟨_, _, Try.func69, rfl, by kernel_rfl⟩
theorem fa_50 : FnAt Try.prog 50 := ⟨_, _, Try.func50, rfl, by kernel_rfl⟩
theorem fa_32 : FnAt Try.prog 32 := ⟨_, _, Try.func32, rfl, by kernel_rfl⟩
theorem fa_4 : FnAt Try.prog 4 := ⟨_, _, Try.func4, rfl, by kernel_rfl⟩
theorem fa_5 : FnAt Try.prog 5 := ⟨_, _, Try.func5, rfl, by kernel_rfl⟩
theorem fa_8 : FnAt Try.prog 8 := ⟨_, _, Try.func8, rfl, by kernel_rfl⟩
theorem fa_9 : FnAt Try.prog 9 := ⟨_, _, Try.func9, rfl, by kernel_rfl⟩
theorem fa_12 : FnAt Try.prog 12 := ⟨_, _, Try.func12, rfl, by kernel_rfl⟩
theorem fa_14 : FnAt Try.prog 14 := ⟨_, _, Try.func14, rfl, by kernel_rfl⟩
theorem fa_15 : FnAt Try.prog 15 := ⟨_, _, Try.func15, rfl, by kernel_rfl⟩
end Go.Proofs.Ytfnfngicgikhgab
