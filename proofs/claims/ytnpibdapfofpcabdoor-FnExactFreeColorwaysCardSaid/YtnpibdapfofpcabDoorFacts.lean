/-
  Closed facts on this translation.
-/
import Derived.Test.YtnpibdapfofpcabDoorPure
import Derived.Test.YtnpibdapfofpcabDoorChecked
import Derived.KernelRfl
namespace Go.Proofs.YtnpibdapfofpcabDoor
open Go Go.RowKit Go.Proofs

theorem mixed : Tryd.prog.follows .mixedOrders = true := by kernel_rfl
theorem el_22 : elo Tryd.prog 22 = some 3 := by kernel_rfl
theorem fo_24_1 : fldo Tryd.prog 24 1 = some 1 := by kernel_rfl
theorem tk_22 : tyk Tryd.prog 22 = some (false, 1) := by kernel_rfl
theorem fa_9 : FnAt Tryd.prog 9 := ⟨_, _, Tryd.func9, rfl, by kernel_rfl⟩
theorem za_49 : (Tryd.prog.info? 49).map (fun i => i.zero.map (·.cells.toList)) = some (some [.int .i64 0, .int .i64 0, .int .i64 0]) := by kernel_rfl
theorem fo_56_0 : fldo Tryd.prog 56 0 = some 0 := by kernel_rfl
theorem tk_3 : tyk Tryd.prog 3 = some (false, 1) := by kernel_rfl
theorem fo_49_0 : fldo Tryd.prog 49 0 = some 0 := by kernel_rfl
theorem fo_56_1 : fldo Tryd.prog 56 1 = some 1 := by kernel_rfl
theorem fo_49_1 : fldo Tryd.prog 49 1 = some 1 := by kernel_rfl
theorem fo_56_2 : fldo Tryd.prog 56 2 = some 2 := by kernel_rfl
theorem fo_49_2 : fldo Tryd.prog 49 2 = some 2 := by kernel_rfl
theorem tk_49 : tyk Tryd.prog 49 = some (true, 3) := by kernel_rfl
theorem mk_27 : mkinfo Tryd.prog 27 = some (3, true, [.int .i64 0, .int .i64 0, .int .i64 0]) := by kernel_rfl
theorem tk_56 : tyk Tryd.prog 56 = some (true, 3) := by kernel_rfl
theorem fa_31 : FnAt Tryd.prog 31 := ⟨_, _, Tryd.func31, rfl, by kernel_rfl⟩
theorem el_27 : elo Tryd.prog 27 = some 3 := by kernel_rfl
theorem za_29 : (Tryd.prog.info? 29).map (fun i => i.zero.map (·.cells.toList)) = some (some [.int .i64 0, (Value.slice none 0 0)]) := by kernel_rfl
theorem fo_24_0 : fldo Tryd.prog 24 0 = some 0 := by kernel_rfl
theorem fo_29_0 : fldo Tryd.prog 29 0 = some 0 := by kernel_rfl
theorem fa_16 : FnAt Tryd.prog 16 := ⟨_, _, Tryd.func16, rfl, by kernel_rfl⟩
theorem fo_29_1 : fldo Tryd.prog 29 1 = some 1 := by kernel_rfl
theorem tk_27 : tyk Tryd.prog 27 = some (false, 1) := by kernel_rfl
theorem tk_29 : tyk Tryd.prog 29 = some (true, 2) := by kernel_rfl
theorem fa_24 : FnAt Tryd.prog 24 := ⟨_, _, Tryd.func24, rfl, by kernel_rfl⟩
theorem ub_4 : Tryd.prog.underlying 4 = some .bool := by kernel_rfl
theorem fa_25 : FnAt Tryd.prog 25 := ⟨_, _, Tryd.func25, rfl, by kernel_rfl⟩
theorem sb_35_0 : sbuilt Tryd.prog 35 0 [] = some [] := by kernel_rfl
theorem fa_10 : FnAt Tryd.prog 10 := ⟨_, _, Tryd.func10, rfl, by kernel_rfl⟩
theorem sb_35_1 (z0 : Int) : sbuilt Tryd.prog 35 1 [(0, .int .i64 z0)] = some [.int .i64 z0] := by kernel_rfl
theorem ak_35 : aok Tryd.prog 35 1 = true := by kernel_rfl
theorem fa_11 : FnAt Tryd.prog 11 := ⟨_, _, Tryd.func11, rfl, by kernel_rfl⟩
theorem el_35 : elo Tryd.prog 35 = some 1 := by kernel_rfl
theorem sb_27_0 : sbuilt Tryd.prog 27 0 [] = some [] := by kernel_rfl
theorem ak_27 : aok Tryd.prog 27 3 = true := by kernel_rfl
theorem bd_29_0_1 (z0 : Int) (z1 : Hd) : Tryd.prog.built 29 [(0, .int .i64 z0), (1, (sl z1))] = some #[.int .i64 z0, (sl z1)] := by kernel_rfl
theorem bd_49 : Tryd.prog.built 49 [] = some #[.int .i64 0, .int .i64 0, .int .i64 0] := by kernel_rfl
theorem bd_49_1_2 (z0 : Int) (z1 : Int) : Tryd.prog.built 49 [(1, .int .i64 z0), (2, .int .i64 z1)] = some #[.int .i64 0, .int .i64 z0, .int .i64 z1] := by kernel_rfl
theorem fa_67 : FnAt Tryd.prog 67 := ⟨_, _, Tryd.func67, rfl, by kernel_rfl⟩
theorem bd_49_0_1_2 (z0 : Int) (z1 : Int) (z2 : Int) : Tryd.prog.built 49 [(0, .int .i64 z0), (1, .int .i64 z1), (2, .int .i64 z2)] = some #[.int .i64 z0, .int .i64 z1, .int .i64 z2] := by kernel_rfl
theorem fa_42 : FnAt Tryd.prog 42 := ⟨_, _, Tryd.func42, rfl, by kernel_rfl⟩
theorem fa_57 : FnAt Tryd.prog 57 := ⟨_, _, Tryd.func57, rfl, by kernel_rfl⟩
theorem fa_29 : FnAt Tryd.prog 29 := ⟨_, _, Tryd.func29, rfl, by kernel_rfl⟩
theorem bd_29_0 (z0 : Int) : Tryd.prog.built 29 [(0, .int .i64 z0)] = some #[.int .i64 z0, (Value.slice none 0 0)] := by kernel_rfl
theorem fa_43 : FnAt Tryd.prog 43 := ⟨_, _, Tryd.func43, rfl, by kernel_rfl⟩
theorem sb_27_1 (z0 : Int) (z1 : Int) (z2 : Int) : sbuilt Tryd.prog 27 1 [(0, .agg #[.int .i64 z0, .int .i64 z1, .int .i64 z2])] = some [.int .i64 z0, .int .i64 z1, .int .i64 z2] := by kernel_rfl
theorem fa_12 : FnAt Tryd.prog 12 := ⟨_, _, Tryd.func12, rfl, by kernel_rfl⟩
theorem bd_29 : Tryd.prog.built 29 [] = some #[.int .i64 0, (Value.slice none 0 0)] := by kernel_rfl
theorem fa_26 : FnAt Tryd.prog 26 := ⟨_, _, Tryd.func26, rfl, by kernel_rfl⟩
theorem mk_51 : mkinfo Tryd.prog 51 = some (1, true, [.bool false]) := by kernel_rfl
theorem el_51 : elo Tryd.prog 51 = some 1 := by kernel_rfl
theorem tk_4 : tyk Tryd.prog 4 = some (false, 1) := by kernel_rfl
theorem fa_27 : FnAt Tryd.prog 27 := ⟨_, _, Tryd.func27, rfl, by kernel_rfl⟩
theorem fa_59 : FnAt Tryd.prog 59 := ⟨_, _, Tryd.func59, rfl, by kernel_rfl⟩
theorem fa_60 : FnAt Tryd.prog 60 := ⟨_, _, Tryd.func60, rfl, by kernel_rfl⟩
theorem fa_45 : FnAt Tryd.prog 45 := ⟨_, _, Tryd.func45, rfl, by kernel_rfl⟩
theorem fa_46 : FnAt Tryd.prog 46 := ⟨_, _, Tryd.func46, rfl, by kernel_rfl⟩
theorem isInt_3 : isInt Tryd.prog 3 = true := by kernel_rfl
theorem isU8_5 : isU8 Tryd.prog 5 = true := by kernel_rfl
theorem fa_58 : FnAt Tryd.prog 58 := ⟨_, _, Tryd.func58, rfl, by kernel_rfl⟩
theorem sb_75_1 (z0 : UInt8) : sbuilt Tryd.prog 75 1 [(0, .int .u8 (z0.toNat : Int))] = some [.int .u8 (z0.toNat : Int)] := by kernel_rfl
theorem isBytes_75 : isBytes Tryd.prog 75 = true := by kernel_rfl
theorem isStr_9 : isStr Tryd.prog 9 = true := by kernel_rfl
theorem fa_44 : FnAt Tryd.prog 44 := ⟨_, _, Tryd.func44, rfl, by kernel_rfl⟩
theorem fa_28 : FnAt Tryd.prog 28 := ⟨_, _, Tryd.func28, rfl, by kernel_rfl⟩
theorem fa_30 : FnAt Tryd.prog 30 := ⟨_, _, Tryd.func30, rfl, by kernel_rfl⟩
theorem fa_14 : FnAt Tryd.prog 14 := ⟨_, _, Tryd.func14, rfl, by kernel_rfl⟩
theorem sb_37_0 : sbuilt Tryd.prog 37 0 [] = some [] := by kernel_rfl
theorem fa_13 : FnAt Tryd.prog 13 := ⟨_, _, Tryd.func13, rfl, by kernel_rfl⟩
theorem fa_15 : FnAt Tryd.prog 15 := ⟨_, _, Tryd.func15, rfl, by kernel_rfl⟩
theorem el_37 : elo Tryd.prog 37 = some 1 := by kernel_rfl
theorem tk_9 : tyk Tryd.prog 9 = some (false, 1) := by kernel_rfl
theorem sb_37_1 (z0 : Str) : sbuilt Tryd.prog 37 1 [(0, bs z0)] = some [bs z0] := by kernel_rfl
theorem ak_37 : aok Tryd.prog 37 1 = true := by kernel_rfl
theorem fa_32 : FnAt Tryd.prog 32 := ⟨_, _, Tryd.func32, rfl, by kernel_rfl⟩
theorem fa_47 : FnAt Tryd.prog 47 := ⟨_, _, Tryd.func47, rfl, by kernel_rfl⟩
theorem fa_33 : FnAt Tryd.prog 33 := ⟨_, _, Tryd.func33, rfl, by kernel_rfl⟩
theorem fa_17 : FnAt Tryd.prog 17 := ⟨_, _, Tryd.func17, rfl, by kernel_rfl⟩
theorem fa_48 : FnAt Tryd.prog 48 := ⟨_, _, Tryd.func48, rfl, by kernel_rfl⟩
theorem fa_34 : FnAt Tryd.prog 34 := ⟨_, _, Tryd.func34, rfl, by kernel_rfl⟩
theorem fa_18 : FnAt Tryd.prog 18 := ⟨_, _, Tryd.func18, rfl, by kernel_rfl⟩
theorem fa_35 : FnAt Tryd.prog 35 := ⟨_, _, Tryd.func35, rfl, by kernel_rfl⟩
theorem fa_61 : FnAt Tryd.prog 61 := ⟨_, _, Tryd.func61, rfl, by kernel_rfl⟩
theorem fa_63 : FnAt Tryd.prog 63 := ⟨_, _, Tryd.func63, rfl, by kernel_rfl⟩
theorem fa_68 : FnAt Tryd.prog 68 := ⟨_, _, Tryd.func68, rfl, by kernel_rfl⟩
theorem fa_49 : FnAt Tryd.prog 49 := ⟨_, _, Tryd.func49, rfl, by kernel_rfl⟩
theorem fa_62 : FnAt Tryd.prog 62 := ⟨_, _, Tryd.func62, rfl, by kernel_rfl⟩
theorem tk_35 : tyk Tryd.prog 35 = some (false, 1) := by kernel_rfl
theorem fa_54 : FnAt Tryd.prog 54 := ⟨_, _, Tryd.func54, rfl, by kernel_rfl⟩
theorem fa_53 : FnAt Tryd.prog 53 := ⟨_, _, Tryd.func53, rfl, by kernel_rfl⟩
theorem fa_50 : FnAt Tryd.prog 50 := ⟨_, _, Tryd.func50, rfl, by kernel_rfl⟩
theorem fa_52 : FnAt Tryd.prog 52 := ⟨_, _, Tryd.func52, rfl, by kernel_rfl⟩
theorem fa_51 : FnAt Tryd.prog 51 := ⟨_, _, Tryd.func51, rfl, by kernel_rfl⟩
theorem fa_19 : FnAt Tryd.prog 19 := ⟨_, _, Tryd.func19, rfl, by kernel_rfl⟩
theorem fa_36 : FnAt Tryd.prog 36 := ⟨_, _, Tryd.func36, rfl, by kernel_rfl⟩
theorem mk_35 : mkinfo Tryd.prog 35 = some (1, true, [.int .i64 0]) := by kernel_rfl
theorem fa_37 : FnAt Tryd.prog 37 := ⟨_, _, Tryd.func37, rfl, by kernel_rfl⟩
theorem fa_70 : FnAt Tryd.prog 70 := ⟨_, _, Tryd.func70, rfl, by kernel_rfl⟩
theorem fa_69 : FnAt Tryd.prog 69 := ⟨_, _, Tryd.func69, rfl, by kernel_rfl⟩
theorem fa_72 : FnAt Tryd.prog 72 := ⟨_, _, Tryd.func72, rfl, by kernel_rfl⟩
theorem fa_71 : FnAt Tryd.prog 71 := ⟨_, _, Tryd.func71, rfl, by kernel_rfl⟩
theorem fa_64 : FnAt Tryd.prog 64 := ⟨_, _, Tryd.func64, rfl, by kernel_rfl⟩
theorem fa_65 : FnAt Tryd.prog 65 := ⟨_, _, Tryd.func65, rfl, by kernel_rfl⟩
theorem sb_43_0 : sbuilt Tryd.prog 43 0 [] = some [] := by kernel_rfl
theorem fa_55 : FnAt Tryd.prog 55 := ⟨_, _, Tryd.func55, rfl, by kernel_rfl⟩
theorem sb_43_1 (z0 : Int) (z1 : Hd) : sbuilt Tryd.prog 43 1 [(0, .agg #[.int .i64 z0, (sl z1)])] = some [.int .i64 z0, (sl z1)] := by kernel_rfl
theorem ak_43 : aok Tryd.prog 43 2 = true := by kernel_rfl
theorem fa_73 : FnAt Tryd.prog 73 := ⟨_, _, Tryd.func73, rfl, by kernel_rfl⟩
theorem sb_37_3 (z0 : Str) (z1 : Str) (z2 : Str) : sbuilt Tryd.prog 37 3 [(0, bs z0), (1, bs z1), (2, bs z2)] = some [bs z0, bs z1, bs z2] := by kernel_rfl
theorem fa_66 : FnAt Tryd.prog 66 := ⟨_, _, Tryd.func66, rfl, by kernel_rfl⟩
theorem fa_56 : FnAt Tryd.prog 56 := ⟨_, _, Tryd.func56, rfl, by kernel_rfl⟩
theorem el_43 : elo Tryd.prog 43 = some 2 := by kernel_rfl
theorem fa_40 : FnAt Tryd.prog 40 := ⟨_, _, Tryd.func40, rfl, by kernel_rfl⟩
theorem fa_39 : FnAt Tryd.prog 39 := ⟨_, _, Tryd.func39, rfl, by kernel_rfl⟩
theorem fa_38 : FnAt Tryd.prog 38 := ⟨_, _, Tryd.func38, rfl, by kernel_rfl⟩
theorem mt_62 : mapT Tryd.prog 62 = true := by kernel_rfl
theorem fa_20 : FnAt Tryd.prog 20 := ⟨_, _, Tryd.func20, rfl, by kernel_rfl⟩
theorem fa_21 : FnAt Tryd.prog 21 := ⟨_, _, Tryd.func21, rfl, by kernel_rfl⟩
theorem fa_22 : FnAt Tryd.prog 22 := ⟨_, _, Tryd.func22, rfl, by kernel_rfl⟩
theorem fa_41 : FnAt Tryd.prog 41 := ⟨_, _, Tryd.func41, rfl, by kernel_rfl⟩
theorem fa_23 : FnAt Tryd.prog 23 := ⟨_, _, Tryd.func23, rfl, by kernel_rfl⟩
theorem tk_24 : tyk Tryd.prog 24 = some (true, 2) := by kernel_rfl
theorem fa_4 : FnAt Tryd.prog 4 := ⟨_, _, Tryd.func4, rfl, by kernel_rfl⟩
theorem fa_6 : FnAt Tryd.prog 6 := ⟨_, _, Tryd.func6, rfl, by kernel_rfl⟩
theorem fa_5 : FnAt Tryd.prog 5 := ⟨_, _, Tryd.func5, rfl, by kernel_rfl⟩
theorem fa_7 : FnAt Tryd.prog 7 := ⟨_, _, Tryd.func7, rfl, by kernel_rfl⟩
theorem fa_8 : FnAt Tryd.prog 8 := ⟨_, _, Tryd.func8, rfl, by kernel_rfl⟩
end Go.Proofs.YtnpibdapfofpcabDoor
