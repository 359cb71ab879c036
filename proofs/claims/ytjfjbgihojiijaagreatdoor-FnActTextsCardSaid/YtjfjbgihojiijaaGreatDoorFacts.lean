/-
  Closed facts on this translation.
-/
import Derived.Test.YtjfjbgihojiijaaGreatDoorPure
import Derived.Test.YtjfjbgihojiijaaGreatDoorChecked
import Derived.KernelRfl
import Derived.Test.YtjfjbgihojiijaaGreatDoorErr
namespace Go.Proofs.YtjfjbgihojiijaaGreatDoor
open Go Go.RowKit Go.Proofs

theorem mixed : Tryz.prog.follows .mixedOrders = true := by kernel_rfl
theorem el_22 : elo Tryz.prog 22 = some 1 := by kernel_rfl
theorem tk_5 : tyk Tryz.prog 5 = some (false, 1) := by kernel_rfl
theorem isU8_5 : isU8 Tryz.prog 5 = true := by kernel_rfl
theorem isInt_3 : isInt Tryz.prog 3 = true := by kernel_rfl
theorem bd_53_0_2 (z0 : Hd) (z1 : Int) : Tryz.prog.built 53 [(0, (sl z0)), (2, .int .i64 z1)] = some #[(sl z0), .int .i64 0, .int .i64 z1] := by kernel_rfl
theorem fo_53_2 : fldo Tryz.prog 53 2 = some 2 := by kernel_rfl
theorem tk_3 : tyk Tryz.prog 3 = some (false, 1) := by kernel_rfl
theorem fo_53_1 : fldo Tryz.prog 53 1 = some 1 := by kernel_rfl
theorem fo_53_0 : fldo Tryz.prog 53 0 = some 0 := by kernel_rfl
theorem tk_22 : tyk Tryz.prog 22 = some (false, 1) := by kernel_rfl
theorem fa_33 : FnAt Tryz.prog 33 := ⟨_, _, Tryz.func33, rfl, by kernel_rfl⟩
theorem fa_20 : FnAt Tryz.prog 20 := ⟨_, _, Tryz.func20, rfl, by kernel_rfl⟩
theorem el_24 : elo Tryz.prog 24 = some 3 := by kernel_rfl
theorem tk_79 : tyk Tryz.prog 79 = some (true, 3) := by kernel_rfl
theorem za_79 : (Tryz.prog.info? 79).map (fun i => i.zero.map (·.cells.toList)) = some (some [.int .i64 0, .int .i64 0, .int .i64 0]) := by kernel_rfl
theorem fo_79_0 : fldo Tryz.prog 79 0 = some 0 := by kernel_rfl
theorem fa_58 : FnAt Tryz.prog 58 := ⟨_, _, Tryz.func58, rfl, by kernel_rfl⟩
theorem fo_79_1 : fldo Tryz.prog 79 1 = some 1 := by kernel_rfl
theorem fo_79_2 : fldo Tryz.prog 79 2 = some 2 := by kernel_rfl
theorem el_25 : elo Tryz.prog 25 = some 1 := by kernel_rfl
theorem el_27 : elo Tryz.prog 27 = some 4 := by kernel_rfl
theorem tk_88 : tyk Tryz.prog 88 = some (true, 4) := by kernel_rfl
theorem za_88 : (Tryz.prog.info? 88).map (fun i => i.zero.map (·.cells.toList)) = some (some [.int .i64 0, .int .i64 0, .int .i64 0, .int .i64 0]) := by kernel_rfl
theorem fo_88_0 : fldo Tryz.prog 88 0 = some 0 := by kernel_rfl
theorem fo_88_1 : fldo Tryz.prog 88 1 = some 1 := by kernel_rfl
theorem fo_88_2 : fldo Tryz.prog 88 2 = some 2 := by kernel_rfl
theorem fo_88_3 : fldo Tryz.prog 88 3 = some 3 := by kernel_rfl
theorem fo_75_0 : fldo Tryz.prog 75 0 = some 0 := by kernel_rfl
theorem fo_75_1 : fldo Tryz.prog 75 1 = some 1 := by kernel_rfl
theorem fo_75_2 : fldo Tryz.prog 75 2 = some 2 := by kernel_rfl
theorem ub_4 : Tryz.prog.underlying 4 = some .bool := by kernel_rfl
theorem fo_73_0 : fldo Tryz.prog 73 0 = some 0 := by kernel_rfl
theorem fo_73_1 : fldo Tryz.prog 73 1 = some 1 := by kernel_rfl
theorem tk_71 : tyk Tryz.prog 71 = some (false, 1) := by kernel_rfl
theorem el_71 : elo Tryz.prog 71 = some 3 := by kernel_rfl
theorem tk_75 : tyk Tryz.prog 75 = some (true, 3) := by kernel_rfl
theorem fa_63 : FnAt Tryz.prog 63 := ⟨_, _, Tryz.func63, rfl, by kernel_rfl⟩
theorem fo_96_0 : fldo Tryz.prog 96 0 = some 0 := by kernel_rfl
theorem fo_96_1 : fldo Tryz.prog 96 1 = some 1 := by kernel_rfl
theorem fo_96_2 : fldo Tryz.prog 96 2 = some 2 := by kernel_rfl
theorem tk_73 : tyk Tryz.prog 73 = some (true, 2) := by kernel_rfl
theorem fa_69 : FnAt Tryz.prog 69 := ⟨_, _, Tryz.func69, rfl, by kernel_rfl⟩
theorem sb_25_0 : sbuilt Tryz.prog 25 0 [] = some [] := by kernel_rfl
theorem fa_55 : FnAt Tryz.prog 55 := ⟨_, _, Tryz.func55, rfl, by kernel_rfl⟩
theorem sb_25_1 (z0 : Int) : sbuilt Tryz.prog 25 1 [(0, .int .i64 z0)] = some [.int .i64 z0] := by kernel_rfl
theorem ak_25 : aok Tryz.prog 25 1 = true := by kernel_rfl
theorem fo_29_0 : fldo Tryz.prog 29 0 = some 0 := by kernel_rfl
theorem tk_24 : tyk Tryz.prog 24 = some (false, 1) := by kernel_rfl
theorem fo_29_5 : fldo Tryz.prog 29 5 = some 5 := by kernel_rfl
theorem fa_70 : FnAt Tryz.prog 70 := ⟨_, _, Tryz.func70, rfl, by kernel_rfl⟩
theorem fo_29_1 : fldo Tryz.prog 29 1 = some 1 := by kernel_rfl
theorem tk_25 : tyk Tryz.prog 25 = some (false, 1) := by kernel_rfl
theorem fa_56 : FnAt Tryz.prog 56 := ⟨_, _, Tryz.func56, rfl, by kernel_rfl⟩
theorem fo_29_3 : fldo Tryz.prog 29 3 = some 3 := by kernel_rfl
theorem tk_27 : tyk Tryz.prog 27 = some (false, 1) := by kernel_rfl
theorem fa_57 : FnAt Tryz.prog 57 := ⟨_, _, Tryz.func57, rfl, by kernel_rfl⟩
theorem fo_29_2 : fldo Tryz.prog 29 2 = some 2 := by kernel_rfl
theorem tk_26 : tyk Tryz.prog 26 = some (false, 1) := by kernel_rfl
theorem el_26 : elo Tryz.prog 26 = some 4 := by kernel_rfl
theorem tk_96 : tyk Tryz.prog 96 = some (true, 4) := by kernel_rfl
theorem za_96 : (Tryz.prog.info? 96).map (fun i => i.zero.map (·.cells.toList)) = some (some [.int .i64 0, .int .i64 0, .int .i64 0, (Value.slice none 0 0)]) := by kernel_rfl
theorem fa_59 : FnAt Tryz.prog 59 := ⟨_, _, Tryz.func59, rfl, by kernel_rfl⟩
theorem fa_60 : FnAt Tryz.prog 60 := ⟨_, _, Tryz.func60, rfl, by kernel_rfl⟩
theorem fo_29_4 : fldo Tryz.prog 29 4 = some 4 := by kernel_rfl
theorem tk_29 : tyk Tryz.prog 29 = some (true, 6) := by kernel_rfl
theorem fa_61 : FnAt Tryz.prog 61 := ⟨_, _, Tryz.func61, rfl, by kernel_rfl⟩
theorem za_29 : (Tryz.prog.info? 29).map (fun i => i.zero.map (·.cells.toList)) = some (some [(Value.slice none 0 0), (Value.slice none 0 0), (Value.slice none 0 0), (Value.slice none 0 0), .int .i64 0, .int .i64 0]) := by kernel_rfl
theorem bd_29_5 (z0 : Int) : Tryz.prog.built 29 [(5, .int .i64 z0)] = some #[(Value.slice none 0 0), (Value.slice none 0 0), (Value.slice none 0 0), (Value.slice none 0 0), .int .i64 0, .int .i64 z0] := by kernel_rfl
theorem fa_39 : FnAt Tryz.prog 39 := ⟨_, _, Tryz.func39, rfl, by kernel_rfl⟩
theorem bd_29 : Tryz.prog.built 29 [] = some #[(Value.slice none 0 0), (Value.slice none 0 0), (Value.slice none 0 0), (Value.slice none 0 0), .int .i64 0, .int .i64 0] := by kernel_rfl
theorem za_73 : (Tryz.prog.info? 73).map (fun i => i.zero.map (·.cells.toList)) = some (some [.int .i64 0, (Value.slice none 0 0)]) := by kernel_rfl
theorem sb_71_0 : sbuilt Tryz.prog 71 0 [] = some [] := by kernel_rfl
theorem ak_71 : aok Tryz.prog 71 3 = true := by kernel_rfl
theorem bd_73_0_1 (z0 : Int) (z1 : Hd) : Tryz.prog.built 73 [(0, .int .i64 z0), (1, (sl z1))] = some #[.int .i64 z0, (sl z1)] := by kernel_rfl
theorem sb_24_0 : sbuilt Tryz.prog 24 0 [] = some [] := by kernel_rfl
theorem ak_24 : aok Tryz.prog 24 3 = true := by kernel_rfl
theorem sb_27_0 : sbuilt Tryz.prog 27 0 [] = some [] := by kernel_rfl
theorem ak_27 : aok Tryz.prog 27 4 = true := by kernel_rfl
theorem bd_29_0_1_3_4_5 (z0 : Hd) (z1 : Hd) (z2 : Hd) (z3 : Int) (z4 : Int) : Tryz.prog.built 29 [(0, (sl z0)), (1, (sl z1)), (3, (sl z2)), (4, .int .i64 z3), (5, .int .i64 z4)] = some #[(sl z0), (sl z1), (Value.slice none 0 0), (sl z2), .int .i64 z3, .int .i64 z4] := by kernel_rfl
theorem fa_45 : FnAt Tryz.prog 45 := ⟨_, _, Tryz.func45, rfl, by kernel_rfl⟩
theorem sb_26_1 (z0 : Int) (z1 : Int) (z2 : Int) (z3 : Hd) : sbuilt Tryz.prog 26 1 [(0, .agg #[.int .i64 z0, .int .i64 z1, .int .i64 z2, (sl z3)])] = some [.int .i64 z0, .int .i64 z1, .int .i64 z2, (sl z3)] := by kernel_rfl
theorem ak_26 : aok Tryz.prog 26 4 = true := by kernel_rfl
theorem bd_79_0_1_2 (z0 : Int) (z1 : Int) (z2 : Int) : Tryz.prog.built 79 [(0, .int .i64 z0), (1, .int .i64 z1), (2, .int .i64 z2)] = some #[.int .i64 z0, .int .i64 z1, .int .i64 z2] := by kernel_rfl
theorem sb_24_1 (z0 : Int) (z1 : Int) (z2 : Int) : sbuilt Tryz.prog 24 1 [(0, .agg #[.int .i64 z0, .int .i64 z1, .int .i64 z2])] = some [.int .i64 z0, .int .i64 z1, .int .i64 z2] := by kernel_rfl
theorem sb_27_1 (z0 : Int) (z1 : Int) (z2 : Int) (z3 : Int) : sbuilt Tryz.prog 27 1 [(0, .agg #[.int .i64 z0, .int .i64 z1, .int .i64 z2, .int .i64 z3])] = some [.int .i64 z0, .int .i64 z1, .int .i64 z2, .int .i64 z3] := by kernel_rfl
theorem fa_40 : FnAt Tryz.prog 40 := ⟨_, _, Tryz.func40, rfl, by kernel_rfl⟩
theorem fa_41 : FnAt Tryz.prog 41 := ⟨_, _, Tryz.func41, rfl, by kernel_rfl⟩
theorem fa_42 : FnAt Tryz.prog 42 := ⟨_, _, Tryz.func42, rfl, by kernel_rfl⟩
theorem bd_88_0_1_2_3 (z0 : Int) (z1 : Int) (z2 : Int) (z3 : Int) : Tryz.prog.built 88 [(0, .int .i64 z0), (1, .int .i64 z1), (2, .int .i64 z2), (3, .int .i64 z3)] = some #[.int .i64 z0, .int .i64 z1, .int .i64 z2, .int .i64 z3] := by kernel_rfl
theorem fa_43 : FnAt Tryz.prog 43 := ⟨_, _, Tryz.func43, rfl, by kernel_rfl⟩
theorem fa_27 : FnAt Tryz.prog 27 := ⟨_, _, Tryz.func27, rfl, by kernel_rfl⟩
theorem fa_28 : FnAt Tryz.prog 28 := ⟨_, _, Tryz.func28, rfl, by kernel_rfl⟩
theorem za_75 : (Tryz.prog.info? 75).map (fun i => i.zero.map (·.cells.toList)) = some (some [.int .i64 0, .int .i64 0, .int .i64 0]) := by kernel_rfl
theorem bd_75 : Tryz.prog.built 75 [] = some #[.int .i64 0, .int .i64 0, .int .i64 0] := by kernel_rfl
theorem bd_75_1_2 (z0 : Int) (z1 : Int) : Tryz.prog.built 75 [(1, .int .i64 z0), (2, .int .i64 z1)] = some #[.int .i64 0, .int .i64 z0, .int .i64 z1] := by kernel_rfl
theorem fa_62 : FnAt Tryz.prog 62 := ⟨_, _, Tryz.func62, rfl, by kernel_rfl⟩
theorem bd_75_0_1_2 (z0 : Int) (z1 : Int) (z2 : Int) : Tryz.prog.built 75 [(0, .int .i64 z0), (1, .int .i64 z1), (2, .int .i64 z2)] = some #[.int .i64 z0, .int .i64 z1, .int .i64 z2] := by kernel_rfl
theorem fa_44 : FnAt Tryz.prog 44 := ⟨_, _, Tryz.func44, rfl, by kernel_rfl⟩
theorem fa_103 : FnAt Tryz.prog 103 := ⟨_, _, Tryz.func103, rfl, by kernel_rfl⟩
theorem bd_73_0 (z0 : Int) : Tryz.prog.built 73 [(0, .int .i64 z0)] = some #[.int .i64 z0, (Value.slice none 0 0)] := by kernel_rfl
theorem fa_104 : FnAt Tryz.prog 104 := ⟨_, _, Tryz.func104, rfl, by kernel_rfl⟩
theorem sb_71_1 (z0 : Int) (z1 : Int) (z2 : Int) : sbuilt Tryz.prog 71 1 [(0, .agg #[.int .i64 z0, .int .i64 z1, .int .i64 z2])] = some [.int .i64 z0, .int .i64 z1, .int .i64 z2] := by kernel_rfl
theorem fa_99 : FnAt Tryz.prog 99 := ⟨_, _, Tryz.func99, rfl, by kernel_rfl⟩
theorem fa_98 : FnAt Tryz.prog 98 := ⟨_, _, Tryz.func98, rfl, by kernel_rfl⟩
theorem bd_73 : Tryz.prog.built 73 [] = some #[.int .i64 0, (Value.slice none 0 0)] := by kernel_rfl
theorem fa_101 : FnAt Tryz.prog 101 := ⟨_, _, Tryz.func101, rfl, by kernel_rfl⟩
theorem fa_102 : FnAt Tryz.prog 102 := ⟨_, _, Tryz.func102, rfl, by kernel_rfl⟩
theorem fa_94 : FnAt Tryz.prog 94 := ⟨_, _, Tryz.func94, rfl, by kernel_rfl⟩
theorem fa_95 : FnAt Tryz.prog 95 := ⟨_, _, Tryz.func95, rfl, by kernel_rfl⟩
theorem fa_106 : FnAt Tryz.prog 106 := ⟨_, _, Tryz.func106, rfl, by kernel_rfl⟩
theorem sb_22_1 (z0 : UInt8) : sbuilt Tryz.prog 22 1 [(0, .int .u8 (z0.toNat : Int))] = some [.int .u8 (z0.toNat : Int)] := by kernel_rfl
theorem isBytes_22 : isBytes Tryz.prog 22 = true := by kernel_rfl
theorem isStr_9 : isStr Tryz.prog 9 = true := by kernel_rfl
theorem fa_105 : FnAt Tryz.prog 105 := ⟨_, _, Tryz.func105, rfl, by kernel_rfl⟩
theorem fa_100 : FnAt Tryz.prog 100 := ⟨_, _, Tryz.func100, rfl, by kernel_rfl⟩
theorem fa_91 : FnAt Tryz.prog 91 := ⟨_, _, Tryz.func91, rfl, by kernel_rfl⟩
theorem fa_85 : FnAt Tryz.prog 85 := ⟨_, _, Tryz.func85, rfl, by kernel_rfl⟩
theorem fa_92 : FnAt Tryz.prog 92 := ⟨_, _, Tryz.func92, rfl, by kernel_rfl⟩
theorem sq_75 : seqok Tryz.prog 75 3 = true := by kernel_rfl
theorem fa_80 : FnAt Tryz.prog 80 := ⟨_, _, Tryz.func80, rfl, by kernel_rfl⟩
theorem fa_79 : FnAt Tryz.prog 79 := ⟨_, _, Tryz.func79, rfl, by kernel_rfl⟩
theorem sb_141_0 : sbuilt Tryz.prog 141 0 [] = some [] := by kernel_rfl
theorem mk_25 : mkinfo Tryz.prog 25 = some (1, true, [.int .i64 0]) := by kernel_rfl
theorem sb_141_1 (z0 : Hd) : sbuilt Tryz.prog 141 1 [(0, (sl z0))] = some [(sl z0)] := by kernel_rfl
theorem ak_141 : aok Tryz.prog 141 1 = true := by kernel_rfl
theorem fa_93 : FnAt Tryz.prog 93 := ⟨_, _, Tryz.func93, rfl, by kernel_rfl⟩
theorem el_141 : elo Tryz.prog 141 = some 1 := by kernel_rfl
theorem fa_83 : FnAt Tryz.prog 83 := ⟨_, _, Tryz.func83, rfl, by kernel_rfl⟩
theorem fa_81 : FnAt Tryz.prog 81 := ⟨_, _, Tryz.func81, rfl, by kernel_rfl⟩
theorem fa_82 : FnAt Tryz.prog 82 := ⟨_, _, Tryz.func82, rfl, by kernel_rfl⟩
theorem fa_84 : FnAt Tryz.prog 84 := ⟨_, _, Tryz.func84, rfl, by kernel_rfl⟩
theorem fa_71 : FnAt Tryz.prog 71 := ⟨_, _, Tryz.func71, rfl, by kernel_rfl⟩
theorem fa_72 : FnAt Tryz.prog 72 := ⟨_, _, Tryz.func72, rfl, by kernel_rfl⟩
theorem fa_64 : FnAt Tryz.prog 64 := ⟨_, _, Tryz.func64, rfl, by kernel_rfl⟩
theorem bd_96_0_1_2 (z0 : Int) (z1 : Int) (z2 : Int) (z3 : Hd) : Tryz.prog.built 96 [(0, .int .i64 z0), (1, .int .i64 z1), (2, .agg #[.int .i64 z2, (sl z3)])] = some #[.int .i64 z0, .int .i64 z1, .int .i64 z2, (sl z3)] := by kernel_rfl
theorem fa_46 : FnAt Tryz.prog 46 := ⟨_, _, Tryz.func46, rfl, by kernel_rfl⟩
theorem fa_29 : FnAt Tryz.prog 29 := ⟨_, _, Tryz.func29, rfl, by kernel_rfl⟩
theorem fa_30 : FnAt Tryz.prog 30 := ⟨_, _, Tryz.func30, rfl, by kernel_rfl⟩
theorem fa_31 : FnAt Tryz.prog 31 := ⟨_, _, Tryz.func31, rfl, by kernel_rfl⟩
theorem fa_17 : FnAt Tryz.prog 17 := ⟨_, _, Tryz.func17, rfl, by kernel_rfl⟩
theorem fa_32 : FnAt Tryz.prog 32 := ⟨_, _, Tryz.func32, rfl, by kernel_rfl⟩
theorem fa_18 : FnAt Tryz.prog 18 := ⟨_, _, Tryz.func18, rfl, by kernel_rfl⟩
theorem fa_19 : FnAt Tryz.prog 19 := ⟨_, _, Tryz.func19, rfl, by kernel_rfl⟩
theorem za_36 : (Tryz.prog.info? 36).map (fun i => i.zero.map (·.cells.toList)) = some (some [.int .i64 0, .int .i64 0, .int .i64 0]) := by kernel_rfl
theorem bd_36_0_1 (z0 : Int) (z1 : Int) : Tryz.prog.built 36 [(0, .int .i64 z0), (1, .int .i64 z1)] = some #[.int .i64 z0, .int .i64 z1, .int .i64 0] := by kernel_rfl
theorem tk_36 : tyk Tryz.prog 36 = some (true, 3) := by kernel_rfl
theorem bd_36_0_1_2 (z0 : Int) (z1 : Int) (z2 : Int) : Tryz.prog.built 36 [(0, .int .i64 z0), (1, .int .i64 z1), (2, .int .i64 z2)] = some #[.int .i64 z0, .int .i64 z1, .int .i64 z2] := by kernel_rfl
theorem bd_36_0 (z0 : Int) : Tryz.prog.built 36 [(0, .int .i64 z0)] = some #[.int .i64 z0, .int .i64 0, .int .i64 0] := by kernel_rfl
theorem sb_30_0 : sbuilt Tryz.prog 30 0 [] = some [] := by kernel_rfl
theorem fa_21 : FnAt Tryz.prog 21 := ⟨_, _, Tryz.func21, rfl, by kernel_rfl⟩
theorem sb_30_1 (z0 : Int) (z1 : Int) (z2 : Int) : sbuilt Tryz.prog 30 1 [(0, .agg #[.int .i64 z0, .int .i64 z1, .int .i64 z2])] = some [.int .i64 z0, .int .i64 z1, .int .i64 z2] := by kernel_rfl
theorem ak_30 : aok Tryz.prog 30 3 = true := by kernel_rfl
theorem fa_8 : FnAt Tryz.prog 8 := ⟨_, _, Tryz.func8, rfl, by kernel_rfl⟩
theorem fa_9 : FnAt Tryz.prog 9 := ⟨_, _, Tryz.func9, rfl, by kernel_rfl⟩
theorem fa_10 : FnAt Tryz.prog 10 := ⟨_, _, Tryz.func10, rfl, by kernel_rfl⟩
theorem fo_36_0 : fldo Tryz.prog 36 0 = some 0 := by kernel_rfl
theorem fo_36_1 : fldo Tryz.prog 36 1 = some 1 := by kernel_rfl
theorem fa_14 : FnAt Tryz.prog 14 := ⟨_, _, Tryz.func14, rfl, by kernel_rfl⟩
theorem fo_36_2 : fldo Tryz.prog 36 2 = some 2 := by kernel_rfl
theorem fa_34 : FnAt Tryz.prog 34 := ⟨_, _, Tryz.func34, rfl, by kernel_rfl⟩
theorem sb_45_1 (z0 : Str) : sbuilt Tryz.prog 45 1 [(0, bs z0)] = some [bs z0] := by kernel_rfl
theorem fa_22 : FnAt Tryz.prog 22 := ⟨_, _, Tryz.func22, rfl, by kernel_rfl⟩
theorem ak_45 : aok Tryz.prog 45 1 = true := by kernel_rfl
theorem fa_16 : FnAt Tryz.prog 16 := ⟨_, _, Tryz.func16, rfl, by kernel_rfl⟩
theorem fa_11 : FnAt Tryz.prog 11 := ⟨_, _, Tryz.func11, rfl, by kernel_rfl⟩
theorem fa_12 : FnAt Tryz.prog 12 := ⟨_, _, Tryz.func12, rfl, by kernel_rfl⟩
theorem sb_25_2 (z0 : Int) (z1 : Int) : sbuilt Tryz.prog 25 2 [(0, .int .i64 z0), (1, .int .i64 z1)] = some [.int .i64 z0, .int .i64 z1] := by kernel_rfl
theorem sb_45_0 : sbuilt Tryz.prog 45 0 [] = some [] := by kernel_rfl
theorem el_45 : elo Tryz.prog 45 = some 1 := by kernel_rfl
theorem fa_23 : FnAt Tryz.prog 23 := ⟨_, _, Tryz.func23, rfl, by kernel_rfl⟩
theorem if_60 : isIfc Tryz.prog 60 = true := by kernel_rfl
theorem fa_13 : FnAt Tryz.prog 13 := ⟨_, _, Tryz.func13, rfl, by kernel_rfl⟩
theorem bd_36 : Tryz.prog.built 36 [] = some #[.int .i64 0, .int .i64 0, .int .i64 0] := by kernel_rfl
theorem sb_45_7 (z0 : Str) (z1 : Str) (z2 : Str) (z3 : Str) (z4 : Str) (z5 : Str) (z6 : Str) : sbuilt Tryz.prog 45 7 [(0, bs z0), (1, bs z1), (2, bs z2), (3, bs z3), (4, bs z4), (5, bs z5), (6, bs z6)] = some [bs z0, bs z1, bs z2, bs z3, bs z4, bs z5, bs z6] := by kernel_rfl
theorem tk_9 : tyk Tryz.prog 9 = some (false, 1) := by kernel_rfl
theorem fa_15 : FnAt Tryz.prog 15 := ⟨_, _, Tryz.func15, rfl, by kernel_rfl⟩
theorem fa_6 : FnAt Tryz.prog 6 := ⟨_, _, Tryz.func6, rfl, by kernel_rfl⟩
theorem fa_4 : FnAt Tryz.prog 4 := ⟨_, _, Tryz.func4, rfl, by kernel_rfl⟩
theorem fa_5 : FnAt Tryz.prog 5 := ⟨_, _, Tryz.func5, rfl, by kernel_rfl⟩
theorem el_30 : elo Tryz.prog 30 = some 3 := by kernel_rfl
theorem fa_7 : FnAt Tryz.prog 7 := ⟨_, _, Tryz.func7, rfl, by kernel_rfl⟩
theorem sq_36 : seqok Tryz.prog 36 3 = true := by kernel_rfl
end Go.Proofs.YtjfjbgihojiijaaGreatDoor
