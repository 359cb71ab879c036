/-
  Closed facts on this translation.
-/
import Derived.Test.YtlfhlajpdmcnaacGreatDoorPure
import Derived.Test.YtlfhlajpdmcnaacGreatDoorChecked
import Derived.KernelRfl
namespace Go.Proofs.YtlfhlajpdmcnaacGreatDoor
open Go Go.RowKit Go.Proofs

theorem mixed : Tryz.prog.follows .mixedOrders = true := by kernel_rfl
theorem el_22 : elo Tryz.prog 22 = some 3 := by kernel_rfl
theorem el_23 : elo Tryz.prog 23 = some 1 := by kernel_rfl
theorem el_28 : elo Tryz.prog 28 = some 3 := by kernel_rfl
theorem fo_30_1 : fldo Tryz.prog 30 1 = some 1 := by kernel_rfl
theorem tk_28 : tyk Tryz.prog 28 = some (false, 1) := by kernel_rfl
theorem fa_37 : FnAt Tryz.prog 37 := ⟨_, _, Tryz.func37, rfl, by kernel_rfl⟩
theorem fo_106_2 : fldo Tryz.prog 106 2 = some 2 := by kernel_rfl
theorem tk_30 : tyk Tryz.prog 30 = some (true, 2) := by kernel_rfl
theorem fa_8 : FnAt Tryz.prog 8 := ⟨_, _, Tryz.func8, rfl, by kernel_rfl⟩
theorem el_24 : elo Tryz.prog 24 = some 4 := by kernel_rfl
theorem tk_106 : tyk Tryz.prog 106 = some (true, 4) := by kernel_rfl
theorem fa_81 : FnAt Tryz.prog 81 := ⟨_, _, Tryz.func81, rfl, by kernel_rfl⟩
theorem el_25 : elo Tryz.prog 25 = some 4 := by kernel_rfl
theorem fo_27_0 : fldo Tryz.prog 27 0 = some 0 := by kernel_rfl
theorem tk_22 : tyk Tryz.prog 22 = some (false, 1) := by kernel_rfl
theorem fa_33 : FnAt Tryz.prog 33 := ⟨_, _, Tryz.func33, rfl, by kernel_rfl⟩
theorem fo_27_1 : fldo Tryz.prog 27 1 = some 1 := by kernel_rfl
theorem tk_23 : tyk Tryz.prog 23 = some (false, 1) := by kernel_rfl
theorem fa_34 : FnAt Tryz.prog 34 := ⟨_, _, Tryz.func34, rfl, by kernel_rfl⟩
theorem fo_27_2 : fldo Tryz.prog 27 2 = some 2 := by kernel_rfl
theorem tk_24 : tyk Tryz.prog 24 = some (false, 1) := by kernel_rfl
theorem fa_35 : FnAt Tryz.prog 35 := ⟨_, _, Tryz.func35, rfl, by kernel_rfl⟩
theorem fo_27_3 : fldo Tryz.prog 27 3 = some 3 := by kernel_rfl
theorem tk_25 : tyk Tryz.prog 25 = some (false, 1) := by kernel_rfl
theorem fa_36 : FnAt Tryz.prog 36 := ⟨_, _, Tryz.func36, rfl, by kernel_rfl⟩
theorem za_116 : (Tryz.prog.info? 116).map (fun i => i.zero.map (·.cells.toList)) = some (some [.int .i64 0, .int .i64 0, .int .i64 0]) := by kernel_rfl
theorem fo_118_0 : fldo Tryz.prog 118 0 = some 0 := by kernel_rfl
theorem tk_3 : tyk Tryz.prog 3 = some (false, 1) := by kernel_rfl
theorem fo_116_0 : fldo Tryz.prog 116 0 = some 0 := by kernel_rfl
theorem fo_118_1 : fldo Tryz.prog 118 1 = some 1 := by kernel_rfl
theorem fo_116_1 : fldo Tryz.prog 116 1 = some 1 := by kernel_rfl
theorem fo_118_2 : fldo Tryz.prog 118 2 = some 2 := by kernel_rfl
theorem fo_116_2 : fldo Tryz.prog 116 2 = some 2 := by kernel_rfl
theorem tk_116 : tyk Tryz.prog 116 = some (true, 3) := by kernel_rfl
theorem mk_33 : mkinfo Tryz.prog 33 = some (3, true, [.int .i64 0, .int .i64 0, .int .i64 0]) := by kernel_rfl
theorem tk_118 : tyk Tryz.prog 118 = some (true, 3) := by kernel_rfl
theorem fa_90 : FnAt Tryz.prog 90 := ⟨_, _, Tryz.func90, rfl, by kernel_rfl⟩
theorem el_33 : elo Tryz.prog 33 = some 3 := by kernel_rfl
theorem mk_23 : mkinfo Tryz.prog 23 = some (1, true, [.int .i64 0]) := by kernel_rfl
theorem za_125 : (Tryz.prog.info? 125).map (fun i => i.zero.map (·.cells.toList)) = some (some [.int .i64 0, .int .i64 0, .int .i64 0]) := by kernel_rfl
theorem fo_127_0 : fldo Tryz.prog 127 0 = some 0 := by kernel_rfl
theorem fo_125_0 : fldo Tryz.prog 125 0 = some 0 := by kernel_rfl
theorem fo_127_1 : fldo Tryz.prog 127 1 = some 1 := by kernel_rfl
theorem fo_125_1 : fldo Tryz.prog 125 1 = some 1 := by kernel_rfl
theorem fo_127_2 : fldo Tryz.prog 127 2 = some 2 := by kernel_rfl
theorem fo_125_2 : fldo Tryz.prog 125 2 = some 2 := by kernel_rfl
theorem tk_125 : tyk Tryz.prog 125 = some (true, 3) := by kernel_rfl
theorem mk_41 : mkinfo Tryz.prog 41 = some (3, true, [.int .i64 0, .int .i64 0, .int .i64 0]) := by kernel_rfl
theorem tk_127 : tyk Tryz.prog 127 = some (true, 3) := by kernel_rfl
theorem fa_93 : FnAt Tryz.prog 93 := ⟨_, _, Tryz.func93, rfl, by kernel_rfl⟩
theorem el_41 : elo Tryz.prog 41 = some 3 := by kernel_rfl
theorem za_43 : (Tryz.prog.info? 43).map (fun i => i.zero.map (·.cells.toList)) = some (some [.int .i64 0, (Value.slice none 0 0)]) := by kernel_rfl
theorem fo_30_0 : fldo Tryz.prog 30 0 = some 0 := by kernel_rfl
theorem fo_43_0 : fldo Tryz.prog 43 0 = some 0 := by kernel_rfl
theorem fa_45 : FnAt Tryz.prog 45 := ⟨_, _, Tryz.func45, rfl, by kernel_rfl⟩
theorem fo_43_1 : fldo Tryz.prog 43 1 = some 1 := by kernel_rfl
theorem tk_41 : tyk Tryz.prog 41 = some (false, 1) := by kernel_rfl
theorem tk_43 : tyk Tryz.prog 43 = some (true, 2) := by kernel_rfl
theorem za_78 : (Tryz.prog.info? 78).map (fun i => i.zero.map (·.cells.toList)) = some (some [.int .i64 0, .int .i64 0, .int .i64 0, (Value.slice none 0 0)]) := by kernel_rfl
theorem fo_106_0 : fldo Tryz.prog 106 0 = some 0 := by kernel_rfl
theorem fo_78_0 : fldo Tryz.prog 78 0 = some 0 := by kernel_rfl
theorem fo_106_1 : fldo Tryz.prog 106 1 = some 1 := by kernel_rfl
theorem fo_78_1 : fldo Tryz.prog 78 1 = some 1 := by kernel_rfl
theorem fa_11 : FnAt Tryz.prog 11 := ⟨_, _, Tryz.func11, rfl, by kernel_rfl⟩
theorem fo_78_2 : fldo Tryz.prog 78 2 = some 2 := by kernel_rfl
theorem tk_78 : tyk Tryz.prog 78 = some (true, 4) := by kernel_rfl
theorem mk_34 : mkinfo Tryz.prog 34 = some (4, true, [.int .i64 0, .int .i64 0, .int .i64 0, (Value.slice none 0 0)]) := by kernel_rfl
theorem fa_91 : FnAt Tryz.prog 91 := ⟨_, _, Tryz.func91, rfl, by kernel_rfl⟩
theorem el_34 : elo Tryz.prog 34 = some 4 := by kernel_rfl
theorem za_121 : (Tryz.prog.info? 121).map (fun i => i.zero.map (·.cells.toList)) = some (some [.int .i64 0, .int .i64 0, .int .i64 0, .int .i64 0]) := by kernel_rfl
theorem fo_123_0 : fldo Tryz.prog 123 0 = some 0 := by kernel_rfl
theorem fo_121_0 : fldo Tryz.prog 121 0 = some 0 := by kernel_rfl
theorem fo_123_1 : fldo Tryz.prog 123 1 = some 1 := by kernel_rfl
theorem fo_121_1 : fldo Tryz.prog 121 1 = some 1 := by kernel_rfl
theorem fo_123_2 : fldo Tryz.prog 123 2 = some 2 := by kernel_rfl
theorem fo_121_2 : fldo Tryz.prog 121 2 = some 2 := by kernel_rfl
theorem fo_123_3 : fldo Tryz.prog 123 3 = some 3 := by kernel_rfl
theorem fo_121_3 : fldo Tryz.prog 121 3 = some 3 := by kernel_rfl
theorem tk_121 : tyk Tryz.prog 121 = some (true, 4) := by kernel_rfl
theorem mk_35 : mkinfo Tryz.prog 35 = some (4, true, [.int .i64 0, .int .i64 0, .int .i64 0, .int .i64 0]) := by kernel_rfl
theorem tk_123 : tyk Tryz.prog 123 = some (true, 4) := by kernel_rfl
theorem fa_92 : FnAt Tryz.prog 92 := ⟨_, _, Tryz.func92, rfl, by kernel_rfl⟩
theorem el_35 : elo Tryz.prog 35 = some 4 := by kernel_rfl
theorem za_37 : (Tryz.prog.info? 37).map (fun i => i.zero.map (·.cells.toList)) = some (some [(Value.slice none 0 0), (Value.slice none 0 0), (Value.slice none 0 0), (Value.slice none 0 0), .int .i64 0, .int .i64 0]) := by kernel_rfl
theorem fa_42 : FnAt Tryz.prog 42 := ⟨_, _, Tryz.func42, rfl, by kernel_rfl⟩
theorem fo_37_0 : fldo Tryz.prog 37 0 = some 0 := by kernel_rfl
theorem tk_33 : tyk Tryz.prog 33 = some (false, 1) := by kernel_rfl
theorem fa_31 : FnAt Tryz.prog 31 := ⟨_, _, Tryz.func31, rfl, by kernel_rfl⟩
theorem fo_37_1 : fldo Tryz.prog 37 1 = some 1 := by kernel_rfl
theorem fa_43 : FnAt Tryz.prog 43 := ⟨_, _, Tryz.func43, rfl, by kernel_rfl⟩
theorem fo_37_2 : fldo Tryz.prog 37 2 = some 2 := by kernel_rfl
theorem tk_34 : tyk Tryz.prog 34 = some (false, 1) := by kernel_rfl
theorem fa_44 : FnAt Tryz.prog 44 := ⟨_, _, Tryz.func44, rfl, by kernel_rfl⟩
theorem fo_37_3 : fldo Tryz.prog 37 3 = some 3 := by kernel_rfl
theorem tk_35 : tyk Tryz.prog 35 = some (false, 1) := by kernel_rfl
theorem fo_27_4 : fldo Tryz.prog 27 4 = some 4 := by kernel_rfl
theorem fo_37_4 : fldo Tryz.prog 37 4 = some 4 := by kernel_rfl
theorem fo_27_5 : fldo Tryz.prog 27 5 = some 5 := by kernel_rfl
theorem fo_37_5 : fldo Tryz.prog 37 5 = some 5 := by kernel_rfl
theorem tk_37 : tyk Tryz.prog 37 = some (true, 6) := by kernel_rfl
theorem za_54 : (Tryz.prog.info? 54).map (fun i => i.zero.map (·.cells.toList)) = some (some [.int .i64 0, .int .i64 0, .int .i64 0]) := by kernel_rfl
theorem fo_51_0 : fldo Tryz.prog 51 0 = some 0 := by kernel_rfl
theorem fo_54_0 : fldo Tryz.prog 54 0 = some 0 := by kernel_rfl
theorem fo_51_1 : fldo Tryz.prog 51 1 = some 1 := by kernel_rfl
theorem fo_54_1 : fldo Tryz.prog 54 1 = some 1 := by kernel_rfl
theorem fo_51_2 : fldo Tryz.prog 51 2 = some 2 := by kernel_rfl
theorem fo_54_2 : fldo Tryz.prog 54 2 = some 2 := by kernel_rfl
theorem tk_54 : tyk Tryz.prog 54 = some (true, 3) := by kernel_rfl
theorem sb_41_0 : sbuilt Tryz.prog 41 0 [] = some [] := by kernel_rfl
theorem ak_41 : aok Tryz.prog 41 3 = true := by kernel_rfl
theorem bd_43_0_1 (z0 : Int) (z1 : Hd) : Tryz.prog.built 43 [(0, .int .i64 z0), (1, (sl z1))] = some #[.int .i64 z0, (sl z1)] := by kernel_rfl
theorem sb_33_0 : sbuilt Tryz.prog 33 0 [] = some [] := by kernel_rfl
theorem ak_33 : aok Tryz.prog 33 3 = true := by kernel_rfl
theorem sb_23_0 : sbuilt Tryz.prog 23 0 [] = some [] := by kernel_rfl
theorem ak_23 : aok Tryz.prog 23 1 = true := by kernel_rfl
theorem sb_35_0 : sbuilt Tryz.prog 35 0 [] = some [] := by kernel_rfl
theorem ak_35 : aok Tryz.prog 35 4 = true := by kernel_rfl
theorem bd_37_0_1_3_4_5 (z0 : Hd) (z1 : Hd) (z2 : Hd) (z3 : Int) (z4 : Int) : Tryz.prog.built 37 [(0, (sl z0)), (1, (sl z1)), (3, (sl z2)), (4, .int .i64 z3), (5, .int .i64 z4)] = some #[(sl z0), (sl z1), (Value.slice none 0 0), (sl z2), .int .i64 z3, .int .i64 z4] := by kernel_rfl
theorem fa_39 : FnAt Tryz.prog 39 := ⟨_, _, Tryz.func39, rfl, by kernel_rfl⟩
theorem sb_34_1 (z0 : Int) (z1 : Int) (z2 : Int) (z3 : Hd) : sbuilt Tryz.prog 34 1 [(0, .agg #[.int .i64 z0, .int .i64 z1, .int .i64 z2, (sl z3)])] = some [.int .i64 z0, .int .i64 z1, .int .i64 z2, (sl z3)] := by kernel_rfl
theorem ak_34 : aok Tryz.prog 34 4 = true := by kernel_rfl
theorem fa_85 : FnAt Tryz.prog 85 := ⟨_, _, Tryz.func85, rfl, by kernel_rfl⟩
theorem ub_4 : Tryz.prog.underlying 4 = some .bool := by kernel_rfl
theorem fa_137 : FnAt Tryz.prog 137 := ⟨_, _, Tryz.func137, rfl, by kernel_rfl⟩
theorem fa_116 : FnAt Tryz.prog 116 := ⟨_, _, Tryz.func116, rfl, by kernel_rfl⟩
theorem fa_82 : FnAt Tryz.prog 82 := ⟨_, _, Tryz.func82, rfl, by kernel_rfl⟩
theorem sb_23_1 (z0 : Int) : sbuilt Tryz.prog 23 1 [(0, .int .i64 z0)] = some [.int .i64 z0] := by kernel_rfl
theorem fa_129 : FnAt Tryz.prog 129 := ⟨_, _, Tryz.func129, rfl, by kernel_rfl⟩
theorem fa_83 : FnAt Tryz.prog 83 := ⟨_, _, Tryz.func83, rfl, by kernel_rfl⟩
theorem fa_84 : FnAt Tryz.prog 84 := ⟨_, _, Tryz.func84, rfl, by kernel_rfl⟩
theorem fa_86 : FnAt Tryz.prog 86 := ⟨_, _, Tryz.func86, rfl, by kernel_rfl⟩
theorem fa_87 : FnAt Tryz.prog 87 := ⟨_, _, Tryz.func87, rfl, by kernel_rfl⟩
theorem fa_88 : FnAt Tryz.prog 88 := ⟨_, _, Tryz.func88, rfl, by kernel_rfl⟩
theorem bd_116_0_1_2 (z0 : Int) (z1 : Int) (z2 : Int) : Tryz.prog.built 116 [(0, .int .i64 z0), (1, .int .i64 z1), (2, .int .i64 z2)] = some #[.int .i64 z0, .int .i64 z1, .int .i64 z2] := by kernel_rfl
theorem sb_33_1 (z0 : Int) (z1 : Int) (z2 : Int) : sbuilt Tryz.prog 33 1 [(0, .agg #[.int .i64 z0, .int .i64 z1, .int .i64 z2])] = some [.int .i64 z0, .int .i64 z1, .int .i64 z2] := by kernel_rfl
theorem sb_35_1 (z0 : Int) (z1 : Int) (z2 : Int) (z3 : Int) : sbuilt Tryz.prog 35 1 [(0, .agg #[.int .i64 z0, .int .i64 z1, .int .i64 z2, .int .i64 z3])] = some [.int .i64 z0, .int .i64 z1, .int .i64 z2, .int .i64 z3] := by kernel_rfl
theorem fa_38 : FnAt Tryz.prog 38 := ⟨_, _, Tryz.func38, rfl, by kernel_rfl⟩
theorem fa_40 : FnAt Tryz.prog 40 := ⟨_, _, Tryz.func40, rfl, by kernel_rfl⟩
theorem fa_109 : FnAt Tryz.prog 109 := ⟨_, _, Tryz.func109, rfl, by kernel_rfl⟩
theorem fa_110 : FnAt Tryz.prog 110 := ⟨_, _, Tryz.func110, rfl, by kernel_rfl⟩
theorem bd_121_0_1_2_3 (z0 : Int) (z1 : Int) (z2 : Int) (z3 : Int) : Tryz.prog.built 121 [(0, .int .i64 z0), (1, .int .i64 z1), (2, .int .i64 z2), (3, .int .i64 z3)] = some #[.int .i64 z0, .int .i64 z1, .int .i64 z2, .int .i64 z3] := by kernel_rfl
theorem fa_111 : FnAt Tryz.prog 111 := ⟨_, _, Tryz.func111, rfl, by kernel_rfl⟩
theorem bd_125 : Tryz.prog.built 125 [] = some #[.int .i64 0, .int .i64 0, .int .i64 0] := by kernel_rfl
theorem bd_125_1_2 (z0 : Int) (z1 : Int) : Tryz.prog.built 125 [(1, .int .i64 z0), (2, .int .i64 z1)] = some #[.int .i64 0, .int .i64 z0, .int .i64 z1] := by kernel_rfl
theorem fa_113 : FnAt Tryz.prog 113 := ⟨_, _, Tryz.func113, rfl, by kernel_rfl⟩
theorem bd_125_0_1_2 (z0 : Int) (z1 : Int) (z2 : Int) : Tryz.prog.built 125 [(0, .int .i64 z0), (1, .int .i64 z1), (2, .int .i64 z2)] = some #[.int .i64 z0, .int .i64 z1, .int .i64 z2] := by kernel_rfl
theorem sb_41_9 (z0 : Int) (z1 : Int) (z2 : Int) (z3 : Int) (z4 : Int) (z5 : Int) (z6 : Int) (z7 : Int) (z8 : Int) (z9 : Int) (z10 : Int) (z11 : Int) (z12 : Int) (z13 : Int) (z14 : Int) (z15 : Int) (z16 : Int) (z17 : Int) (z18 : Int) (z19 : Int) (z20 : Int) (z21 : Int) (z22 : Int) (z23 : Int) (z24 : Int) (z25 : Int) (z26 : Int) : sbuilt Tryz.prog 41 9 [(0, .agg #[.int .i64 z0, .int .i64 z1, .int .i64 z2]), (1, .agg #[.int .i64 z3, .int .i64 z4, .int .i64 z5]), (2, .agg #[.int .i64 z6, .int .i64 z7, .int .i64 z8]), (3, .agg #[.int .i64 z9, .int .i64 z10, .int .i64 z11]), (4, .agg #[.int .i64 z12, .int .i64 z13, .int .i64 z14]), (5, .agg #[.int .i64 z15, .int .i64 z16, .int .i64 z17]), (6, .agg #[.int .i64 z18, .int .i64 z19, .int .i64 z20]), (7, .agg #[.int .i64 z21, .int .i64 z22, .int .i64 z23]), (8, .agg #[.int .i64 z24, .int .i64 z25, .int .i64 z26])] = some [.int .i64 z0, .int .i64 z1, .int .i64 z2, .int .i64 z3, .int .i64 z4, .int .i64 z5, .int .i64 z6, .int .i64 z7, .int .i64 z8, .int .i64 z9, .int .i64 z10, .int .i64 z11, .int .i64 z12, .int .i64 z13, .int .i64 z14, .int .i64 z15, .int .i64 z16, .int .i64 z17, .int .i64 z18, .int .i64 z19, .int .i64 z20, .int .i64 z21, .int .i64 z22, .int .i64 z23, .int .i64 z24, .int .i64 z25, .int .i64 z26] := by kernel_rfl
theorem fa_112 : FnAt Tryz.prog 112 := ⟨_, _, Tryz.func112, rfl, by kernel_rfl⟩
theorem bd_43 : Tryz.prog.built 43 [] = some #[.int .i64 0, (Value.slice none 0 0)] := by kernel_rfl
theorem bd_43_0 (z0 : Int) : Tryz.prog.built 43 [(0, .int .i64 z0)] = some #[.int .i64 z0, (Value.slice none 0 0)] := by kernel_rfl
theorem fa_114 : FnAt Tryz.prog 114 := ⟨_, _, Tryz.func114, rfl, by kernel_rfl⟩
theorem sb_41_1 (z0 : Int) (z1 : Int) (z2 : Int) : sbuilt Tryz.prog 41 1 [(0, .agg #[.int .i64 z0, .int .i64 z1, .int .i64 z2])] = some [.int .i64 z0, .int .i64 z1, .int .i64 z2] := by kernel_rfl
theorem fa_182 : FnAt Tryz.prog 182 := ⟨_, _, Tryz.func182, rfl, by kernel_rfl⟩
theorem fa_183 : FnAt Tryz.prog 183 := ⟨_, _, Tryz.func183, rfl, by kernel_rfl⟩
theorem fa_170 : FnAt Tryz.prog 170 := ⟨_, _, Tryz.func170, rfl, by kernel_rfl⟩
theorem fa_169 : FnAt Tryz.prog 169 := ⟨_, _, Tryz.func169, rfl, by kernel_rfl⟩
theorem fa_172 : FnAt Tryz.prog 172 := ⟨_, _, Tryz.func172, rfl, by kernel_rfl⟩
theorem fa_173 : FnAt Tryz.prog 173 := ⟨_, _, Tryz.func173, rfl, by kernel_rfl⟩
theorem fa_160 : FnAt Tryz.prog 160 := ⟨_, _, Tryz.func160, rfl, by kernel_rfl⟩
theorem fa_161 : FnAt Tryz.prog 161 := ⟨_, _, Tryz.func161, rfl, by kernel_rfl⟩
theorem isInt_3 : isInt Tryz.prog 3 = true := by kernel_rfl
theorem isU8_5 : isU8 Tryz.prog 5 = true := by kernel_rfl
theorem fa_192 : FnAt Tryz.prog 192 := ⟨_, _, Tryz.func192, rfl, by kernel_rfl⟩
theorem sb_171_1 (z0 : UInt8) : sbuilt Tryz.prog 171 1 [(0, .int .u8 (z0.toNat : Int))] = some [.int .u8 (z0.toNat : Int)] := by kernel_rfl
theorem isBytes_171 : isBytes Tryz.prog 171 = true := by kernel_rfl
theorem isStr_9 : isStr Tryz.prog 9 = true := by kernel_rfl
theorem fa_184 : FnAt Tryz.prog 184 := ⟨_, _, Tryz.func184, rfl, by kernel_rfl⟩
theorem fa_171 : FnAt Tryz.prog 171 := ⟨_, _, Tryz.func171, rfl, by kernel_rfl⟩
theorem fa_157 : FnAt Tryz.prog 157 := ⟨_, _, Tryz.func157, rfl, by kernel_rfl⟩
theorem fa_148 : FnAt Tryz.prog 148 := ⟨_, _, Tryz.func148, rfl, by kernel_rfl⟩
theorem fa_158 : FnAt Tryz.prog 158 := ⟨_, _, Tryz.func158, rfl, by kernel_rfl⟩
theorem sq_125 : seqok Tryz.prog 125 3 = true := by kernel_rfl
theorem fa_143 : FnAt Tryz.prog 143 := ⟨_, _, Tryz.func143, rfl, by kernel_rfl⟩
theorem fa_142 : FnAt Tryz.prog 142 := ⟨_, _, Tryz.func142, rfl, by kernel_rfl⟩
theorem sb_150_0 : sbuilt Tryz.prog 150 0 [] = some [] := by kernel_rfl
theorem sb_150_1 (z0 : Hd) : sbuilt Tryz.prog 150 1 [(0, (sl z0))] = some [(sl z0)] := by kernel_rfl
theorem ak_150 : aok Tryz.prog 150 1 = true := by kernel_rfl
theorem fa_159 : FnAt Tryz.prog 159 := ⟨_, _, Tryz.func159, rfl, by kernel_rfl⟩
theorem el_150 : elo Tryz.prog 150 = some 1 := by kernel_rfl
theorem fa_146 : FnAt Tryz.prog 146 := ⟨_, _, Tryz.func146, rfl, by kernel_rfl⟩
theorem fa_144 : FnAt Tryz.prog 144 := ⟨_, _, Tryz.func144, rfl, by kernel_rfl⟩
theorem fa_145 : FnAt Tryz.prog 145 := ⟨_, _, Tryz.func145, rfl, by kernel_rfl⟩
theorem fa_147 : FnAt Tryz.prog 147 := ⟨_, _, Tryz.func147, rfl, by kernel_rfl⟩
theorem fa_130 : FnAt Tryz.prog 130 := ⟨_, _, Tryz.func130, rfl, by kernel_rfl⟩
theorem fa_131 : FnAt Tryz.prog 131 := ⟨_, _, Tryz.func131, rfl, by kernel_rfl⟩
theorem fa_89 : FnAt Tryz.prog 89 := ⟨_, _, Tryz.func89, rfl, by kernel_rfl⟩
theorem bd_78_0_1_2 (z0 : Int) (z1 : Int) (z2 : Int) (z3 : Hd) : Tryz.prog.built 78 [(0, .int .i64 z0), (1, .int .i64 z1), (2, .agg #[.int .i64 z2, (sl z3)])] = some #[.int .i64 z0, .int .i64 z1, .int .i64 z2, (sl z3)] := by kernel_rfl
theorem fa_41 : FnAt Tryz.prog 41 := ⟨_, _, Tryz.func41, rfl, by kernel_rfl⟩
theorem fa_138 : FnAt Tryz.prog 138 := ⟨_, _, Tryz.func138, rfl, by kernel_rfl⟩
theorem fa_117 : FnAt Tryz.prog 117 := ⟨_, _, Tryz.func117, rfl, by kernel_rfl⟩
theorem fa_69 : FnAt Tryz.prog 69 := ⟨_, _, Tryz.func69, rfl, by kernel_rfl⟩
theorem fa_115 : FnAt Tryz.prog 115 := ⟨_, _, Tryz.func115, rfl, by kernel_rfl⟩
theorem fa_62 : FnAt Tryz.prog 62 := ⟨_, _, Tryz.func62, rfl, by kernel_rfl⟩
theorem fa_63 : FnAt Tryz.prog 63 := ⟨_, _, Tryz.func63, rfl, by kernel_rfl⟩
theorem fa_64 : FnAt Tryz.prog 64 := ⟨_, _, Tryz.func64, rfl, by kernel_rfl⟩
theorem fa_9 : FnAt Tryz.prog 9 := ⟨_, _, Tryz.func9, rfl, by kernel_rfl⟩
theorem fa_65 : FnAt Tryz.prog 65 := ⟨_, _, Tryz.func65, rfl, by kernel_rfl⟩
theorem fa_66 : FnAt Tryz.prog 66 := ⟨_, _, Tryz.func66, rfl, by kernel_rfl⟩
theorem fa_67 : FnAt Tryz.prog 67 := ⟨_, _, Tryz.func67, rfl, by kernel_rfl⟩
theorem fa_68 : FnAt Tryz.prog 68 := ⟨_, _, Tryz.func68, rfl, by kernel_rfl⟩
theorem fa_70 : FnAt Tryz.prog 70 := ⟨_, _, Tryz.func70, rfl, by kernel_rfl⟩
theorem fa_101 : FnAt Tryz.prog 101 := ⟨_, _, Tryz.func101, rfl, by kernel_rfl⟩
theorem fa_132 : FnAt Tryz.prog 132 := ⟨_, _, Tryz.func132, rfl, by kernel_rfl⟩
theorem fa_140 : FnAt Tryz.prog 140 := ⟨_, _, Tryz.func140, rfl, by kernel_rfl⟩
theorem fa_139 : FnAt Tryz.prog 139 := ⟨_, _, Tryz.func139, rfl, by kernel_rfl⟩
theorem fa_133 : FnAt Tryz.prog 133 := ⟨_, _, Tryz.func133, rfl, by kernel_rfl⟩
theorem fa_96 : FnAt Tryz.prog 96 := ⟨_, _, Tryz.func96, rfl, by kernel_rfl⟩
theorem fa_134 : FnAt Tryz.prog 134 := ⟨_, _, Tryz.func134, rfl, by kernel_rfl⟩
theorem fa_97 : FnAt Tryz.prog 97 := ⟨_, _, Tryz.func97, rfl, by kernel_rfl⟩
theorem fa_98 : FnAt Tryz.prog 98 := ⟨_, _, Tryz.func98, rfl, by kernel_rfl⟩
theorem fa_99 : FnAt Tryz.prog 99 := ⟨_, _, Tryz.func99, rfl, by kernel_rfl⟩
theorem fa_100 : FnAt Tryz.prog 100 := ⟨_, _, Tryz.func100, rfl, by kernel_rfl⟩
theorem fa_102 : FnAt Tryz.prog 102 := ⟨_, _, Tryz.func102, rfl, by kernel_rfl⟩
theorem fa_94 : FnAt Tryz.prog 94 := ⟨_, _, Tryz.func94, rfl, by kernel_rfl⟩
theorem fa_95 : FnAt Tryz.prog 95 := ⟨_, _, Tryz.func95, rfl, by kernel_rfl⟩
theorem fa_47 : FnAt Tryz.prog 47 := ⟨_, _, Tryz.func47, rfl, by kernel_rfl⟩
theorem fa_48 : FnAt Tryz.prog 48 := ⟨_, _, Tryz.func48, rfl, by kernel_rfl⟩
theorem fa_46 : FnAt Tryz.prog 46 := ⟨_, _, Tryz.func46, rfl, by kernel_rfl⟩
theorem fa_118 : FnAt Tryz.prog 118 := ⟨_, _, Tryz.func118, rfl, by kernel_rfl⟩
theorem fa_119 : FnAt Tryz.prog 119 := ⟨_, _, Tryz.func119, rfl, by kernel_rfl⟩
theorem fa_120 : FnAt Tryz.prog 120 := ⟨_, _, Tryz.func120, rfl, by kernel_rfl⟩
theorem fa_50 : FnAt Tryz.prog 50 := ⟨_, _, Tryz.func50, rfl, by kernel_rfl⟩
theorem fa_125 : FnAt Tryz.prog 125 := ⟨_, _, Tryz.func125, rfl, by kernel_rfl⟩
theorem fa_124 : FnAt Tryz.prog 124 := ⟨_, _, Tryz.func124, rfl, by kernel_rfl⟩
theorem fa_121 : FnAt Tryz.prog 121 := ⟨_, _, Tryz.func121, rfl, by kernel_rfl⟩
theorem fa_123 : FnAt Tryz.prog 123 := ⟨_, _, Tryz.func123, rfl, by kernel_rfl⟩
theorem fa_122 : FnAt Tryz.prog 122 := ⟨_, _, Tryz.func122, rfl, by kernel_rfl⟩
theorem fa_190 : FnAt Tryz.prog 190 := ⟨_, _, Tryz.func190, rfl, by kernel_rfl⟩
theorem fa_180 : FnAt Tryz.prog 180 := ⟨_, _, Tryz.func180, rfl, by kernel_rfl⟩
theorem fa_194 : FnAt Tryz.prog 194 := ⟨_, _, Tryz.func194, rfl, by kernel_rfl⟩
theorem fa_193 : FnAt Tryz.prog 193 := ⟨_, _, Tryz.func193, rfl, by kernel_rfl⟩
theorem fa_196 : FnAt Tryz.prog 196 := ⟨_, _, Tryz.func196, rfl, by kernel_rfl⟩
theorem fa_195 : FnAt Tryz.prog 195 := ⟨_, _, Tryz.func195, rfl, by kernel_rfl⟩
theorem fa_185 : FnAt Tryz.prog 185 := ⟨_, _, Tryz.func185, rfl, by kernel_rfl⟩
theorem fa_186 : FnAt Tryz.prog 186 := ⟨_, _, Tryz.func186, rfl, by kernel_rfl⟩
theorem sb_157_0 : sbuilt Tryz.prog 157 0 [] = some [] := by kernel_rfl
theorem fa_174 : FnAt Tryz.prog 174 := ⟨_, _, Tryz.func174, rfl, by kernel_rfl⟩
theorem sb_157_1 (z0 : Int) (z1 : Hd) : sbuilt Tryz.prog 157 1 [(0, .agg #[.int .i64 z0, (sl z1)])] = some [.int .i64 z0, (sl z1)] := by kernel_rfl
theorem ak_157 : aok Tryz.prog 157 2 = true := by kernel_rfl
theorem fa_202 : FnAt Tryz.prog 202 := ⟨_, _, Tryz.func202, rfl, by kernel_rfl⟩
theorem fa_200 : FnAt Tryz.prog 200 := ⟨_, _, Tryz.func200, rfl, by kernel_rfl⟩
theorem fa_199 : FnAt Tryz.prog 199 := ⟨_, _, Tryz.func199, rfl, by kernel_rfl⟩
theorem fa_197 : FnAt Tryz.prog 197 := ⟨_, _, Tryz.func197, rfl, by kernel_rfl⟩
theorem sb_23_2 (z0 : Int) (z1 : Int) : sbuilt Tryz.prog 23 2 [(0, .int .i64 z0), (1, .int .i64 z1)] = some [.int .i64 z0, .int .i64 z1] := by kernel_rfl
theorem fa_187 : FnAt Tryz.prog 187 := ⟨_, _, Tryz.func187, rfl, by kernel_rfl⟩
theorem fa_188 : FnAt Tryz.prog 188 := ⟨_, _, Tryz.func188, rfl, by kernel_rfl⟩
theorem fa_177 : FnAt Tryz.prog 177 := ⟨_, _, Tryz.func177, rfl, by kernel_rfl⟩
theorem fa_179 : FnAt Tryz.prog 179 := ⟨_, _, Tryz.func179, rfl, by kernel_rfl⟩
theorem fa_178 : FnAt Tryz.prog 178 := ⟨_, _, Tryz.func178, rfl, by kernel_rfl⟩
theorem fa_175 : FnAt Tryz.prog 175 := ⟨_, _, Tryz.func175, rfl, by kernel_rfl⟩
theorem fa_167 : FnAt Tryz.prog 167 := ⟨_, _, Tryz.func167, rfl, by kernel_rfl⟩
theorem fa_201 : FnAt Tryz.prog 201 := ⟨_, _, Tryz.func201, rfl, by kernel_rfl⟩
theorem sb_172_3 (z0 : Str) (z1 : Str) (z2 : Str) : sbuilt Tryz.prog 172 3 [(0, bs z0), (1, bs z1), (2, bs z2)] = some [bs z0, bs z1, bs z2] := by kernel_rfl
theorem el_172 : elo Tryz.prog 172 = some 1 := by kernel_rfl
theorem tk_9 : tyk Tryz.prog 9 = some (false, 1) := by kernel_rfl
theorem fa_198 : FnAt Tryz.prog 198 := ⟨_, _, Tryz.func198, rfl, by kernel_rfl⟩
theorem fa_189 : FnAt Tryz.prog 189 := ⟨_, _, Tryz.func189, rfl, by kernel_rfl⟩
theorem el_157 : elo Tryz.prog 157 = some 2 := by kernel_rfl
theorem fa_176 : FnAt Tryz.prog 176 := ⟨_, _, Tryz.func176, rfl, by kernel_rfl⟩
theorem fa_162 : FnAt Tryz.prog 162 := ⟨_, _, Tryz.func162, rfl, by kernel_rfl⟩
theorem fa_163 : FnAt Tryz.prog 163 := ⟨_, _, Tryz.func163, rfl, by kernel_rfl⟩
theorem fa_164 : FnAt Tryz.prog 164 := ⟨_, _, Tryz.func164, rfl, by kernel_rfl⟩
theorem fa_150 : FnAt Tryz.prog 150 := ⟨_, _, Tryz.func150, rfl, by kernel_rfl⟩
theorem fa_149 : FnAt Tryz.prog 149 := ⟨_, _, Tryz.func149, rfl, by kernel_rfl⟩
theorem fa_156 : FnAt Tryz.prog 156 := ⟨_, _, Tryz.func156, rfl, by kernel_rfl⟩
theorem fa_141 : FnAt Tryz.prog 141 := ⟨_, _, Tryz.func141, rfl, by kernel_rfl⟩
theorem fa_152 : FnAt Tryz.prog 152 := ⟨_, _, Tryz.func152, rfl, by kernel_rfl⟩
theorem fa_165 : FnAt Tryz.prog 165 := ⟨_, _, Tryz.func165, rfl, by kernel_rfl⟩
theorem fa_153 : FnAt Tryz.prog 153 := ⟨_, _, Tryz.func153, rfl, by kernel_rfl⟩
theorem fa_166 : FnAt Tryz.prog 166 := ⟨_, _, Tryz.func166, rfl, by kernel_rfl⟩
theorem fa_191 : FnAt Tryz.prog 191 := ⟨_, _, Tryz.func191, rfl, by kernel_rfl⟩
theorem fa_151 : FnAt Tryz.prog 151 := ⟨_, _, Tryz.func151, rfl, by kernel_rfl⟩
theorem fa_181 : FnAt Tryz.prog 181 := ⟨_, _, Tryz.func181, rfl, by kernel_rfl⟩
theorem fa_168 : FnAt Tryz.prog 168 := ⟨_, _, Tryz.func168, rfl, by kernel_rfl⟩
theorem fa_154 : FnAt Tryz.prog 154 := ⟨_, _, Tryz.func154, rfl, by kernel_rfl⟩
theorem fa_155 : FnAt Tryz.prog 155 := ⟨_, _, Tryz.func155, rfl, by kernel_rfl⟩
theorem fa_135 : FnAt Tryz.prog 135 := ⟨_, _, Tryz.func135, rfl, by kernel_rfl⟩
theorem fa_136 : FnAt Tryz.prog 136 := ⟨_, _, Tryz.func136, rfl, by kernel_rfl⟩
theorem fa_103 : FnAt Tryz.prog 103 := ⟨_, _, Tryz.func103, rfl, by kernel_rfl⟩
theorem fa_49 : FnAt Tryz.prog 49 := ⟨_, _, Tryz.func49, rfl, by kernel_rfl⟩
theorem fa_126 : FnAt Tryz.prog 126 := ⟨_, _, Tryz.func126, rfl, by kernel_rfl⟩
theorem fa_127 : FnAt Tryz.prog 127 := ⟨_, _, Tryz.func127, rfl, by kernel_rfl⟩
theorem fa_128 : FnAt Tryz.prog 128 := ⟨_, _, Tryz.func128, rfl, by kernel_rfl⟩
theorem fa_71 : FnAt Tryz.prog 71 := ⟨_, _, Tryz.func71, rfl, by kernel_rfl⟩
theorem fa_72 : FnAt Tryz.prog 72 := ⟨_, _, Tryz.func72, rfl, by kernel_rfl⟩
theorem fa_73 : FnAt Tryz.prog 73 := ⟨_, _, Tryz.func73, rfl, by kernel_rfl⟩
theorem fa_12 : FnAt Tryz.prog 12 := ⟨_, _, Tryz.func12, rfl, by kernel_rfl⟩
theorem fa_74 : FnAt Tryz.prog 74 := ⟨_, _, Tryz.func74, rfl, by kernel_rfl⟩
theorem fa_75 : FnAt Tryz.prog 75 := ⟨_, _, Tryz.func75, rfl, by kernel_rfl⟩
theorem fa_76 : FnAt Tryz.prog 76 := ⟨_, _, Tryz.func76, rfl, by kernel_rfl⟩
theorem fa_77 : FnAt Tryz.prog 77 := ⟨_, _, Tryz.func77, rfl, by kernel_rfl⟩
theorem fa_104 : FnAt Tryz.prog 104 := ⟨_, _, Tryz.func104, rfl, by kernel_rfl⟩
theorem fa_107 : FnAt Tryz.prog 107 := ⟨_, _, Tryz.func107, rfl, by kernel_rfl⟩
theorem fa_54 : FnAt Tryz.prog 54 := ⟨_, _, Tryz.func54, rfl, by kernel_rfl⟩
theorem fa_14 : FnAt Tryz.prog 14 := ⟨_, _, Tryz.func14, rfl, by kernel_rfl⟩
theorem fa_105 : FnAt Tryz.prog 105 := ⟨_, _, Tryz.func105, rfl, by kernel_rfl⟩
theorem fa_106 : FnAt Tryz.prog 106 := ⟨_, _, Tryz.func106, rfl, by kernel_rfl⟩
theorem fa_51 : FnAt Tryz.prog 51 := ⟨_, _, Tryz.func51, rfl, by kernel_rfl⟩
theorem fa_25 : FnAt Tryz.prog 25 := ⟨_, _, Tryz.func25, rfl, by kernel_rfl⟩
theorem fa_52 : FnAt Tryz.prog 52 := ⟨_, _, Tryz.func52, rfl, by kernel_rfl⟩
theorem fa_53 : FnAt Tryz.prog 53 := ⟨_, _, Tryz.func53, rfl, by kernel_rfl⟩
theorem fa_58 : FnAt Tryz.prog 58 := ⟨_, _, Tryz.func58, rfl, by kernel_rfl⟩
theorem fa_55 : FnAt Tryz.prog 55 := ⟨_, _, Tryz.func55, rfl, by kernel_rfl⟩
theorem fa_28 : FnAt Tryz.prog 28 := ⟨_, _, Tryz.func28, rfl, by kernel_rfl⟩
theorem fa_56 : FnAt Tryz.prog 56 := ⟨_, _, Tryz.func56, rfl, by kernel_rfl⟩
theorem fa_57 : FnAt Tryz.prog 57 := ⟨_, _, Tryz.func57, rfl, by kernel_rfl⟩
theorem fa_108 : FnAt Tryz.prog 108 := ⟨_, _, Tryz.func108, rfl, by kernel_rfl⟩
theorem fa_59 : FnAt Tryz.prog 59 := ⟨_, _, Tryz.func59, rfl, by kernel_rfl⟩
theorem fa_29 : FnAt Tryz.prog 29 := ⟨_, _, Tryz.func29, rfl, by kernel_rfl⟩
theorem fa_60 : FnAt Tryz.prog 60 := ⟨_, _, Tryz.func60, rfl, by kernel_rfl⟩
theorem fa_61 : FnAt Tryz.prog 61 := ⟨_, _, Tryz.func61, rfl, by kernel_rfl⟩
theorem tk_27 : tyk Tryz.prog 27 = some (true, 6) := by kernel_rfl
theorem fa_7 : FnAt Tryz.prog 7 := ⟨_, _, Tryz.func7, rfl, by kernel_rfl⟩
theorem tk_51 : tyk Tryz.prog 51 = some (true, 3) := by kernel_rfl
theorem fa_10 : FnAt Tryz.prog 10 := ⟨_, _, Tryz.func10, rfl, by kernel_rfl⟩
theorem fa_19 : FnAt Tryz.prog 19 := ⟨_, _, Tryz.func19, rfl, by kernel_rfl⟩
theorem fa_18 : FnAt Tryz.prog 18 := ⟨_, _, Tryz.func18, rfl, by kernel_rfl⟩
theorem fa_20 : FnAt Tryz.prog 20 := ⟨_, _, Tryz.func20, rfl, by kernel_rfl⟩
theorem fa_13 : FnAt Tryz.prog 13 := ⟨_, _, Tryz.func13, rfl, by kernel_rfl⟩
theorem fa_15 : FnAt Tryz.prog 15 := ⟨_, _, Tryz.func15, rfl, by kernel_rfl⟩
theorem fa_17 : FnAt Tryz.prog 17 := ⟨_, _, Tryz.func17, rfl, by kernel_rfl⟩
theorem el_57 : elo Tryz.prog 57 = some 3 := by kernel_rfl
theorem mk_61 : mkinfo Tryz.prog 61 = some (3, true, [.int .i64 0, .int .i64 0, .int .i64 0]) := by kernel_rfl
theorem el_61 : elo Tryz.prog 61 = some 3 := by kernel_rfl
theorem fa_78 : FnAt Tryz.prog 78 := ⟨_, _, Tryz.func78, rfl, by kernel_rfl⟩
theorem fa_21 : FnAt Tryz.prog 21 := ⟨_, _, Tryz.func21, rfl, by kernel_rfl⟩
theorem fa_23 : FnAt Tryz.prog 23 := ⟨_, _, Tryz.func23, rfl, by kernel_rfl⟩
theorem fa_22 : FnAt Tryz.prog 22 := ⟨_, _, Tryz.func22, rfl, by kernel_rfl⟩
theorem fa_24 : FnAt Tryz.prog 24 := ⟨_, _, Tryz.func24, rfl, by kernel_rfl⟩
theorem fa_26 : FnAt Tryz.prog 26 := ⟨_, _, Tryz.func26, rfl, by kernel_rfl⟩
theorem fa_27 : FnAt Tryz.prog 27 := ⟨_, _, Tryz.func27, rfl, by kernel_rfl⟩
end Go.Proofs.YtlfhlajpdmcnaacGreatDoor
