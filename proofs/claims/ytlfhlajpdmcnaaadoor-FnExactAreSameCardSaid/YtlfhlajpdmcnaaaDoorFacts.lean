/-
  Closed facts on this translation.
-/
import Derived.Test.YtlfhlajpdmcnaaaDoorPure
import Derived.Test.YtlfhlajpdmcnaaaDoorChecked
import Derived.KernelRfl
namespace Go.Proofs.YtlfhlajpdmcnaaaDoor
open Go Go.RowKit Go.Proofs

theorem mixed : Tryd.prog.follows .mixedOrders = true := by kernel_rfl
theorem el_22 : elo Tryd.prog 22 = some 3 := by kernel_rfl
theorem fo_24_1 : fldo Tryd.prog 24 1 = some 1 := by kernel_rfl
theorem tk_22 : tyk Tryd.prog 22 = some (false, 1) := by kernel_rfl
theorem fa_20 : FnAt Tryd.prog 20 := ⟨_, _, Tryd.func20, rfl, by kernel_rfl⟩
theorem za_48 : (Tryd.prog.info? 48).map (fun i => i.zero.map (·.cells.toList)) = some (some [.int .i64 0, .int .i64 0, .int .i64 0]) := by kernel_rfl
theorem fo_50_0 : fldo Tryd.prog 50 0 = some 0 := by kernel_rfl
theorem tk_3 : tyk Tryd.prog 3 = some (false, 1) := by kernel_rfl
theorem fo_48_0 : fldo Tryd.prog 48 0 = some 0 := by kernel_rfl
theorem fo_50_1 : fldo Tryd.prog 50 1 = some 1 := by kernel_rfl
theorem fo_48_1 : fldo Tryd.prog 48 1 = some 1 := by kernel_rfl
theorem fo_50_2 : fldo Tryd.prog 50 2 = some 2 := by kernel_rfl
theorem fo_48_2 : fldo Tryd.prog 48 2 = some 2 := by kernel_rfl
theorem tk_48 : tyk Tryd.prog 48 = some (true, 3) := by kernel_rfl
theorem mk_27 : mkinfo Tryd.prog 27 = some (3, true, [.int .i64 0, .int .i64 0, .int .i64 0]) := by kernel_rfl
theorem tk_50 : tyk Tryd.prog 50 = some (true, 3) := by kernel_rfl
theorem fa_38 : FnAt Tryd.prog 38 := ⟨_, _, Tryd.func38, rfl, by kernel_rfl⟩
theorem el_27 : elo Tryd.prog 27 = some 3 := by kernel_rfl
theorem za_29 : (Tryd.prog.info? 29).map (fun i => i.zero.map (·.cells.toList)) = some (some [.int .i64 0, (Value.slice none 0 0)]) := by kernel_rfl
theorem fo_24_0 : fldo Tryd.prog 24 0 = some 0 := by kernel_rfl
theorem fo_29_0 : fldo Tryd.prog 29 0 = some 0 := by kernel_rfl
theorem fa_23 : FnAt Tryd.prog 23 := ⟨_, _, Tryd.func23, rfl, by kernel_rfl⟩
theorem fo_29_1 : fldo Tryd.prog 29 1 = some 1 := by kernel_rfl
theorem tk_27 : tyk Tryd.prog 27 = some (false, 1) := by kernel_rfl
theorem tk_29 : tyk Tryd.prog 29 = some (true, 2) := by kernel_rfl
theorem fa_36 : FnAt Tryd.prog 36 := ⟨_, _, Tryd.func36, rfl, by kernel_rfl⟩
theorem ub_4 : Tryd.prog.underlying 4 = some .bool := by kernel_rfl
theorem fa_37 : FnAt Tryd.prog 37 := ⟨_, _, Tryd.func37, rfl, by kernel_rfl⟩
theorem sb_27_0 : sbuilt Tryd.prog 27 0 [] = some [] := by kernel_rfl
theorem ak_27 : aok Tryd.prog 27 3 = true := by kernel_rfl
theorem bd_29_0_1 (z0 : Int) (z1 : Hd) : Tryd.prog.built 29 [(0, .int .i64 z0), (1, (sl z1))] = some #[.int .i64 z0, (sl z1)] := by kernel_rfl
theorem bd_48 : Tryd.prog.built 48 [] = some #[.int .i64 0, .int .i64 0, .int .i64 0] := by kernel_rfl
theorem bd_48_0_1_2 (z0 : Int) (z1 : Int) (z2 : Int) : Tryd.prog.built 48 [(0, .int .i64 z0), (1, .int .i64 z1), (2, .int .i64 z2)] = some #[.int .i64 z0, .int .i64 z1, .int .i64 z2] := by kernel_rfl
theorem fa_21 : FnAt Tryd.prog 21 := ⟨_, _, Tryd.func21, rfl, by kernel_rfl⟩
theorem bd_29 : Tryd.prog.built 29 [] = some #[.int .i64 0, (Value.slice none 0 0)] := by kernel_rfl
theorem bd_29_0 (z0 : Int) : Tryd.prog.built 29 [(0, .int .i64 z0)] = some #[.int .i64 z0, (Value.slice none 0 0)] := by kernel_rfl
theorem fa_52 : FnAt Tryd.prog 52 := ⟨_, _, Tryd.func52, rfl, by kernel_rfl⟩
theorem sb_27_1 (z0 : Int) (z1 : Int) (z2 : Int) : sbuilt Tryd.prog 27 1 [(0, .agg #[.int .i64 z0, .int .i64 z1, .int .i64 z2])] = some [.int .i64 z0, .int .i64 z1, .int .i64 z2] := by kernel_rfl
theorem fa_53 : FnAt Tryd.prog 53 := ⟨_, _, Tryd.func53, rfl, by kernel_rfl⟩
theorem fa_27 : FnAt Tryd.prog 27 := ⟨_, _, Tryd.func27, rfl, by kernel_rfl⟩
theorem fa_42 : FnAt Tryd.prog 42 := ⟨_, _, Tryd.func42, rfl, by kernel_rfl⟩
theorem fa_43 : FnAt Tryd.prog 43 := ⟨_, _, Tryd.func43, rfl, by kernel_rfl⟩
theorem isInt_3 : isInt Tryd.prog 3 = true := by kernel_rfl
theorem isU8_5 : isU8 Tryd.prog 5 = true := by kernel_rfl
theorem fa_68 : FnAt Tryd.prog 68 := ⟨_, _, Tryd.func68, rfl, by kernel_rfl⟩
theorem sb_69_1 (z0 : UInt8) : sbuilt Tryd.prog 69 1 [(0, .int .u8 (z0.toNat : Int))] = some [.int .u8 (z0.toNat : Int)] := by kernel_rfl
theorem isBytes_69 : isBytes Tryd.prog 69 = true := by kernel_rfl
theorem isStr_9 : isStr Tryd.prog 9 = true := by kernel_rfl
theorem fa_54 : FnAt Tryd.prog 54 := ⟨_, _, Tryd.func54, rfl, by kernel_rfl⟩
theorem fa_44 : FnAt Tryd.prog 44 := ⟨_, _, Tryd.func44, rfl, by kernel_rfl⟩
theorem fa_28 : FnAt Tryd.prog 28 := ⟨_, _, Tryd.func28, rfl, by kernel_rfl⟩
theorem fa_29 : FnAt Tryd.prog 29 := ⟨_, _, Tryd.func29, rfl, by kernel_rfl⟩
theorem sq_48 : seqok Tryd.prog 48 3 = true := by kernel_rfl
theorem fa_12 : FnAt Tryd.prog 12 := ⟨_, _, Tryd.func12, rfl, by kernel_rfl⟩
theorem fa_22 : FnAt Tryd.prog 22 := ⟨_, _, Tryd.func22, rfl, by kernel_rfl⟩
theorem fa_39 : FnAt Tryd.prog 39 := ⟨_, _, Tryd.func39, rfl, by kernel_rfl⟩
theorem fa_51 : FnAt Tryd.prog 51 := ⟨_, _, Tryd.func51, rfl, by kernel_rfl⟩
theorem fa_40 : FnAt Tryd.prog 40 := ⟨_, _, Tryd.func40, rfl, by kernel_rfl⟩
theorem fa_24 : FnAt Tryd.prog 24 := ⟨_, _, Tryd.func24, rfl, by kernel_rfl⟩
theorem fa_77 : FnAt Tryd.prog 77 := ⟨_, _, Tryd.func77, rfl, by kernel_rfl⟩
theorem fa_65 : FnAt Tryd.prog 65 := ⟨_, _, Tryd.func65, rfl, by kernel_rfl⟩
theorem fa_71 : FnAt Tryd.prog 71 := ⟨_, _, Tryd.func71, rfl, by kernel_rfl⟩
theorem fa_70 : FnAt Tryd.prog 70 := ⟨_, _, Tryd.func70, rfl, by kernel_rfl⟩
theorem fa_62 : FnAt Tryd.prog 62 := ⟨_, _, Tryd.func62, rfl, by kernel_rfl⟩
theorem fa_73 : FnAt Tryd.prog 73 := ⟨_, _, Tryd.func73, rfl, by kernel_rfl⟩
theorem fa_72 : FnAt Tryd.prog 72 := ⟨_, _, Tryd.func72, rfl, by kernel_rfl⟩
theorem fa_56 : FnAt Tryd.prog 56 := ⟨_, _, Tryd.func56, rfl, by kernel_rfl⟩
theorem fa_57 : FnAt Tryd.prog 57 := ⟨_, _, Tryd.func57, rfl, by kernel_rfl⟩
theorem fa_58 : FnAt Tryd.prog 58 := ⟨_, _, Tryd.func58, rfl, by kernel_rfl⟩
theorem sb_42_0 : sbuilt Tryd.prog 42 0 [] = some [] := by kernel_rfl
theorem fa_46 : FnAt Tryd.prog 46 := ⟨_, _, Tryd.func46, rfl, by kernel_rfl⟩
theorem sb_42_1 (z0 : Int) (z1 : Hd) : sbuilt Tryd.prog 42 1 [(0, .agg #[.int .i64 z0, (sl z1)])] = some [.int .i64 z0, (sl z1)] := by kernel_rfl
theorem ak_42 : aok Tryd.prog 42 2 = true := by kernel_rfl
theorem fa_79 : FnAt Tryd.prog 79 := ⟨_, _, Tryd.func79, rfl, by kernel_rfl⟩
theorem sb_70_3 (z0 : Str) (z1 : Str) (z2 : Str) : sbuilt Tryd.prog 70 3 [(0, bs z0), (1, bs z1), (2, bs z2)] = some [bs z0, bs z1, bs z2] := by kernel_rfl
theorem el_70 : elo Tryd.prog 70 = some 1 := by kernel_rfl
theorem tk_9 : tyk Tryd.prog 9 = some (false, 1) := by kernel_rfl
theorem fa_69 : FnAt Tryd.prog 69 := ⟨_, _, Tryd.func69, rfl, by kernel_rfl⟩
theorem fa_55 : FnAt Tryd.prog 55 := ⟨_, _, Tryd.func55, rfl, by kernel_rfl⟩
theorem el_42 : elo Tryd.prog 42 = some 2 := by kernel_rfl
theorem fa_45 : FnAt Tryd.prog 45 := ⟨_, _, Tryd.func45, rfl, by kernel_rfl⟩
theorem fa_31 : FnAt Tryd.prog 31 := ⟨_, _, Tryd.func31, rfl, by kernel_rfl⟩
theorem fa_30 : FnAt Tryd.prog 30 := ⟨_, _, Tryd.func30, rfl, by kernel_rfl⟩
theorem fa_13 : FnAt Tryd.prog 13 := ⟨_, _, Tryd.func13, rfl, by kernel_rfl⟩
theorem fa_25 : FnAt Tryd.prog 25 := ⟨_, _, Tryd.func25, rfl, by kernel_rfl⟩
theorem fa_41 : FnAt Tryd.prog 41 := ⟨_, _, Tryd.func41, rfl, by kernel_rfl⟩
theorem fa_26 : FnAt Tryd.prog 26 := ⟨_, _, Tryd.func26, rfl, by kernel_rfl⟩
theorem tk_24 : tyk Tryd.prog 24 = some (true, 2) := by kernel_rfl
theorem fa_7 : FnAt Tryd.prog 7 := ⟨_, _, Tryd.func7, rfl, by kernel_rfl⟩
theorem fa_9 : FnAt Tryd.prog 9 := ⟨_, _, Tryd.func9, rfl, by kernel_rfl⟩
theorem fa_8 : FnAt Tryd.prog 8 := ⟨_, _, Tryd.func8, rfl, by kernel_rfl⟩
theorem fa_10 : FnAt Tryd.prog 10 := ⟨_, _, Tryd.func10, rfl, by kernel_rfl⟩
theorem fa_11 : FnAt Tryd.prog 11 := ⟨_, _, Tryd.func11, rfl, by kernel_rfl⟩
end Go.Proofs.YtlfhlajpdmcnaaaDoor
