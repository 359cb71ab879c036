/-
  Closed facts on this translation.
-/
import Derived.Test.YtnpibdapfofpcaaDoorPure
import Derived.Test.YtnpibdapfofpcaaDoorChecked
import Derived.KernelRfl
namespace Go.Proofs.YtnpibdapfofpcaaDoor
open Go Go.RowKit Go.Proofs

theorem mixed : Tryd.prog.follows .mixedOrders = true := by kernel_rfl
theorem el_22 : elo Tryd.prog 22 = some 3 := by kernel_rfl
theorem fo_24_1 : fldo Tryd.prog 24 1 = some 1 := by kernel_rfl
theorem tk_22 : tyk Tryd.prog 22 = some (false, 1) := by kernel_rfl
theorem fa_9 : FnAt Tryd.prog 9 := ⟨_, _, Tryd.func9, rfl, by kernel_rfl⟩
theorem za_44 : (Tryd.prog.info? 44).map (fun i => i.zero.map (·.cells.toList)) = some (some [.int .i64 0, .int .i64 0, .int .i64 0]) := by kernel_rfl
theorem fo_47_0 : fldo Tryd.prog 47 0 = some 0 := by kernel_rfl
theorem tk_3 : tyk Tryd.prog 3 = some (false, 1) := by kernel_rfl
theorem fo_44_0 : fldo Tryd.prog 44 0 = some 0 := by kernel_rfl
theorem fo_47_1 : fldo Tryd.prog 47 1 = some 1 := by kernel_rfl
theorem fo_44_1 : fldo Tryd.prog 44 1 = some 1 := by kernel_rfl
theorem fo_47_2 : fldo Tryd.prog 47 2 = some 2 := by kernel_rfl
theorem fo_44_2 : fldo Tryd.prog 44 2 = some 2 := by kernel_rfl
theorem tk_44 : tyk Tryd.prog 44 = some (true, 3) := by kernel_rfl
theorem mk_27 : mkinfo Tryd.prog 27 = some (3, true, [.int .i64 0, .int .i64 0, .int .i64 0]) := by kernel_rfl
theorem tk_47 : tyk Tryd.prog 47 = some (true, 3) := by kernel_rfl
theorem fa_23 : FnAt Tryd.prog 23 := ⟨_, _, Tryd.func23, rfl, by kernel_rfl⟩
theorem el_27 : elo Tryd.prog 27 = some 3 := by kernel_rfl
theorem za_29 : (Tryd.prog.info? 29).map (fun i => i.zero.map (·.cells.toList)) = some (some [.int .i64 0, (Value.slice none 0 0)]) := by kernel_rfl
theorem fo_24_0 : fldo Tryd.prog 24 0 = some 0 := by kernel_rfl
theorem fo_29_0 : fldo Tryd.prog 29 0 = some 0 := by kernel_rfl
theorem fa_13 : FnAt Tryd.prog 13 := ⟨_, _, Tryd.func13, rfl, by kernel_rfl⟩
theorem fo_29_1 : fldo Tryd.prog 29 1 = some 1 := by kernel_rfl
theorem tk_27 : tyk Tryd.prog 27 = some (false, 1) := by kernel_rfl
theorem tk_29 : tyk Tryd.prog 29 = some (true, 2) := by kernel_rfl
theorem fa_18 : FnAt Tryd.prog 18 := ⟨_, _, Tryd.func18, rfl, by kernel_rfl⟩
theorem ub_4 : Tryd.prog.underlying 4 = some .bool := by kernel_rfl
theorem fa_19 : FnAt Tryd.prog 19 := ⟨_, _, Tryd.func19, rfl, by kernel_rfl⟩
theorem sb_27_0 : sbuilt Tryd.prog 27 0 [] = some [] := by kernel_rfl
theorem ak_27 : aok Tryd.prog 27 3 = true := by kernel_rfl
theorem bd_29_0_1 (z0 : Int) (z1 : Hd) : Tryd.prog.built 29 [(0, .int .i64 z0), (1, (sl z1))] = some #[.int .i64 z0, (sl z1)] := by kernel_rfl
theorem bd_44 : Tryd.prog.built 44 [] = some #[.int .i64 0, .int .i64 0, .int .i64 0] := by kernel_rfl
theorem bd_44_0_1_2 (z0 : Int) (z1 : Int) (z2 : Int) : Tryd.prog.built 44 [(0, .int .i64 z0), (1, .int .i64 z1), (2, .int .i64 z2)] = some #[.int .i64 z0, .int .i64 z1, .int .i64 z2] := by kernel_rfl
theorem fa_10 : FnAt Tryd.prog 10 := ⟨_, _, Tryd.func10, rfl, by kernel_rfl⟩
theorem bd_29 : Tryd.prog.built 29 [] = some #[.int .i64 0, (Value.slice none 0 0)] := by kernel_rfl
theorem bd_29_0 (z0 : Int) : Tryd.prog.built 29 [(0, .int .i64 z0)] = some #[.int .i64 z0, (Value.slice none 0 0)] := by kernel_rfl
theorem fa_29 : FnAt Tryd.prog 29 := ⟨_, _, Tryd.func29, rfl, by kernel_rfl⟩
theorem sb_27_1 (z0 : Int) (z1 : Int) (z2 : Int) : sbuilt Tryd.prog 27 1 [(0, .agg #[.int .i64 z0, .int .i64 z1, .int .i64 z2])] = some [.int .i64 z0, .int .i64 z1, .int .i64 z2] := by kernel_rfl
theorem fa_30 : FnAt Tryd.prog 30 := ⟨_, _, Tryd.func30, rfl, by kernel_rfl⟩
theorem fa_20 : FnAt Tryd.prog 20 := ⟨_, _, Tryd.func20, rfl, by kernel_rfl⟩
theorem fa_21 : FnAt Tryd.prog 21 := ⟨_, _, Tryd.func21, rfl, by kernel_rfl⟩
theorem fa_22 : FnAt Tryd.prog 22 := ⟨_, _, Tryd.func22, rfl, by kernel_rfl⟩
theorem sq_44 : seqok Tryd.prog 44 3 = true := by kernel_rfl
theorem fa_12 : FnAt Tryd.prog 12 := ⟨_, _, Tryd.func12, rfl, by kernel_rfl⟩
theorem fa_11 : FnAt Tryd.prog 11 := ⟨_, _, Tryd.func11, rfl, by kernel_rfl⟩
theorem fa_24 : FnAt Tryd.prog 24 := ⟨_, _, Tryd.func24, rfl, by kernel_rfl⟩
theorem fa_31 : FnAt Tryd.prog 31 := ⟨_, _, Tryd.func31, rfl, by kernel_rfl⟩
theorem fa_25 : FnAt Tryd.prog 25 := ⟨_, _, Tryd.func25, rfl, by kernel_rfl⟩
theorem fa_14 : FnAt Tryd.prog 14 := ⟨_, _, Tryd.func14, rfl, by kernel_rfl⟩
theorem fa_44 : FnAt Tryd.prog 44 := ⟨_, _, Tryd.func44, rfl, by kernel_rfl⟩
theorem fa_40 : FnAt Tryd.prog 40 := ⟨_, _, Tryd.func40, rfl, by kernel_rfl⟩
theorem fa_39 : FnAt Tryd.prog 39 := ⟨_, _, Tryd.func39, rfl, by kernel_rfl⟩
theorem fa_38 : FnAt Tryd.prog 38 := ⟨_, _, Tryd.func38, rfl, by kernel_rfl⟩
theorem fa_37 : FnAt Tryd.prog 37 := ⟨_, _, Tryd.func37, rfl, by kernel_rfl⟩
theorem fa_42 : FnAt Tryd.prog 42 := ⟨_, _, Tryd.func42, rfl, by kernel_rfl⟩
theorem fa_41 : FnAt Tryd.prog 41 := ⟨_, _, Tryd.func41, rfl, by kernel_rfl⟩
theorem fa_33 : FnAt Tryd.prog 33 := ⟨_, _, Tryd.func33, rfl, by kernel_rfl⟩
theorem fa_34 : FnAt Tryd.prog 34 := ⟨_, _, Tryd.func34, rfl, by kernel_rfl⟩
theorem fa_35 : FnAt Tryd.prog 35 := ⟨_, _, Tryd.func35, rfl, by kernel_rfl⟩
theorem sb_38_0 : sbuilt Tryd.prog 38 0 [] = some [] := by kernel_rfl
theorem fa_27 : FnAt Tryd.prog 27 := ⟨_, _, Tryd.func27, rfl, by kernel_rfl⟩
theorem sb_38_1 (z0 : Int) (z1 : Hd) : sbuilt Tryd.prog 38 1 [(0, .agg #[.int .i64 z0, (sl z1)])] = some [.int .i64 z0, (sl z1)] := by kernel_rfl
theorem ak_38 : aok Tryd.prog 38 2 = true := by kernel_rfl
theorem fa_43 : FnAt Tryd.prog 43 := ⟨_, _, Tryd.func43, rfl, by kernel_rfl⟩
theorem sb_55_3 (z0 : Str) (z1 : Str) (z2 : Str) : sbuilt Tryd.prog 55 3 [(0, bs z0), (1, bs z1), (2, bs z2)] = some [bs z0, bs z1, bs z2] := by kernel_rfl
theorem el_55 : elo Tryd.prog 55 = some 1 := by kernel_rfl
theorem tk_9 : tyk Tryd.prog 9 = some (false, 1) := by kernel_rfl
theorem fa_36 : FnAt Tryd.prog 36 := ⟨_, _, Tryd.func36, rfl, by kernel_rfl⟩
theorem fa_32 : FnAt Tryd.prog 32 := ⟨_, _, Tryd.func32, rfl, by kernel_rfl⟩
theorem el_38 : elo Tryd.prog 38 = some 2 := by kernel_rfl
theorem fa_26 : FnAt Tryd.prog 26 := ⟨_, _, Tryd.func26, rfl, by kernel_rfl⟩
theorem mt_48 : mapT Tryd.prog 48 = true := by kernel_rfl
theorem fa_16 : FnAt Tryd.prog 16 := ⟨_, _, Tryd.func16, rfl, by kernel_rfl⟩
theorem fa_15 : FnAt Tryd.prog 15 := ⟨_, _, Tryd.func15, rfl, by kernel_rfl⟩
theorem fa_28 : FnAt Tryd.prog 28 := ⟨_, _, Tryd.func28, rfl, by kernel_rfl⟩
theorem fa_17 : FnAt Tryd.prog 17 := ⟨_, _, Tryd.func17, rfl, by kernel_rfl⟩
theorem tk_24 : tyk Tryd.prog 24 = some (true, 2) := by kernel_rfl
theorem fa_4 : FnAt Tryd.prog 4 := ⟨_, _, Tryd.func4, rfl, by kernel_rfl⟩
theorem fa_6 : FnAt Tryd.prog 6 := ⟨_, _, Tryd.func6, rfl, by kernel_rfl⟩
theorem fa_5 : FnAt Tryd.prog 5 := ⟨_, _, Tryd.func5, rfl, by kernel_rfl⟩
theorem fa_7 : FnAt Tryd.prog 7 := ⟨_, _, Tryd.func7, rfl, by kernel_rfl⟩
theorem fa_8 : FnAt Tryd.prog 8 := ⟨_, _, Tryd.func8, rfl, by kernel_rfl⟩
end Go.Proofs.YtnpibdapfofpcaaDoor
