/-
  Closed facts on this translation.
-/
import Derived.Test.YtgimnmlcdidcdaaPure
import Derived.Test.YtgimnmlcdidcdaaChecked
import Derived.KernelRfl
namespace Go.Proofs.Ytgimnmlcdidcdaa
open Go Go.RowKit Go.Proofs

theorem mixed : Try.prog.follows .mixedOrders = true := by kernel_rfl
theorem za_32 : (Try.prog.info? 32).map (fun i => i.zero.map (·.cells.toList)) = some (some [.int .i64 0, .int .i64 0, .int .i64 0]) := by kernel_rfl
theorem fa_10 : FnAt Try.prog 10 := ⟨_, _, Try.func10, rfl, by kernel_rfl⟩
theorem bd_32 : Try.prog.built 32 [] = some #[.int .i64 0, .int .i64 0, .int .i64 0] := by kernel_rfl
theorem tk_32 : tyk Try.prog 32 = some (true, 3) := by kernel_rfl
theorem bd_32_1_2 (z0 : Int) (z1 : Int) : Try.prog.built 32 [(1, .int .i64 z0), (2, .int .i64 z1)] = some #[.int .i64 0, .int .i64 z0, .int .i64 z1] := by kernel_rfl
theorem za_24 : (Try.prog.info? 24).map (fun i => i.zero.map (·.cells.toList)) = some (some [.int .i64 0, (Value.slice none 0 0)]) := by kernel_rfl
theorem fa_11 : FnAt Try.prog 11 := ⟨_, _, Try.func11, rfl, by kernel_rfl⟩
theorem bd_32_0_1_2 (z0 : Int) (z1 : Int) (z2 : Int) : Try.prog.built 32 [(0, .int .i64 z0), (1, .int .i64 z1), (2, .int .i64 z2)] = some #[.int .i64 z0, .int .i64 z1, .int .i64 z2] := by kernel_rfl
theorem sb_22_9 (z0 : Int) (z1 : Int) (z2 : Int) (z3 : Int) (z4 : Int) (z5 : Int) (z6 : Int) (z7 : Int) (z8 : Int) (z9 : Int) (z10 : Int) (z11 : Int) (z12 : Int) (z13 : Int) (z14 : Int) (z15 : Int) (z16 : Int) (z17 : Int) (z18 : Int) (z19 : Int) (z20 : Int) (z21 : Int) (z22 : Int) (z23 : Int) (z24 : Int) (z25 : Int) (z26 : Int) : sbuilt Try.prog 22 9 [(0, .agg #[.int .i64 z0, .int .i64 z1, .int .i64 z2]), (1, .agg #[.int .i64 z3, .int .i64 z4, .int .i64 z5]), (2, .agg #[.int .i64 z6, .int .i64 z7, .int .i64 z8]), (3, .agg #[.int .i64 z9, .int .i64 z10, .int .i64 z11]), (4, .agg #[.int .i64 z12, .int .i64 z13, .int .i64 z14]), (5, .agg #[.int .i64 z15, .int .i64 z16, .int .i64 z17]), (6, .agg #[.int .i64 z18, .int .i64 z19, .int .i64 z20]), (7, .agg #[.int .i64 z21, .int .i64 z22, .int .i64 z23]), (8, .agg #[.int .i64 z24, .int .i64 z25, .int .i64 z26])] = some [.int .i64 z0, .int .i64 z1, .int .i64 z2, .int .i64 z3, .int .i64 z4, .int .i64 z5, .int .i64 z6, .int .i64 z7, .int .i64 z8, .int .i64 z9, .int .i64 z10, .int .i64 z11, .int .i64 z12, .int .i64 z13, .int .i64 z14, .int .i64 z15, .int .i64 z16, .int .i64 z17, .int .i64 z18, .int .i64 z19, .int .i64 z20, .int .i64 z21, .int .i64 z22, .int .i64 z23, .int .i64 z24, .int .i64 z25, .int .i64 z26] := by kernel_rfl
theorem bd_24_0_1 (z0 : Int) (z1 : Hd) : Try.prog.built 24 [(0, .int .i64 z0), (1, (sl z1))] = some #[.int .i64 z0, (sl z1)] := by kernel_rfl
theorem tk_24 : tyk Try.prog 24 = some (true, 2) := by kernel_rfl
theorem fo_32_0 : fldo Try.prog 32 0 = some 0 := by kernel_rfl
theorem tk_3 : tyk Try.prog 3 = some (false, 1) := by kernel_rfl
theorem fo_32_1 : fldo Try.prog 32 1 = some 1 := by kernel_rfl
theorem fo_32_2 : fldo Try.prog 32 2 = some 2 := by kernel_rfl
theorem ub_4 : Try.prog.underlying 4 = some .bool := by kernel_rfl
theorem fa_22 : FnAt Try.prog 22 := ⟨_, _, Try.func22, rfl, by kernel_rfl⟩
theorem fa_9 : FnAt Try.prog 9 := ⟨_, _, Try.func9, rfl, by kernel_rfl⟩
theorem bd_24 : Try.prog.built 24 [] = some #[.int .i64 0, (Value.slice none 0 0)] := by kernel_rfl
theorem bd_24_0 (z0 : Int) : Try.prog.built 24 [(0, .int .i64 z0)] = some #[.int .i64 z0, (Value.slice none 0 0)] := by kernel_rfl
theorem fa_12 : FnAt Try.prog 12 := ⟨_, _, Try.func12, rfl, by kernel_rfl⟩
theorem fo_24_1 : fldo Try.prog 24 1 = some 1 := by kernel_rfl
theorem tk_22 : tyk Try.prog 22 = some (false, 1) := by kernel_rfl
theorem sb_22_1 (z0 : Int) (z1 : Int) (z2 : Int) : sbuilt Try.prog 22 1 [(0, .agg #[.int .i64 z0, .int .i64 z1, .int .i64 z2])] = some [.int .i64 z0, .int .i64 z1, .int .i64 z2] := by kernel_rfl
theorem ak_22 : aok Try.prog 22 3 = true := by kernel_rfl
theorem fa_14 : FnAt Try.prog 14 := ⟨_, _, Try.func14, rfl, by kernel_rfl⟩
theorem fa_24 : FnAt Try.prog 24 := ⟨_, _, Try.func24, rfl, by kernel_rfl⟩
theorem fa_18 : FnAt Try.prog 18 := ⟨_, _, Try.func18, rfl, by kernel_rfl⟩
theorem fa_23 : FnAt Try.prog 23 := ⟨_, _, Try.func23, rfl, by kernel_rfl⟩
theorem fa_17 : FnAt Try.prog 17 := ⟨_, _, Try.func17, rfl, by kernel_rfl⟩
theorem fa_13 : FnAt Try.prog 13 := ⟨_, _, Try.func13, rfl, by kernel_rfl⟩
theorem fa_16 : FnAt Try.prog 16 := ⟨_, _, Try.func16, rfl, by kernel_rfl⟩
theorem fa_15 : FnAt Try.prog 15 := ⟨_, _, Try.func15, rfl, by kernel_rfl⟩
theorem el_22 : elo Try.prog 22 = some 3 := by kernel_rfl
theorem fa_25 : FnAt Try.prog 25 := ⟨_, _, Try.func25, rfl, by kernel_rfl⟩
theorem fo_24_0 : fldo Try.prog 24 0 = some 0 := by kernel_rfl
theorem fa_19 : FnAt Try.prog 19 := ⟨_, _, Try.func19, rfl, by kernel_rfl⟩
theorem fa_20 : FnAt Try.prog 20 := ⟨_, _, Try.func20, rfl, by kernel_rfl⟩
theorem fa_21 : FnAt Try.prog 21 := ⟨_, _, Try.func21, rfl, by kernel_rfl⟩
theorem fa_4 : FnAt Try.prog 4 := ⟨_, _, Try.func4, rfl, by kernel_rfl⟩
theorem fa_5 : FnAt Try.prog 5 := ⟨_, _, Try.func5, rfl, by kernel_rfl⟩
theorem fa_6 : FnAt Try.prog 6 := ⟨_, _, Try.func6, rfl, by kernel_rfl⟩
theorem fa_7 : FnAt Try.prog 7 := ⟨_, _, Try.func7, rfl, by kernel_rfl⟩
theorem fa_8 : FnAt Try.prog 8 := ⟨_, _, Try.func8, rfl, by kernel_rfl⟩
end Go.Proofs.Ytgimnmlcdidcdaa
