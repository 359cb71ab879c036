/-
  Closed facts on this translation.
-/
import Derived.Test.YtjfjbgihojiijacGreatDoorPure
import Derived.Test.YtjfjbgihojiijacGreatDoorChecked
import Derived.KernelRfl
import Derived.Test.YtjfjbgihojiijacGreatDoorErr
namespace Go.Proofs.YtjfjbgihojiijacGreatDoor
open Go Go.RowKit Go.Proofs

theorem mixed : Tryz.prog.follows .mixedOrders = true := by kernel_rfl
theorem Zga : ZaV Tryz.prog 22 0 [] = some [] := by kernel_rfl
theorem Z2 : Zli Tryz.prog 9 = true := by kernel_rfl
theorem ZeZ (z0 : Str) : ZaV Tryz.prog 22 1 [(0, bs z0)] = some [bs z0] := by kernel_rfl
theorem Zeq : aok Tryz.prog 22 1 = true := by kernel_rfl
theorem ZaZ : elo Tryz.prog 22 = some 1 := by kernel_rfl
theorem ZmZ : Zo3 Tryz.prog 3 = true := by kernel_rfl
theorem Zpi : isU8 Tryz.prog 5 = true := by kernel_rfl
theorem Zw0 : FnAt Tryz.prog 31 := ⟨_, _, Tryz.func31, rfl, by kernel_rfl⟩
theorem Zsq (z0 : UInt8) : ZaV Tryz.prog 57 1 [(0, .int .u8 (z0.toNat : Int))] = some [.int .u8 (z0.toNat : Int)] := by kernel_rfl
theorem Zpb : ZmX Tryz.prog 57 = true := by kernel_rfl
theorem Zfq : FnAt Tryz.prog 13 := ⟨_, _, Tryz.func13, rfl, by kernel_rfl⟩
theorem ZuP : FnAt Tryz.prog 48 := ⟨_, _, Tryz.func48, rfl, by kernel_rfl⟩
theorem Zf8 : fldo Tryz.prog 30 0 = some 0 := by kernel_rfl
theorem tk_3 : tyk Tryz.prog 3 = some (false, 1) := by kernel_rfl
theorem ZaU : fldo Tryz.prog 30 1 = some 1 := by kernel_rfl
theorem Zbb : FnAt Tryz.prog 23 := ⟨_, _, Tryz.func23, rfl, by kernel_rfl⟩
theorem Zc5 : fldo Tryz.prog 30 2 = some 2 := by kernel_rfl
theorem Za3 : tyk Tryz.prog 30 = some (true, 3) := by kernel_rfl
theorem ZuN : FnAt Tryz.prog 49 := ⟨_, _, Tryz.func49, rfl, by kernel_rfl⟩
theorem ZsE (z0 : Str) (z1 : Str) (z2 : Str) (z3 : Str) (z4 : Str) (z5 : Str) (z6 : Str) : ZaV Tryz.prog 22 7 [(0, bs z0), (1, bs z1), (2, bs z2), (3, bs z3), (4, bs z4), (5, bs z5), (6, bs z6)] = some [bs z0, bs z1, bs z2, bs z3, bs z4, bs z5, bs z6] := by kernel_rfl
theorem tk_9 : tyk Tryz.prog 9 = some (false, 1) := by kernel_rfl
theorem Zvd (z0 : Int) (z1 : Int) (z2 : Int) (z3 : Int) (z4 : Int) (z5 : Int) (z6 : Int) : ZaV Tryz.prog 34 7 [(0, .int .i64 z0), (1, .int .i64 z1), (2, .int .i64 z2), (3, .int .i64 z3), (4, .int .i64 z4), (5, .int .i64 z5), (6, .int .i64 z6)] = some [.int .i64 z0, .int .i64 z1, .int .i64 z2, .int .i64 z3, .int .i64 z4, .int .i64 z5, .int .i64 z6] := by kernel_rfl
theorem Zy : elo Tryz.prog 34 = some 1 := by kernel_rfl
theorem ZmT (z0 : Int) (z1 : Int) : ZaV Tryz.prog 34 2 [(0, .int .i64 z0), (1, .int .i64 z1)] = some [.int .i64 z0, .int .i64 z1] := by kernel_rfl
theorem Zlo : (Tryz.prog.info? 30).map (fun i => i.zero.map (·.cells.toList)) = some (some [.int .i64 0, .int .i64 0, .int .i64 0]) := by kernel_rfl
theorem fa_9 : FnAt Tryz.prog 9 := ⟨_, _, Tryz.func9, rfl, by kernel_rfl⟩
theorem ZmK : Tryz.prog.built 30 [] = some #[.int .i64 0, .int .i64 0, .int .i64 0] := by kernel_rfl
theorem Zai : ZaV Tryz.prog 34 0 [] = some [] := by kernel_rfl
theorem Zw9 : FnAt Tryz.prog 24 := ⟨_, _, Tryz.func24, rfl, by kernel_rfl⟩
theorem ZaA (z0 : Int) : ZaV Tryz.prog 34 1 [(0, .int .i64 z0)] = some [.int .i64 z0] := by kernel_rfl
theorem Zbp : aok Tryz.prog 34 1 = true := by kernel_rfl
theorem Zr1 (z0 : Int) (z1 : Int) (z2 : Int) : Tryz.prog.built 30 [(0, .int .i64 z0), (1, .int .i64 z1), (2, .int .i64 z2)] = some #[.int .i64 z0, .int .i64 z1, .int .i64 z2] := by kernel_rfl
theorem Zw8 : FnAt Tryz.prog 25 := ⟨_, _, Tryz.func25, rfl, by kernel_rfl⟩
theorem Zat : elo Tryz.prog 33 = some 3 := by kernel_rfl
theorem ZiO : tyk Tryz.prog 59 = some (true, 3) := by kernel_rfl
theorem Zpv : (Tryz.prog.info? 59).map (fun i => i.zero.map (·.cells.toList)) = some (some [.int .i64 0, .int .i64 0, .int .i64 0]) := by kernel_rfl
theorem Zcq : fldo Tryz.prog 59 0 = some 0 := by kernel_rfl
theorem Zjx : fldo Tryz.prog 59 1 = some 1 := by kernel_rfl
theorem Zg5 : fldo Tryz.prog 59 2 = some 2 := by kernel_rfl
theorem Zgx : elo Tryz.prog 36 = some 4 := by kernel_rfl
theorem ZmJ : tyk Tryz.prog 86 = some (true, 4) := by kernel_rfl
theorem ZuJ : (Tryz.prog.info? 86).map (fun i => i.zero.map (·.cells.toList)) = some (some [.int .i64 0, .int .i64 0, .int .i64 0, .int .i64 0]) := by kernel_rfl
theorem Zh0 : fldo Tryz.prog 86 0 = some 0 := by kernel_rfl
theorem Zjz : fldo Tryz.prog 86 1 = some 1 := by kernel_rfl
theorem Zjy : fldo Tryz.prog 86 2 = some 2 := by kernel_rfl
theorem ZpE : fldo Tryz.prog 86 3 = some 3 := by kernel_rfl
theorem Zbc : fldo Tryz.prog 94 0 = some 0 := by kernel_rfl
theorem ZaT : fldo Tryz.prog 94 1 = some 1 := by kernel_rfl
theorem Za6 : fldo Tryz.prog 94 2 = some 2 := by kernel_rfl
theorem ub_4 : Tryz.prog.underlying 4 = some .bool := by kernel_rfl
theorem ZM : fldo Tryz.prog 62 0 = some 0 := by kernel_rfl
theorem Zv : fldo Tryz.prog 62 1 = some 1 := by kernel_rfl
theorem ZN : tyk Tryz.prog 60 = some (false, 1) := by kernel_rfl
theorem ZU : elo Tryz.prog 60 = some 3 := by kernel_rfl
theorem Zh : tyk Tryz.prog 94 = some (true, 3) := by kernel_rfl
theorem ZiV : FnAt Tryz.prog 107 := ⟨_, _, Tryz.func107, rfl, by kernel_rfl⟩
theorem ZdI : fldo Tryz.prog 64 0 = some 0 := by kernel_rfl
theorem Zb5 : fldo Tryz.prog 64 1 = some 1 := by kernel_rfl
theorem ZaJ : fldo Tryz.prog 64 2 = some 2 := by kernel_rfl
theorem Zc : tyk Tryz.prog 62 = some (true, 2) := by kernel_rfl
theorem ZeH : FnAt Tryz.prog 67 := ⟨_, _, Tryz.func67, rfl, by kernel_rfl⟩
theorem ZmN : FnAt Tryz.prog 51 := ⟨_, _, Tryz.func51, rfl, by kernel_rfl⟩
theorem Zct : fldo Tryz.prog 38 0 = some 0 := by kernel_rfl
theorem ZeK : tyk Tryz.prog 33 = some (false, 1) := by kernel_rfl
theorem Zc3 : fldo Tryz.prog 38 5 = some 5 := by kernel_rfl
theorem Zxf : FnAt Tryz.prog 69 := ⟨_, _, Tryz.func69, rfl, by kernel_rfl⟩
theorem Zb1 : fldo Tryz.prog 38 1 = some 1 := by kernel_rfl
theorem ZcA : tyk Tryz.prog 34 = some (false, 1) := by kernel_rfl
theorem Zo2 : FnAt Tryz.prog 52 := ⟨_, _, Tryz.func52, rfl, by kernel_rfl⟩
theorem ZdJ : fldo Tryz.prog 38 3 = some 3 := by kernel_rfl
theorem Zhn : tyk Tryz.prog 36 = some (false, 1) := by kernel_rfl
theorem Zs6 : FnAt Tryz.prog 53 := ⟨_, _, Tryz.func53, rfl, by kernel_rfl⟩
theorem ZQ : fldo Tryz.prog 38 2 = some 2 := by kernel_rfl
theorem Zas : tyk Tryz.prog 35 = some (false, 1) := by kernel_rfl
theorem ZaC : elo Tryz.prog 35 = some 4 := by kernel_rfl
theorem Za0 : tyk Tryz.prog 64 = some (true, 4) := by kernel_rfl
theorem Zgl : (Tryz.prog.info? 64).map (fun i => i.zero.map (·.cells.toList)) = some (some [.int .i64 0, .int .i64 0, .int .i64 0, (Value.slice none 0 0)]) := by kernel_rfl
theorem Zs7 : FnAt Tryz.prog 54 := ⟨_, _, Tryz.func54, rfl, by kernel_rfl⟩
theorem Zxx : FnAt Tryz.prog 55 := ⟨_, _, Tryz.func55, rfl, by kernel_rfl⟩
theorem Zcs : fldo Tryz.prog 38 4 = some 4 := by kernel_rfl
theorem Zb : tyk Tryz.prog 38 = some (true, 6) := by kernel_rfl
theorem Zs3 : FnAt Tryz.prog 33 := ⟨_, _, Tryz.func33, rfl, by kernel_rfl⟩
theorem ZE : (Tryz.prog.info? 38).map (fun i => i.zero.map (·.cells.toList)) = some (some [(Value.slice none 0 0), (Value.slice none 0 0), (Value.slice none 0 0), (Value.slice none 0 0), .int .i64 0, .int .i64 0]) := by kernel_rfl
theorem Zvc (z0 : Int) : Tryz.prog.built 38 [(5, .int .i64 z0)] = some #[(Value.slice none 0 0), (Value.slice none 0 0), (Value.slice none 0 0), (Value.slice none 0 0), .int .i64 0, .int .i64 z0] := by kernel_rfl
theorem Zhb : FnAt Tryz.prog 27 := ⟨_, _, Tryz.func27, rfl, by kernel_rfl⟩
theorem ZuY : Tryz.prog.built 38 [] = some #[(Value.slice none 0 0), (Value.slice none 0 0), (Value.slice none 0 0), (Value.slice none 0 0), .int .i64 0, .int .i64 0] := by kernel_rfl
theorem Zau : (Tryz.prog.info? 62).map (fun i => i.zero.map (·.cells.toList)) = some (some [.int .i64 0, (Value.slice none 0 0)]) := by kernel_rfl
theorem ZsB : ZaV Tryz.prog 60 0 [] = some [] := by kernel_rfl
theorem Zk8 : aok Tryz.prog 60 3 = true := by kernel_rfl
theorem Zkh (z0 : Int) (z1 : Hd) : Tryz.prog.built 62 [(0, .int .i64 z0), (1, (sl z1))] = some #[.int .i64 z0, (sl z1)] := by kernel_rfl
theorem Zc4 : ZaV Tryz.prog 33 0 [] = some [] := by kernel_rfl
theorem Zd7 : aok Tryz.prog 33 3 = true := by kernel_rfl
theorem ZaK : ZaV Tryz.prog 36 0 [] = some [] := by kernel_rfl
theorem Zd5 : aok Tryz.prog 36 4 = true := by kernel_rfl
theorem Zgs (z0 : Hd) (z1 : Hd) (z2 : Hd) (z3 : Int) (z4 : Int) : Tryz.prog.built 38 [(0, (sl z0)), (1, (sl z1)), (3, (sl z2)), (4, .int .i64 z3), (5, .int .i64 z4)] = some #[(sl z0), (sl z1), (Value.slice none 0 0), (sl z2), .int .i64 z3, .int .i64 z4] := by kernel_rfl
theorem Zq1 : FnAt Tryz.prog 50 := ⟨_, _, Tryz.func50, rfl, by kernel_rfl⟩
theorem ZmQ (z0 : Int) (z1 : Int) (z2 : Int) (z3 : Hd) : ZaV Tryz.prog 35 1 [(0, .agg #[.int .i64 z0, .int .i64 z1, .int .i64 z2, (sl z3)])] = some [.int .i64 z0, .int .i64 z1, .int .i64 z2, (sl z3)] := by kernel_rfl
theorem ZqU : aok Tryz.prog 35 4 = true := by kernel_rfl
theorem Znt (z0 : Int) (z1 : Int) (z2 : Int) : Tryz.prog.built 59 [(0, .int .i64 z0), (1, .int .i64 z1), (2, .int .i64 z2)] = some #[.int .i64 z0, .int .i64 z1, .int .i64 z2] := by kernel_rfl
theorem Zsz (z0 : Int) (z1 : Int) (z2 : Int) : ZaV Tryz.prog 33 1 [(0, .agg #[.int .i64 z0, .int .i64 z1, .int .i64 z2])] = some [.int .i64 z0, .int .i64 z1, .int .i64 z2] := by kernel_rfl
theorem Zjw (z0 : Int) (z1 : Int) (z2 : Int) (z3 : Int) : ZaV Tryz.prog 36 1 [(0, .agg #[.int .i64 z0, .int .i64 z1, .int .i64 z2, .int .i64 z3])] = some [.int .i64 z0, .int .i64 z1, .int .i64 z2, .int .i64 z3] := by kernel_rfl
theorem Zia : FnAt Tryz.prog 26 := ⟨_, _, Tryz.func26, rfl, by kernel_rfl⟩
theorem Zxt : FnAt Tryz.prog 64 := ⟨_, _, Tryz.func64, rfl, by kernel_rfl⟩
theorem Zxz : FnAt Tryz.prog 65 := ⟨_, _, Tryz.func65, rfl, by kernel_rfl⟩
theorem ZlT (z0 : Int) (z1 : Int) (z2 : Int) (z3 : Int) : Tryz.prog.built 86 [(0, .int .i64 z0), (1, .int .i64 z1), (2, .int .i64 z2), (3, .int .i64 z3)] = some #[.int .i64 z0, .int .i64 z1, .int .i64 z2, .int .i64 z3] := by kernel_rfl
theorem Zxn : FnAt Tryz.prog 66 := ⟨_, _, Tryz.func66, rfl, by kernel_rfl⟩
theorem ZwX : FnAt Tryz.prog 29 := ⟨_, _, Tryz.func29, rfl, by kernel_rfl⟩
theorem Zu4 : FnAt Tryz.prog 30 := ⟨_, _, Tryz.func30, rfl, by kernel_rfl⟩
theorem Zb8 : (Tryz.prog.info? 94).map (fun i => i.zero.map (·.cells.toList)) = some (some [.int .i64 0, .int .i64 0, .int .i64 0]) := by kernel_rfl
theorem Ziq : Tryz.prog.built 94 [] = some #[.int .i64 0, .int .i64 0, .int .i64 0] := by kernel_rfl
theorem Zqx (z0 : Int) (z1 : Int) : Tryz.prog.built 94 [(1, .int .i64 z0), (2, .int .i64 z1)] = some #[.int .i64 0, .int .i64 z0, .int .i64 z1] := by kernel_rfl
theorem Zrh : FnAt Tryz.prog 103 := ⟨_, _, Tryz.func103, rfl, by kernel_rfl⟩
theorem Zbx (z0 : Int) (z1 : Int) (z2 : Int) : Tryz.prog.built 94 [(0, .int .i64 z0), (1, .int .i64 z1), (2, .int .i64 z2)] = some #[.int .i64 z0, .int .i64 z1, .int .i64 z2] := by kernel_rfl
theorem Zsv (z0 : Int) (z1 : Int) (z2 : Int) (z3 : Int) (z4 : Int) (z5 : Int) (z6 : Int) (z7 : Int) (z8 : Int) (z9 : Int) (z10 : Int) (z11 : Int) (z12 : Int) (z13 : Int) (z14 : Int) (z15 : Int) (z16 : Int) (z17 : Int) (z18 : Int) (z19 : Int) (z20 : Int) (z21 : Int) (z22 : Int) (z23 : Int) (z24 : Int) (z25 : Int) (z26 : Int) : ZaV Tryz.prog 60 9 [(0, .agg #[.int .i64 z0, .int .i64 z1, .int .i64 z2]), (1, .agg #[.int .i64 z3, .int .i64 z4, .int .i64 z5]), (2, .agg #[.int .i64 z6, .int .i64 z7, .int .i64 z8]), (3, .agg #[.int .i64 z9, .int .i64 z10, .int .i64 z11]), (4, .agg #[.int .i64 z12, .int .i64 z13, .int .i64 z14]), (5, .agg #[.int .i64 z15, .int .i64 z16, .int .i64 z17]), (6, .agg #[.int .i64 z18, .int .i64 z19, .int .i64 z20]), (7, .agg #[.int .i64 z21, .int .i64 z22, .int .i64 z23]), (8, .agg #[.int .i64 z24, .int .i64 z25, .int .i64 z26])] = some [.int .i64 z0, .int .i64 z1, .int .i64 z2, .int .i64 z3, .int .i64 z4, .int .i64 z5, .int .i64 z6, .int .i64 z7, .int .i64 z8, .int .i64 z9, .int .i64 z10, .int .i64 z11, .int .i64 z12, .int .i64 z13, .int .i64 z14, .int .i64 z15, .int .i64 z16, .int .i64 z17, .int .i64 z18, .int .i64 z19, .int .i64 z20, .int .i64 z21, .int .i64 z22, .int .i64 z23, .int .i64 z24, .int .i64 z25, .int .i64 z26] := by kernel_rfl
theorem ZvQ : FnAt Tryz.prog 102 := ⟨_, _, Tryz.func102, rfl, by kernel_rfl⟩
theorem Zik : Tryz.prog.built 62 [] = some #[.int .i64 0, (Value.slice none 0 0)] := by kernel_rfl
theorem ZkK (z0 : Int) : Tryz.prog.built 62 [(0, .int .i64 z0)] = some #[.int .i64 z0, (Value.slice none 0 0)] := by kernel_rfl
theorem ZtW : FnAt Tryz.prog 104 := ⟨_, _, Tryz.func104, rfl, by kernel_rfl⟩
theorem ZkW (z0 : Int) (z1 : Int) (z2 : Int) : ZaV Tryz.prog 60 1 [(0, .agg #[.int .i64 z0, .int .i64 z1, .int .i64 z2])] = some [.int .i64 z0, .int .i64 z1, .int .i64 z2] := by kernel_rfl
theorem Zt4 : FnAt Tryz.prog 206 := ⟨_, _, Tryz.func206, rfl, by kernel_rfl⟩
theorem ZvG : FnAt Tryz.prog 207 := ⟨_, _, Tryz.func207, rfl, by kernel_rfl⟩
theorem ZtZ : FnAt Tryz.prog 196 := ⟨_, _, Tryz.func196, rfl, by kernel_rfl⟩
theorem ZrC : FnAt Tryz.prog 195 := ⟨_, _, Tryz.func195, rfl, by kernel_rfl⟩
theorem ZvE : FnAt Tryz.prog 197 := ⟨_, _, Tryz.func197, rfl, by kernel_rfl⟩
theorem ZvX : FnAt Tryz.prog 198 := ⟨_, _, Tryz.func198, rfl, by kernel_rfl⟩
theorem Zv0 : FnAt Tryz.prog 186 := ⟨_, _, Tryz.func186, rfl, by kernel_rfl⟩
theorem Zwd : FnAt Tryz.prog 187 := ⟨_, _, Tryz.func187, rfl, by kernel_rfl⟩
theorem ZuV : FnAt Tryz.prog 68 := ⟨_, _, Tryz.func68, rfl, by kernel_rfl⟩
theorem Ztg : FnAt Tryz.prog 183 := ⟨_, _, Tryz.func183, rfl, by kernel_rfl⟩
theorem Ztq : FnAt Tryz.prog 171 := ⟨_, _, Tryz.func171, rfl, by kernel_rfl⟩
theorem ZtR : FnAt Tryz.prog 184 := ⟨_, _, Tryz.func184, rfl, by kernel_rfl⟩
theorem ZuR : Zs2 Tryz.prog 94 3 = true := by kernel_rfl
theorem ZtF : FnAt Tryz.prog 166 := ⟨_, _, Tryz.func166, rfl, by kernel_rfl⟩
theorem Zwh : FnAt Tryz.prog 165 := ⟨_, _, Tryz.func165, rfl, by kernel_rfl⟩
theorem Zus : ZaV Tryz.prog 170 0 [] = some [] := by kernel_rfl
theorem ZqX : ZoT Tryz.prog 34 = some (1, true, [.int .i64 0]) := by kernel_rfl
theorem ZuC (z0 : Hd) : ZaV Tryz.prog 170 1 [(0, (sl z0))] = some [(sl z0)] := by kernel_rfl
theorem ZwE : aok Tryz.prog 170 1 = true := by kernel_rfl
theorem Zto : FnAt Tryz.prog 185 := ⟨_, _, Tryz.func185, rfl, by kernel_rfl⟩
theorem ZrE : elo Tryz.prog 170 = some 1 := by kernel_rfl
theorem Ztx : FnAt Tryz.prog 169 := ⟨_, _, Tryz.func169, rfl, by kernel_rfl⟩
theorem ZvF : FnAt Tryz.prog 167 := ⟨_, _, Tryz.func167, rfl, by kernel_rfl⟩
theorem Zwp : FnAt Tryz.prog 168 := ⟨_, _, Tryz.func168, rfl, by kernel_rfl⟩
theorem ZvO : FnAt Tryz.prog 170 := ⟨_, _, Tryz.func170, rfl, by kernel_rfl⟩
theorem ZwA : FnAt Tryz.prog 150 := ⟨_, _, Tryz.func150, rfl, by kernel_rfl⟩
theorem Zv7 : FnAt Tryz.prog 151 := ⟨_, _, Tryz.func151, rfl, by kernel_rfl⟩
theorem Zwt : FnAt Tryz.prog 129 := ⟨_, _, Tryz.func129, rfl, by kernel_rfl⟩
theorem Zf2 (z0 : Int) (z1 : Int) (z2 : Int) (z3 : Hd) : Tryz.prog.built 64 [(0, .int .i64 z0), (1, .int .i64 z1), (2, .agg #[.int .i64 z2, (sl z3)])] = some #[.int .i64 z0, .int .i64 z1, .int .i64 z2, (sl z3)] := by kernel_rfl
theorem ZwF : FnAt Tryz.prog 101 := ⟨_, _, Tryz.func101, rfl, by kernel_rfl⟩
theorem ZvP : FnAt Tryz.prog 130 := ⟨_, _, Tryz.func130, rfl, by kernel_rfl⟩
theorem ZwG : FnAt Tryz.prog 106 := ⟨_, _, Tryz.func106, rfl, by kernel_rfl⟩
theorem Zs1 : FnAt Tryz.prog 62 := ⟨_, _, Tryz.func62, rfl, by kernel_rfl⟩
theorem ZvM : FnAt Tryz.prog 105 := ⟨_, _, Tryz.func105, rfl, by kernel_rfl⟩
theorem ZwJ : FnAt Tryz.prog 57 := ⟨_, _, Tryz.func57, rfl, by kernel_rfl⟩
theorem Zxe : FnAt Tryz.prog 56 := ⟨_, _, Tryz.func56, rfl, by kernel_rfl⟩
theorem ZwR : FnAt Tryz.prog 58 := ⟨_, _, Tryz.func58, rfl, by kernel_rfl⟩
theorem Zw5 : FnAt Tryz.prog 59 := ⟨_, _, Tryz.func59, rfl, by kernel_rfl⟩
theorem ZwT : FnAt Tryz.prog 60 := ⟨_, _, Tryz.func60, rfl, by kernel_rfl⟩
theorem ZwV : FnAt Tryz.prog 61 := ⟨_, _, Tryz.func61, rfl, by kernel_rfl⟩
theorem ZwW : FnAt Tryz.prog 63 := ⟨_, _, Tryz.func63, rfl, by kernel_rfl⟩
theorem Zjm : elo Tryz.prog 28 = some 3 := by kernel_rfl
theorem Zu6 : FnAt Tryz.prog 28 := ⟨_, _, Tryz.func28, rfl, by kernel_rfl⟩
theorem ZiE (z0 : Str) (z1 : Str) : ZaV Tryz.prog 22 2 [(0, bs z0), (1, bs z1)] = some [bs z0, bs z1] := by kernel_rfl
theorem Zxv : FnAt Tryz.prog 32 := ⟨_, _, Tryz.func32, rfl, by kernel_rfl⟩
theorem Zsy : ZaV Tryz.prog 28 0 [] = some [] := by kernel_rfl
theorem Zw2 : FnAt Tryz.prog 10 := ⟨_, _, Tryz.func10, rfl, by kernel_rfl⟩
theorem Zsl (z0 : Int) (z1 : Int) (z2 : Int) : ZaV Tryz.prog 28 1 [(0, .agg #[.int .i64 z0, .int .i64 z1, .int .i64 z2])] = some [.int .i64 z0, .int .i64 z1, .int .i64 z2] := by kernel_rfl
theorem Zu3 : aok Tryz.prog 28 3 = true := by kernel_rfl
theorem Zw3 : FnAt Tryz.prog 12 := ⟨_, _, Tryz.func12, rfl, by kernel_rfl⟩
theorem Zxr : FnAt Tryz.prog 11 := ⟨_, _, Tryz.func11, rfl, by kernel_rfl⟩
theorem Zxl : FnAt Tryz.prog 14 := ⟨_, _, Tryz.func14, rfl, by kernel_rfl⟩
theorem Zu5 : FnAt Tryz.prog 44 := ⟨_, _, Tryz.func44, rfl, by kernel_rfl⟩
theorem Zxy : FnAt Tryz.prog 73 := ⟨_, _, Tryz.func73, rfl, by kernel_rfl⟩
theorem Zxk : ZmW Tryz.prog 99 = true := by kernel_rfl
theorem ZaH : FnAt Tryz.prog 35 := ⟨_, _, Tryz.func35, rfl, by kernel_rfl⟩
theorem Zgq : FnAt Tryz.prog 20 := ⟨_, _, Tryz.func20, rfl, by kernel_rfl⟩
theorem ZqY : FnAt Tryz.prog 38 := ⟨_, _, Tryz.func38, rfl, by kernel_rfl⟩
theorem Zu2 : FnAt Tryz.prog 74 := ⟨_, _, Tryz.func74, rfl, by kernel_rfl⟩
theorem ZiJ : FnAt Tryz.prog 45 := ⟨_, _, Tryz.func45, rfl, by kernel_rfl⟩
theorem ZuQ : FnAt Tryz.prog 16 := ⟨_, _, Tryz.func16, rfl, by kernel_rfl⟩
theorem Zxa : FnAt Tryz.prog 36 := ⟨_, _, Tryz.func36, rfl, by kernel_rfl⟩
theorem ZwO : FnAt Tryz.prog 37 := ⟨_, _, Tryz.func37, rfl, by kernel_rfl⟩
theorem Zrk : FnAt Tryz.prog 116 := ⟨_, _, Tryz.func116, rfl, by kernel_rfl⟩
theorem Zo1 : FnAt Tryz.prog 144 := ⟨_, _, Tryz.func144, rfl, by kernel_rfl⟩
theorem ZgL : FnAt Tryz.prog 127 := ⟨_, _, Tryz.func127, rfl, by kernel_rfl⟩
theorem Zea : FnAt Tryz.prog 97 := ⟨_, _, Tryz.func97, rfl, by kernel_rfl⟩
theorem ZmO : FnAt Tryz.prog 81 := ⟨_, _, Tryz.func81, rfl, by kernel_rfl⟩
theorem ZvN : FnAt Tryz.prog 100 := ⟨_, _, Tryz.func100, rfl, by kernel_rfl⟩
theorem Zq0 : FnAt Tryz.prog 82 := ⟨_, _, Tryz.func82, rfl, by kernel_rfl⟩
theorem ZsT : FnAt Tryz.prog 83 := ⟨_, _, Tryz.func83, rfl, by kernel_rfl⟩
theorem ZsR : FnAt Tryz.prog 84 := ⟨_, _, Tryz.func84, rfl, by kernel_rfl⟩
theorem Zxm : FnAt Tryz.prog 85 := ⟨_, _, Tryz.func85, rfl, by kernel_rfl⟩
theorem ZmP : FnAt Tryz.prog 47 := ⟨_, _, Tryz.func47, rfl, by kernel_rfl⟩
theorem Zvx (z0 : Int) (z1 : Int) (z2 : Int) (z3 : Int) (z4 : Int) (z5 : Int) : ZaV Tryz.prog 34 6 [(0, .int .i64 z0), (1, .int .i64 z1), (2, .int .i64 z2), (3, .int .i64 z3), (4, .int .i64 z4), (5, .int .i64 z5)] = some [.int .i64 z0, .int .i64 z1, .int .i64 z2, .int .i64 z3, .int .i64 z4, .int .i64 z5] := by kernel_rfl
theorem Zty (z0 : Hd) (z1 : Int) : Tryz.prog.built 38 [(1, (sl z0)), (5, .int .i64 z1)] = some #[(Value.slice none 0 0), (sl z0), (Value.slice none 0 0), (Value.slice none 0 0), .int .i64 0, .int .i64 z1] := by kernel_rfl
theorem Zko : FnAt Tryz.prog 40 := ⟨_, _, Tryz.func40, rfl, by kernel_rfl⟩
theorem Zlu : FnAt Tryz.prog 78 := ⟨_, _, Tryz.func78, rfl, by kernel_rfl⟩
theorem Zo6 : FnAt Tryz.prog 79 := ⟨_, _, Tryz.func79, rfl, by kernel_rfl⟩
theorem ZlF : FnAt Tryz.prog 80 := ⟨_, _, Tryz.func80, rfl, by kernel_rfl⟩
theorem Zg3 : FnAt Tryz.prog 39 := ⟨_, _, Tryz.func39, rfl, by kernel_rfl⟩
theorem Zw4 : FnAt Tryz.prog 92 := ⟨_, _, Tryz.func92, rfl, by kernel_rfl⟩
theorem ZwL : FnAt Tryz.prog 93 := ⟨_, _, Tryz.func93, rfl, by kernel_rfl⟩
theorem ZwM : FnAt Tryz.prog 94 := ⟨_, _, Tryz.func94, rfl, by kernel_rfl⟩
theorem Zkb : FnAt Tryz.prog 95 := ⟨_, _, Tryz.func95, rfl, by kernel_rfl⟩
theorem Zxg : FnAt Tryz.prog 42 := ⟨_, _, Tryz.func42, rfl, by kernel_rfl⟩
theorem ZuZ : FnAt Tryz.prog 43 := ⟨_, _, Tryz.func43, rfl, by kernel_rfl⟩
theorem ZrS : FnAt Tryz.prog 122 := ⟨_, _, Tryz.func122, rfl, by kernel_rfl⟩
theorem ZkM : FnAt Tryz.prog 121 := ⟨_, _, Tryz.func121, rfl, by kernel_rfl⟩
theorem Zwk : FnAt Tryz.prog 118 := ⟨_, _, Tryz.func118, rfl, by kernel_rfl⟩
theorem Zv2 : FnAt Tryz.prog 120 := ⟨_, _, Tryz.func120, rfl, by kernel_rfl⟩
theorem Zpx : FnAt Tryz.prog 119 := ⟨_, _, Tryz.func119, rfl, by kernel_rfl⟩
theorem Zv5 : FnAt Tryz.prog 128 := ⟨_, _, Tryz.func128, rfl, by kernel_rfl⟩
theorem Zq2 : FnAt Tryz.prog 99 := ⟨_, _, Tryz.func99, rfl, by kernel_rfl⟩
theorem Zwc : FnAt Tryz.prog 214 := ⟨_, _, Tryz.func214, rfl, by kernel_rfl⟩
theorem Zwz : FnAt Tryz.prog 213 := ⟨_, _, Tryz.func213, rfl, by kernel_rfl⟩
theorem Zwx : FnAt Tryz.prog 216 := ⟨_, _, Tryz.func216, rfl, by kernel_rfl⟩
theorem Zv9 : FnAt Tryz.prog 215 := ⟨_, _, Tryz.func215, rfl, by kernel_rfl⟩
theorem Zwb : FnAt Tryz.prog 208 := ⟨_, _, Tryz.func208, rfl, by kernel_rfl⟩
theorem Zv6 : FnAt Tryz.prog 209 := ⟨_, _, Tryz.func209, rfl, by kernel_rfl⟩
theorem ZrI : ZaV Tryz.prog 181 0 [] = some [] := by kernel_rfl
theorem Zwi : FnAt Tryz.prog 199 := ⟨_, _, Tryz.func199, rfl, by kernel_rfl⟩
theorem ZrW (z0 : Int) (z1 : Hd) : ZaV Tryz.prog 181 1 [(0, .agg #[.int .i64 z0, (sl z1)])] = some [.int .i64 z0, (sl z1)] := by kernel_rfl
theorem Zt6 : aok Tryz.prog 181 2 = true := by kernel_rfl
theorem ZvR : FnAt Tryz.prog 220 := ⟨_, _, Tryz.func220, rfl, by kernel_rfl⟩
theorem Zwo : FnAt Tryz.prog 219 := ⟨_, _, Tryz.func219, rfl, by kernel_rfl⟩
theorem Zv1 : FnAt Tryz.prog 218 := ⟨_, _, Tryz.func218, rfl, by kernel_rfl⟩
theorem ZvJ : FnAt Tryz.prog 217 := ⟨_, _, Tryz.func217, rfl, by kernel_rfl⟩
theorem Ztd : FnAt Tryz.prog 210 := ⟨_, _, Tryz.func210, rfl, by kernel_rfl⟩
theorem Zws : FnAt Tryz.prog 211 := ⟨_, _, Tryz.func211, rfl, by kernel_rfl⟩
theorem ZtA : FnAt Tryz.prog 202 := ⟨_, _, Tryz.func202, rfl, by kernel_rfl⟩
theorem ZvW : FnAt Tryz.prog 204 := ⟨_, _, Tryz.func204, rfl, by kernel_rfl⟩
theorem Zwe : FnAt Tryz.prog 203 := ⟨_, _, Tryz.func203, rfl, by kernel_rfl⟩
theorem Ztv : FnAt Tryz.prog 200 := ⟨_, _, Tryz.func200, rfl, by kernel_rfl⟩
theorem ZoN : FnAt Tryz.prog 193 := ⟨_, _, Tryz.func193, rfl, by kernel_rfl⟩
theorem Zve (z0 : Str) (z1 : Str) (z2 : Str) : ZaV Tryz.prog 22 3 [(0, bs z0), (1, bs z1), (2, bs z2)] = some [bs z0, bs z1, bs z2] := by kernel_rfl
theorem ZuX : FnAt Tryz.prog 98 := ⟨_, _, Tryz.func98, rfl, by kernel_rfl⟩
theorem ZjF : elo Tryz.prog 181 = some 2 := by kernel_rfl
theorem Ztw : FnAt Tryz.prog 201 := ⟨_, _, Tryz.func201, rfl, by kernel_rfl⟩
theorem Ztz : FnAt Tryz.prog 188 := ⟨_, _, Tryz.func188, rfl, by kernel_rfl⟩
theorem Zwu : FnAt Tryz.prog 189 := ⟨_, _, Tryz.func189, rfl, by kernel_rfl⟩
theorem Zwv : FnAt Tryz.prog 190 := ⟨_, _, Tryz.func190, rfl, by kernel_rfl⟩
theorem Ztl : FnAt Tryz.prog 175 := ⟨_, _, Tryz.func175, rfl, by kernel_rfl⟩
theorem ZvT : FnAt Tryz.prog 174 := ⟨_, _, Tryz.func174, rfl, by kernel_rfl⟩
theorem ZvI : FnAt Tryz.prog 159 := ⟨_, _, Tryz.func159, rfl, by kernel_rfl⟩
theorem ZtU : FnAt Tryz.prog 145 := ⟨_, _, Tryz.func145, rfl, by kernel_rfl⟩
theorem Zrf : FnAt Tryz.prog 177 := ⟨_, _, Tryz.func177, rfl, by kernel_rfl⟩
theorem ZrX : FnAt Tryz.prog 191 := ⟨_, _, Tryz.func191, rfl, by kernel_rfl⟩
theorem ZtL : FnAt Tryz.prog 178 := ⟨_, _, Tryz.func178, rfl, by kernel_rfl⟩
theorem ZtI : FnAt Tryz.prog 192 := ⟨_, _, Tryz.func192, rfl, by kernel_rfl⟩
theorem Ztk : FnAt Tryz.prog 212 := ⟨_, _, Tryz.func212, rfl, by kernel_rfl⟩
theorem Zq7 : FnAt Tryz.prog 176 := ⟨_, _, Tryz.func176, rfl, by kernel_rfl⟩
theorem Zwj : FnAt Tryz.prog 205 := ⟨_, _, Tryz.func205, rfl, by kernel_rfl⟩
theorem ZwC : FnAt Tryz.prog 194 := ⟨_, _, Tryz.func194, rfl, by kernel_rfl⟩
theorem ZvV : FnAt Tryz.prog 179 := ⟨_, _, Tryz.func179, rfl, by kernel_rfl⟩
theorem ZvH : FnAt Tryz.prog 180 := ⟨_, _, Tryz.func180, rfl, by kernel_rfl⟩
theorem ZvL : FnAt Tryz.prog 157 := ⟨_, _, Tryz.func157, rfl, by kernel_rfl⟩
theorem Zwn : FnAt Tryz.prog 158 := ⟨_, _, Tryz.func158, rfl, by kernel_rfl⟩
theorem Zv8 : FnAt Tryz.prog 143 := ⟨_, _, Tryz.func143, rfl, by kernel_rfl⟩
theorem Zv3 : FnAt Tryz.prog 117 := ⟨_, _, Tryz.func117, rfl, by kernel_rfl⟩
theorem ZtJ : FnAt Tryz.prog 123 := ⟨_, _, Tryz.func123, rfl, by kernel_rfl⟩
theorem ZvK : FnAt Tryz.prog 124 := ⟨_, _, Tryz.func124, rfl, by kernel_rfl⟩
theorem ZwH : FnAt Tryz.prog 125 := ⟨_, _, Tryz.func125, rfl, by kernel_rfl⟩
theorem Zxh : FnAt Tryz.prog 87 := ⟨_, _, Tryz.func87, rfl, by kernel_rfl⟩
theorem Zxq : FnAt Tryz.prog 86 := ⟨_, _, Tryz.func86, rfl, by kernel_rfl⟩
theorem Zxs : FnAt Tryz.prog 88 := ⟨_, _, Tryz.func88, rfl, by kernel_rfl⟩
theorem Zxc : FnAt Tryz.prog 89 := ⟨_, _, Tryz.func89, rfl, by kernel_rfl⟩
theorem Zxb : FnAt Tryz.prog 90 := ⟨_, _, Tryz.func90, rfl, by kernel_rfl⟩
theorem ZwN : FnAt Tryz.prog 91 := ⟨_, _, Tryz.func91, rfl, by kernel_rfl⟩
theorem ZwS : FnAt Tryz.prog 41 := ⟨_, _, Tryz.func41, rfl, by kernel_rfl⟩
theorem Zw7 : FnAt Tryz.prog 46 := ⟨_, _, Tryz.func46, rfl, by kernel_rfl⟩
theorem Zxi : FnAt Tryz.prog 15 := ⟨_, _, Tryz.func15, rfl, by kernel_rfl⟩
theorem ZwZ : FnAt Tryz.prog 17 := ⟨_, _, Tryz.func17, rfl, by kernel_rfl⟩
theorem Zw6 : FnAt Tryz.prog 19 := ⟨_, _, Tryz.func19, rfl, by kernel_rfl⟩
theorem Zxo : FnAt Tryz.prog 18 := ⟨_, _, Tryz.func18, rfl, by kernel_rfl⟩
theorem Zxj : FnAt Tryz.prog 21 := ⟨_, _, Tryz.func21, rfl, by kernel_rfl⟩
theorem ZuT : FnAt Tryz.prog 22 := ⟨_, _, Tryz.func22, rfl, by kernel_rfl⟩
theorem fa_4 : FnAt Tryz.prog 4 := ⟨_, _, Tryz.func4, rfl, by kernel_rfl⟩
theorem fa_5 : FnAt Tryz.prog 5 := ⟨_, _, Tryz.func5, rfl, by kernel_rfl⟩
theorem fa_6 : FnAt Tryz.prog 6 := ⟨_, _, Tryz.func6, rfl, by kernel_rfl⟩
theorem fa_7 : FnAt Tryz.prog 7 := ⟨_, _, Tryz.func7, rfl, by kernel_rfl⟩
theorem fa_8 : FnAt Tryz.prog 8 := ⟨_, _, Tryz.func8, rfl, by kernel_rfl⟩
end Go.Proofs.YtjfjbgihojiijacGreatDoor
