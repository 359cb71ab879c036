/-
  Closed facts on this translation.
-/
import Derived.Test.YtjfjbgihojiijabGreatDoorPure
import Derived.Test.YtjfjbgihojiijabGreatDoorChecked
import Derived.KernelRfl
import Derived.Test.YtjfjbgihojiijabGreatDoorErr
namespace Go.Proofs.YtjfjbgihojiijabGreatDoor
open Go Go.RowKit Go.Proofs

theorem mixed : Tryz.prog.follows .mixedOrders = true := by kernel_rfl
theorem ZlO : elo Tryz.prog 22 = some 1 := by kernel_rfl
theorem tk_5 : tyk Tryz.prog 5 = some (false, 1) := by kernel_rfl
theorem Zo2 : isU8 Tryz.prog 5 = true := by kernel_rfl
theorem Zm9 : ZoX Tryz.prog 3 = true := by kernel_rfl
theorem ZtZ (z0 : Hd) (z1 : Int) : Tryz.prog.built 71 [(0, (sl z0)), (2, .int .i64 z1)] = some #[(sl z0), .int .i64 0, .int .i64 z1] := by kernel_rfl
theorem Zm6 : fldo Tryz.prog 71 2 = some 2 := by kernel_rfl
theorem tk_3 : tyk Tryz.prog 3 = some (false, 1) := by kernel_rfl
theorem Zm5 : fldo Tryz.prog 71 1 = some 1 := by kernel_rfl
theorem ZsP : fldo Tryz.prog 71 0 = some 0 := by kernel_rfl
theorem Zvi : tyk Tryz.prog 22 = some (false, 1) := by kernel_rfl
theorem Zpb : FnAt Tryz.prog 68 := ⟨_, _, Tryz.func68, rfl, by kernel_rfl⟩
theorem Zdu : FnAt Tryz.prog 32 := ⟨_, _, Tryz.func32, rfl, by kernel_rfl⟩
theorem Zan : elo Tryz.prog 24 = some 3 := by kernel_rfl
theorem ZiP : tyk Tryz.prog 61 = some (true, 3) := by kernel_rfl
theorem ZoQ : (Tryz.prog.info? 61).map (fun i => i.zero.map (·.cells.toList)) = some (some [.int .i64 0, .int .i64 0, .int .i64 0]) := by kernel_rfl
theorem Zch : fldo Tryz.prog 61 0 = some 0 := by kernel_rfl
theorem Zbo : FnAt Tryz.prog 115 := ⟨_, _, Tryz.func115, rfl, by kernel_rfl⟩
theorem ZjB : fldo Tryz.prog 61 1 = some 1 := by kernel_rfl
theorem Zg6 : fldo Tryz.prog 61 2 = some 2 := by kernel_rfl
theorem ZH : elo Tryz.prog 25 = some 1 := by kernel_rfl
theorem Zge : elo Tryz.prog 27 = some 4 := by kernel_rfl
theorem Zm7 : tyk Tryz.prog 94 = some (true, 4) := by kernel_rfl
theorem ZvE : (Tryz.prog.info? 94).map (fun i => i.zero.map (·.cells.toList)) = some (some [.int .i64 0, .int .i64 0, .int .i64 0, .int .i64 0]) := by kernel_rfl
theorem ZhU : fldo Tryz.prog 94 0 = some 0 := by kernel_rfl
theorem ZjE : fldo Tryz.prog 94 1 = some 1 := by kernel_rfl
theorem Zjv : fldo Tryz.prog 94 2 = some 2 := by kernel_rfl
theorem Zqo : fldo Tryz.prog 94 3 = some 3 := by kernel_rfl
theorem ZaX : fldo Tryz.prog 103 0 = some 0 := by kernel_rfl
theorem ZaF : fldo Tryz.prog 103 1 = some 1 := by kernel_rfl
theorem ZaY : fldo Tryz.prog 103 2 = some 2 := by kernel_rfl
theorem ub_4 : Tryz.prog.underlying 4 = some .bool := by kernel_rfl
theorem ZL : fldo Tryz.prog 65 0 = some 0 := by kernel_rfl
theorem Zx : fldo Tryz.prog 65 1 = some 1 := by kernel_rfl
theorem ZR : tyk Tryz.prog 63 = some (false, 1) := by kernel_rfl
theorem Z7 : elo Tryz.prog 63 = some 3 := by kernel_rfl
theorem Zf : tyk Tryz.prog 103 = some (true, 3) := by kernel_rfl
theorem ZjL : FnAt Tryz.prog 120 := ⟨_, _, Tryz.func120, rfl, by kernel_rfl⟩
theorem Zd7 : fldo Tryz.prog 67 0 = some 0 := by kernel_rfl
theorem ZcD : fldo Tryz.prog 67 1 = some 1 := by kernel_rfl
theorem Za4 : fldo Tryz.prog 67 2 = some 2 := by kernel_rfl
theorem Zb : tyk Tryz.prog 65 = some (true, 2) := by kernel_rfl
theorem ZeR : FnAt Tryz.prog 142 := ⟨_, _, Tryz.func142, rfl, by kernel_rfl⟩
theorem Zao : Za2 Tryz.prog 25 0 [] = some [] := by kernel_rfl
theorem ZkN : FnAt Tryz.prog 112 := ⟨_, _, Tryz.func112, rfl, by kernel_rfl⟩
theorem ZaZ (z0 : Int) : Za2 Tryz.prog 25 1 [(0, .int .i64 z0)] = some [.int .i64 z0] := by kernel_rfl
theorem Zb1 : aok Tryz.prog 25 1 = true := by kernel_rfl
theorem Zcl : fldo Tryz.prog 29 0 = some 0 := by kernel_rfl
theorem Zet : tyk Tryz.prog 24 = some (false, 1) := by kernel_rfl
theorem ZeK : fldo Tryz.prog 29 5 = some 5 := by kernel_rfl
theorem Zwe : FnAt Tryz.prog 143 := ⟨_, _, Tryz.func143, rfl, by kernel_rfl⟩
theorem ZeP : fldo Tryz.prog 29 1 = some 1 := by kernel_rfl
theorem Zeu : tyk Tryz.prog 25 = some (false, 1) := by kernel_rfl
theorem Zw6 : FnAt Tryz.prog 113 := ⟨_, _, Tryz.func113, rfl, by kernel_rfl⟩
theorem ZdB : fldo Tryz.prog 29 3 = some 3 := by kernel_rfl
theorem Zg5 : tyk Tryz.prog 27 = some (false, 1) := by kernel_rfl
theorem ZrS : FnAt Tryz.prog 114 := ⟨_, _, Tryz.func114, rfl, by kernel_rfl⟩
theorem Zaj : fldo Tryz.prog 29 2 = some 2 := by kernel_rfl
theorem Za5 : tyk Tryz.prog 26 = some (false, 1) := by kernel_rfl
theorem Zbv : elo Tryz.prog 26 = some 4 := by kernel_rfl
theorem Za7 : tyk Tryz.prog 67 = some (true, 4) := by kernel_rfl
theorem ZgP : (Tryz.prog.info? 67).map (fun i => i.zero.map (·.cells.toList)) = some (some [.int .i64 0, .int .i64 0, .int .i64 0, (Value.slice none 0 0)]) := by kernel_rfl
theorem ZrD : FnAt Tryz.prog 116 := ⟨_, _, Tryz.func116, rfl, by kernel_rfl⟩
theorem ZwP : FnAt Tryz.prog 117 := ⟨_, _, Tryz.func117, rfl, by kernel_rfl⟩
theorem Zdz : fldo Tryz.prog 29 4 = some 4 := by kernel_rfl
theorem Zc : tyk Tryz.prog 29 = some (true, 6) := by kernel_rfl
theorem ZwU : FnAt Tryz.prog 118 := ⟨_, _, Tryz.func118, rfl, by kernel_rfl⟩
theorem ZF : (Tryz.prog.info? 29).map (fun i => i.zero.map (·.cells.toList)) = some (some [(Value.slice none 0 0), (Value.slice none 0 0), (Value.slice none 0 0), (Value.slice none 0 0), .int .i64 0, .int .i64 0]) := by kernel_rfl
theorem ZvK (z0 : Int) : Tryz.prog.built 29 [(5, .int .i64 z0)] = some #[(Value.slice none 0 0), (Value.slice none 0 0), (Value.slice none 0 0), (Value.slice none 0 0), .int .i64 0, .int .i64 z0] := by kernel_rfl
theorem Zlz : FnAt Tryz.prog 89 := ⟨_, _, Tryz.func89, rfl, by kernel_rfl⟩
theorem Zvp : Tryz.prog.built 29 [] = some #[(Value.slice none 0 0), (Value.slice none 0 0), (Value.slice none 0 0), (Value.slice none 0 0), .int .i64 0, .int .i64 0] := by kernel_rfl
theorem Zav : (Tryz.prog.info? 65).map (fun i => i.zero.map (·.cells.toList)) = some (some [.int .i64 0, (Value.slice none 0 0)]) := by kernel_rfl
theorem ZsZ : Za2 Tryz.prog 63 0 [] = some [] := by kernel_rfl
theorem Zlo : aok Tryz.prog 63 3 = true := by kernel_rfl
theorem ZmK (z0 : Int) (z1 : Hd) : Tryz.prog.built 65 [(0, .int .i64 z0), (1, (sl z1))] = some #[.int .i64 z0, (sl z1)] := by kernel_rfl
theorem Zc1 : Za2 Tryz.prog 24 0 [] = some [] := by kernel_rfl
theorem ZdZ : aok Tryz.prog 24 3 = true := by kernel_rfl
theorem ZaJ : Za2 Tryz.prog 27 0 [] = some [] := by kernel_rfl
theorem Zd3 : aok Tryz.prog 27 4 = true := by kernel_rfl
theorem Zgl (z0 : Hd) (z1 : Hd) (z2 : Hd) (z3 : Int) (z4 : Int) : Tryz.prog.built 29 [(0, (sl z0)), (1, (sl z1)), (3, (sl z2)), (4, .int .i64 z3), (5, .int .i64 z4)] = some #[(sl z0), (sl z1), (Value.slice none 0 0), (sl z2), .int .i64 z3, .int .i64 z4] := by kernel_rfl
theorem Zq9 : FnAt Tryz.prog 95 := ⟨_, _, Tryz.func95, rfl, by kernel_rfl⟩
theorem Zna (z0 : Int) (z1 : Int) (z2 : Int) (z3 : Hd) : Za2 Tryz.prog 26 1 [(0, .agg #[.int .i64 z0, .int .i64 z1, .int .i64 z2, (sl z3)])] = some [.int .i64 z0, .int .i64 z1, .int .i64 z2, (sl z3)] := by kernel_rfl
theorem Zre : aok Tryz.prog 26 4 = true := by kernel_rfl
theorem ZnM (z0 : Int) (z1 : Int) (z2 : Int) : Tryz.prog.built 61 [(0, .int .i64 z0), (1, .int .i64 z1), (2, .int .i64 z2)] = some #[.int .i64 z0, .int .i64 z1, .int .i64 z2] := by kernel_rfl
theorem Zs1 (z0 : Int) (z1 : Int) (z2 : Int) : Za2 Tryz.prog 24 1 [(0, .agg #[.int .i64 z0, .int .i64 z1, .int .i64 z2])] = some [.int .i64 z0, .int .i64 z1, .int .i64 z2] := by kernel_rfl
theorem Zjw (z0 : Int) (z1 : Int) (z2 : Int) (z3 : Int) : Za2 Tryz.prog 27 1 [(0, .agg #[.int .i64 z0, .int .i64 z1, .int .i64 z2, .int .i64 z3])] = some [.int .i64 z0, .int .i64 z1, .int .i64 z2, .int .i64 z3] := by kernel_rfl
theorem Zne : FnAt Tryz.prog 90 := ⟨_, _, Tryz.func90, rfl, by kernel_rfl⟩
theorem ZxR : FnAt Tryz.prog 91 := ⟨_, _, Tryz.func91, rfl, by kernel_rfl⟩
theorem Zx6 : FnAt Tryz.prog 92 := ⟨_, _, Tryz.func92, rfl, by kernel_rfl⟩
theorem ZlX (z0 : Int) (z1 : Int) (z2 : Int) (z3 : Int) : Tryz.prog.built 94 [(0, .int .i64 z0), (1, .int .i64 z1), (2, .int .i64 z2), (3, .int .i64 z3)] = some #[.int .i64 z0, .int .i64 z1, .int .i64 z2, .int .i64 z3] := by kernel_rfl
theorem ZxV : FnAt Tryz.prog 93 := ⟨_, _, Tryz.func93, rfl, by kernel_rfl⟩
theorem Zvu : FnAt Tryz.prog 62 := ⟨_, _, Tryz.func62, rfl, by kernel_rfl⟩
theorem Zvx : FnAt Tryz.prog 63 := ⟨_, _, Tryz.func63, rfl, by kernel_rfl⟩
theorem Zbj : (Tryz.prog.info? 103).map (fun i => i.zero.map (·.cells.toList)) = some (some [.int .i64 0, .int .i64 0, .int .i64 0]) := by kernel_rfl
theorem ZgH : Tryz.prog.built 103 [] = some #[.int .i64 0, .int .i64 0, .int .i64 0] := by kernel_rfl
theorem ZpJ (z0 : Int) (z1 : Int) : Tryz.prog.built 103 [(1, .int .i64 z0), (2, .int .i64 z1)] = some #[.int .i64 0, .int .i64 z0, .int .i64 z1] := by kernel_rfl
theorem Zxi : FnAt Tryz.prog 119 := ⟨_, _, Tryz.func119, rfl, by kernel_rfl⟩
theorem ZcV (z0 : Int) (z1 : Int) (z2 : Int) : Tryz.prog.built 103 [(0, .int .i64 z0), (1, .int .i64 z1), (2, .int .i64 z2)] = some #[.int .i64 z0, .int .i64 z1, .int .i64 z2] := by kernel_rfl
theorem Zvl : FnAt Tryz.prog 94 := ⟨_, _, Tryz.func94, rfl, by kernel_rfl⟩
theorem ZtQ : FnAt Tryz.prog 198 := ⟨_, _, Tryz.func198, rfl, by kernel_rfl⟩
theorem ZkZ (z0 : Int) : Tryz.prog.built 65 [(0, .int .i64 z0)] = some #[.int .i64 z0, (Value.slice none 0 0)] := by kernel_rfl
theorem ZwJ : FnAt Tryz.prog 199 := ⟨_, _, Tryz.func199, rfl, by kernel_rfl⟩
theorem Zk3 (z0 : Int) (z1 : Int) (z2 : Int) : Za2 Tryz.prog 63 1 [(0, .agg #[.int .i64 z0, .int .i64 z1, .int .i64 z2])] = some [.int .i64 z0, .int .i64 z1, .int .i64 z2] := by kernel_rfl
theorem Zum : FnAt Tryz.prog 189 := ⟨_, _, Tryz.func189, rfl, by kernel_rfl⟩
theorem Zrz : FnAt Tryz.prog 188 := ⟨_, _, Tryz.func188, rfl, by kernel_rfl⟩
theorem ZiJ : Tryz.prog.built 65 [] = some #[.int .i64 0, (Value.slice none 0 0)] := by kernel_rfl
theorem Zxc : FnAt Tryz.prog 191 := ⟨_, _, Tryz.func191, rfl, by kernel_rfl⟩
theorem Zwh : FnAt Tryz.prog 192 := ⟨_, _, Tryz.func192, rfl, by kernel_rfl⟩
theorem Zxb : FnAt Tryz.prog 179 := ⟨_, _, Tryz.func179, rfl, by kernel_rfl⟩
theorem ZwX : FnAt Tryz.prog 180 := ⟨_, _, Tryz.func180, rfl, by kernel_rfl⟩
theorem Zwq : FnAt Tryz.prog 206 := ⟨_, _, Tryz.func206, rfl, by kernel_rfl⟩
theorem ZvX (z0 : UInt8) : Za2 Tryz.prog 22 1 [(0, .int .u8 (z0.toNat : Int))] = some [.int .u8 (z0.toNat : Int)] := by kernel_rfl
theorem Ztc : Zm0 Tryz.prog 22 = true := by kernel_rfl
theorem Zf5 : Zlx Tryz.prog 9 = true := by kernel_rfl
theorem ZmC : FnAt Tryz.prog 200 := ⟨_, _, Tryz.func200, rfl, by kernel_rfl⟩
theorem Zwo : FnAt Tryz.prog 190 := ⟨_, _, Tryz.func190, rfl, by kernel_rfl⟩
theorem Zuo : FnAt Tryz.prog 176 := ⟨_, _, Tryz.func176, rfl, by kernel_rfl⟩
theorem ZtK : FnAt Tryz.prog 166 := ⟨_, _, Tryz.func166, rfl, by kernel_rfl⟩
theorem ZtI : FnAt Tryz.prog 177 := ⟨_, _, Tryz.func177, rfl, by kernel_rfl⟩
theorem Zux : Ztb Tryz.prog 103 3 = true := by kernel_rfl
theorem ZtF : FnAt Tryz.prog 161 := ⟨_, _, Tryz.func161, rfl, by kernel_rfl⟩
theorem Zw1 : FnAt Tryz.prog 160 := ⟨_, _, Tryz.func160, rfl, by kernel_rfl⟩
theorem Zva : Za2 Tryz.prog 186 0 [] = some [] := by kernel_rfl
theorem Zq8 : Zpw Tryz.prog 25 = some (1, true, [.int .i64 0]) := by kernel_rfl
theorem Zu8 (z0 : Hd) : Za2 Tryz.prog 186 1 [(0, (sl z0))] = some [(sl z0)] := by kernel_rfl
theorem Zwp : aok Tryz.prog 186 1 = true := by kernel_rfl
theorem ZtU : FnAt Tryz.prog 178 := ⟨_, _, Tryz.func178, rfl, by kernel_rfl⟩
theorem Zry : elo Tryz.prog 186 = some 1 := by kernel_rfl
theorem ZtO : FnAt Tryz.prog 164 := ⟨_, _, Tryz.func164, rfl, by kernel_rfl⟩
theorem ZwV : FnAt Tryz.prog 162 := ⟨_, _, Tryz.func162, rfl, by kernel_rfl⟩
theorem ZwQ : FnAt Tryz.prog 163 := ⟨_, _, Tryz.func163, rfl, by kernel_rfl⟩
theorem Zwk : FnAt Tryz.prog 165 := ⟨_, _, Tryz.func165, rfl, by kernel_rfl⟩
theorem ZwA : FnAt Tryz.prog 144 := ⟨_, _, Tryz.func144, rfl, by kernel_rfl⟩
theorem ZwY : FnAt Tryz.prog 145 := ⟨_, _, Tryz.func145, rfl, by kernel_rfl⟩
theorem Zwi : FnAt Tryz.prog 121 := ⟨_, _, Tryz.func121, rfl, by kernel_rfl⟩
theorem ZfZ (z0 : Int) (z1 : Int) (z2 : Int) (z3 : Hd) : Tryz.prog.built 67 [(0, .int .i64 z0), (1, .int .i64 z1), (2, .agg #[.int .i64 z2, (sl z3)])] = some #[.int .i64 z0, .int .i64 z1, .int .i64 z2, (sl z3)] := by kernel_rfl
theorem Zxo : FnAt Tryz.prog 96 := ⟨_, _, Tryz.func96, rfl, by kernel_rfl⟩
theorem ZxY : FnAt Tryz.prog 64 := ⟨_, _, Tryz.func64, rfl, by kernel_rfl⟩
theorem ZxO : FnAt Tryz.prog 65 := ⟨_, _, Tryz.func65, rfl, by kernel_rfl⟩
theorem ZxM : FnAt Tryz.prog 66 := ⟨_, _, Tryz.func66, rfl, by kernel_rfl⟩
theorem Zvo : FnAt Tryz.prog 29 := ⟨_, _, Tryz.func29, rfl, by kernel_rfl⟩
theorem ZxE : FnAt Tryz.prog 67 := ⟨_, _, Tryz.func67, rfl, by kernel_rfl⟩
theorem Zx1 : FnAt Tryz.prog 30 := ⟨_, _, Tryz.func30, rfl, by kernel_rfl⟩
theorem ZxT : FnAt Tryz.prog 31 := ⟨_, _, Tryz.func31, rfl, by kernel_rfl⟩
theorem Zly : (Tryz.prog.info? 49).map (fun i => i.zero.map (·.cells.toList)) = some (some [.int .i64 0, .int .i64 0, .int .i64 0]) := by kernel_rfl
theorem ZmI (z0 : Int) (z1 : Int) : Tryz.prog.built 49 [(0, .int .i64 z0), (1, .int .i64 z1)] = some #[.int .i64 z0, .int .i64 z1, .int .i64 0] := by kernel_rfl
theorem ZaU : tyk Tryz.prog 49 = some (true, 3) := by kernel_rfl
theorem Zsn (z0 : Int) (z1 : Int) (z2 : Int) : Tryz.prog.built 49 [(0, .int .i64 z0), (1, .int .i64 z1), (2, .int .i64 z2)] = some #[.int .i64 z0, .int .i64 z1, .int .i64 z2] := by kernel_rfl
theorem ZsL (z0 : Int) : Tryz.prog.built 49 [(0, .int .i64 z0)] = some #[.int .i64 z0, .int .i64 0, .int .i64 0] := by kernel_rfl
theorem ZsU : Za2 Tryz.prog 30 0 [] = some [] := by kernel_rfl
theorem Zxn : FnAt Tryz.prog 33 := ⟨_, _, Tryz.func33, rfl, by kernel_rfl⟩
theorem ZsE (z0 : Int) (z1 : Int) (z2 : Int) : Za2 Tryz.prog 30 1 [(0, .agg #[.int .i64 z0, .int .i64 z1, .int .i64 z2])] = some [.int .i64 z0, .int .i64 z1, .int .i64 z2] := by kernel_rfl
theorem ZvF : aok Tryz.prog 30 3 = true := by kernel_rfl
theorem Zxm : FnAt Tryz.prog 13 := ⟨_, _, Tryz.func13, rfl, by kernel_rfl⟩
theorem Zxl : FnAt Tryz.prog 14 := ⟨_, _, Tryz.func14, rfl, by kernel_rfl⟩
theorem Zx2 : FnAt Tryz.prog 15 := ⟨_, _, Tryz.func15, rfl, by kernel_rfl⟩
theorem Zjy : fldo Tryz.prog 49 0 = some 0 := by kernel_rfl
theorem ZcZ : fldo Tryz.prog 49 1 = some 1 := by kernel_rfl
theorem ZaI : FnAt Tryz.prog 36 := ⟨_, _, Tryz.func36, rfl, by kernel_rfl⟩
theorem ZhO : fldo Tryz.prog 49 2 = some 2 := by kernel_rfl
theorem ZvC : FnAt Tryz.prog 25 := ⟨_, _, Tryz.func25, rfl, by kernel_rfl⟩
theorem Zg9 (z0 : Str) : Za2 Tryz.prog 35 1 [(0, bs z0)] = some [bs z0] := by kernel_rfl
theorem Zff : FnAt Tryz.prog 10 := ⟨_, _, Tryz.func10, rfl, by kernel_rfl⟩
theorem Zgv : aok Tryz.prog 35 1 = true := by kernel_rfl
theorem Zrf : FnAt Tryz.prog 38 := ⟨_, _, Tryz.func38, rfl, by kernel_rfl⟩
theorem Zvz : FnAt Tryz.prog 34 := ⟨_, _, Tryz.func34, rfl, by kernel_rfl⟩
theorem ZiK : FnAt Tryz.prog 26 := ⟨_, _, Tryz.func26, rfl, by kernel_rfl⟩
theorem ZsF (z0 : Int) (z1 : Int) : Za2 Tryz.prog 25 2 [(0, .int .i64 z0), (1, .int .i64 z1)] = some [.int .i64 z0, .int .i64 z1] := by kernel_rfl
theorem Zlg : elo Tryz.prog 30 = some 3 := by kernel_rfl
theorem ZvB : FnAt Tryz.prog 16 := ⟨_, _, Tryz.func16, rfl, by kernel_rfl⟩
theorem ZkJ : Za2 Tryz.prog 35 0 [] = some [] := by kernel_rfl
theorem Zd5 : elo Tryz.prog 35 = some 1 := by kernel_rfl
theorem Zxu : FnAt Tryz.prog 72 := ⟨_, _, Tryz.func72, rfl, by kernel_rfl⟩
theorem Zxh : Znd Tryz.prog 112 = true := by kernel_rfl
theorem Zvw : FnAt Tryz.prog 18 := ⟨_, _, Tryz.func18, rfl, by kernel_rfl⟩
theorem Zra : Tryz.prog.built 49 [] = some #[.int .i64 0, .int .i64 0, .int .i64 0] := by kernel_rfl
theorem Zwb (z0 : Str) (z1 : Str) (z2 : Str) (z3 : Str) (z4 : Str) (z5 : Str) (z6 : Str) : Za2 Tryz.prog 35 7 [(0, bs z0), (1, bs z1), (2, bs z2), (3, bs z3), (4, bs z4), (5, bs z5), (6, bs z6)] = some [bs z0, bs z1, bs z2, bs z3, bs z4, bs z5, bs z6] := by kernel_rfl
theorem tk_9 : tyk Tryz.prog 9 = some (false, 1) := by kernel_rfl
theorem ZxD : FnAt Tryz.prog 37 := ⟨_, _, Tryz.func37, rfl, by kernel_rfl⟩
theorem Ztw : FnAt Tryz.prog 76 := ⟨_, _, Tryz.func76, rfl, by kernel_rfl⟩
theorem Zpg : FnAt Tryz.prog 106 := ⟨_, _, Tryz.func106, rfl, by kernel_rfl⟩
theorem Zib : FnAt Tryz.prog 87 := ⟨_, _, Tryz.func87, rfl, by kernel_rfl⟩
theorem Zd2 : FnAt Tryz.prog 58 := ⟨_, _, Tryz.func58, rfl, by kernel_rfl⟩
theorem ZmZ : FnAt Tryz.prog 42 := ⟨_, _, Tryz.func42, rfl, by kernel_rfl⟩
theorem ZxI : FnAt Tryz.prog 61 := ⟨_, _, Tryz.func61, rfl, by kernel_rfl⟩
theorem Zq6 : FnAt Tryz.prog 43 := ⟨_, _, Tryz.func43, rfl, by kernel_rfl⟩
theorem Zta : FnAt Tryz.prog 44 := ⟨_, _, Tryz.func44, rfl, by kernel_rfl⟩
theorem Ztu : FnAt Tryz.prog 45 := ⟨_, _, Tryz.func45, rfl, by kernel_rfl⟩
theorem ZxX : FnAt Tryz.prog 46 := ⟨_, _, Tryz.func46, rfl, by kernel_rfl⟩
theorem Znc : FnAt Tryz.prog 28 := ⟨_, _, Tryz.func28, rfl, by kernel_rfl⟩
theorem Zwc (z0 : Int) (z1 : Int) (z2 : Int) (z3 : Int) (z4 : Int) (z5 : Int) : Za2 Tryz.prog 25 6 [(0, .int .i64 z0), (1, .int .i64 z1), (2, .int .i64 z2), (3, .int .i64 z3), (4, .int .i64 z4), (5, .int .i64 z5)] = some [.int .i64 z0, .int .i64 z1, .int .i64 z2, .int .i64 z3, .int .i64 z4, .int .i64 z5] := by kernel_rfl
theorem Zt0 (z0 : Hd) (z1 : Int) : Tryz.prog.built 29 [(1, (sl z0)), (5, .int .i64 z1)] = some #[(Value.slice none 0 0), (sl z0), (Value.slice none 0 0), (Value.slice none 0 0), .int .i64 0, .int .i64 z1] := by kernel_rfl
theorem Zka : FnAt Tryz.prog 21 := ⟨_, _, Tryz.func21, rfl, by kernel_rfl⟩
theorem Zlu : FnAt Tryz.prog 39 := ⟨_, _, Tryz.func39, rfl, by kernel_rfl⟩
theorem Zpm : FnAt Tryz.prog 40 := ⟨_, _, Tryz.func40, rfl, by kernel_rfl⟩
theorem ZlM : FnAt Tryz.prog 41 := ⟨_, _, Tryz.func41, rfl, by kernel_rfl⟩
theorem Zg0 : FnAt Tryz.prog 20 := ⟨_, _, Tryz.func20, rfl, by kernel_rfl⟩
theorem Zxj : FnAt Tryz.prog 53 := ⟨_, _, Tryz.func53, rfl, by kernel_rfl⟩
theorem ZxK : FnAt Tryz.prog 54 := ⟨_, _, Tryz.func54, rfl, by kernel_rfl⟩
theorem ZxA : FnAt Tryz.prog 55 := ⟨_, _, Tryz.func55, rfl, by kernel_rfl⟩
theorem Zkg : FnAt Tryz.prog 56 := ⟨_, _, Tryz.func56, rfl, by kernel_rfl⟩
theorem Zx7 : FnAt Tryz.prog 23 := ⟨_, _, Tryz.func23, rfl, by kernel_rfl⟩
theorem Zvs : FnAt Tryz.prog 24 := ⟨_, _, Tryz.func24, rfl, by kernel_rfl⟩
theorem Zte : FnAt Tryz.prog 82 := ⟨_, _, Tryz.func82, rfl, by kernel_rfl⟩
theorem Zng : FnAt Tryz.prog 81 := ⟨_, _, Tryz.func81, rfl, by kernel_rfl⟩
theorem Zv5 (z0 : Int) (z1 : Int) (z2 : Int) (z3 : Int) (z4 : Int) (z5 : Int) (z6 : Int) (z7 : Int) (z8 : Int) (z9 : Int) (z10 : Int) (z11 : Int) (z12 : Int) (z13 : Int) (z14 : Int) (z15 : Int) (z16 : Int) (z17 : Int) (z18 : Int) (z19 : Int) (z20 : Int) (z21 : Int) (z22 : Int) (z23 : Int) (z24 : Int) (z25 : Int) (z26 : Int) : Za2 Tryz.prog 63 9 [(0, .agg #[.int .i64 z0, .int .i64 z1, .int .i64 z2]), (1, .agg #[.int .i64 z3, .int .i64 z4, .int .i64 z5]), (2, .agg #[.int .i64 z6, .int .i64 z7, .int .i64 z8]), (3, .agg #[.int .i64 z9, .int .i64 z10, .int .i64 z11]), (4, .agg #[.int .i64 z12, .int .i64 z13, .int .i64 z14]), (5, .agg #[.int .i64 z15, .int .i64 z16, .int .i64 z17]), (6, .agg #[.int .i64 z18, .int .i64 z19, .int .i64 z20]), (7, .agg #[.int .i64 z21, .int .i64 z22, .int .i64 z23]), (8, .agg #[.int .i64 z24, .int .i64 z25, .int .i64 z26])] = some [.int .i64 z0, .int .i64 z1, .int .i64 z2, .int .i64 z3, .int .i64 z4, .int .i64 z5, .int .i64 z6, .int .i64 z7, .int .i64 z8, .int .i64 z9, .int .i64 z10, .int .i64 z11, .int .i64 z12, .int .i64 z13, .int .i64 z14, .int .i64 z15, .int .i64 z16, .int .i64 z17, .int .i64 z18, .int .i64 z19, .int .i64 z20, .int .i64 z21, .int .i64 z22, .int .i64 z23, .int .i64 z24, .int .i64 z25, .int .i64 z26] := by kernel_rfl
theorem ZxU : FnAt Tryz.prog 78 := ⟨_, _, Tryz.func78, rfl, by kernel_rfl⟩
theorem ZxW : FnAt Tryz.prog 80 := ⟨_, _, Tryz.func80, rfl, by kernel_rfl⟩
theorem Zrd : FnAt Tryz.prog 79 := ⟨_, _, Tryz.func79, rfl, by kernel_rfl⟩
theorem Zxt : FnAt Tryz.prog 88 := ⟨_, _, Tryz.func88, rfl, by kernel_rfl⟩
theorem Zrb : FnAt Tryz.prog 60 := ⟨_, _, Tryz.func60, rfl, by kernel_rfl⟩
theorem ZwL : FnAt Tryz.prog 202 := ⟨_, _, Tryz.func202, rfl, by kernel_rfl⟩
theorem Zw7 : FnAt Tryz.prog 201 := ⟨_, _, Tryz.func201, rfl, by kernel_rfl⟩
theorem ZwT : FnAt Tryz.prog 204 := ⟨_, _, Tryz.func204, rfl, by kernel_rfl⟩
theorem Zw5 : FnAt Tryz.prog 203 := ⟨_, _, Tryz.func203, rfl, by kernel_rfl⟩
theorem Zwx : FnAt Tryz.prog 193 := ⟨_, _, Tryz.func193, rfl, by kernel_rfl⟩
theorem Zw0 : FnAt Tryz.prog 194 := ⟨_, _, Tryz.func194, rfl, by kernel_rfl⟩
theorem ZrI : Za2 Tryz.prog 194 0 [] = some [] := by kernel_rfl
theorem Zwn : FnAt Tryz.prog 181 := ⟨_, _, Tryz.func181, rfl, by kernel_rfl⟩
theorem Zr1 (z0 : Int) (z1 : Hd) : Za2 Tryz.prog 194 1 [(0, .agg #[.int .i64 z0, (sl z1)])] = some [.int .i64 z0, (sl z1)] := by kernel_rfl
theorem ZuF : aok Tryz.prog 194 2 = true := by kernel_rfl
theorem Zwf : FnAt Tryz.prog 209 := ⟨_, _, Tryz.func209, rfl, by kernel_rfl⟩
theorem Zxe : FnAt Tryz.prog 208 := ⟨_, _, Tryz.func208, rfl, by kernel_rfl⟩
theorem Zw4 : FnAt Tryz.prog 207 := ⟨_, _, Tryz.func207, rfl, by kernel_rfl⟩
theorem Zwv : FnAt Tryz.prog 205 := ⟨_, _, Tryz.func205, rfl, by kernel_rfl⟩
theorem Zup : FnAt Tryz.prog 195 := ⟨_, _, Tryz.func195, rfl, by kernel_rfl⟩
theorem ZwK : FnAt Tryz.prog 196 := ⟨_, _, Tryz.func196, rfl, by kernel_rfl⟩
theorem Zt3 : FnAt Tryz.prog 184 := ⟨_, _, Tryz.func184, rfl, by kernel_rfl⟩
theorem ZwW : FnAt Tryz.prog 186 := ⟨_, _, Tryz.func186, rfl, by kernel_rfl⟩
theorem Zwr : FnAt Tryz.prog 185 := ⟨_, _, Tryz.func185, rfl, by kernel_rfl⟩
theorem Zt1 : FnAt Tryz.prog 182 := ⟨_, _, Tryz.func182, rfl, by kernel_rfl⟩
theorem Zpu : FnAt Tryz.prog 174 := ⟨_, _, Tryz.func174, rfl, by kernel_rfl⟩
theorem ZvV (z0 : Str) (z1 : Str) (z2 : Str) : Za2 Tryz.prog 35 3 [(0, bs z0), (1, bs z1), (2, bs z2)] = some [bs z0, bs z1, bs z2] := by kernel_rfl
theorem Zvm : FnAt Tryz.prog 59 := ⟨_, _, Tryz.func59, rfl, by kernel_rfl⟩
theorem ZjI : elo Tryz.prog 194 = some 2 := by kernel_rfl
theorem Zt6 : FnAt Tryz.prog 183 := ⟨_, _, Tryz.func183, rfl, by kernel_rfl⟩
theorem Zuw : FnAt Tryz.prog 169 := ⟨_, _, Tryz.func169, rfl, by kernel_rfl⟩
theorem ZwC : FnAt Tryz.prog 170 := ⟨_, _, Tryz.func170, rfl, by kernel_rfl⟩
theorem Zwz : FnAt Tryz.prog 171 := ⟨_, _, Tryz.func171, rfl, by kernel_rfl⟩
theorem ZuC : FnAt Tryz.prog 152 := ⟨_, _, Tryz.func152, rfl, by kernel_rfl⟩
theorem ZwD : FnAt Tryz.prog 151 := ⟨_, _, Tryz.func151, rfl, by kernel_rfl⟩
theorem Zxd : FnAt Tryz.prog 136 := ⟨_, _, Tryz.func136, rfl, by kernel_rfl⟩
theorem ZuB : FnAt Tryz.prog 107 := ⟨_, _, Tryz.func107, rfl, by kernel_rfl⟩
theorem ZrV : FnAt Tryz.prog 154 := ⟨_, _, Tryz.func154, rfl, by kernel_rfl⟩
theorem Zrw : FnAt Tryz.prog 172 := ⟨_, _, Tryz.func172, rfl, by kernel_rfl⟩
theorem Zt4 : FnAt Tryz.prog 155 := ⟨_, _, Tryz.func155, rfl, by kernel_rfl⟩
theorem Zur : FnAt Tryz.prog 173 := ⟨_, _, Tryz.func173, rfl, by kernel_rfl⟩
theorem Zut : FnAt Tryz.prog 197 := ⟨_, _, Tryz.func197, rfl, by kernel_rfl⟩
theorem Zr2 : FnAt Tryz.prog 153 := ⟨_, _, Tryz.func153, rfl, by kernel_rfl⟩
theorem ZwF : FnAt Tryz.prog 187 := ⟨_, _, Tryz.func187, rfl, by kernel_rfl⟩
theorem Zww : FnAt Tryz.prog 175 := ⟨_, _, Tryz.func175, rfl, by kernel_rfl⟩
theorem Zwm : FnAt Tryz.prog 156 := ⟨_, _, Tryz.func156, rfl, by kernel_rfl⟩
theorem Zw9 : FnAt Tryz.prog 157 := ⟨_, _, Tryz.func157, rfl, by kernel_rfl⟩
theorem Zwu : FnAt Tryz.prog 134 := ⟨_, _, Tryz.func134, rfl, by kernel_rfl⟩
theorem Zwy : FnAt Tryz.prog 135 := ⟨_, _, Tryz.func135, rfl, by kernel_rfl⟩
theorem Zwg : FnAt Tryz.prog 105 := ⟨_, _, Tryz.func105, rfl, by kernel_rfl⟩
theorem ZxF : FnAt Tryz.prog 77 := ⟨_, _, Tryz.func77, rfl, by kernel_rfl⟩
theorem Zvv : FnAt Tryz.prog 83 := ⟨_, _, Tryz.func83, rfl, by kernel_rfl⟩
theorem ZxC : FnAt Tryz.prog 84 := ⟨_, _, Tryz.func84, rfl, by kernel_rfl⟩
theorem Zx4 : FnAt Tryz.prog 85 := ⟨_, _, Tryz.func85, rfl, by kernel_rfl⟩
theorem Zxx : FnAt Tryz.prog 48 := ⟨_, _, Tryz.func48, rfl, by kernel_rfl⟩
theorem Zxk : FnAt Tryz.prog 47 := ⟨_, _, Tryz.func47, rfl, by kernel_rfl⟩
theorem ZxZ : FnAt Tryz.prog 49 := ⟨_, _, Tryz.func49, rfl, by kernel_rfl⟩
theorem ZxS : FnAt Tryz.prog 50 := ⟨_, _, Tryz.func50, rfl, by kernel_rfl⟩
theorem Zxz : FnAt Tryz.prog 51 := ⟨_, _, Tryz.func51, rfl, by kernel_rfl⟩
theorem Zxv : FnAt Tryz.prog 52 := ⟨_, _, Tryz.func52, rfl, by kernel_rfl⟩
theorem Zx0 : FnAt Tryz.prog 22 := ⟨_, _, Tryz.func22, rfl, by kernel_rfl⟩
theorem Zlc (z0 : Str) (z1 : Str) : Za2 Tryz.prog 35 2 [(0, bs z0), (1, bs z1)] = some [bs z0, bs z1] := by kernel_rfl
theorem ZxP : FnAt Tryz.prog 27 := ⟨_, _, Tryz.func27, rfl, by kernel_rfl⟩
theorem ZxG : FnAt Tryz.prog 17 := ⟨_, _, Tryz.func17, rfl, by kernel_rfl⟩
theorem Zxp : FnAt Tryz.prog 19 := ⟨_, _, Tryz.func19, rfl, by kernel_rfl⟩
theorem fa_9 : FnAt Tryz.prog 9 := ⟨_, _, Tryz.func9, rfl, by kernel_rfl⟩
theorem fa_8 : FnAt Tryz.prog 8 := ⟨_, _, Tryz.func8, rfl, by kernel_rfl⟩
theorem ZvA : FnAt Tryz.prog 11 := ⟨_, _, Tryz.func11, rfl, by kernel_rfl⟩
theorem fa_4 : FnAt Tryz.prog 4 := ⟨_, _, Tryz.func4, rfl, by kernel_rfl⟩
theorem fa_5 : FnAt Tryz.prog 5 := ⟨_, _, Tryz.func5, rfl, by kernel_rfl⟩
theorem fa_6 : FnAt Tryz.prog 6 := ⟨_, _, Tryz.func6, rfl, by kernel_rfl⟩
theorem fa_7 : FnAt Tryz.prog 7 := ⟨_, _, Tryz.func7, rfl, by kernel_rfl⟩
theorem Zxr : FnAt Tryz.prog 12 := ⟨_, _, Tryz.func12, rfl, by kernel_rfl⟩
end Go.Proofs.YtjfjbgihojiijabGreatDoor
