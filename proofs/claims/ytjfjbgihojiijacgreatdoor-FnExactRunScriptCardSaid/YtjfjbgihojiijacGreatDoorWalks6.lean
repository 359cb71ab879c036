/-
 Each Go function computes its Lean function (part 6).
-/
import Derived.Test.YtjfjbgihojiijacGreatDoorWalks5
namespace Go.Proofs.YtjfjbgihojiijacGreatDoor
open Go Go.RowKit Go.Proofs
set_option maxRecDepth 100000

theorem ZlV (w : World) (a_c : GCell) (a_l : List Int) (v0a : Hd) (r0 : rdF w (dm w []) (sl v0a) a_l) {r : GCell} (t0 : Zdk a_c a_l = some r) : Calls Tryz.prog 204 #[.agg #[.int .i64 a_c.Split, .int .i64 a_c.A, .int .i64 a_c.B], (sl v0a)] w fun e w' => e = .returned (.agg #[.int .i64 r.Split, .int .i64 r.A, .int .i64 r.B]) ∧ SH w [] [] w' := by
 refine cwc (args := [_, _]) Tryz.func204 R Tryz.ntmps204 R ?_
 unfold Zdk at t0
 refine wcr (wle (Zg R R) R fun b1 => (wle (eal (cs := [iv 0, iv 0, iv 0]) Zb8) R fun b2 => (wnt (wcs (wcs (bdO t0 fun y1 t1 t0 => (wj (J := Bool) (X := Unit) (fun z => y1 = z) (fun z _ => [(1, (sl v0a)), (2, ptr b1 0), (4, ptr b2 0), (12, .bool z)]) (fun _ _ => [box b2 [iv 0, iv 0, iv 0], box b1 [iv a_c.Split, iv a_c.A, iv a_c.B]]) ?_ ?_)))))))
 refine wcg (wlq (v := .agg #[iv a_c.Split, iv a_c.A, iv a_c.B]) (plb Zh pk1 R R R) R (bdO t1 fun v1 hv1 t1 => (wlc (cz0 ZgL R fun w hw => Za9 w a_c hv1) R fun _ => (wlq (Zd R) R (mv R R (wlo (t := 8) t1 R (fun h1 t1 => ?_) fun h1 t1 => ?_))))))
 exact wgf (j := 3) R R R R R (wgf (j := 3) R R R R R (wgf (j := 3) R R R R R (wlq (pit R R) R (wln (wjm _ () (mtE t1) (su4 R R R R) so2)))))
 exact wgn (j := 3) R R R (mv R R (bdO t1 fun v2 hv2 t1 => (wgn (j := 3) R R R (wlc (cz0 ZtA R fun w hw => ZlS w a_l v0a (ra r0 hw) hv2) R (fun _ => (wgn (j := 3) R R R (wlq (Zd R) R (wlq (pif R R) R (wln (wjm _ () (mtE t1) (su4 R R R R) so2))))))))))
 intro j1 _ hp
 obtain rfl : j1 = y1 := hp.symm
 refine wqt (wcO t0 R (fun h2 t0 => ?_) fun h2 t0 => ?_)
 refine wcr (wlq (Zl R Ziq) R (wls (sbx (cs' := [iv 0, iv 0, iv 0]) Zh pz R R R R R R R) (wnt (wct (wqr ?_)))))
 obtain rfl := oi t0
 exact wqc R Zh R pz R fun w hw => ⟨R, hw.weak zn⟩
 refine wck (wqt (wcs (wcd [box b2 [iv 0, iv 0, iv 0], box b1 [iv a_c.Split, iv a_c.A, iv a_c.B]] 13 mixed (aq 0 R (pof Zbc R) so2 R (aq (v := iv a_c.Split) 1 R (plx tk_3 pk1 R R) so2 R (aq 2 R (pom R) so2 R (aq 3 R (pof ZaT R) so2 R (aq (v := iv a_c.A) 4 R (plx tk_3 pk1 R R) so2 R (gdO t0 fun g1 t0 => (aq 5 R (ZX (rga r0) Zy R R g1.1 g1.2) so2 R (aq (v := iv (gx a_l ((a_c.A).toNat))) 6 R (Zw (rga r0) tk_3 R (ZD g1) R) so2 R (aq 7 R (pom R) so2 R (aq 8 R (pof Za6 R) so2 R (aq (v := iv a_c.B) 9 R (plx tk_3 pk1 R R) so2 R (gdO t0 fun g2 t0 => (aq 10 R (ZX (rga r0) Zy R R g2.1 g2.2) so2 R (aq (v := iv (gx a_l ((a_c.B).toNat))) 11 R (Zw (rga r0) tk_3 R (ZD g2) R) so2 R (a1 12 (bdO t0 fun v3 hv3 t0 => (wsc R (cz0 ZkM R fun w hw => ZcI w a_c.Split (gx a_l ((a_c.A).toNat)) (gx a_l ((a_c.B).toNat)) hv3) (fun _ => (zt so2)) R fun _ => (a1 13 (ZR R (sbx (cs' := [iv v3.Split, iv v3.A, iv v3.B]) Zh pz R R R R R R R) (Za2 (by kernel_rfl)) ?_))))))))))))))))))))))
 refine ae (wqt (wct ?_))
 obtain rfl := oi t0
 exact wqc R Zh R pz R fun w hw => ⟨R, hw.weak zn⟩

theorem Zj6 (w : World) (a_x : Int) (a_y : Int) (c_p2 : GBlock) (v0a : Hd) (r0 : rdF w (dm w []) (sl v0a) c_p2.Cells) (b2c : Nat) (q2 : Bx w b2c [.int .i64 c_p2.Size, (sl v0a)]) (c_p3 : List Int) (v1a : Hd) (r1 : rdF w (dm w []) (sl v1a) c_p3) (b3c : Nat) (q3 : Bx w b3c [(sl v1a)]) {r : GCell} (t0 : Zb2 a_x a_y c_p2 c_p3 = some r) : Calls Tryz.prog 203 #[.int .i64 a_x, .int .i64 a_y, ptr b2c 0, ptr b3c 0] w fun e w' => e = .returned (.agg #[.int .i64 r.Split, .int .i64 r.A, .int .i64 r.B]) ∧ SH w [] [] w' := by
 refine cwc (args := [_, _, _, _]) Tryz.func203 R Tryz.ntmps203 R ?_
 unfold Zb2 at t0
 refine wcr (wle (eal (cs := [iv 0, iv 0, iv 0]) Zb8) R fun b1 => (wnt (wcs (wcd [box b1 [iv 0, iv 0, iv 0]] 6 mixed (aq (v := .agg #[iv c_p2.Size, (sl v0a)]) 0 R (Zjf q2 Zc R R R) so1 R (aq 1 R (pom R) so1 R (aq 2 R (pom R) so1 R (aq (v := (sl v1a)) 4 R (ZgC q3 ZcA R R) so1 R (a1 3 (bdO t0 fun v1 hv1 t0 => (wsc R (cz0 Zq2 R fun w hw => ZhI w c_p2 v0a (ra r0 hw) a_x a_y hv1) (fun _ => (zt so1)) R fun _ => (a1 5 (bdO t0 fun v2 hv2 t0 => (wsc R (cz0 ZvW R fun w hw => ZlV w v1 c_p3 v1a (ra r1 hw) hv2) (fun _ => (zt so1)) R fun _ => (a1 6 (ZR R (sbx (cs' := [iv v2.Split, iv v2.A, iv v2.B]) Zh pz R R R R R R R) (Za2 (by kernel_rfl)) ?_))))))))))))))))
 refine ae (wqt (wct ?_))
 obtain rfl := oi t0
 exact wqc R Zh R pz R fun w hw => ⟨R, hw.weak zn⟩

theorem Zdu (w : World) (a_b : GBlock) (v0a : Hd) (r0 : rdF w (dm w []) (sl v0a) a_b.Cells) (a_l : List Int) (v1a : Hd) (r1 : rdF w (dm w []) (sl v1a) a_l) {r : GBlock × Bool} (t0 : ZbZ a_b a_l = some r) : Calls Tryz.prog 193 #[.agg #[.int .i64 a_b.Size, (sl v0a)], (sl v1a)] w fun e w' => ∃ x : Hd, e = .returned (.tuple #[.agg #[.int .i64 r.1.Size, (sl x)], .bool r.2]) ∧ SH w [] [ownF (sl x) r.1.Cells] w' := by
 refine cwc (args := [_, _]) Tryz.func193 R Tryz.ntmps193 R ?_
 unfold ZbZ at t0
 refine wcr (wle (Zg R R) R fun b1 => (wle (Zg R R) R fun b2 => (wle (eal (cs := [iv 0, (sl hn)]) Zau) R fun b3 => (asg R R (wnt (wcs (wcs (bdO t0 fun y1 t1 t0 => (wj (J := Bool) (X := Unit) (fun z => y1 = z) (fun z _ => [(2, ptr b1 0), (3, ptr b2 0), (4, ptr b3 0), (13, .bool z)]) (fun _ _ => [box b3 [iv 0, (sl hn)], box b2 [(sl v1a)], box b1 [iv a_b.Size, (sl v0a)]]) ?_ ?_)))))))))
 refine wcg (wlq (v := .agg #[iv a_b.Size, (sl v0a)]) (plb Zc pk2 R R R) R (bdO t1 fun v1 hv1 t1 => (wlc (cz0 Zea R fun w hw => Z0 w a_b v0a (ra r0 hw) hv1) R fun _ => (wlq (Zd R) R (mv R R (wlo (t := 9) t1 R (fun h1 t1 => ?_) fun h1 t1 => ?_))))))
 exact wgf (j := 3) R R R R R (wgf (j := 3) R R R R R (wgf (j := 3) R R R R R (wlq (pit R R) R (wln (wjm _ () (mtE t1) (su4 R R R R) so3)))))
 exact wgn (j := 3) R R R (wlq (v := (sl v1a)) (plx ZcA pk1 R R) R (bdO t1 fun v2 hv2 t1 => (wgn (j := 3) R R R (wlc (cz0 ZtA R fun w hw => ZlS w a_l v1a (ra r1 hw) hv2) R (fun _ => (wgn (j := 3) R R R (wlq (Zd R) R (wlq (pif R R) R (wln (wjm _ () (mtE t1) (su4 R R R R) so3))))))))))
 intro j1 _ hp
 obtain rfl : j1 = y1 := hp.symm
 refine wqt (wcO t0 R (fun h2 t0 => ?_) fun h2 t0 => ?_)
 refine wcr (wlq (v := .agg #[iv a_b.Size, (sl v0a)]) (plb Zc pk2 R R R) R (bdO t0 fun v3 hv3 t0 => (wlc (cz1 ZlF R fun w hw => Zbk w a_b v0a (ra r0 hw) hv3) R fun x2 => (wls (sbx (cs' := [iv v3.Size, (sl x2)]) Zc pk1 R R R R R R R) (asg R R (wnt (wct (wqr ?_))))))))
 obtain rfl := oi t0
 exact Zx R Zc R R pz R fun w hw => ⟨x2, R, hw.weak (zc pk1 zn)⟩
 refine wck (wqt (wcr (wlq (pof ZM R) R (wlq (v := iv a_b.Size) (plx tk_3 pk2 R R) R (wlq (ZiR R) R (bdO t0 fun v4 hv4 t0 => (wlc (cz1 Zpx R fun w hw => ZiT w a_b.Size (fun z0 z1 => Zb2 z0 z1 a_b a_l) 203 [ptr b1 0, ptr b2 0] Zwe (fun w2 z0 z1  hk _ hz => Zj6 w2 z0 z1 a_b v0a (RdL.later (ra r0 hw) hk) b1 (Bx.keep (hw.at_box pk2) hk) a_l v1a (RdL.later (ra r1 hw) hk) b2 (Bx.keep (hw.at_box pk1) hk) hz) hv4) R fun x3 => (wls (sbx (cs' := [iv v4.Size, (sl x3)]) Zc pk1 R R R R R R R) (asg R R (wnt (wct ?_)))))))))))
 obtain rfl := oi t0
 exact Zx R Zc R R pz R fun w hw => ⟨x3, R, hw.weak (zc pk1 zn)⟩

theorem Zry (w : World) (a_b : GBlock) (v0a : Hd) (r0 : rdF w (dm w []) (sl v0a) a_b.Cells) {r : GBlock} (t0 : Zic a_b = some r) : Calls Tryz.prog 189 #[.agg #[.int .i64 a_b.Size, (sl v0a)]] w fun e w' => ∃ x : Hd, e = .returned (.agg #[.int .i64 r.Size, (sl x)]) ∧ SH w [] [ownF (sl x) r.Cells] w' := by
 refine cwc (args := [_]) Tryz.func189 R Tryz.ntmps189 R ?_
 unfold Zic at t0
 refine wcr (wle (Zg R R) R fun b1 => (wle (eal (cs := [iv 0, (sl hn)]) Zau) R fun b2 => (wnt (wcs (bdO t0 fun v1 hv1 t0 => (bdO t0 fun v2 hv2 t0 => (wcj (X := Nat × Hd) (fun _ => True) (fun z => [(2, ptr b2 0), (3, ptr z.1 0)]) (fun z => [box z.1 [iv v2.1.Size, (sl z.2)], ownF (sl z.2) v2.1.Cells, box b2 [iv 0, (sl hn)]]) ?_ ?_)))))))
 refine wcd [box b2 [iv 0, (sl hn)], box b1 [iv a_b.Size, (sl v0a)]] 10 mixed (aq (v := .agg #[iv a_b.Size, (sl v0a)]) 0 R (plb Zc pk1 R R R) so2 R (aq (v := .agg #[iv a_b.Size, (sl v0a)]) 1 R (plb Zc pk1 R R R) so2 R (wa_2 (i := 2) (j := 7) (by kernel_rfl) ?_ ?_)))
 refine wsc R (cz1 Ztv R fun w hw => Zks w a_b v0a (ra r0 hw) hv1) (fun _ => (zt (zc pk1 (zc pk1 zn)))) R fun x1 => wa_2 (i := 3) (j := 7) (by kernel_rfl) ?_ ?_
 exact wsc R (cz1 ZoN R fun w hw => Zdu w a_b v0a (ra r0 hw) v1 x1 (Rg.on (rgo pz) hw) hv2) (fun _ => (zt (zc pk2 (zc pk2 zn)))) R fun x2 => aq 4 R (pom R) (zc pk2 (zc pk2 zn)) R (aq 5 R (pex R R) (zc pk2 (zc pk2 zn)) R (aq 6 R (pex R R) (zc pk2 (zc pk2 zn)) R (a1 7 (wse R (eal (cs := [iv 0, (sl hn)]) Zau) (fun _ => (zt (zc pk3 (zc pk3 zn)))) R fun b3 => (a1 8 (ZR R (sbx (cs' := [iv v2.1.Size, (sl x2)]) Zc pz R R R R R R R) (zt (zc pk3 (zc pk3 zn))) (aq 9 R (Zp R) (zc pk3 (zc pk3 zn)) R (ae (wqm (b3, x2) trivial (su2 R R) (zc pz (zc pz (zc pk1 zn))))))))))))
 exact wse R (eal (cs := [iv 0, (sl hn)]) Zau) (fun _ => (zt (zc pk2 (zc pk2 zn)))) R fun b4 => a1 3 (wsc R (cz1 ZoN R fun w hw => Zdu w a_b v0a (ra r0 hw) v1 x1 (Rg.on (rgo pk1) hw) hv2) (fun _ => (zt (zc pk3 (zc pk3 zn)))) R fun x3 => (aq 4 R (pom R) (zc pk3 (zc pk3 zn)) R (aq 5 R (pex R R) (zc pk3 (zc pk3 zn)) R (aq 6 R (pex R R) (zc pk3 (zc pk3 zn)) R (a1 8 (ZR R (sbx (cs' := [iv v2.1.Size, (sl x3)]) Zc pk1 R R R R R R R) (zt (zc pk3 (zc pk3 zn))) (aq 9 R (Zp R) (zc pk3 (zc pk3 zn)) R (ae (wqm (b4, x3) trivial (su2 R R) (zc pz (zc pz (zc pk1 zn))))))))))))
 exact wse R (eal (cs := [iv 0, (sl hn)]) Zau) (fun _ => (zt (zc pk1 (zc pk1 zn)))) R fun b5 => a1 2 (wsc R (cz1 Ztv R fun w hw => Zks w a_b v0a (ra r0 hw) hv1) (fun _ => (zt (zc pk2 (zc pk2 zn)))) R fun x4 => (a1 3 (wsc R (cz1 ZoN R fun w hw => Zdu w a_b v0a (ra r0 hw) v1 x4 (Rg.on (rgo pz) hw) hv2) (fun _ => (zt (zc pk3 (zc pk3 zn)))) R fun x5 => (aq 4 R (pom R) (zc pk3 (zc pk3 zn)) R (aq 5 R (pex R R) (zc pk3 (zc pk3 zn)) R (aq 6 R (pex R R) (zc pk3 (zc pk3 zn)) R (a1 8 (ZR R (sbx (cs' := [iv v2.1.Size, (sl x5)]) Zc pk2 R R R R R R R) (zt (zc pk3 (zc pk3 zn))) (aq 9 R (Zp R) (zc pk3 (zc pk3 zn)) R (ae (wqm (b5, x5) trivial (su2 R R) (zc pz (zc pz (zc pk1 zn))))))))))))))
 intro x6 _
 refine wqt (wcr (wlq (v := .agg #[iv v2.1.Size, (sl x6.2)]) (plb Zc pz R R R) R (wls (sbx (cs' := [iv v2.1.Size, (sl x6.2)]) Zc pk2 R R R R R R R) (wnt (wct ?_)))))
 obtain rfl := oi t0
 exact wqc R Zc R pz R fun w hw => ⟨x6.2, R, hw.weak (zc pk2 zn)⟩

theorem Zkm (w : World) (a_c : GCell) {r : Str} (t0 : Zem a_c = some r) : Calls Tryz.prog 98 #[.agg #[.int .i64 a_c.Split, .int .i64 a_c.A, .int .i64 a_c.B]] w fun e w' => e = .returned (bs r) ∧ SH w [] [] w' := by
 refine cwc (args := [_]) Tryz.func98 R Tryz.ntmps98 R ?_
 unfold Zem at t0
 refine wcr (wle (Zg R R) R fun b1 => (asg R R (wnt (wcs (wcr (wlq (v := .agg #[iv a_c.Split, iv a_c.A, iv a_c.B]) (plb Zh pz R R R) R (bdO t0 fun v1 hv1 t0 => (wlc (cz0 ZgL R fun w hw => Za9 w a_c hv1) R fun _ => (wlq (Zd R) R (wnt (wcO t0 R (fun h1 t0 => ?_) fun h1 t0 => ?_)))))))))))
 refine wcr (asg R R (wnt (wct (wqr ?_))))
 obtain rfl := oi t0
 exact wq1 R R fun w hw => ⟨R, hw.weak zn⟩
 refine wck (wqt (wcr (wle (ebs R (Zve (⟨[]⟩ : Str) (⟨[47]⟩ : Str) (⟨[92]⟩ : Str))) R fun b2 => (wlq (pof Zbc R) R (wlq (v := iv a_c.Split) (plx tk_3 pk1 R R) R (gdO t0 fun g1 t0 => (wlq (ZX (rgo (pbo pz (n := 3) (xs := ([(⟨[]⟩ : Str), (⟨[47]⟩ : Str), (⟨[92]⟩ : Str)] : List Str)) R R (by unfold maxLen; omega))) ZaZ R R g1.1 g1.2) R ?_)))))))
 refine wlq (v := bs (gx ([(⟨[]⟩ : Str), (⟨[47]⟩ : Str), (⟨[92]⟩ : Str)] : List Str) ((a_c.Split).toNat))) (Zw (rgo (pbo pz (n := 3) (xs := ([(⟨[]⟩ : Str), (⟨[47]⟩ : Str), (⟨[92]⟩ : Str)] : List Str)) R R (by unfold maxLen; omega))) tk_9 R (ZD g1) R) R ?_
 refine asg R R (wnt (wcs (wcr (mv R R (wlq (ZpJ R R) R (wnt (wcO t0 R (fun h2 t0 => ?_) fun h2 t0 => ?_)))))))
 refine wcr (wlq (pof ZaT R) R (wlq (v := iv a_c.A) (plx tk_3 pk1 R R) R (bdO t0 fun v2 hv2 t0 => (wlc (cz0 Zgq R fun w hw => ZhO w a_c.A hv2) R fun _ => (asg R R (wnt (wct (wqr ?_))))))))
 obtain rfl := oi t0
 exact wq1 R R fun w hw => ⟨R, hw.weak zn⟩
 refine wck (wqt (wcs (wcd [box b2 [bs (⟨[]⟩ : Str), bs (⟨[47]⟩ : Str), bs (⟨[92]⟩ : Str)], box b1 [iv a_c.Split, iv a_c.A, iv a_c.B]] 10 mixed (aq 0 R (pof ZaT R) so2 R (aq (v := iv a_c.A) 1 R (plx tk_3 pk1 R R) so2 R (aq 3 R (pom R) so2 R (aq 5 R (pof Za6 R) so2 R (aq (v := iv a_c.B) 6 R (plx tk_3 pk1 R R) so2 R (a1 2 (bdO t0 fun v3 hv3 t0 => (wsc R (cz0 Zgq R fun w hw => ZhO w a_c.A hv3) (fun _ => (zt so2)) R fun _ => (gdO t0 fun g2 t0 => (aq 4 R (ZO R R g2) so2 R (a1 7 (bdO t0 fun v4 hv4 t0 => (wsc R (cz0 Zgq R fun w hw => ZhO w a_c.B hv4) (fun _ => (zt so2)) R fun _ => (gdO t0 fun g3 t0 => (aq 8 R (ZO R R g3) so2 R (aq 9 R (Zp R) so2 R (ae (wqt (wct ?_))))))))))))))))))))))
 obtain rfl := oi t0
 exact wq1 R R fun w hw => ⟨R, hw.weak zn⟩

theorem ZlU (w : World) (a_b : GBlock) (v0a : Hd) (r0 : rdF w (dm w []) (sl v0a) a_b.Cells) {r : Str} (t0 : Zf3 a_b = some r) : Calls Tryz.prog 201 #[.agg #[.int .i64 a_b.Size, (sl v0a)]] w fun e w' => e = .returned (bs r) ∧ SH w [] [] w' := by
 refine cwc (args := [_]) Tryz.func201 R Tryz.ntmps201 R ?_
 unfold Zf3 at t0
 refine wcr (wle (Zg R R) R fun b1 => (asg R R (wnt (wcs (wcr (wlq (v := .agg #[iv a_b.Size, (sl v0a)]) (plb Zc pz R R R) R (bdO t0 fun v1 hv1 t0 => (wlc (cz0 Zea R fun w hw => Z0 w a_b v0a (ra r0 hw) hv1) R fun _ => (wlq (Zd R) R (wnt (wcO t0 R (fun h1 t0 => ?_) fun h1 t0 => ?_)))))))))))
 refine wcr (asg R R (wnt (wct (wqr ?_))))
 obtain rfl := oi t0
 exact wq1 R R fun w hw => ⟨R, hw.weak zn⟩
 refine wck (wqt (wcr (asg R R (wnt (wcs (wcr (wlq (pof Zv R) R (wlq (v := (sl v0a)) (plx ZN pz R R) R (wlq (pln (rga r0) ZU R) R (mv R R (wnt (gdO t0 fun g1 t0 => (Zn t0 fun y1 l1 t0 => (wj (J := Str) (X := Unit) (fun z => y1 = z) (fun z _ => [(3, bs z)]) (fun _ _ => []) ?_ ?_))))))))))))))
 refine wcb (wcf (X := Unit) l1 (fun k1 s1 x1l => [(3, bs s1), (10, (sl v0a)), (11, iv ((a_b.Cells.length : Nat) : Int)), (12, iv ((k1 : Nat) : Int))]) (fun k1 s1 x1l => []) () (su4 R R R R) zn fun k1 s1 x1l hN1 l1 => ?_)
 by_cases hk1 : k1 < a_b.Cells.length
 refine fos l1 hk1 fun _ t1 l1 => ?_
 unfold Zg4 at t1
 have c1 : (decide (((k1 : Nat) : Int) < ((a_b.Cells.length : Nat) : Int))) = true := ddt (by omega)
 refine wcr (wlq (pls R R) R (wnt (wcs (wft R c1 (wck (wqt (wcs (wcb (wcr (wlq (Zm (k := k1) (rga r0) ZU R R hk1) R (wlq (v := .agg #[iv ((gx a_b.Cells k1).Split), iv ((gx a_b.Cells k1).A), iv ((gx a_b.Cells k1).B)]) (Zaw (rga r0) Zh R hk1 R R R) R (wle (eal (cs := [iv 0, iv 0, iv 0]) Zb8) R fun b2 => (wls (sbx (cs' := [iv ((gx a_b.Cells k1).Split), iv ((gx a_b.Cells k1).A), iv ((gx a_b.Cells k1).B)]) Zh pz R R R R R R R) (wnt (wcg (mv R R (wlq (v := .agg #[iv ((gx a_b.Cells k1).Split), iv ((gx a_b.Cells k1).A), iv ((gx a_b.Cells k1).B)]) (plb Zh pz R R R) R (bdO t1 fun v2 hv2 t1 => (wlc (cz0 ZuX R fun w hw => Zkm w (gx a_b.Cells k1) hv2) R fun _ => (gdO t1 fun g2 t1 => (wlq (ZO R R g2) R (gdO t1 fun g3 t1 => (wlq (ZO R R g3) R (asg R R (wln (wqb (wqt (wcg (wlq (Zj R R (by omega)) R ?_)))))))))))))))))))))))))))))
 exact mv R R (wln (Zk hk1 (stpN l1 t1) () (su4 R R R R) zn))
 have c1 : (decide (((k1 : Nat) : Int) < ((a_b.Cells.length : Nat) : Int))) = false := ddf (by omega)
 have en1 := foe l1 hk1
 exact wcr (wlq (pls R R) R (wnt (wcs (wff R c1 (wcx (wqe (wqe (wbx (wjm _ () (Sum.inl.inj en1) (su1 R) zn)))))))))
 intro e1 _ hp
 obtain rfl : e1 = y1 := hp.symm
 refine wqt (wcr (mv R R (asg R R (wnt (wct ?_)))))
 obtain rfl := oi t0
 exact wq1 R R fun w hw => ⟨R, hw.weak zn⟩

theorem Zq3 (w : World) (fp : List Nat) (a_list : List GBlock) (v0a : Hd) (u0a : List Value) (o : Ow w [own (sl v0a) u0a a_list] fp) {r : GBlock} (t0 : Zip a_list = some r) : Calls Tryz.prog 190 #[(sl v0a)] w fun e w' => ∃ x : Hd, e = .returned (.agg #[.int .i64 r.Size, (sl x)]) ∧ SH w fp [ownF (sl x) r.Cells] w' := by
  have hf0 : ∀ k, k < a_list.length → ∃ h : Hd, Za4 u0a k (Rep.sz GBlock) = [.int .i64 (gx a_list k).Size, sl h] := fun k hk => by
    obtain ⟨⟨f1, f2, _, hown, _⟩, _⟩ := o
    have hr : RdL w (fun _ => True) (sl v0a) u0a a_list := OwL.rd hown (fun _ _ => trivial)
    have hx : a_list[k]? = some (gx a_list k) := by simp [gx, List.getD, hk]
    obtain ⟨h0, e, _⟩ := ZhY.1 (hr.2.2 k _ hx)
    exact ⟨h0, e⟩
  obtain ⟨f, hf⟩ : ∃ f : Nat → Hd, ∀ k, k < a_list.length → Za4 u0a k (Rep.sz GBlock) = [.int .i64 (gx a_list k).Size, sl (f k)] :=
    ⟨fun k => if h : k < a_list.length then (hf0 k h).choose else ⟨none, 0, 0⟩, fun k hk => by
      simp only [hk, dite_true]
      exact (hf0 k hk).choose_spec⟩
  refine Zh1 (args := [_]) o Tryz.func190 rfl Tryz.ntmps190 rfl ?_
  unfold Zip at t0
  refine wcr ?_
  refine wle (eal (cs := [.int .i64 0, (sl (⟨none, 0, 0⟩ : Hd))]) Zau) rfl fun b1 => ?_
  refine wnt ?_
  refine wcr ?_
  refine mv rfl rfl ?_
  refine gdO t0 fun g1 t0 => ?_
  refine wlq (Zm (k := 0) (rgo (ZaI pz)) ZjF rfl rfl g1) rfl ?_
  refine wlq (v := .agg #[.int .i64 ((gx a_list 0).Size), (sl (f 0))]) (Zb7 (rgo (ZaI pz)) Zc rfl (hf 0 g1) rfl rfl rfl) rfl ?_
  refine wle (eal (cs := [.int .i64 0, (sl (⟨none, 0, 0⟩ : Hd))]) Zau) rfl fun b2 => ?_
  refine wls (sbx (cs' := [.int .i64 ((gx a_list 0).Size), (sl (f 0))]) Zc pz rfl rfl rfl rfl rfl rfl rfl) ?_
  refine wnt ?_
  refine wcs ?_
  refine wcr ?_
  refine mv rfl rfl ?_
  refine wlq (pln (rgo (ZaI (ZaI pz))) ZjF rfl) rfl ?_
  refine mv rfl rfl ?_
  refine wnt ?_
  refine gdO t0 fun g2 t0 => ?_
  refine Zn t0 fun y1 l1 t0 => ?_
  refine wj (J := Nat) (X := Unit) (fun z => y1 = z) (fun _ _ => [(2, ptr b1 0), (3, ptr b2 0)]) (fun z _ => [box b2 [.int .i64 ((gx a_list z).Size), (sl (f z))], box b1 [.int .i64 0, (sl (⟨none, 0, 0⟩ : Hd))], own (sl v0a) u0a a_list]) ?_ ?_
  · skip
    refine wcb ?_
    refine wcf (X := Unit) l1 (fun k1 s1 x1l => [(2, ptr b1 0), (3, ptr b2 0), (9, (sl v0a)), (10, .int .i64 ((a_list.length : Nat) : Int)), (11, .int .i64 ((k1 : Nat) : Int))]) (fun k1 s1 x1l => [box b2 [.int .i64 ((gx a_list s1).Size), (sl (f s1))], box b1 [.int .i64 0, (sl (⟨none, 0, 0⟩ : Hd))], own (sl v0a) u0a a_list]) () (yc rfl (yc rfl (yc rfl (yc rfl (yc rfl yn))))) (zc pz (zc pz (zc pz zn))) fun k1 s1 x1l hN1 l1 => ?_
    by_cases hk1 : k1 < a_list.length
    · skip
      refine fos l1 hk1 fun _ t1 l1 => ?_
      unfold ZhG at t1
      have c1 : (decide (((k1 : Nat) : Int) < ((a_list.length : Nat) : Int))) = true := decide_eq_true (by omega)
      refine wcr ?_
      refine wlq (pls rfl rfl) rfl ?_
      refine wnt ?_
      refine wcs ?_
      refine wft rfl c1 ?_
      refine wck ?_
      refine wqt ?_
      refine wcs ?_
      refine wcb ?_
      refine gdO t1 fun g3 t1 => ?_
      refine wcr ?_
      refine wlq (Zm (k := k1) (rgo (ZaI (ZaI pz))) ZjF rfl rfl hk1) rfl ?_
      refine wlq (v := .agg #[.int .i64 ((gx a_list k1).Size), (sl (f k1))]) (Zb7 (rgo (ZaI (ZaI pz))) Zc rfl (hf k1 hk1) rfl rfl rfl) rfl ?_
      refine wle (eal (cs := [.int .i64 0, (sl (⟨none, 0, 0⟩ : Hd))]) Zau) rfl fun b3 => ?_
      refine wls (sbx (cs' := [.int .i64 ((gx a_list k1).Size), (sl (f k1))]) Zc pz rfl rfl rfl rfl rfl rfl rfl) ?_
      refine wnt ?_
      refine wcs ?_
      refine wcd [box b3 [.int .i64 ((gx a_list k1).Size), (sl (f k1))], box b2 [.int .i64 ((gx a_list s1).Size), (sl (f s1))], box b1 [.int .i64 0, (sl (⟨none, 0, 0⟩ : Hd))], own (sl v0a) u0a a_list] 5 mixed ?_
      refine ZmL (v := .agg #[.int .i64 ((gx a_list k1).Size), (sl (f k1))]) 0 rfl (plb Zc pz rfl rfl rfl) (zc pz (zc pz (zc pz (zc pz zn)))) rfl (by kernel_rfl) (fun _ _ _ h => h) ?_
      refine ZmL (v := .agg #[.int .i64 ((gx a_list s1).Size), (sl (f s1))]) 2 rfl (plb Zc (ZaI pz) rfl rfl rfl) (zc pz (zc pz (zc pz (zc pz zn)))) rfl (by kernel_rfl) (fun _ _ _ h => h) ?_
      refine wa_1 (i := 1) (by kernel_rfl) ?_
      refine bdO t1 fun v1 hv1 t1 => ?_
      refine wsc rfl (cz0 Ztw rfl fun w hw => ZlU w (gx a_list k1) (f k1) (Rg.on (ZiP (hf k1 hk1) (rgo (ZaI (ZaI (ZaI pz)))) hk1) hw) hv1) (fun _ => (zt (zc pz (zc pz (zc pz (zc pz zn)))))) rfl fun _ => ?_
      refine wa_1 (i := 3) (by kernel_rfl) ?_
      refine bdO t1 fun v2 hv2 t1 => ?_
      refine wsc rfl (cz0 Ztw rfl fun w hw => ZlU w (gx a_list s1) (f s1) (Rg.on (ZiP (hf s1 g3) (rgo (ZaI (ZaI (ZaI pz)))) g3) hw) hv2) (fun _ => (zt (zc pz (zc pz (zc pz (zc pz zn)))))) rfl fun _ => ?_
      refine ZmL 4 rfl (ZsA rfl rfl) (zc pz (zc pz (zc pz (zc pz zn)))) rfl (by kernel_rfl) (fun _ _ _ h => h) ?_
      refine Zsk (by kernel_rfl) ?_
      refine wqt ?_
      refine wcj (X := Unit) (fun _ => True) (fun _ => [(2, ptr b1 0), (3, ptr b2 0), (9, (sl v0a)), (10, .int .i64 ((a_list.length : Nat) : Int)), (11, .int .i64 ((k1 : Nat) : Int))]) (fun _ => [box b2 [.int .i64 ((gx a_list (bif slt v1 v2 then k1 else s1)).Size), (sl (f (bif slt v1 v2 then k1 else s1)))], box b1 [.int .i64 0, (sl (⟨none, 0, 0⟩ : Hd))], own (sl v0a) u0a a_list]) ?_ ?_
      · skip
        refine Zbn rfl (fun h2 => ?_) fun h2 => ?_
        · skip
          refine wcg ?_
          refine wlq (v := .agg #[.int .i64 ((gx a_list k1).Size), (sl (f k1))]) (plb Zc pz rfl rfl rfl) rfl ?_
          refine wls (sbx (cs' := [.int .i64 ((gx a_list k1).Size), (sl (f k1))]) Zc (ZaI pz) rfl rfl rfl rfl rfl rfl rfl) ?_
          refine wln ?_
          rw [h2]
          exact wqm () trivial (yc rfl (yc rfl (yc rfl (yc rfl (yc rfl yn))))) (zc pz (zc (ZaI pz) (zc (ZaI pz) zn)))
        refine wck ?_
        rw [h2]
        exact wqm () trivial (yc rfl (yc rfl (yc rfl (yc rfl (yc rfl yn))))) (zc (ZaI pz) (zc (ZaI pz) (zc (ZaI pz) zn)))
      intro x4 _
      refine wqb ?_
      refine wqt ?_
      refine wcg ?_
      refine wlq (Zj rfl rfl (by omega)) rfl ?_
      refine mv rfl rfl ?_
      refine wln ?_
      exact Zk hk1 (stpN l1 t1) () (yc rfl (yc rfl (yc rfl (yc rfl (yc rfl yn))))) (zc pz (zc pz (zc pz zn)))
    have c1 : (decide (((k1 : Nat) : Int) < ((a_list.length : Nat) : Int))) = false := decide_eq_false (by omega)
    have en1 := foe l1 hk1
    refine wcr ?_
    refine wlq (pls rfl rfl) rfl ?_
    refine wnt ?_
    refine wcs ?_
    refine wff rfl c1 ?_
    refine wcx ?_
    refine wqe ?_
    refine wqe ?_
    refine wbx ?_
    exact wjm _ () (Sum.inl.inj en1) (yc rfl (yc rfl yn)) (zc pz (zc pz (zc pz zn)))
  intro e1 x2 hp
  obtain rfl : e1 = y1 := hp.symm
  refine gdO t0 fun g4 t0 => ?_
  refine wqt ?_
  refine wcr ?_
  refine wlq (v := .agg #[.int .i64 ((gx a_list e1).Size), (sl (f e1))]) (plb Zc pz rfl rfl rfl) rfl ?_
  refine wls (sbx (cs' := [.int .i64 ((gx a_list e1).Size), (sl (f e1))]) Zc (ZaI pz) rfl rfl rfl rfl rfl rfl rfl) ?_
  refine wnt ?_
  refine wct ?_
  obtain rfl := Option.some.inj t0
  exact wqc rfl Zc rfl pz rfl fun w hw => ⟨f e1, rfl, ((hw.ent (Zqp (ZaI (ZaI pz)) g4 (hf e1 g4))).ent Zs8).weak (zc pz zn)⟩

theorem Ziw (w : World) (a_b : GBlock) (v0a : Hd) (r0 : rdF w (dm w []) (sl v0a) a_b.Cells) {r : GBlock} (t0 : Zcm a_b = some r) : Calls Tryz.prog 175 #[.agg #[.int .i64 a_b.Size, (sl v0a)]] w fun e w' => ∃ x : Hd, e = .returned (.agg #[.int .i64 r.Size, (sl x)]) ∧ SH w [] [ownF (sl x) r.Cells] w' := by
 refine cwc (args := [_]) Tryz.func175 R Tryz.ntmps175 R ?_
 unfold Zcm at t0
 refine wcr (wle (Zg R R) R fun b1 => (wle (eal (cs := [iv 0, (sl hn)]) Zau) R fun b2 => (wnt (wcs (wcr (wlq (v := .agg #[iv a_b.Size, (sl v0a)]) (plb Zc pk1 R R R) R (bdO t0 fun v1 hv1 t0 => (wlc (cz0 Zea R fun w hw => Z0 w a_b v0a (ra r0 hw) hv1) R fun _ => (wlq (Zd R) R (wnt (wcO t0 R (fun h1 t0 => ?_) fun h1 t0 => ?_)))))))))))
 refine wcr (wlq (Zl R Zik) R (wls (sbx (cs' := [iv 0, (sl hn)]) Zc pz R R R R R R R) (wnt (wct (wqr ?_)))))
 obtain rfl := oi t0
 exact wqc R Zc R pz R fun w hw => ⟨hn, R, hw.weak (zc ZC zn)⟩
 refine wck (wqt (wcr (wle (ebs R ZrI) R fun b3 => (asg R R (wnt (wcs (wcr (wlq (v := .agg #[iv a_b.Size, (sl v0a)]) (plb Zc pk2 R R R) R (bdO t0 fun v2 hv2 t0 => (wlc (cz1 Ztz R fun w hw => Zmb w a_b v0a (ra r0 hw) hv2) R fun x1 => (wlq (pln (rgo pz) ZjF R) R (mv R R (wnt (gdO t0 fun g1 t0 => (Zn t0 fun y1 l1 t0 => (wj (J := List GBlock) (X := Hd × (List Value)) (fun z => y1 = z) (fun _ x => [(2, ptr b2 0), (3, (sl x.1))]) (fun z x => [box b2 [iv 0, (sl hn)], own (sl x.1) x.2 z]) ?_ ?_))))))))))))))))
 refine wcb (wcf (X := Hd × (List Value)) l1 (fun k1 s1 x1l => [(2, ptr b2 0), (3, (sl x1l.1)), (12, (sl x1.1)), (13, iv ((v2.length : Nat) : Int)), (14, iv ((k1 : Nat) : Int))]) (fun k1 s1 x1l => [own (sl x1.1) x1.2 v2, box b2 [iv 0, (sl hn)], own (sl x1l.1) x1l.2 s1]) ((⟨some ⟨b3, 0, none⟩, 0, 0⟩ : Hd), []) (su5 R R R R R) (zc pz (zc pk1 (zc (ZjO pz) zn))) fun k1 s1 x1l hN1 l1 => ?_)
 by_cases hk1 : k1 < v2.length
 refine fos l1 hk1 fun _ t1 l1 => ?_
 unfold Zdw at t1
 have c1 : (decide (((k1 : Nat) : Int) < ((v2.length : Nat) : Int))) = true := ddt (by omega)
 refine wcr (wlq (pls R R) R (wnt (wcs (wft R c1 (wck (wqt (wcs (wcb (wcr (wlq (Zm (k := k1) (rgo pz) ZjF R R hk1) R (ZdM (rgo pz) hk1 ?_)))))))))))
 rintro ⟨_, _, he1⟩
 obtain ⟨w1, hc1, _⟩ := ZhY.1 he1
 refine wlq (v := .agg #[iv ((gx v2 k1).Size), (sl w1)]) (Zb7 (rgo pz) Zc R hc1 R R R) R (wle (eal (cs := [iv 0, (sl hn)]) Zau) R fun b4 => (wls (sbx (cs' := [iv ((gx v2 k1).Size), (sl w1)]) Zc pz R R R R R R R) (wnt (wcg (mv R R (wlq (v := .agg #[iv ((gx v2 k1).Size), (sl w1)]) (plb Zc pz R R R) R (bdO t1 fun v3 hv3 t1 => (wlc (cz1 Zwu R fun w hw => Zry w (gx v2 k1) w1 (Rg.on (ZiP hc1 (rgo pk1) hk1) hw) hv3) R fun x3 => (wle (ebs R (ZrW v3.Size x3)) R fun b5 => (gdO t1 fun g2 t1 => (wle (Zdb (us := x1l.2) (xs := s1) Zt6 pk5 (Zpg (x := v3) pk1) pz R R R g2) R fun x4 => (asg R R (wln (wqb (wqt (wcg (wlq (Zj R R (by omega)) R ?_)))))))))))))))))
 exact mv R R (wln (Zk hk1 (stpN l1 t1) (x4, (x1l.2 ++ [iv v3.Size, (sl x3)])) (su5 R R R R R) (zc pk3 (zc pk3 so1))))
 have c1 : (decide (((k1 : Nat) : Int) < ((v2.length : Nat) : Int))) = false := ddf (by omega)
 have en1 := foe l1 hk1
 exact wcr (wlq (pls R R) R (wnt (wcs (wff R c1 (wcx (wqe (wqe (wbx (wjm _ (x1l.1, x1l.2) (Sum.inl.inj en1) (su2 R R) (zc pk1 (zc pk1 zn)))))))))))
 intro e1 x2 hp
 obtain rfl : e1 = y1 := hp.symm
 refine wqt (wcr (mv R R (bdO t0 fun v4 hv4 t0 => (wlc (Zu1 [own (sl x2.1) x2.2 e1] Zwv (zc pk1 ZdD) R fun w fp hw => Zq3 w fp e1 x2.1 x2.2 hw.ow hv4) R fun x5 => (wls (sbx (cs' := [iv v4.Size, (sl x5)]) Zc pk1 R R R R R R R) (wnt (wct ?_)))))))
 obtain rfl := oi t0
 exact wqc R Zc R pz R fun w hw => ⟨x5, R, hw.weak (zc pk1 zn)⟩

theorem ZoA (w : World) (a_b : GBlock) (v0a : Hd) (r0 : rdF w (dm w []) (sl v0a) a_b.Cells) (a_d : GBlock) (v1a : Hd) (r1 : rdF w (dm w []) (sl v1a) a_d.Cells) {r : Bool} (t0 : ZeX a_b a_d = some r) : Calls Tryz.prog 174 #[.agg #[.int .i64 a_b.Size, (sl v0a)], .agg #[.int .i64 a_d.Size, (sl v1a)]] w fun e w' => e = .returned (.bool r) ∧ SH w [] [] w' := by
 refine cwc (args := [_, _]) Tryz.func174 R Tryz.ntmps174 R ?_
 unfold ZeX at t0
 refine wcr (wle (Zg R R) R fun b1 => (wle (Zg R R) R fun b2 => (asg R R (wnt (wcs (wcs (wcj (X := Unit) (fun _ => True) (fun _ => [(2, ptr b1 0), (3, ptr b2 0), (19, .bool ((a_b.Size != a_d.Size) || (((a_b.Cells.length : Nat) : Int) != ((a_d.Cells.length : Nat) : Int))))]) (fun _ => [box b2 [iv a_d.Size, (sl v1a)], box b1 [iv a_b.Size, (sl v0a)]]) ?_ ?_)))))))
 refine wcg (wlq (pof ZM R) R (wlq (v := iv a_b.Size) (plx tk_3 pk1 R R) R (wlq (pof ZM R) R (wlq (v := iv a_d.Size) (plx tk_3 pz R R) R (wlq (ZcD R R) R (mv R R (Zae (t := 11) R (fun h1 => ?_) fun h1 => ?_)))))))
 exact wgf (j := 5) R R R R R (wgf (j := 5) R R R R R (wgf (j := 5) R R R R R (wgf (j := 5) R R R R R (wgf (j := 5) R R R R R (wgf (j := 5) R R R R R (wgf (j := 5) R R R R R (wlq (pit R R) R (wln (wqm () trivial (yc R (yc R (ZS R (by rw [h1]; rfl) yn))) so2)))))))))
 exact wgn (j := 5) R R R (wlq (pof Zv R) R (wgn (j := 5) R R R (wlq (v := (sl v0a)) (plx ZN pk1 R R) R (wgn (j := 5) R R R (wlq (pln (rga r0) ZU R) R (wgn (j := 5) R R R (wlq (pof Zv R) R (wgn (j := 5) R R R (wlq (v := (sl v1a)) (plx ZN pz R R) R (wgn (j := 5) R R R (wlq (pln (rga r1) ZU R) R (wgn (j := 5) R R R (wlq (ZcD R R) R (wlq (pif R R) R (wln (wqm () trivial (yc R (yc R (ZS R (by rw [h1]; rfl) yn))) so2))))))))))))))))
 intro _ _
 refine wqt (wcO t0 R (fun h2 t0 => ?_) fun h2 t0 => ?_)
 refine wcr (asg R R (wnt (wct (wqr ?_))))
 obtain rfl := oi t0
 exact wq1 R R fun w hw => ⟨R, hw.weak zn⟩
 refine wck (wqt (wcs (wcr (wlq (pof Zv R) R (wlq (v := (sl v0a)) (plx ZN pk1 R R) R (wlq (pln (rga r0) ZU R) R (mv R R (wnt (gdO t0 fun g1 t0 => (sqO t0 fun y1 l1 t0 => (wj (J := Unit) (X := Unit) (fun z => y1 = .inl z) (fun _ _ => []) (fun _ _ => []) ?_ ?_)))))))))))
 refine wcb (wcf (X := Unit) l1 (fun k1 s1 x1l => [(2, ptr b1 0), (3, ptr b2 0), (22, iv ((a_b.Cells.length : Nat) : Int)), (23, iv ((k1 : Nat) : Int))]) (fun k1 s1 x1l => [box b2 [iv a_d.Size, (sl v1a)], box b1 [iv a_b.Size, (sl v0a)]]) () (su4 R R R R) so2 fun k1 s1 x1l hN1 l1 => ?_)
 by_cases hk1 : k1 < a_b.Cells.length
 refine fos l1 hk1 fun _ t1 l1 => ?_
 unfold ZeN at t1
 have c1 : (decide (((k1 : Nat) : Int) < ((a_b.Cells.length : Nat) : Int))) = true := ddt (by omega)
 refine wcr (wlq (pls R R) R (wnt (wcs (wft R c1 (wck (wqt (wcs (wcb (wcr (mv R R (asg R R (wnt (wcs (wcd [box b2 [iv a_d.Size, (sl v1a)], box b1 [iv a_b.Size, (sl v0a)]] 11 mixed (aq 0 R (pof Zv R) so2 R (aq (v := (sl v0a)) 1 R (plx ZN pk1 R R) so2 R (aq 2 R (pom R) so2 R (aq 3 R (Zm (k := k1) (rga r0) ZU R R hk1) so2 R (aq (v := .agg #[iv ((gx a_b.Cells k1).Split), iv ((gx a_b.Cells k1).A), iv ((gx a_b.Cells k1).B)]) 4 R (Zaw (rga r0) Zh R hk1 R R R) so2 R (aq 5 R (pof Zv R) so2 R (aq (v := (sl v1a)) 6 R (plx ZN pz R R) so2 R (aq 7 R (pom R) so2 R (gdO t1 fun g2 t1 => (aq 8 R (Zm (k := k1) (rga r1) ZU R R g2) so2 R (aq (v := .agg #[iv ((gx a_d.Cells k1).Split), iv ((gx a_d.Cells k1).A), iv ((gx a_d.Cells k1).B)]) 9 R (Zaw (rga r1) Zh R g2 R R R) so2 R (aq 10 R (ZlO (ps := [(gx a_b.Cells k1).Split, (gx a_b.Cells k1).A, (gx a_b.Cells k1).B]) (qs := [(gx a_d.Cells k1).Split, (gx a_d.Cells k1).A, (gx a_d.Cells k1).B]) ZuR R R R R) so2 R (ae (wqt (wcO t1 R (fun h3 t1 => ?_) fun h3 t1 => ?_)))))))))))))))))))))))))))))
 refine wcr (asg R R (wnt (wct (wbr (wqr (wqr (wbr (wqr (wqr ?_)))))))))
 replace t0 := lpR t0 l1 t1
 obtain rfl := oi t0
 exact wq1 R R fun w hw => ⟨R, hw.weak zn⟩
 refine wck (wqb (wqt (wcg (wlq (Zj R R (by omega)) R ?_))))
 exact mv R R (wln (Zk hk1 (stpN l1 t1) () (su4 R R R R) so2))
 have c1 : (decide (((k1 : Nat) : Int) < ((a_b.Cells.length : Nat) : Int))) = false := ddf (by omega)
 have en1 := foe l1 hk1
 exact wcr (wlq (pls R R) R (wnt (wcs (wff R c1 (wcx (wqe (wqe (wbx (wjm _ () en1 yn zn)))))))))
 intro e1 _ hp
 replace t0 := sqE (j := e1) t0 hp
 refine wqt (wcr (asg R R (wnt (wct ?_))))
 obtain rfl := oi t0
 exact wq1 R R fun w hw => ⟨R, hw.weak zn⟩

theorem ZkB (w : World) (a_b : GBlock) (v0a : Hd) (r0 : rdF w (dm w []) (sl v0a) a_b.Cells) (a_d : GBlock) (v1a : Hd) (r1 : rdF w (dm w []) (sl v1a) a_d.Cells) {r : Bool} (t0 : Zce a_b a_d = some r) : Calls Tryz.prog 157 #[.agg #[.int .i64 a_b.Size, (sl v0a)], .agg #[.int .i64 a_d.Size, (sl v1a)]] w fun e w' => e = .returned (.bool r) ∧ SH w [] [] w' := by
 refine cwc (args := [_, _]) Tryz.func157 R Tryz.ntmps157 R ?_
 unfold Zce at t0
 refine wcr (wle (Zg R R) R fun b1 => (wle (Zg R R) R fun b2 => (asg R R (wnt (wcs (bdO t0 fun y1 t1 t0 => (wj (J := Bool) (X := Unit) (fun z => y1 = z) (fun z _ => [(4, .bool z)]) (fun _ _ => []) ?_ ?_)))))))
 refine wcd [box b2 [iv a_d.Size, (sl v1a)], box b1 [iv a_b.Size, (sl v0a)]] 14 mixed (aq (v := .agg #[iv a_b.Size, (sl v0a)]) 0 R (plb Zc pk1 R R R) so2 R (a1 1 (bdO t1 fun v1 hv1 t1 => (wsc R (cz0 Zea R fun w hw => Z0 w a_b v0a (ra r0 hw) hv1) (fun _ => (zt so2)) R fun _ => (aq 2 R (pom R) so2 R (waO_ (t := 7) t1 R (fun h1 t1 => ?_) fun h1 t1 => ?_))))))
 refine an (v := .agg #[iv a_d.Size, (sl v1a)]) 3 2 R R R R (plb Zc pz R R R) so2 R (a1 4 (bdO t1 fun v2 hv2 t1 => (ZL (j := 2) R R R R (cz0 Zea R fun w hw => Z0 w a_d v1a (ra r1 hw) hv2) (fun _ => (zt so2)) R fun _ => (aq 5 R (pit R R) so2 R (aq 6 R (pom R) so2 R (waO_ (t := 11) t1 R (fun h2 t1 => ?_) fun h2 t1 => ?_))))))
 exact an (v := .agg #[iv a_b.Size, (sl v0a)]) 7 6 R R R R (plb Zc pk1 R R R) so2 R (an (v := .agg #[iv a_d.Size, (sl v1a)]) 9 6 R R R R (plb Zc pz R R R) so2 R (a1 8 (bdO t1 fun v3 hv3 t1 => (ZL (j := 6) R R R R (cz1 Ztl R fun w hw => Ziw w a_b v0a (ra r0 hw) hv3) (fun _ => (zt (zc pk1 (zc pk1 zn)))) R fun x2 => (a1 10 (bdO t1 fun v4 hv4 t1 => (ZL (j := 6) R R R R (cz1 Ztl R fun w hw => Ziw w a_d v1a (ra r1 hw) hv4) (fun _ => (zt (zc pk2 (zc pk2 zn)))) R fun x3 => (a1 11 (bdO t1 fun v5 hv5 t1 => (ZL (j := 6) R R R R (cz0 ZvT R fun w hw => ZoA w v3 x2 (Rg.on (rgo pk1) hw) v4 x3 (Rg.on (rgo pz) hw) hv5) (fun _ => (zt (zc pk2 (zc pk2 zn)))) R fun _ => (aq 12 R (pit R R) (zc pk2 (zc pk2 zn)) R (aq 13 R (Zp R) (zc pk2 (zc pk2 zn)) R (ae (wjm _ () (mtE t1) (su1 R) zn))))))))))))))
 exact af 7 6 R R R R R so2 R (af 8 6 R R R R R so2 R (af 9 6 R R R R R so2 R (af 10 6 R R R R R so2 R (af 11 6 R R R R R so2 R (aq 12 R (pif R R) so2 R (aq 13 R (Zp R) so2 R (ae (wjm _ () (mtE t1) (su1 R) zn))))))))
 exact af 3 2 R R R R R so2 R (af 4 2 R R R R R so2 R (aq 5 R (pif R R) so2 R (aq 6 R (pom R) so2 R (af 7 6 R R R R R so2 R (af 8 6 R R R R R so2 R (af 9 6 R R R R R so2 R (af 10 6 R R R R R so2 R (af 11 6 R R R R R so2 R (aq 12 R (pif R R) so2 R (aq 13 R (Zp R) so2 R (ae (wjm _ () (mtE t1) (su1 R) zn))))))))))))
 intro j1 _ hp
 obtain rfl : j1 = y1 := hp.symm
 refine wqt (wct ?_)
 obtain rfl := oi t0
 exact wq1 R R fun w hw => ⟨R, hw.weak zn⟩

theorem ZhN (w : World) (a_b : GBlock) (v0a : Hd) (r0 : rdF w (dm w []) (sl v0a) a_b.Cells) (a_d : GBlock) (v1a : Hd) (r1 : rdF w (dm w []) (sl v1a) a_d.Cells) {r : Bool} (t0 : ZcO a_b a_d = some r) : Calls Tryz.prog 176 #[.agg #[.int .i64 a_b.Size, (sl v0a)], .agg #[.int .i64 a_d.Size, (sl v1a)]] w fun e w' => e = .returned (.bool r) ∧ SH w [] [] w' := by
 refine cwc (args := [_, _]) Tryz.func176 R Tryz.ntmps176 R ?_
 unfold ZcO at t0
 refine wcr (wle (Zg R R) R fun b1 => (wle (Zg R R) R fun b2 => (asg R R (wnt (wcs (bdO t0 fun y1 t1 t0 => (wj (J := Bool) (X := Unit) (fun z => y1 = z) (fun z _ => [(4, .bool z)]) (fun _ _ => []) ?_ ?_)))))))
 refine wcg (wlq (v := .agg #[iv a_b.Size, (sl v0a)]) (plb Zc pk1 R R R) R (bdO t1 fun v1 hv1 t1 => (wlc (cz0 Zea R fun w hw => Z0 w a_b v0a (ra r0 hw) hv1) R fun _ => (mv R R (wlo (t := 7) t1 R (fun h1 t1 => ?_) fun h1 t1 => ?_)))))
 refine wgn (j := 2) R R R (wlq (v := .agg #[iv a_d.Size, (sl v1a)]) (plb Zc pz R R R) R (bdO t1 fun v2 hv2 t1 => (wgn (j := 2) R R R (wlc (cz0 Zea R fun w hw => Z0 w a_d v1a (ra r1 hw) hv2) R (fun _ => (wlq (pit R R) R (mv R R (wlo (t := 11) t1 R (fun h2 t1 => ?_) fun h2 t1 => ?_))))))))
 exact wgn (j := 6) R R R (wlq (pof ZM R) R (wgn (j := 6) R R R (wlq (v := iv a_b.Size) (plx tk_3 pk1 R R) R (wgn (j := 6) R R R (wlq (pof ZM R) R (wgn (j := 6) R R R (wlq (v := iv a_d.Size) (plx tk_3 pz R R) R (wgn (j := 6) R R R (wlq (pol R R) R (wlq (pit R R) R (asg R R (wln (wjm _ () (mtE t1) (su1 R) zn)))))))))))))
 exact wgf (j := 6) R R R R R (wgf (j := 6) R R R R R (wgf (j := 6) R R R R R (wgf (j := 6) R R R R R (wgf (j := 6) R R R R R (wlq (pif R R) R (asg R R (wln (wjm _ () (mtE t1) (su1 R) zn))))))))
 exact wgf (j := 2) R R R R R (wgf (j := 2) R R R R R (wlq (pif R R) R (mv R R (wgf (j := 6) R R R R R (wgf (j := 6) R R R R R (wgf (j := 6) R R R R R (wgf (j := 6) R R R R R (wgf (j := 6) R R R R R (wlq (pif R R) R (asg R R (wln (wjm _ () (mtE t1) (su1 R) zn))))))))))))
 intro j1 _ hp
 obtain rfl : j1 = y1 := hp.symm
 refine wqt (wct ?_)
 obtain rfl := oi t0
 exact wq1 R R fun w hw => ⟨R, hw.weak zn⟩

theorem ZoW (w : World) (a_c : GCell) (a_a : Int) {r : Int} (t0 : ZfZ a_c a_a = some r) : Calls Tryz.prog 159 #[.agg #[.int .i64 a_c.Split, .int .i64 a_c.A, .int .i64 a_c.B], .int .i64 a_a] w fun e w' => e = .returned (.int .i64 r) ∧ SH w [] [] w' := by
 refine cwc (args := [_, _]) Tryz.func159 R Tryz.ntmps159 R ?_
 unfold ZfZ at t0
 refine wcr (wle (Zg R R) R fun b1 => (asg R R (wnt (wcr (asg R R (wnt (wcs (wcs (bdO t0 fun y1 t1 t0 => (wj (J := Bool) (X := Unit) (fun z => y1 = z) (fun z _ => [(1, iv a_a), (2, ptr b1 0), (5, iv 0), (13, .bool z)]) (fun _ _ => [box b1 [iv a_c.Split, iv a_c.A, iv a_c.B]]) ?_ ?_))))))))))
 refine wcg (wlq (v := .agg #[iv a_c.Split, iv a_c.A, iv a_c.B]) (plb Zh pz R R R) R (bdO t1 fun v1 hv1 t1 => (wlc (cz0 ZgL R fun w hw => Za9 w a_c hv1) R fun _ => (mv R R (wlo (t := 8) t1 R (fun h1 t1 => ?_) fun h1 t1 => ?_)))))
 exact wgn (j := 2) R R R (wlq (pof ZaT R) R (wgn (j := 2) R R R (wlq (v := iv a_c.A) (plx tk_3 pz R R) R (wgn (j := 2) R R R (mv R R (wgn (j := 2) R R R (wlq (pol R R) R (wlq (pit R R) R (wln (wjm _ () (mtE t1) (su4 R R R R) so1))))))))))
 exact wgf (j := 2) R R R R R (wgf (j := 2) R R R R R (wgf (j := 2) R R R R R (wgf (j := 2) R R R R R (wlq (pif R R) R (wln (wjm _ () (mtE t1) (su4 R R R R) so1))))))
 intro j1 _ hp
 obtain rfl : j1 = y1 := hp.symm
 refine wqt (wcj (X := Unit) (fun _ => True) (fun _ => [(1, iv a_a), (2, ptr b1 0), (5, iv (bif j1 then (wr (0 + 2)) else 0))]) (fun _ => [box b1 [iv a_c.Split, iv a_c.A, iv a_c.B]]) ?_ ?_)
 refine Zbn R (fun h2 => ?_) fun h2 => ?_
 exact wcg (mv R R (wlq (Zaf R R) R (asg R R (wln (wqm () trivial (yc R (yc R (Zee R (by simp only [h2, cond_true]) yn))) so1)))))
 exact wck (wqm () trivial (yc R (yc R (Zee R (by simp only [h2, cond_false]) yn))) so1)
 intro _ _
 refine wqt (wcs (wcs (bdO t0 fun y1 t1 t0 => (wj (J := Bool) (X := Unit) (fun z => y1 = z) (fun z _ => [(5, iv (bif j1 then (wr (0 + 2)) else 0)), (23, .bool z)]) (fun _ _ => []) ?_ ?_))))
 refine wcg (wlq (v := .agg #[iv a_c.Split, iv a_c.A, iv a_c.B]) (plb Zh pz R R R) R (bdO t1 fun v2 hv2 t1 => (wlc (cz0 ZgL R fun w hw => Za9 w a_c hv2) R fun _ => (mv R R (wlo (t := 18) t1 R (fun h3 t1 => ?_) fun h3 t1 => ?_)))))
 exact wgn (j := 2) R R R (wlq (pof Za6 R) R (wgn (j := 2) R R R (wlq (v := iv a_c.B) (plx tk_3 pz R R) R (wgn (j := 2) R R R (mv R R (wgn (j := 2) R R R (wlq (pol R R) R (wlq (pit R R) R (wln (wjm _ () (mtE t1) (su2 R R) zn))))))))))
 exact wgf (j := 2) R R R R R (wgf (j := 2) R R R R R (wgf (j := 2) R R R R R (wgf (j := 2) R R R R R (wlq (pif R R) R (wln (wjm _ () (mtE t1) (su2 R R) zn))))))
 intro j3 _ hp
 obtain rfl : j3 = y1 := hp.symm
 refine wqt (wcj (X := Unit) (fun _ => True) (fun _ => [(5, iv (bif j3 then (wr ((bif j1 then (wr (0 + 2)) else 0) + 2)) else (bif j1 then (wr (0 + 2)) else 0)))]) (fun _ => []) ?_ ?_)
 refine Zbn R (fun h4 => ?_) fun h4 => ?_
 exact wcg (mv R R (wlq (Zaf R R) R (asg R R (wln (wqm () trivial (Zee R (by simp only [h4, cond_true]) yn) zn)))))
 exact wck (wqm () trivial (Zee R (by simp only [h4, cond_false]) yn) zn)
 intro _ _
 refine wqt (wcr (mv R R (asg R R (wnt (wct ?_)))))
 obtain rfl := oi t0
 exact wq1 R R fun w hw => ⟨R, hw.weak zn⟩

theorem ZlG (w : World) (a_b : GBlock) (v0a : Hd) (r0 : rdF w (dm w []) (sl v0a) a_b.Cells) (a_a : Int) {r : Int} (t0 : Zf6 a_b a_a = some r) : Calls Tryz.prog 145 #[.agg #[.int .i64 a_b.Size, (sl v0a)], .int .i64 a_a] w fun e w' => e = .returned (.int .i64 r) ∧ SH w [] [] w' := by
 refine cwc (args := [_, _]) Tryz.func145 R Tryz.ntmps145 R ?_
 unfold Zf6 at t0
 refine wcr (wle (Zg R R) R fun b1 => (asg R R (wnt (wcs (wcr (wlq (v := .agg #[iv a_b.Size, (sl v0a)]) (plb Zc pz R R R) R (bdO t0 fun v1 hv1 t0 => (wlc (cz0 Zea R fun w hw => Z0 w a_b v0a (ra r0 hw) hv1) R fun _ => (wlq (Zd R) R (wnt (wcO t0 R (fun h1 t0 => ?_) fun h1 t0 => ?_)))))))))))
 refine wcr (asg R R (wnt (wct (wqr ?_))))
 obtain rfl := oi t0
 exact wq1 R R fun w hw => ⟨R, hw.weak zn⟩
 refine wck (wqt (wcr (asg R R (wnt (wcs (wcr (wlq (pof Zv R) R (wlq (v := (sl v0a)) (plx ZN pz R R) R (wlq (pln (rga r0) ZU R) R (mv R R (wnt (gdO t0 fun g1 t0 => (Zn t0 fun y1 l1 t0 => (wj (J := Int) (X := Unit) (fun z => y1 = z) (fun z _ => [(5, iv z)]) (fun _ _ => []) ?_ ?_))))))))))))))
 refine wcb (wcf (X := Unit) l1 (fun k1 s1 x1l => [(1, iv a_a), (5, iv s1), (12, (sl v0a)), (13, iv ((a_b.Cells.length : Nat) : Int)), (14, iv ((k1 : Nat) : Int))]) (fun k1 s1 x1l => []) () (su5 R R R R R) zn fun k1 s1 x1l hN1 l1 => ?_)
 by_cases hk1 : k1 < a_b.Cells.length
 refine fos l1 hk1 fun _ t1 l1 => ?_
 unfold Zhj at t1
 have c1 : (decide (((k1 : Nat) : Int) < ((a_b.Cells.length : Nat) : Int))) = true := ddt (by omega)
 refine wcr (wlq (pls R R) R (wnt (wcs (wft R c1 (wck (wqt (wcs (wcb (wcr (wlq (Zm (k := k1) (rga r0) ZU R R hk1) R (wlq (v := .agg #[iv ((gx a_b.Cells k1).Split), iv ((gx a_b.Cells k1).A), iv ((gx a_b.Cells k1).B)]) (Zaw (rga r0) Zh R hk1 R R R) R (wle (eal (cs := [iv 0, iv 0, iv 0]) Zb8) R fun b2 => (wls (sbx (cs' := [iv ((gx a_b.Cells k1).Split), iv ((gx a_b.Cells k1).A), iv ((gx a_b.Cells k1).B)]) Zh pz R R R R R R R) (wnt (wcg (mv R R (wlq (v := .agg #[iv ((gx a_b.Cells k1).Split), iv ((gx a_b.Cells k1).A), iv ((gx a_b.Cells k1).B)]) (plb Zh pz R R R) R (mv R R (bdO t1 fun v2 hv2 t1 => (wlc (cz0 ZvI R fun w hw => ZoW w (gx a_b.Cells k1) a_a hv2) R fun _ => (wlq (Zaf R R) R (asg R R (wln (wqb (wqt (wcg (wlq (Zj R R (by omega)) R ?_)))))))))))))))))))))))))))
 exact mv R R (wln (Zk hk1 (stpN l1 t1) () (su5 R R R R R) zn))
 have c1 : (decide (((k1 : Nat) : Int) < ((a_b.Cells.length : Nat) : Int))) = false := ddf (by omega)
 have en1 := foe l1 hk1
 exact wcr (wlq (pls R R) R (wnt (wcs (wff R c1 (wcx (wqe (wqe (wbx (wjm _ () (Sum.inl.inj en1) (su1 R) zn)))))))))
 intro e1 _ hp
 obtain rfl : e1 = y1 := hp.symm
 refine wqt (wcr (mv R R (asg R R (wnt (wct ?_)))))
 obtain rfl := oi t0
 exact wq1 R R fun w hw => ⟨R, hw.weak zn⟩

theorem Zir (w : World) (a_b : GBlock) (v0a : Hd) (r0 : rdF w (dm w []) (sl v0a) a_b.Cells) {r : List Int} (t0 : Zc9 a_b = some r) : Calls Tryz.prog 177 #[.agg #[.int .i64 a_b.Size, (sl v0a)]] w fun e w' => ∃ x : Hd, e = .returned ((sl x)) ∧ SH w [] [ownF (sl x) r] w' := by
 refine cwc (args := [_]) Tryz.func177 R Tryz.ntmps177 R ?_
 unfold Zc9 at t0
 refine wcr (wle (Zg R R) R fun b1 => (asg R R (wnt (wcs (wcr (wlq (v := .agg #[iv a_b.Size, (sl v0a)]) (plb Zc pz R R R) R (bdO t0 fun v1 hv1 t0 => (wlc (cz0 Zea R fun w hw => Z0 w a_b v0a (ra r0 hw) hv1) R fun _ => (wlq (Zd R) R (wnt (wcO t0 R (fun h1 t0 => ?_) fun h1 t0 => ?_)))))))))))
 refine wcr (asg R R (wnt (wct (wqr ?_))))
 obtain rfl := oi t0
 exact wq1 R R fun w hw => ⟨hn, R, hw.weak (zc ZC zn)⟩
 refine wck (wqt (wcr (wle (ebs R Zai) R fun b2 => (asg R R (wnt (wcs (wcr (mv R R (wnt (Zn t0 fun y1 l1 t0 => (wj (J := List Int) (X := Hd) (fun z => y1 = z) (fun _ x => [(3, (sl x))]) (fun z x => [ownF (sl x) z]) ?_ ?_)))))))))))
 refine wcb (wcf (X := Hd) l1 (fun k1 s1 x1l => [(1, ptr b1 0), (3, (sl x1l)), (9, iv ((k1 : Nat) : Int))]) (fun k1 s1 x1l => [box b1 [iv a_b.Size, (sl v0a)], ownF (sl x1l) s1]) (⟨some ⟨b2, 0, none⟩, 0, 0⟩ : Hd) (su3 R R R) (zc pk1 (zc (pbo pz (n := 0) (xs := ([] : List Int)) R R (by unfold maxLen; omega)) zn)) fun k1 s1 x1l hN1 l1 => ?_)
 by_cases hk1 : k1 < 6
 refine fos l1 hk1 fun _ t1 l1 => ?_
 unfold Zft at t1
 have c1 : (decide (((k1 : Nat) : Int) < 6)) = true := ddt (by omega)
 refine wcr (wlq (pls R R) R (wnt (wcs (wft R c1 (wck (wqt (wcs (wcb (wcr (mv R R (asg R R (wnt (wcr (wlq (v := .agg #[iv a_b.Size, (sl v0a)]) (plb Zc pz R R R) R (mv R R (bdO t1 fun v2 hv2 t1 => (wlc (cz0 ZtU R fun w hw => ZlG w a_b v0a (ra r0 hw) ((k1 : Nat) : Int) hv2) R fun _ => (wlq (Zad R R) R (wnt (bdO t1 fun y2 t2 t1 => (wj (J := List Int) (X := Hd) (fun z => y2 = z) (fun _ x => [(1, ptr b1 0), (3, (sl x)), (9, iv ((k1 : Nat) : Int))]) (fun z x => [box b1 [iv a_b.Size, (sl v0a)], ownF (sl x) z]) ?_ ?_)))))))))))))))))))))
 refine wcO t2 R (fun h2 t2 => ?_) fun h2 t2 => ?_
 refine wcg (mv R R (mv R R (wle (ebs R (ZaA ((k1 : Nat) : Int))) R fun b3 => (gdO t2 fun g1 t2 => (wle (Zf (xs := s1) (ys := ([((k1 : Nat) : Int)] : List Int)) Zbp pk2 R R (Zi fun _ g => Rg.on (rgo (pbo pz (n := 1) (xs := ([((k1 : Nat) : Int)] : List Int)) R R (by unfold maxLen; omega))) g) g1) R fun x3 => ?_)))))
 exact asg R R (wln (wjm _ x3 (mtE t2) (su3 R R R) (zc pk2 so1)))
 exact wck (wjm _ x1l (mtE t2) (su3 R R R) so2)
 intro j1 x2 hp
 obtain rfl : j1 = y2 := hp.symm
 refine wqb (wqt (wcg (wlq (Zj R R (by omega)) R ?_)))
 exact mv R R (wln (Zk hk1 (stpN l1 t1) x2 (su3 R R R) so2))
 have c1 : (decide (((k1 : Nat) : Int) < 6)) = false := ddf (by omega)
 have en1 := foe l1 hk1
 exact wcr (wlq (pls R R) R (wnt (wcs (wff R c1 (wcx (wqe (wqe (wbx (wjm _ x1l (Sum.inl.inj en1) (su1 R) (zc pk1 zn))))))))))
 intro e1 x1 hp
 obtain rfl : e1 = y1 := hp.symm
 refine wqt (wcr (mv R R (asg R R (wnt (wct ?_)))))
 obtain rfl := oi t0
 exact wq1 R R fun w hw => ⟨x1, R, hw.weak so1⟩

theorem ZiG (w : World) (a_n : Int) {r : Int} (t0 : Zcb a_n = some r) : Calls Tryz.prog 191 #[.int .i64 a_n] w fun e w' => e = .returned (.int .i64 r) ∧ SH w [] [] w' := by
 refine cwc (args := [_]) Tryz.func191 R Tryz.ntmps191 R ?_
 unfold Zcb at t0
 refine wcr (asg R R (wnt (wcr (asg R R (wnt (wcs (wcr (mv R R (mv R R (wnt (gdO t0 fun g1 t0 => (Zn t0 fun y1 l1 t0 => (wj (J := Int) (X := Unit) (fun z => y1 = z) (fun z _ => [(3, iv z)]) (fun _ _ => []) ?_ ?_)))))))))))))
 refine wcb (wcf (X := Unit) l1 (fun k1 s1 x1l => [(3, iv s1), (5, iv a_n), (6, iv ((k1 : Nat) : Int))]) (fun k1 s1 x1l => []) () (su3 R R R) zn fun k1 s1 x1l hN1 l1 => ?_)
 by_cases hk1 : k1 < (a_n).toNat
 refine fos l1 hk1 fun _ t1 l1 => ?_
 unfold Zkf at t1
 have c1 : (decide (((k1 : Nat) : Int) < a_n)) = true := ddt (by omega)
 refine wcr (wlq (pls R R) R (wnt (wcs (wft R c1 (wck (wqt (wcs (wcb (wcr (mv R R (asg R R (wnt (wcg (mv R R (mv R R (wlq (Zaa R R) R (wlq (Zex R R) R (asg R R (wln (wqb (wqt (wcg (wlq (Zj R R (by omega)) R ?_)))))))))))))))))))))))
 exact mv R R (wln (Zk hk1 (stpN l1 t1) () (su3 R R R) zn))
 have c1 : (decide (((k1 : Nat) : Int) < a_n)) = false := ddf (by omega)
 have en1 := foe l1 hk1
 exact wcr (wlq (pls R R) R (wnt (wcs (wff R c1 (wcx (wqe (wqe (wbx (wjm _ () (Sum.inl.inj en1) (su1 R) zn)))))))))
 intro e1 _ hp
 obtain rfl : e1 = y1 := hp.symm
 refine wqt (wcr (mv R R (asg R R (wnt (wct ?_)))))
 obtain rfl := oi t0
 exact wq1 R R fun w hw => ⟨R, hw.weak zn⟩

theorem Zim (w : World) (a_b : GBlock) (v0a : Hd) (r0 : rdF w (dm w []) (sl v0a) a_b.Cells) {r : Int} (t0 : Za5 a_b = some r) : Calls Tryz.prog 178 #[.agg #[.int .i64 a_b.Size, (sl v0a)]] w fun e w' => e = .returned (.int .i64 r) ∧ SH w [] [] w' := by
 refine cwc (args := [_]) Tryz.func178 R Tryz.ntmps178 R ?_
 unfold Za5 at t0
 refine wcr (wle (Zg R R) R fun b1 => (asg R R (wnt (wcs (wcr (wlq (v := .agg #[iv a_b.Size, (sl v0a)]) (plb Zc pz R R R) R (bdO t0 fun v1 hv1 t0 => (wlc (cz0 Zea R fun w hw => Z0 w a_b v0a (ra r0 hw) hv1) R fun _ => (wlq (Zd R) R (wnt (wcO t0 R (fun h1 t0 => ?_) fun h1 t0 => ?_)))))))))))
 refine wcr (asg R R (wnt (wct (wqr ?_))))
 obtain rfl := oi t0
 exact wq1 R R fun w hw => ⟨R, hw.weak zn⟩
 refine wck (wqt (wcr (wlq (v := .agg #[iv a_b.Size, (sl v0a)]) (plb Zc pz R R R) R (bdO t0 fun v2 hv2 t0 => (wlc (cz1 Zrf R fun w hw => Zir w a_b v0a (ra r0 hw) hv2) R fun x1 => (wlq (pln (rgo pz) Zy R) R (bdO t0 fun v3 hv3 t0 => (wlc (cz0 ZrX R fun w hw => ZiG w ((v2.length : Nat) : Int) hv3) R fun _ => (asg R R (wnt (wct ?_)))))))))))
 obtain rfl := oi t0
 exact wq1 R R fun w hw => ⟨R, hw.weak zn⟩

theorem Znz (w : World) (a_n : Int) {r : List Int} (t0 : Zkg a_n = some r) : Calls Tryz.prog 192 #[.int .i64 a_n] w fun e w' => ∃ x : Hd, e = .returned ((sl x)) ∧ SH w [] [ownF (sl x) r] w' := by
 refine cwc (args := [_]) Tryz.func192 R Tryz.ntmps192 R ?_
 unfold Zkg at t0
 refine wcr (asg R R (wnt (wcr (wle (ebs R Zai) R fun b1 => (asg R R (wnt (wcs (wcr (mv R R (mv R R (wnt (gdO t0 fun g1 t0 => (Zn t0 fun y1 l1 t0 => (wj (J := List Int) (X := Hd) (fun z => y1 = z) (fun _ x => [(3, (sl x))]) (fun z x => [ownF (sl x) z]) ?_ ?_))))))))))))))
 refine wcb (wcf (X := Hd) l1 (fun k1 s1 x1l => [(3, (sl x1l)), (6, iv a_n), (7, iv ((k1 : Nat) : Int))]) (fun k1 s1 x1l => [ownF (sl x1l) s1]) (⟨some ⟨b1, 0, none⟩, 0, 0⟩ : Hd) (su3 R R R) (zc (pbo pz (n := 0) (xs := ([] : List Int)) R R (by unfold maxLen; omega)) zn) fun k1 s1 x1l hN1 l1 => ?_)
 by_cases hk1 : k1 < (a_n).toNat
 refine fos l1 hk1 fun _ t1 l1 => ?_
 unfold ZmC at t1
 have c1 : (decide (((k1 : Nat) : Int) < a_n)) = true := ddt (by omega)
 refine wcr (wlq (pls R R) R (wnt (wcs (wft R c1 (wck (wqt (wcs (wcb (wcr (mv R R (asg R R (wnt (wcg (mv R R (mv R R (wle (ebs R (ZaA ((k1 : Nat) : Int))) R fun b2 => (gdO t1 fun g2 t1 => (wle (Zf (xs := s1) (ys := ([((k1 : Nat) : Int)] : List Int)) Zbp pk1 R R (Zi fun _ g => Rg.on (rgo (pbo pz (n := 1) (xs := ([((k1 : Nat) : Int)] : List Int)) R R (by unfold maxLen; omega))) g) g2) R fun x2 => ?_))))))))))))))))))
 refine asg R R (wln (wqb (wqt (wcg (wlq (Zj R R (by omega)) R ?_)))))
 exact mv R R (wln (Zk hk1 (stpN l1 t1) x2 (su3 R R R) so1))
 have c1 : (decide (((k1 : Nat) : Int) < a_n)) = false := ddf (by omega)
 have en1 := foe l1 hk1
 exact wcr (wlq (pls R R) R (wnt (wcs (wff R c1 (wcx (wqe (wqe (wbx (wjm _ x1l (Sum.inl.inj en1) (su1 R) so1)))))))))
 intro e1 x1 hp
 obtain rfl : e1 = y1 := hp.symm
 refine wqt (wcr (mv R R (asg R R (wnt (wct ?_)))))
 obtain rfl := oi t0
 exact wq1 R R fun w hw => ⟨x1, R, hw.weak so1⟩

theorem Zm3 (w : World) (a_b : GBlock) (v0a : Hd) (r0 : rdF w (dm w []) (sl v0a) a_b.Cells) (a_index : Int) {r : GBlock × Bool} (t0 : Zep a_b a_index = some r) : Calls Tryz.prog 179 #[.agg #[.int .i64 a_b.Size, (sl v0a)], .int .i64 a_index] w fun e w' => ∃ x : Hd, e = .returned (.tuple #[.agg #[.int .i64 r.1.Size, (sl x)], .bool r.2]) ∧ SH w [] [ownF (sl x) r.1.Cells] w' := by
 refine cwc (args := [_, _]) Tryz.func179 R Tryz.ntmps179 R ?_
 unfold Zep at t0
 refine wcr (wle (Zg R R) R fun b1 => (wle (eal (cs := [iv 0, (sl hn)]) Zau) R fun b2 => (asg R R (wnt (wcs (wcr (mv R R (wlq (v := .agg #[iv a_b.Size, (sl v0a)]) (plb Zc pk1 R R R) R (bdO t0 fun v1 hv1 t0 => (wlc (cz0 ZtL R fun w hw => Zim w a_b v0a (ra r0 hw) hv1) R fun _ => (wlq (Zaa R R) R (bdO t0 fun v2 hv2 t0 => (wlc (cz0 ZaH R fun w hw => Zq w a_index 0 (wr (v1 - 1)) hv2) R fun _ => (wlq (Zd R) R (wnt (wcO t0 R (fun h1 t0 => ?_) fun h1 t0 => ?_))))))))))))))))
 refine wcr (wlq (Zl R Zik) R (wls (sbx (cs' := [iv 0, (sl hn)]) Zc pz R R R R R R R) (asg R R (wnt (wct (wqr ?_))))))
 obtain rfl := oi t0
 exact Zx R Zc R R pz R fun w hw => ⟨hn, R, hw.weak (zc ZC zn)⟩
 refine wck (wqt (wcr (wlq (v := .agg #[iv a_b.Size, (sl v0a)]) (plb Zc pk1 R R R) R (bdO t0 fun v3 hv3 t0 => (wlc (cz1 Zrf R fun w hw => Zir w a_b v0a (ra r0 hw) hv3) R fun x1 => (asg R R (wnt (wcs (bdO t0 fun v4 hv4 t0 => (wcj (X := Hd × Hd) (fun _ => True) (fun z => [(1, iv a_index), (2, ptr b1 0), (4, ptr b2 0), (6, (sl x1)), (7, (sl z.1)), (8, (sl z.2))]) (fun z => [ownF (sl z.2) (List.replicate 6 (0 : Int)), ownF (sl z.1) v4, ownF (sl x1) v3, box b2 [iv 0, (sl hn)], box b1 [iv a_b.Size, (sl v0a)]]) ?_ ?_))))))))))
 refine wcd [ownF (sl x1) v3, box b2 [iv 0, (sl hn)], box b1 [iv a_b.Size, (sl v0a)]] 4 mixed (wa_2 (i := 0) (j := 1) (by kernel_rfl) ?_ ?_)
 refine wsc R (cz1 ZtI R fun w hw => Znz w 6 hv4) (fun _ => (zt (zc pk1 (zc pk1 (zc pk1 zn))))) R fun x2 => aq 2 R (Zp R) (zc pk1 (zc pk1 (zc pk1 zn))) R (a1 1 (wse R (Zlw (n := 6) (0 : Int) ZqX R R R (by omega) R) (fun _ => (zt (zc pk2 (zc pk2 (zc pk2 zn))))) R fun x3 => ?_))
 exact aq 3 R (Zp R) (zc pk2 (zc pk2 (zc pk2 zn))) R (ae (wqm (x2, x3) trivial (su6 R R R R R R) so5))
 refine wse R (Zlw (n := 6) (0 : Int) ZqX R R R (by omega) R) (fun _ => (zt (zc pk1 (zc pk1 (zc pk1 zn))))) R fun x4 => ?_
 exact a1 0 (wsc R (cz1 ZtI R fun w hw => Znz w 6 hv4) (fun _ => (zt (zc pk2 (zc pk2 (zc pk2 zn))))) R fun x5 => (aq 2 R (Zp R) (zc pk2 (zc pk2 (zc pk2 zn))) R (aq 3 R (Zp R) (zc pk2 (zc pk2 (zc pk2 zn))) R (ae (wqm (x5, x4) trivial (su6 R R R R R R) (zc pk1 so4))))))
 intro x6 _
 refine wqt (wcs (wcr (mv R R (wlq (pln (rgo pk2) Zy R) R (mv R R (wnt (gdO t0 fun g1 t0 => (Zn t0 fun y1 l1 t0 => (wj (J := Int × (List Int) × (List Int)) (X := Hd) (fun z => y1 = z) (fun _ _ => [(2, ptr b1 0), (4, ptr b2 0), (8, (sl x6.2))]) (fun z _ => [ownF (sl x6.2) z.2.2, box b2 [iv 0, (sl hn)], box b1 [iv a_b.Size, (sl v0a)]]) ?_ ?_)))))))))
 refine wcb (wcf (X := Hd) l1 (fun k1 s1 x1l => [(1, iv s1.1), (2, ptr b1 0), (4, ptr b2 0), (6, (sl x1)), (7, (sl x1l)), (8, (sl x6.2)), (24, (sl x1)), (25, iv ((v3.length : Nat) : Int)), (26, iv ((k1 : Nat) : Int))]) (fun k1 s1 x1l => [ownF (sl x6.2) s1.2.2, ownF (sl x1l) s1.2.1, ownF (sl x1) v3, box b2 [iv 0, (sl hn)], box b1 [iv a_b.Size, (sl v0a)]]) x6.1 (su9 R R R R R R R R R) so5 fun k1 s1 x1l hN1 l1 => ?_)
 by_cases hk1 : k1 < v3.length
 refine fos l1 hk1 fun _ t1 l1 => ?_
 unfold ZbX at t1
 have c1 : (decide (((k1 : Nat) : Int) < ((v3.length : Nat) : Int))) = true := ddt (by omega)
 refine wcr (wlq (pls R R) R (wnt (wcs (wft R c1 (wck (wqt (wcs (wcb (wcr (mv R R (wlq (Zm (k := k1) (rgo pk2) Zy R R hk1) R (wlq (v := iv (gx v3 k1)) (Zw (rgo pk2) tk_3 R hk1 R) R (asg R R (asg R R (wnt (wcr (mv R R (wlq (pln (rgo pk2) Zy R) R (bdO t1 fun v5 hv5 t1 => (wlc (cz0 ZrX R fun w hw => ZiG w ((v3.length : Nat) : Int) hv5) R fun _ => (mv R R (wlq (Zj R R (by omega)) R ?_))))))))))))))))))))))
 refine bdO t1 fun v6 hv6 t1 => wlc (cz0 ZrX R fun w hw => ZiG w ((k1 + 1 : Nat) : Int) hv6) R fun _ => gdO t1 fun g2 t1 => wlq (Zi1 R R g2) R (asg R R (wnt (wcr (mv R R (mv R R (gdO t1 fun g3 t1 => (wlq (Zi1 R R g3) R (asg R R (wnt (wcr (mv R R (mv R R (wlq (ZhA R R g3) R (asg R R (wnt (wcr (mv R R (mv R R (mv R R (mv R R (gdO t1 fun g4 t1 => (wlq (ZX (rgo pk1) Zy R R g4.1 g4.2) R (wlq (v := iv (gx s1.2.1 (((wr (s1.1.tdiv (wr (v5.tdiv v6))))).toNat))) (Zw (rgo pk1) tk_3 R (ZD g4) R) R (gdO t1 fun g5 t1 => (wlq (ZX (rgo pz) Zy R R g5.1 g5.2) R (wls (Zhx (x' := (gx s1.2.1 (((wr (s1.1.tdiv (wr (v5.tdiv v6))))).toNat))) tk_3 pz R R R R R R (ZD g5) R) (wnt (wcd [ownF (sl x6.2) (s1.2.2.set (((gx v3 k1)).toNat) (gx s1.2.1 (((wr (s1.1.tdiv (wr (v5.tdiv v6))))).toNat))), ownF (sl x1l) s1.2.1, ownF (sl x1) v3, box b2 [iv 0, (sl hn)], box b1 [iv a_b.Size, (sl v0a)]] 11 mixed (aq 1 R (pom R) so5 R (aq 2 R (pom R) so5 R (gdO t1 fun g6 t1 => (aq 3 R (ZiB (l := 0) (h := ((wr (s1.1.tdiv (wr (v5.tdiv v6))))).toNat) (rgo pk1) Zy R (.inl ⟨R, R⟩) (.inr ⟨_, R, ixn g6.1⟩) g6.2.1 g6.2.2) so5 R (aq 5 R (pom R) so5 R (aq 6 R (pom R) so5 R (aq 7 R (Zaf R R) so5 R (gdO t1 fun g7 t1 => ?_))))))))))))))))))))))))))))))))))))
 refine aq 8 R (ZiB (l := ((wr ((wr (s1.1.tdiv (wr (v5.tdiv v6)))) + 1))).toNat) (h := s1.2.1.length) (rgo pk1) Zy R (.inr ⟨_, R, ixn g7.1⟩) (.inl ⟨R, R⟩) g7.2.1 g7.2.2) so5 R (a1 0 (wse R (ebs R Zai) (fun _ => (zt (zc pk1 (zc pk1 (zc pk1 (zc pk1 (zc pk1 zn))))))) R fun b3 => (a1 4 (gdO t1 fun g8 t1 => (wse R (Zf (xs := ([] : List Int)) (ys := ((s1.2.1.drop 0).take (((wr (s1.1.tdiv (wr (v5.tdiv v6))))).toNat - 0))) Zbp (pbo pz (n := 0) (xs := ([] : List Int)) R R (by unfold maxLen; omega)) R R (Zi fun _ g => Rg.on (Zg7 (rgo pk2) g6.2.1 g6.2.2) g) g8) (fun _ => (zt (zc pk1 (zc pk1 (zc pk1 (zc pk1 (zc pk1 zn))))))) R fun x8 => ?_)))))
 refine a1 9 (gdO t1 fun g9 t1 => (wse R (Zf (xs := (([] : List Int) ++ ((s1.2.1.drop 0).take (((wr (s1.1.tdiv (wr (v5.tdiv v6))))).toNat - 0)))) (ys := ((s1.2.1.drop (((wr ((wr (s1.1.tdiv (wr (v5.tdiv v6)))) + 1))).toNat)).take (s1.2.1.length - (((wr ((wr (s1.1.tdiv (wr (v5.tdiv v6)))) + 1))).toNat)))) Zbp pz R R (Zi fun _ g => Rg.on (Zg7 (rgo pk2) g7.2.1 g7.2.2) g) g9) (fun _ => (zt (zc pk1 (zc pk1 (zc pk1 (zc pk1 (zc pk1 zn))))))) R fun x9 => (aq 10 R (Zp R) (zc pk1 (zc pk1 (zc pk1 (zc pk1 (zc pk1 zn))))) R (ae (wqb (wqt (wcg (wlq (Zj R R (by omega)) R ?_))))))))
 exact mv R R (wln (Zk hk1 (stpN l1 t1) x9 (su9 R R R R R R R R R) (zc pk1 (zc pz (zc pk1 (zc pk1 (zc pk1 zn)))))))
 have c1 : (decide (((k1 : Nat) : Int) < ((v3.length : Nat) : Int))) = false := ddf (by omega)
 have en1 := foe l1 hk1
 exact wcr (wlq (pls R R) R (wnt (wcs (wff R c1 (wcx (wqe (wqe (wbx (wjm _ x1l (Sum.inl.inj en1) (su3 R R R) (zc pz (zc pk2 (zc pk2 zn))))))))))))
 intro e1 x7 hp
 obtain rfl : e1 = y1 := hp.symm
 refine wqt (wcr (wlq (v := .agg #[iv a_b.Size, (sl v0a)]) (plb Zc pk2 R R R) R (mv R R (bdO t0 fun v7 hv7 t0 => (wlc (cz1 ZoN R fun w hw => Zdu w a_b v0a (ra r0 hw) e1.2.2 x6.2 (Rg.on (rgo pz) hw) hv7) R fun x10 => (wlq (pex R R) R (wlq (pex R R) R (wls (sbx (cs' := [iv v7.1.Size, (sl x10)]) Zc pk2 R R R R R R R) (asg R R (wnt (wct ?_)))))))))))
 obtain rfl := oi t0
 exact Zx R Zc R R pz R fun w hw => ⟨x10, R, hw.weak (zc pk1 zn)⟩

theorem Zk6 (w : World) (a_c : GCell) (a_side : Int) {r : Int} (t0 : Zfd a_c a_side = some r) : Calls Tryz.prog 212 #[.agg #[.int .i64 a_c.Split, .int .i64 a_c.A, .int .i64 a_c.B], .int .i64 a_side] w fun e w' => e = .returned (.int .i64 r) ∧ SH w [] [] w' := by
 refine cwc (args := [_, _]) Tryz.func212 R Tryz.ntmps212 R ?_
 unfold Zfd at t0
 refine wcr (wle (Zg R R) R fun b1 => (asg R R (wnt (wcs (wcs (bdO t0 fun y1 t1 t0 => (wj (J := Bool) (X := Unit) (fun z => y1 = z) (fun z _ => [(1, iv a_side), (2, ptr b1 0), (12, .bool z)]) (fun _ _ => [box b1 [iv a_c.Split, iv a_c.A, iv a_c.B]]) ?_ ?_)))))))
 refine wcg (wlq (v := .agg #[iv a_c.Split, iv a_c.A, iv a_c.B]) (plb Zh pz R R R) R (bdO t1 fun v1 hv1 t1 => (wlc (cz0 ZgL R fun w hw => Za9 w a_c hv1) R fun _ => (wlq (Zd R) R (mv R R (wlo (t := 8) t1 R (fun h1 t1 => ?_) fun h1 t1 => ?_))))))
 exact wgf (j := 3) R R R R R (wgf (j := 3) R R R R R (wgf (j := 3) R R R R R (wlq (pit R R) R (wln (wjm _ () (mtE t1) (su3 R R R) so1)))))
 exact wgn (j := 3) R R R (mv R R (bdO t1 fun v2 hv2 t1 => (wgn (j := 3) R R R (wlc (cz0 ZaH R fun w hw => Zq w a_side 0 3 hv2) R (fun _ => (wgn (j := 3) R R R (wlq (Zd R) R (wlq (pif R R) R (wln (wjm _ () (mtE t1) (su3 R R R) so1))))))))))
 intro j1 _ hp
 obtain rfl : j1 = y1 := hp.symm
 refine wqt (wcO t0 R (fun h2 t0 => ?_) fun h2 t0 => ?_)
 refine wcr (asg R R (wnt (wct (wqr ?_))))
 obtain rfl := oi t0
 exact wq1 R R fun w hw => ⟨R, hw.weak zn⟩
 refine wck (wqt (wcs (wcs (wcj (X := Unit) (fun _ => True) (fun _ => [(2, ptr b1 0), (32, .bool ((a_side == 0) || (bif (a_c.Split == 1) then ((a_side == 1) || ((a_c.Split == 2) && (a_side == 3))) else ((a_c.Split == 2) && (a_side == 3)))))]) (fun _ => [box b1 [iv a_c.Split, iv a_c.A, iv a_c.B]]) ?_ ?_))))
 refine wcg (mv R R (wlq (pol R R) R (mv R R (Zae (t := 15) R (fun h3 => ?_) fun h3 => ?_))))
 exact wgf (j := 2) R R R R R (wgf (j := 2) R R R R R (wgf (j := 2) R R R R R (wgf (j := 2) R R R R R (ZW (j := 6) R R R R (ZW (j := 6) R R R R (wgf (j := 2) R R R R R (wlq (pit R R) R (mv R R (wgf (j := 11) R R R R R (wgf (j := 11) R R R R R (wgf (j := 11) R R R R R (wgf (j := 11) R R R R R (ZW (j := 15) R R R R (ZW (j := 15) R R R R (wgf (j := 11) R R R R R (wlq (pit R R) R (wln (wqm () trivial (yc R (ZS R (by rw [h3]; rfl) yn)) so1))))))))))))))))))
 refine wgn (j := 2) R R R (wlq (pof Zbc R) R (wgn (j := 2) R R R (wlq (v := iv a_c.Split) (plx tk_3 pz R R) R (wgn (j := 2) R R R (wlq (pol R R) R (wgn (j := 2) R R R (mv R R (Zae (t := 19) R (fun h4 => ?_) fun h4 => ?_))))))))
 refine wgn (j := 6) R R R (mv R R (wgn (j := 6) R R R (wlq (pol R R) R (wgn (j := 2) R R R (wlq (pit R R) R (wlq (pif R R) R (mv R R (Zae (t := 24) R (fun h5 => ?_) fun h5 => ?_))))))))
 exact wgf (j := 11) R R R R R (wgf (j := 11) R R R R R (wgf (j := 11) R R R R R (wgf (j := 11) R R R R R (ZW (j := 15) R R R R (ZW (j := 15) R R R R (wgf (j := 11) R R R R R (wlq (pit R R) R (wln (wqm () trivial (yc R (ZS R (by rw [h3, h4, h5]; rfl) yn)) so1)))))))))
 refine wgn (j := 11) R R R (wlq (pof Zbc R) R (wgn (j := 11) R R R (wlq (v := iv a_c.Split) (plx tk_3 pz R R) R (wgn (j := 11) R R R (wlq (pol R R) R (wgn (j := 11) R R R (mv R R (Zae (t := 28) R (fun h6 => ?_) fun h6 => ?_))))))))
 exact wgn (j := 15) R R R (mv R R (wgn (j := 15) R R R (wlq (pol R R) R (wgn (j := 11) R R R (wlq (pit R R) R (wlq (pif R R) R (wln (wqm () trivial (yc R (ZS R (by rw [h3, h4, h5, h6]; rfl) yn)) so1))))))))
 exact wgf (j := 15) R R R R R (wgf (j := 15) R R R R R (wgn (j := 11) R R R (wlq (pif R R) R (wlq (pif R R) R (wln (wqm () trivial (yc R (ZS R (by rw [h3, h4, h5, h6]; rfl) yn)) so1))))))
 refine wgf (j := 6) R R R R R (wgf (j := 6) R R R R R (wgn (j := 2) R R R (wlq (pif R R) R (wlq (pif R R) R (mv R R (wgn (j := 11) R R R (wlq (pof Zbc R) R (wgn (j := 11) R R R (wlq (v := iv a_c.Split) (plx tk_3 pz R R) R (wgn (j := 11) R R R (wlq (pol R R) R (wgn (j := 11) R R R (mv R R (Zae (t := 28) R (fun h7 => ?_) fun h7 => ?_))))))))))))))
 exact wgn (j := 15) R R R (mv R R (wgn (j := 15) R R R (wlq (pol R R) R (wgn (j := 11) R R R (wlq (pit R R) R (wlq (pif R R) R (wln (wqm () trivial (yc R (ZS R (by rw [h3, h4, h7]; rfl) yn)) so1))))))))
 exact wgf (j := 15) R R R R R (wgf (j := 15) R R R R R (wgn (j := 11) R R R (wlq (pif R R) R (wlq (pif R R) R (wln (wqm () trivial (yc R (ZS R (by rw [h3, h4, h7]; rfl) yn)) so1))))))
 intro _ _
 refine wqt (wcO t0 R (fun h8 t0 => ?_) fun h8 t0 => ?_)
 refine wcr (wlq (pof ZaT R) R (wlq (v := iv a_c.A) (plx tk_3 pz R R) R (asg R R (wnt (wct (wqr ?_))))))
 obtain rfl := oi t0
 exact wq1 R R fun w hw => ⟨R, hw.weak zn⟩
 refine wck (wqt (wcr (wlq (pof Za6 R) R (wlq (v := iv a_c.B) (plx tk_3 pz R R) R (asg R R (wnt (wct ?_)))))))
 obtain rfl := oi t0
 exact wq1 R R fun w hw => ⟨R, hw.weak zn⟩

theorem ZlX (w : World) (a_c : GCell) (a_d : GCell) {r : Int} (t0 : Zdq a_c a_d = some r) : Calls Tryz.prog 205 #[.agg #[.int .i64 a_c.Split, .int .i64 a_c.A, .int .i64 a_c.B], .agg #[.int .i64 a_d.Split, .int .i64 a_d.A, .int .i64 a_d.B]] w fun e w' => e = .returned (.int .i64 r) ∧ SH w [] [] w' := by
 refine cwc (args := [_, _]) Tryz.func205 R Tryz.ntmps205 R ?_
 unfold Zdq at t0
 refine wcr (wle (Zg R R) R fun b1 => (wle (Zg R R) R fun b2 => (asg R R (wnt (wcs (wcs (bdO t0 fun y1 t1 t0 => (wj (J := Bool) (X := Unit) (fun z => y1 = z) (fun z _ => [(2, ptr b1 0), (3, ptr b2 0), (14, .bool z)]) (fun _ _ => [box b2 [iv a_d.Split, iv a_d.A, iv a_d.B], box b1 [iv a_c.Split, iv a_c.A, iv a_c.B]]) ?_ ?_))))))))
 refine wcg (wlq (v := .agg #[iv a_c.Split, iv a_c.A, iv a_c.B]) (plb Zh pk1 R R R) R (bdO t1 fun v1 hv1 t1 => (wlc (cz0 ZgL R fun w hw => Za9 w a_c hv1) R fun _ => (wlq (Zd R) R (mv R R (wlo (t := 10) t1 R (fun h1 t1 => ?_) fun h1 t1 => ?_))))))
 exact wgf (j := 3) R R R R R (wgf (j := 3) R R R R R (wgf (j := 3) R R R R R (wlq (pit R R) R (wln (wjm _ () (mtE t1) (su3 R R R) so2)))))
 exact wgn (j := 3) R R R (wlq (v := .agg #[iv a_d.Split, iv a_d.A, iv a_d.B]) (plb Zh pz R R R) R (bdO t1 fun v2 hv2 t1 => (wgn (j := 3) R R R (wlc (cz0 ZgL R fun w hw => Za9 w a_d hv2) R (fun _ => (wgn (j := 3) R R R (wlq (Zd R) R (wlq (pif R R) R (wln (wjm _ () (mtE t1) (su3 R R R) so2))))))))))
 intro j1 _ hp
 obtain rfl : j1 = y1 := hp.symm
 refine wqt (wcO t0 R (fun h2 t0 => ?_) fun h2 t0 => ?_)
 refine wcr (asg R R (wnt (wct (wqr ?_))))
 obtain rfl := oi t0
 exact wq1 R R fun w hw => ⟨R, hw.weak zn⟩
 refine wck (wqt (wcr (asg R R (wnt (wcs (wcr (mv R R (wnt (Zn t0 fun y1 l1 t0 => (wj (J := Int) (X := Unit) (fun z => y1 = z) (fun z _ => [(5, iv z)]) (fun _ _ => []) ?_ ?_))))))))))
 refine wcb (wcf (X := Unit) l1 (fun k1 s1 x1l => [(2, ptr b1 0), (3, ptr b2 0), (5, iv s1), (15, iv ((k1 : Nat) : Int))]) (fun k1 s1 x1l => [box b2 [iv a_d.Split, iv a_d.A, iv a_d.B], box b1 [iv a_c.Split, iv a_c.A, iv a_c.B]]) () (su4 R R R R) so2 fun k1 s1 x1l hN1 l1 => ?_)
 by_cases hk1 : k1 < 4
 refine fos l1 hk1 fun _ t1 l1 => ?_
 unfold Zdz at t1
 have c1 : (decide (((k1 : Nat) : Int) < 4)) = true := ddt (by omega)
 refine wcr (wlq (pls R R) R (wnt (wcs (wft R c1 (wck (wqt (wcs (wcb (wcr (mv R R (asg R R (wnt (wcs (wcd [box b2 [iv a_d.Split, iv a_d.A, iv a_d.B], box b1 [iv a_c.Split, iv a_c.A, iv a_c.B]] 7 mixed (aq (v := .agg #[iv a_c.Split, iv a_c.A, iv a_c.B]) 0 R (plb Zh pk1 R R R) so2 R (aq 1 R (pom R) so2 R (aq (v := .agg #[iv a_d.Split, iv a_d.A, iv a_d.B]) 3 R (plb Zh pz R R R) so2 R (aq 4 R (pom R) so2 R (a1 2 (bdO t1 fun v3 hv3 t1 => (wsc R (cz0 Ztk R fun w hw => Zk6 w a_c ((k1 : Nat) : Int) hv3) (fun _ => (zt so2)) R fun _ => (a1 5 (bdO t1 fun v4 hv4 t1 => (wsc R (cz0 Ztk R fun w hw => Zk6 w a_d ((k1 : Nat) : Int) hv4) (fun _ => (zt so2)) R fun _ => (aq 6 R (pol R R) so2 R (ae (wqt (wcj (X := Unit) (fun _ => True) (fun _ => [(2, ptr b1 0), (3, ptr b2 0), (5, iv (bif (v3 == v4) then (wr (s1 + 1)) else s1)), (15, iv ((k1 : Nat) : Int))]) (fun _ => [box b2 [iv a_d.Split, iv a_d.A, iv a_d.B], box b1 [iv a_c.Split, iv a_c.A, iv a_c.B]]) ?_ ?_))))))))))))))))))))))))))))
 refine Zbn R (fun h3 => ?_) fun h3 => ?_
 exact wcg (mv R R (wlq (Zaf R R) R (asg R R (wln (wqm () trivial (yc R (yc R (Zee R (by simp only [h3, cond_true]) (su1 R)))) so2)))))
 exact wck (wqm () trivial (yc R (yc R (Zee R (by simp only [h3, cond_false]) (su1 R)))) so2)
 intro _ _
 refine wqb (wqt (wcg (wlq (Zj R R (by omega)) R ?_)))
 exact mv R R (wln (Zk hk1 (stpN l1 t1) () (su4 R R R R) so2))
 have c1 : (decide (((k1 : Nat) : Int) < 4)) = false := ddf (by omega)
 have en1 := foe l1 hk1
 exact wcr (wlq (pls R R) R (wnt (wcs (wff R c1 (wcx (wqe (wqe (wbx (wjm _ () (Sum.inl.inj en1) (su1 R) zn)))))))))
 intro e1 _ hp
 obtain rfl : e1 = y1 := hp.symm
 refine wqt (wcr (mv R R (asg R R (wnt (wct ?_)))))
 obtain rfl := oi t0
 exact wq1 R R fun w hw => ⟨R, hw.weak zn⟩

theorem Zo4 (w : World) (a_b : GBlock) (v0a : Hd) (r0 : rdF w (dm w []) (sl v0a) a_b.Cells) (a_d : GBlock) (v1a : Hd) (r1 : rdF w (dm w []) (sl v1a) a_d.Cells) {r : Int} (t0 : ZfP a_b a_d = some r) : Calls Tryz.prog 194 #[.agg #[.int .i64 a_b.Size, (sl v0a)], .agg #[.int .i64 a_d.Size, (sl v1a)]] w fun e w' => e = .returned (.int .i64 r) ∧ SH w [] [] w' := by
 refine cwc (args := [_, _]) Tryz.func194 R Tryz.ntmps194 R ?_
 unfold ZfP at t0
 refine wcr (wle (Zg R R) R fun b1 => (wle (Zg R R) R fun b2 => (asg R R (wnt (wcs (wcr (wlq (v := .agg #[iv a_b.Size, (sl v0a)]) (plb Zc pk1 R R R) R (wlq (v := .agg #[iv a_d.Size, (sl v1a)]) (plb Zc pz R R R) R (bdO t0 fun v1 hv1 t0 => (wlc (cz0 Zq7 R fun w hw => ZhN w a_b v0a (ra r0 hw) a_d v1a (ra r1 hw) hv1) R fun _ => (wlq (Zd R) R (wnt (wcO t0 R (fun h1 t0 => ?_) fun h1 t0 => ?_)))))))))))))
 refine wcr (asg R R (wnt (wct (wqr ?_))))
 obtain rfl := oi t0
 exact wq1 R R fun w hw => ⟨R, hw.weak zn⟩
 refine wck (wqt (wcr (asg R R (wnt (wcs (wcr (wlq (pof Zv R) R (wlq (v := (sl v0a)) (plx ZN pk1 R R) R (wlq (pln (rga r0) ZU R) R (mv R R (wnt (gdO t0 fun g1 t0 => (Zn t0 fun y1 l1 t0 => (wj (J := Int) (X := Unit) (fun z => y1 = z) (fun z _ => [(5, iv z)]) (fun _ _ => []) ?_ ?_))))))))))))))
 refine wcb (wcf (X := Unit) l1 (fun k1 s1 x1l => [(2, ptr b1 0), (3, ptr b2 0), (5, iv s1), (13, iv ((a_b.Cells.length : Nat) : Int)), (14, iv ((k1 : Nat) : Int))]) (fun k1 s1 x1l => [box b2 [iv a_d.Size, (sl v1a)], box b1 [iv a_b.Size, (sl v0a)]]) () (su5 R R R R R) so2 fun k1 s1 x1l hN1 l1 => ?_)
 by_cases hk1 : k1 < a_b.Cells.length
 refine fos l1 hk1 fun _ t1 l1 => ?_
 unfold Zfn at t1
 have c1 : (decide (((k1 : Nat) : Int) < ((a_b.Cells.length : Nat) : Int))) = true := ddt (by omega)
 refine wcr (wlq (pls R R) R (wnt (wcs (wft R c1 (wck (wqt (wcs (wcb (wcr (mv R R (asg R R (wnt (wcd [box b2 [iv a_d.Size, (sl v1a)], box b1 [iv a_b.Size, (sl v0a)]] 14 mixed (aq 0 R (pom R) so2 R (aq 1 R (pof Zv R) so2 R (aq (v := (sl v0a)) 2 R (plx ZN pk1 R R) so2 R (aq 3 R (pom R) so2 R (aq 4 R (Zm (k := k1) (rga r0) ZU R R hk1) so2 R (aq (v := .agg #[iv ((gx a_b.Cells k1).Split), iv ((gx a_b.Cells k1).A), iv ((gx a_b.Cells k1).B)]) 5 R (Zaw (rga r0) Zh R hk1 R R R) so2 R (aq 6 R (pof Zv R) so2 R (aq (v := (sl v1a)) 7 R (plx ZN pz R R) so2 R (aq 8 R (pom R) so2 R (gdO t1 fun g2 t1 => (aq 9 R (Zm (k := k1) (rga r1) ZU R R g2) so2 R (aq (v := .agg #[iv ((gx a_d.Cells k1).Split), iv ((gx a_d.Cells k1).A), iv ((gx a_d.Cells k1).B)]) 10 R (Zaw (rga r1) Zh R g2 R R R) so2 R (a1 11 (bdO t1 fun v2 hv2 t1 => (wsc R (cz0 Zwj R fun w hw => ZlX w (gx a_b.Cells k1) (gx a_d.Cells k1) hv2) (fun _ => (zt so2)) R fun _ => (aq 12 R (Zaf R R) so2 R (aq 13 R (Zp R) so2 R (ae (wqb (wqt (wcg (wlq (Zj R R (by omega)) R ?_)))))))))))))))))))))))))))))))))))
 exact mv R R (wln (Zk hk1 (stpN l1 t1) () (su5 R R R R R) so2))
 have c1 : (decide (((k1 : Nat) : Int) < ((a_b.Cells.length : Nat) : Int))) = false := ddf (by omega)
 have en1 := foe l1 hk1
 exact wcr (wlq (pls R R) R (wnt (wcs (wff R c1 (wcx (wqe (wqe (wbx (wjm _ () (Sum.inl.inj en1) (su1 R) zn)))))))))
 intro e1 _ hp
 obtain rfl : e1 = y1 := hp.symm
 refine wqt (wcr (mv R R (asg R R (wnt (wct ?_)))))
 obtain rfl := oi t0
 exact wq1 R R fun w hw => ⟨R, hw.weak zn⟩

theorem Zl1 (w : World) (a_b : GBlock) (v0a : Hd) (r0 : rdF w (dm w []) (sl v0a) a_b.Cells) (a_d : GBlock) (v1a : Hd) (r1 : rdF w (dm w []) (sl v1a) a_d.Cells) {r : Int} (t0 : Zdo a_b a_d = some r) : Calls Tryz.prog 180 #[.agg #[.int .i64 a_b.Size, (sl v0a)], .agg #[.int .i64 a_d.Size, (sl v1a)]] w fun e w' => e = .returned (.int .i64 r) ∧ SH w [] [] w' := by
 refine cwc (args := [_, _]) Tryz.func180 R Tryz.ntmps180 R ?_
 unfold Zdo at t0
 refine wcr (wle (Zg R R) R fun b1 => (wle (Zg R R) R fun b2 => (asg R R (wnt (wcs (wcr (wlq (v := .agg #[iv a_b.Size, (sl v0a)]) (plb Zc pk1 R R R) R (wlq (v := .agg #[iv a_d.Size, (sl v1a)]) (plb Zc pz R R R) R (bdO t0 fun v1 hv1 t0 => (wlc (cz0 Zq7 R fun w hw => ZhN w a_b v0a (ra r0 hw) a_d v1a (ra r1 hw) hv1) R fun _ => (wlq (Zd R) R (wnt (wcO t0 R (fun h1 t0 => ?_) fun h1 t0 => ?_)))))))))))))
 refine wcr (asg R R (wnt (wct (wqr ?_))))
 obtain rfl := oi t0
 exact wq1 R R fun w hw => ⟨R, hw.weak zn⟩
 refine wck (wqt (wcr (asg R R (wnt (wcs (wcr (wlq (v := .agg #[iv a_d.Size, (sl v1a)]) (plb Zc pz R R R) R (bdO t0 fun v2 hv2 t0 => (wlc (cz1 Ztz R fun w hw => Zmb w a_d v1a (ra r1 hw) hv2) R fun x1 => (wlq (pln (rgo pz) ZjF R) R (mv R R (wnt (gdO t0 fun g1 t0 => (Zn t0 fun y1 l1 t0 => (wj (J := Int) (X := Unit) (fun z => y1 = z) (fun z _ => [(5, iv z)]) (fun _ _ => []) ?_ ?_)))))))))))))))
 refine wcb (wcf (X := Unit) l1 (fun k1 s1 x1l => [(2, ptr b1 0), (5, iv s1), (13, (sl x1.1)), (14, iv ((v2.length : Nat) : Int)), (15, iv ((k1 : Nat) : Int))]) (fun k1 s1 x1l => [own (sl x1.1) x1.2 v2, box b1 [iv a_b.Size, (sl v0a)]]) () (su5 R R R R R) (zc pz (zc pk1 zn)) fun k1 s1 x1l hN1 l1 => ?_)
 by_cases hk1 : k1 < v2.length
 refine fos l1 hk1 fun _ t1 l1 => ?_
 unfold Zdy at t1
 have c1 : (decide (((k1 : Nat) : Int) < ((v2.length : Nat) : Int))) = true := ddt (by omega)
 refine wcr (wlq (pls R R) R (wnt (wcs (wft R c1 (wck (wqt (wcs (wcb (wcr (wlq (Zm (k := k1) (rgo pz) ZjF R R hk1) R (ZdM (rgo pz) hk1 ?_)))))))))))
 rintro ⟨_, _, he1⟩
 obtain ⟨w1, hc1, _⟩ := ZhY.1 he1
 refine wlq (v := .agg #[iv ((gx v2 k1).Size), (sl w1)]) (Zb7 (rgo pz) Zc R hc1 R R R) R (wle (eal (cs := [iv 0, (sl hn)]) Zau) R fun b3 => (wls (sbx (cs' := [iv ((gx v2 k1).Size), (sl w1)]) Zc pz R R R R R R R) (wnt (wcg (mv R R (wlq (v := .agg #[iv a_b.Size, (sl v0a)]) (plb Zc pk2 R R R) R (wlq (v := .agg #[iv ((gx v2 k1).Size), (sl w1)]) (plb Zc pz R R R) R (bdO t1 fun v3 hv3 t1 => (wlc (cz0 ZwC R fun w hw => Zo4 w a_b v0a (ra r0 hw) (gx v2 k1) w1 (Rg.on (ZiP hc1 (rgo pk1) hk1) hw) hv3) R fun _ => (wlq (Zk2 R R) R (asg R R (wln (wqb (wqt (wcg (wlq (Zj R R (by omega)) R ?_))))))))))))))))
 exact mv R R (wln (Zk hk1 (stpN l1 t1) () (su5 R R R R R) (zc pk1 (zc pk1 zn))))
 have c1 : (decide (((k1 : Nat) : Int) < ((v2.length : Nat) : Int))) = false := ddf (by omega)
 have en1 := foe l1 hk1
 exact wcr (wlq (pls R R) R (wnt (wcs (wff R c1 (wcx (wqe (wqe (wbx (wjm _ () (Sum.inl.inj en1) (su1 R) zn)))))))))
 intro e1 _ hp
 obtain rfl : e1 = y1 := hp.symm
 refine wqt (wcr (mv R R (asg R R (wnt (wct ?_)))))
 obtain rfl := oi t0
 exact wq1 R R fun w hw => ⟨R, hw.weak zn⟩

theorem ZkC (w : World) (a_b : GBlock) (v0a : Hd) (r0 : rdF w (dm w []) (sl v0a) a_b.Cells) (a_d : GBlock) (v1a : Hd) (r1 : rdF w (dm w []) (sl v1a) a_d.Cells) {r : Int} (t0 : Zca a_b a_d = some r) : Calls Tryz.prog 158 #[.agg #[.int .i64 a_b.Size, (sl v0a)], .agg #[.int .i64 a_d.Size, (sl v1a)]] w fun e w' => e = .returned (.int .i64 r) ∧ SH w [] [] w' := by
 refine cwc (args := [_, _]) Tryz.func158 R Tryz.ntmps158 R ?_
 unfold Zca at t0
 refine wcr (wle (Zg R R) R fun b1 => (wle (Zg R R) R fun b2 => (asg R R (wnt (wcs (wcs (bdO t0 fun y1 t1 t0 => (wj (J := Bool) (X := Unit) (fun z => y1 = z) (fun z _ => [(2, ptr b1 0), (3, ptr b2 0), (18, .bool z)]) (fun _ _ => [box b2 [iv a_d.Size, (sl v1a)], box b1 [iv a_b.Size, (sl v0a)]]) ?_ ?_))))))))
 refine wcg (wlq (v := .agg #[iv a_b.Size, (sl v0a)]) (plb Zc pk1 R R R) R (wlq (v := .agg #[iv a_d.Size, (sl v1a)]) (plb Zc pz R R R) R (bdO t1 fun v1 hv1 t1 => (wlc (cz0 Zq7 R fun w hw => ZhN w a_b v0a (ra r0 hw) a_d v1a (ra r1 hw) hv1) R fun _ => (wlq (Zd R) R (mv R R (wlo (t := 13) t1 R (fun h1 t1 => ?_) fun h1 t1 => ?_)))))))
 exact wgf (j := 4) R R R R R (wgf (j := 4) R R R R R (wgf (j := 4) R R R R R (wgf (j := 4) R R R R R (wlq (pit R R) R (wln (wjm _ () (mtE t1) (su3 R R R) so2))))))
 exact wgn (j := 4) R R R (wlq (v := .agg #[iv a_d.Size, (sl v1a)]) (plb Zc pz R R R) R (bdO t1 fun v2 hv2 t1 => (wgn (j := 4) R R R (wlc (cz1 Zrf R fun w hw => Zir w a_d v1a (ra r1 hw) hv2) R (fun x2 => (wgn (j := 4) R R R (wlq (pln (rgo pz) Zy R) R (wgn (j := 4) R R R (wlq (Zad R R) R (wlq (pif R R) R (wln (wjm _ () (mtE t1) (su3 R R R) (zc pk1 (zc pk1 zn))))))))))))))
 intro j1 _ hp
 obtain rfl : j1 = y1 := hp.symm
 refine wqt (wcO t0 R (fun h2 t0 => ?_) fun h2 t0 => ?_)
 refine wcr (asg R R (wnt (wct (wqr ?_))))
 obtain rfl := oi t0
 exact wq1 R R fun w hw => ⟨R, hw.weak zn⟩
 refine wck (wqt (wcr (asg R R (wnt (wcs (wcr (wlq (v := .agg #[iv a_d.Size, (sl v1a)]) (plb Zc pz R R R) R (bdO t0 fun v3 hv3 t0 => (wlc (cz0 ZtL R fun w hw => Zim w a_d v1a (ra r1 hw) hv3) R fun _ => (mv R R (wnt (gdO t0 fun g1 t0 => (Zn t0 fun y1 l1 t0 => (wj (J := Int) (X := Unit) (fun z => y1 = z) (fun z _ => [(5, iv z)]) (fun _ _ => []) ?_ ?_))))))))))))))
 refine wcb (wcf (X := Unit) l1 (fun k1 s1 x1l => [(2, ptr b1 0), (3, ptr b2 0), (5, iv s1), (20, iv v3), (21, iv ((k1 : Nat) : Int))]) (fun k1 s1 x1l => [box b2 [iv a_d.Size, (sl v1a)], box b1 [iv a_b.Size, (sl v0a)]]) () (su5 R R R R R) so2 fun k1 s1 x1l hN1 l1 => ?_)
 by_cases hk1 : k1 < (v3).toNat
 refine fos l1 hk1 fun _ t1 l1 => ?_
 unfold ZcB at t1
 have c1 : (decide (((k1 : Nat) : Int) < v3)) = true := ddt (by omega)
 refine wcr (wlq (pls R R) R (wnt (wcs (wft R c1 (wck (wqt (wcs (wcb (wcr (mv R R (asg R R (wnt (wcr (wlq (v := .agg #[iv a_d.Size, (sl v1a)]) (plb Zc pz R R R) R (mv R R (bdO t1 fun v4 hv4 t1 => (wlc (cz1 ZvV R fun w hw => Zm3 w a_d v1a (ra r1 hw) ((k1 : Nat) : Int) hv4) R fun x4 => (mv R R (wlq (pex R R) R (wlq (pex R R) R (wle (eal (cs := [iv 0, (sl hn)]) Zau) R fun b3 => (wls (sbx (cs' := [iv v4.1.Size, (sl x4)]) Zc pz R R R R R R R) (asg R R (wnt (wcg (mv R R (wlq (v := .agg #[iv a_b.Size, (sl v0a)]) (plb Zc pk3 R R R) R (wlq (v := .agg #[iv v4.1.Size, (sl x4)]) (plb Zc pz R R R) R (bdO t1 fun v5 hv5 t1 => (wlc (cz0 ZvH R fun w hw => Zl1 w a_b v0a (ra r0 hw) v4.1 x4 (Rg.on (rgo pk1) hw) hv5) R fun _ => (wlq (Zk2 R R) R (asg R R (wln (wqb (wqt (wcg (wlq (Zj R R (by omega)) R ?_)))))))))))))))))))))))))))))))))))))
 exact mv R R (wln (Zk hk1 (stpN l1 t1) () (su5 R R R R R) (zc pk2 (zc pk2 zn))))
 have c1 : (decide (((k1 : Nat) : Int) < v3)) = false := ddf (by omega)
 have en1 := foe l1 hk1
 exact wcr (wlq (pls R R) R (wnt (wcs (wff R c1 (wcx (wqe (wqe (wbx (wjm _ () (Sum.inl.inj en1) (su1 R) zn)))))))))
 intro e1 _ hp
 obtain rfl : e1 = y1 := hp.symm
 refine wqt (wcr (mv R R (asg R R (wnt (wct ?_)))))
 obtain rfl := oi t0
 exact wq1 R R fun w hw => ⟨R, hw.weak zn⟩

theorem Zok (w : World) (a_e : GEntry) (v0a : Hd) (r0 : rdF w (dm w []) (sl v0a) a_e.Block.Cells) (a_f : GEntry) (v1a : Hd) (r1 : rdF w (dm w []) (sl v1a) a_f.Block.Cells) {r : Int} (t0 : ZeT a_e a_f = some r) : Calls Tryz.prog 143 #[.agg #[.int .i64 a_e.Owner, .int .i64 a_e.Day, .int .i64 a_e.Block.Size, (sl v0a)], .agg #[.int .i64 a_f.Owner, .int .i64 a_f.Day, .int .i64 a_f.Block.Size, (sl v1a)]] w fun e w' => e = .returned (.int .i64 r) ∧ SH w [] [] w' := by
 refine cwc (args := [_, _]) Tryz.func143 R Tryz.ntmps143 R ?_
 unfold ZeT at t0
 refine wcr (wle (Zg R R) R fun b1 => (wle (Zg R R) R fun b2 => (asg R R (wnt (wcs (wcb (wcs (bdO t0 fun y1 t1 t0 => (wj (J := Bool) (X := Unit) (fun z => y1 = z) (fun z _ => [(2, ptr b1 0), (3, ptr b2 0), (5, .bool z)]) (fun _ _ => [box b2 [iv a_f.Owner, iv a_f.Day, iv a_f.Block.Size, (sl v1a)], box b1 [iv a_e.Owner, iv a_e.Day, iv a_e.Block.Size, (sl v0a)]]) ?_ ?_)))))))))
 refine wcg (wlq (v := .agg #[iv a_e.Owner, iv a_e.Day, iv a_e.Block.Size, (sl v0a)]) (plb Za0 pk1 R R R) R (bdO t1 fun v1 hv1 t1 => (wlc (cz0 ZsR R fun w hw => Ziz w a_e v0a (ra r0 hw) hv1) R fun _ => (wlq (Zd R) R (mv R R (wlo (t := 9) t1 R (fun h1 t1 => ?_) fun h1 t1 => ?_))))))
 exact wgf (j := 3) R R R R R (wgf (j := 3) R R R R R (wgf (j := 3) R R R R R (wlq (pit R R) R (mv R R (wgf (j := 8) R R R R R (wgf (j := 8) R R R R R (wgf (j := 8) R R R R R (wgf (j := 8) R R R R R (wgf (j := 8) R R R R R (wgf (j := 8) R R R R R (wgf (j := 8) R R R R R (wlq (pit R R) R (asg R R (wln (wjm _ () (mtE t1) (su3 R R R) so2)))))))))))))))
 refine wgn (j := 3) R R R (wlq (v := .agg #[iv a_f.Owner, iv a_f.Day, iv a_f.Block.Size, (sl v1a)]) (plb Za0 pz R R R) R (bdO t1 fun v2 hv2 t1 => (wgn (j := 3) R R R (wlc (cz0 ZsR R fun w hw => Ziz w a_f v1a (ra r1 hw) hv2) R (fun _ => (wgn (j := 3) R R R (wlq (Zd R) R (wlq (pif R R) R (mv R R (wlo (t := 14) t1 R (fun h2 t1 => ?_) fun h2 t1 => ?_))))))))))
 exact wgf (j := 8) R R R R R (wgf (j := 8) R R R R R (wgf (j := 8) R R R R R (wgf (j := 8) R R R R R (wgf (j := 8) R R R R R (wgf (j := 8) R R R R R (wgf (j := 8) R R R R R (wlq (pit R R) R (asg R R (wln (wjm _ () (mtE t1) (su3 R R R) so2))))))))))
 exact wgn (j := 8) R R R (wlq (pof ZaJ R) R (wgn (j := 8) R R R (wlq (pof ZM R) R (wgn (j := 8) R R R (wlq (v := iv a_e.Block.Size) (plx tk_3 pk1 R R) R (wgn (j := 8) R R R (wlq (pof ZaJ R) R (wgn (j := 8) R R R (wlq (pof ZM R) R (wgn (j := 8) R R R (wlq (v := iv a_f.Block.Size) (plx tk_3 pz R R) R (wgn (j := 8) R R R (wlq (ZcD R R) R (wlq (pif R R) R (asg R R (wln (wjm _ () (mtE t1) (su3 R R R) so2)))))))))))))))))
 intro j1 _ hp
 obtain rfl : j1 = y1 := hp.symm
 refine wqt (wcO t0 R (fun h3 t0 => ?_) fun h3 t0 => ?_)
 refine wcr (asg R R (wnt (wct (wbr (wqr ?_)))))
 obtain rfl := oi t0
 exact wq1 R R fun w hw => ⟨R, hw.weak zn⟩
 refine wcr (wlq (pof ZaJ R) R (wlq (v := .agg #[iv a_e.Block.Size, (sl v0a)]) (plb Zc pk1 R R R) R (wlq (pof ZaJ R) R (wlq (v := .agg #[iv a_f.Block.Size, (sl v1a)]) (plb Zc pz R R R) R (bdO t0 fun v3 hv3 t0 => (wlc (cz0 ZvL R fun w hw => ZkB w a_e.Block v0a (ra r0 hw) a_f.Block v1a (ra r1 hw) hv3) R fun _ => (asg R R (wnt (wcO t0 R (fun h4 t0 => ?_) fun h4 t0 => ?_)))))))))
 refine wcr (asg R R (wnt (wct (wbr (wqr ?_)))))
 obtain rfl := oi t0
 exact wq1 R R fun w hw => ⟨R, hw.weak zn⟩
 refine wcs (wcd [box b2 [iv a_f.Owner, iv a_f.Day, iv a_f.Block.Size, (sl v1a)], box b1 [iv a_e.Owner, iv a_e.Day, iv a_e.Block.Size, (sl v0a)]] 13 mixed (aq 0 R (pof ZaJ R) so2 R (aq (v := .agg #[iv a_e.Block.Size, (sl v0a)]) 1 R (plb Zc pk1 R R R) so2 R (aq 2 R (pof ZaJ R) so2 R (aq (v := .agg #[iv a_f.Block.Size, (sl v1a)]) 3 R (plb Zc pz R R R) so2 R (aq 6 R (pof ZaJ R) so2 R (aq 7 R (pof Zv R) so2 R (aq (v := (sl v0a)) 8 R (plx ZN pk1 R R) so2 R (aq 9 R (pln (rga r0) ZU R) so2 R (aq 10 R (Zex R R) so2 R (a1 4 (bdO t0 fun v4 hv4 t0 => (wsc R (cz0 Zwn R fun w hw => ZkC w a_e.Block v0a (ra r0 hw) a_f.Block v1a (ra r1 hw) hv4) (fun _ => (zt so2)) R fun _ => (aq 5 R (Zex R R) so2 R (aq 11 R (ZeS R R) so2 R (aq 12 R (Zp R) so2 R (ae (wqt (wcO t0 R (fun h5 t0 => ?_) fun h5 t0 => ?_)))))))))))))))))))
 refine wcr (asg R R (wnt (wct (wbr (wqr ?_)))))
 obtain rfl := oi t0
 exact wq1 R R fun w hw => ⟨R, hw.weak zn⟩
 refine wck (wqb (wqt (wcr (asg R R (wnt (wct ?_))))))
 obtain rfl := oi t0
 exact wq1 R R fun w hw => ⟨R, hw.weak zn⟩

theorem ZqQ (w : World) (a_e : GEntry) (v0a : Hd) (r0 : rdF w (dm w []) (sl v0a) a_e.Block.Cells) (a_f : GEntry) (v1a : Hd) (r1 : rdF w (dm w []) (sl v1a) a_f.Block.Cells) {r : Bool} (t0 : Zgb a_e a_f = some r) : Calls Tryz.prog 117 #[.agg #[.int .i64 a_e.Owner, .int .i64 a_e.Day, .int .i64 a_e.Block.Size, (sl v0a)], .agg #[.int .i64 a_f.Owner, .int .i64 a_f.Day, .int .i64 a_f.Block.Size, (sl v1a)]] w fun e w' => e = .returned (.bool r) ∧ SH w [] [] w' := by
 refine cwc (args := [_, _]) Tryz.func117 R Tryz.ntmps117 R ?_
 unfold Zgb at t0
 refine wcr (wle (Zg R R) R fun b1 => (wle (Zg R R) R fun b2 => (asg R R (wnt (wcs (bdO t0 fun y1 t1 t0 => (wj (J := Bool) (X := Unit) (fun z => y1 = z) (fun z _ => [(4, .bool z)]) (fun _ _ => []) ?_ ?_)))))))
 refine wcg (wlq (pof ZdI R) R (wlq (v := iv a_e.Owner) (plx tk_3 pk1 R R) R (wlq (pof ZdI R) R (wlq (v := iv a_f.Owner) (plx tk_3 pz R R) R (wlq (ZcD R R) R (mv R R (wlo (t := 10) t1 R (fun h1 t1 => ?_) fun h1 t1 => ?_)))))))
 refine wgn (j := 5) R R R (wlq (pof Zb5 R) R (wgn (j := 5) R R R (wlq (v := iv a_e.Day) (plx tk_3 pk1 R R) R (wgn (j := 5) R R R (wlq (pof Zb5 R) R (wgn (j := 5) R R R (wlq (v := iv a_f.Day) (plx tk_3 pz R R) R (wgn (j := 5) R R R (wlq (Zad R R) R (wlq (pit R R) R (mv R R (wlo (t := 17) t1 R (fun h2 t1 => ?_) fun h2 t1 => ?_))))))))))))
 exact wgn (j := 12) R R R (wlq (v := .agg #[iv a_e.Owner, iv a_e.Day, iv a_e.Block.Size, (sl v0a)]) (plb Za0 pk1 R R R) R (wgn (j := 12) R R R (wlq (v := .agg #[iv a_f.Owner, iv a_f.Day, iv a_f.Block.Size, (sl v1a)]) (plb Za0 pz R R R) R (bdO t1 fun v1 hv1 t1 => (wgn (j := 12) R R R (wlc (cz0 Zv8 R fun w hw => Zok w a_e v0a (ra r0 hw) a_f v1a (ra r1 hw) hv1) R (fun _ => (wgn (j := 12) R R R (wlq (ZeS R R) R (wlq (pit R R) R (asg R R (wln (wjm _ () (mtE t1) (su1 R) zn)))))))))))))
 exact wgf (j := 12) R R R R R (wgf (j := 12) R R R R R (wgf (j := 12) R R R R R (wgf (j := 12) R R R R R (wlq (pif R R) R (asg R R (wln (wjm _ () (mtE t1) (su1 R) zn)))))))
 exact wgf (j := 5) R R R R R (wgf (j := 5) R R R R R (wgf (j := 5) R R R R R (wgf (j := 5) R R R R R (wgf (j := 5) R R R R R (wlq (pif R R) R (mv R R (wgf (j := 12) R R R R R (wgf (j := 12) R R R R R (wgf (j := 12) R R R R R (wgf (j := 12) R R R R R (wlq (pif R R) R (asg R R (wln (wjm _ () (mtE t1) (su1 R) zn))))))))))))))
 intro j1 _ hp
 obtain rfl : j1 = y1 := hp.symm
 refine wqt (wct ?_)
 obtain rfl := oi t0
 exact wq1 R R fun w hw => ⟨R, hw.weak zn⟩

theorem ZqF (w : World) (a_g : GGuild) (v0a : Hd) (r0 : rdF w (dm w []) (sl v0a) a_g.Members) (v1a : Hd) (r1 : rdF w (dm w []) (sl v1a) a_g.Stock) (v2a : Hd) (u2a : List Value) (r2 : RdL w (dm w []) (sl v2a) u2a a_g.Entries) (v3a : Hd) (r3 : rdF w (dm w []) (sl v3a) a_g.Books) (a_number : Int) (a_day : Int) (a_b : GBlock) (v4a : Hd) (r4 : rdF w (dm w []) (sl v4a) a_b.Cells) {r : GGuild × Bool} (t0 : Zht a_g a_number a_day a_b = some r) : Calls Tryz.prog 86 #[.agg #[(sl v0a), (sl v1a), (sl v2a), (sl v3a), .int .i64 a_g.Round, .int .i64 a_g.Year], .int .i64 a_number, .int .i64 a_day, .agg #[.int .i64 a_b.Size, (sl v4a)]] w fun e w' => ∃ x : Hd × Hd × Hd × (List Value) × Hd, e = .returned (.tuple #[.agg #[(sl x.1), (sl x.2.1), (sl x.2.2.1), (sl x.2.2.2.2), .int .i64 r.1.Round, .int .i64 r.1.Year], .bool r.2]) ∧ SH w [] [ownF (sl x.1) r.1.Members, ownF (sl x.2.1) r.1.Stock, own (sl x.2.2.1) x.2.2.2.1 r.1.Entries, ownF (sl x.2.2.2.2) r.1.Books] w' := by
 refine cwc (args := [_, _, _, _]) Tryz.func86 R Tryz.ntmps86 R ?_
 unfold Zht at t0
 refine wcr (wle (Zg R R) R fun b1 => (wle (Zg R R) R fun b2 => (wle (eal (cs := [(sl hn), (sl hn), (sl hn), (sl hn), iv 0, iv 0]) ZE) R fun b3 => (asg R R (wnt (wcs (bdO t0 fun v1 hv1 t0 => (bdO t0 fun v2 hv2 t0 => (wcj (X := Nat × Nat × Hd × (Hd × Hd × Hd × (List Value) × Hd)) (fun _ => True) (fun z => [(4, ptr b1 0), (8, ptr b3 0), (10, ptr z.1 0), (11, ptr z.2.1 0)]) (fun z => [box z.2.1 [iv a_number, iv a_day, iv v2.Size, (sl z.2.2.1)], box z.1 [(sl z.2.2.2.1), (sl z.2.2.2.2.1), (sl z.2.2.2.2.2.1), (sl z.2.2.2.2.2.2.2), iv v1.Round, iv v1.Year], ownF (sl z.2.2.1) v2.Cells, ownF (sl z.2.2.2.1) v1.Members, ownF (sl z.2.2.2.2.1) v1.Stock, own (sl z.2.2.2.2.2.1) z.2.2.2.2.2.2.1 v1.Entries, ownF (sl z.2.2.2.2.2.2.2) v1.Books, box b3 [(sl hn), (sl hn), (sl hn), (sl hn), iv 0, iv 0], box b1 [(sl v0a), (sl v1a), (sl v2a), (sl v3a), iv a_g.Round, iv a_g.Year]]) ?_ ?_)))))))))
 refine wcd [box b3 [(sl hn), (sl hn), (sl hn), (sl hn), iv 0, iv 0], box b2 [iv a_b.Size, (sl v4a)], box b1 [(sl v0a), (sl v1a), (sl v2a), (sl v3a), iv a_g.Round, iv a_g.Year]] 11 mixed (Zq9 [⟨7, #[true, false, true, true, true, false, false, false, false, false, false], Unit, fun _ => [(4, ptr b1 0), (8, ptr b3 0), (14, .agg #[(sl v0a), (sl v1a), (sl v2a), (sl v3a), iv a_g.Round, iv a_g.Year]), (16, iv a_number), (17, iv a_day), (18, .agg #[iv a_b.Size, (sl v4a)])], fun _ => [box b3 [(sl hn), (sl hn), (sl hn), (sl hn), iv 0, iv 0], box b2 [iv a_b.Size, (sl v4a)], box b1 [(sl v0a), (sl v1a), (sl v2a), (sl v3a), iv a_g.Round, iv a_g.Year]]⟩, ⟨6, #[true, true, true, true, true, false, false, false, false, false, false], Hd × Hd × Hd × (List Value) × Hd, fun z => [(4, ptr b1 0), (8, ptr b3 0), (15, .agg #[(sl z.1), (sl z.2.1), (sl z.2.2.1), (sl z.2.2.2.2), iv v1.Round, iv v1.Year]), (16, iv a_number), (17, iv a_day), (18, .agg #[iv a_b.Size, (sl v4a)])], fun z => [ownF (sl z.1) v1.Members, ownF (sl z.2.1) v1.Stock, own (sl z.2.2.1) z.2.2.2.1 v1.Entries, ownF (sl z.2.2.2.2) v1.Books, box b3 [(sl hn), (sl hn), (sl hn), (sl hn), iv 0, iv 0], box b2 [iv a_b.Size, (sl v4a)], box b1 [(sl v0a), (sl v1a), (sl v2a), (sl v3a), iv a_g.Round, iv a_g.Year]]⟩, ⟨6, #[true, false, true, true, true, false, false, true, false, false, false], Nat, fun z => [(4, ptr b1 0), (8, ptr b3 0), (10, ptr z 0), (14, .agg #[(sl v0a), (sl v1a), (sl v2a), (sl v3a), iv a_g.Round, iv a_g.Year]), (16, iv a_number), (17, iv a_day), (18, .agg #[iv a_b.Size, (sl v4a)])], fun z => [box z [(sl hn), (sl hn), (sl hn), (sl hn), iv 0, iv 0], box b3 [(sl hn), (sl hn), (sl hn), (sl hn), iv 0, iv 0], box b2 [iv a_b.Size, (sl v4a)], box b1 [(sl v0a), (sl v1a), (sl v2a), (sl v3a), iv a_g.Round, iv a_g.Year]]⟩, ⟨6, #[true, false, true, true, true, false, false, false, true, false, false], Nat, fun z => [(4, ptr b1 0), (8, ptr b3 0), (11, ptr z 0), (14, .agg #[(sl v0a), (sl v1a), (sl v2a), (sl v3a), iv a_g.Round, iv a_g.Year]), (16, iv a_number), (17, iv a_day), (18, .agg #[iv a_b.Size, (sl v4a)])], fun z => [box z [iv 0, iv 0, iv 0, (sl hn)], box b3 [(sl hn), (sl hn), (sl hn), (sl hn), iv 0, iv 0], box b2 [iv a_b.Size, (sl v4a)], box b1 [(sl v0a), (sl v1a), (sl v2a), (sl v3a), iv a_g.Round, iv a_g.Year]]⟩, ⟨4, #[true, true, true, true, true, true, true, false, false, false, false], (Hd × Hd × Hd × (List Value) × Hd) × Hd, fun z => [(4, ptr b1 0), (8, ptr b3 0), (15, .agg #[(sl z.1.1), (sl z.1.2.1), (sl z.1.2.2.1), (sl z.1.2.2.2.2), iv v1.Round, iv v1.Year]), (20, .agg #[iv a_number, iv a_day, iv v2.Size, (sl z.2)])], fun z => [ownF (sl z.2) v2.Cells, ownF (sl z.1.1) v1.Members, ownF (sl z.1.2.1) v1.Stock, own (sl z.1.2.2.1) z.1.2.2.2.1 v1.Entries, ownF (sl z.1.2.2.2.2) v1.Books, box b3 [(sl hn), (sl hn), (sl hn), (sl hn), iv 0, iv 0], box b2 [iv a_b.Size, (sl v4a)], box b1 [(sl v0a), (sl v1a), (sl v2a), (sl v3a), iv a_g.Round, iv a_g.Year]]⟩, ⟨5, #[true, true, true, true, true, false, false, true, false, false, false], Nat × (Hd × Hd × Hd × (List Value) × Hd), fun z => [(4, ptr b1 0), (8, ptr b3 0), (10, ptr z.1 0), (15, .agg #[(sl z.2.1), (sl z.2.2.1), (sl z.2.2.2.1), (sl z.2.2.2.2.2), iv v1.Round, iv v1.Year]), (16, iv a_number), (17, iv a_day), (18, .agg #[iv a_b.Size, (sl v4a)])], fun z => [box z.1 [(sl hn), (sl hn), (sl hn), (sl hn), iv 0, iv 0], ownF (sl z.2.1) v1.Members, ownF (sl z.2.2.1) v1.Stock, own (sl z.2.2.2.1) z.2.2.2.2.1 v1.Entries, ownF (sl z.2.2.2.2.2) v1.Books, box b3 [(sl hn), (sl hn), (sl hn), (sl hn), iv 0, iv 0], box b2 [iv a_b.Size, (sl v4a)], box b1 [(sl v0a), (sl v1a), (sl v2a), (sl v3a), iv a_g.Round, iv a_g.Year]]⟩, ⟨5, #[true, true, true, true, true, false, false, false, true, false, false], Nat × (Hd × Hd × Hd × (List Value) × Hd), fun z => [(4, ptr b1 0), (8, ptr b3 0), (11, ptr z.1 0), (15, .agg #[(sl z.2.1), (sl z.2.2.1), (sl z.2.2.2.1), (sl z.2.2.2.2.2), iv v1.Round, iv v1.Year]), (16, iv a_number), (17, iv a_day), (18, .agg #[iv a_b.Size, (sl v4a)])], fun z => [box z.1 [iv 0, iv 0, iv 0, (sl hn)], ownF (sl z.2.1) v1.Members, ownF (sl z.2.2.1) v1.Stock, own (sl z.2.2.2.1) z.2.2.2.2.1 v1.Entries, ownF (sl z.2.2.2.2.2) v1.Books, box b3 [(sl hn), (sl hn), (sl hn), (sl hn), iv 0, iv 0], box b2 [iv a_b.Size, (sl v4a)], box b1 [(sl v0a), (sl v1a), (sl v2a), (sl v3a), iv a_g.Round, iv a_g.Year]]⟩, ⟨5, #[true, false, true, true, true, false, false, true, true, false, false], Nat × Nat, fun z => [(4, ptr b1 0), (8, ptr b3 0), (10, ptr z.1 0), (11, ptr z.2 0), (14, .agg #[(sl v0a), (sl v1a), (sl v2a), (sl v3a), iv a_g.Round, iv a_g.Year]), (16, iv a_number), (17, iv a_day), (18, .agg #[iv a_b.Size, (sl v4a)])], fun z => [box z.2 [iv 0, iv 0, iv 0, (sl hn)], box z.1 [(sl hn), (sl hn), (sl hn), (sl hn), iv 0, iv 0], box b3 [(sl hn), (sl hn), (sl hn), (sl hn), iv 0, iv 0], box b2 [iv a_b.Size, (sl v4a)], box b1 [(sl v0a), (sl v1a), (sl v2a), (sl v3a), iv a_g.Round, iv a_g.Year]]⟩, ⟨3, #[true, true, true, true, true, true, true, true, false, false, false], Nat × (Hd × Hd × Hd × (List Value) × Hd) × Hd, fun z => [(4, ptr b1 0), (8, ptr b3 0), (10, ptr z.1 0), (15, .agg #[(sl z.2.1.1), (sl z.2.1.2.1), (sl z.2.1.2.2.1), (sl z.2.1.2.2.2.2), iv v1.Round, iv v1.Year]), (20, .agg #[iv a_number, iv a_day, iv v2.Size, (sl z.2.2)])], fun z => [box z.1 [(sl hn), (sl hn), (sl hn), (sl hn), iv 0, iv 0], ownF (sl z.2.2) v2.Cells, ownF (sl z.2.1.1) v1.Members, ownF (sl z.2.1.2.1) v1.Stock, own (sl z.2.1.2.2.1) z.2.1.2.2.2.1 v1.Entries, ownF (sl z.2.1.2.2.2.2) v1.Books, box b3 [(sl hn), (sl hn), (sl hn), (sl hn), iv 0, iv 0], box b2 [iv a_b.Size, (sl v4a)], box b1 [(sl v0a), (sl v1a), (sl v2a), (sl v3a), iv a_g.Round, iv a_g.Year]]⟩, ⟨3, #[true, true, true, true, true, true, true, false, true, false, false], Nat × (Hd × Hd × Hd × (List Value) × Hd) × Hd, fun z => [(4, ptr b1 0), (8, ptr b3 0), (11, ptr z.1 0), (15, .agg #[(sl z.2.1.1), (sl z.2.1.2.1), (sl z.2.1.2.2.1), (sl z.2.1.2.2.2.2), iv v1.Round, iv v1.Year]), (20, .agg #[iv a_number, iv a_day, iv v2.Size, (sl z.2.2)])], fun z => [box z.1 [iv 0, iv 0, iv 0, (sl hn)], ownF (sl z.2.2) v2.Cells, ownF (sl z.2.1.1) v1.Members, ownF (sl z.2.1.2.1) v1.Stock, own (sl z.2.1.2.2.1) z.2.1.2.2.2.1 v1.Entries, ownF (sl z.2.1.2.2.2.2) v1.Books, box b3 [(sl hn), (sl hn), (sl hn), (sl hn), iv 0, iv 0], box b2 [iv a_b.Size, (sl v4a)], box b1 [(sl v0a), (sl v1a), (sl v2a), (sl v3a), iv a_g.Round, iv a_g.Year]]⟩, ⟨4, #[true, true, true, true, true, false, false, true, true, false, false], Nat × Nat × (Hd × Hd × Hd × (List Value) × Hd), fun z => [(4, ptr b1 0), (8, ptr b3 0), (10, ptr z.1 0), (11, ptr z.2.1 0), (15, .agg #[(sl z.2.2.1), (sl z.2.2.2.1), (sl z.2.2.2.2.1), (sl z.2.2.2.2.2.2), iv v1.Round, iv v1.Year]), (16, iv a_number), (17, iv a_day), (18, .agg #[iv a_b.Size, (sl v4a)])], fun z => [box z.2.1 [iv 0, iv 0, iv 0, (sl hn)], box z.1 [(sl hn), (sl hn), (sl hn), (sl hn), iv 0, iv 0], ownF (sl z.2.2.1) v1.Members, ownF (sl z.2.2.2.1) v1.Stock, own (sl z.2.2.2.2.1) z.2.2.2.2.2.1 v1.Entries, ownF (sl z.2.2.2.2.2.2) v1.Books, box b3 [(sl hn), (sl hn), (sl hn), (sl hn), iv 0, iv 0], box b2 [iv a_b.Size, (sl v4a)], box b1 [(sl v0a), (sl v1a), (sl v2a), (sl v3a), iv a_g.Round, iv a_g.Year]]⟩, ⟨2, #[true, true, true, true, true, true, true, true, true, false, false], Nat × Nat × (Hd × Hd × Hd × (List Value) × Hd) × Hd, fun z => [(4, ptr b1 0), (8, ptr b3 0), (10, ptr z.1 0), (11, ptr z.2.1 0), (15, .agg #[(sl z.2.2.1.1), (sl z.2.2.1.2.1), (sl z.2.2.1.2.2.1), (sl z.2.2.1.2.2.2.2), iv v1.Round, iv v1.Year]), (20, .agg #[iv a_number, iv a_day, iv v2.Size, (sl z.2.2.2)])], fun z => [box z.2.1 [iv 0, iv 0, iv 0, (sl hn)], box z.1 [(sl hn), (sl hn), (sl hn), (sl hn), iv 0, iv 0], ownF (sl z.2.2.2) v2.Cells, ownF (sl z.2.2.1.1) v1.Members, ownF (sl z.2.2.1.2.1) v1.Stock, own (sl z.2.2.1.2.2.1) z.2.2.1.2.2.2.1 v1.Entries, ownF (sl z.2.2.1.2.2.2.2) v1.Books, box b3 [(sl hn), (sl hn), (sl hn), (sl hn), iv 0, iv 0], box b2 [iv a_b.Size, (sl v4a)], box b1 [(sl v0a), (sl v1a), (sl v2a), (sl v3a), iv a_g.Round, iv a_g.Year]]⟩, ⟨1, #[true, true, true, true, true, true, true, true, true, true, false], Nat × Nat × Hd × (Hd × Hd × Hd × (List Value) × Hd), fun z => [(4, ptr b1 0), (8, ptr b3 0), (10, ptr z.1 0), (11, ptr z.2.1 0), (20, .agg #[iv a_number, iv a_day, iv v2.Size, (sl z.2.2.1)])], fun z => [box z.1 [(sl z.2.2.2.1), (sl z.2.2.2.2.1), (sl z.2.2.2.2.2.1), (sl z.2.2.2.2.2.2.2), iv v1.Round, iv v1.Year], box z.2.1 [iv 0, iv 0, iv 0, (sl hn)], ownF (sl z.2.2.1) v2.Cells, ownF (sl z.2.2.2.1) v1.Members, ownF (sl z.2.2.2.2.1) v1.Stock, own (sl z.2.2.2.2.2.1) z.2.2.2.2.2.2.1 v1.Entries, ownF (sl z.2.2.2.2.2.2.2) v1.Books, box b3 [(sl hn), (sl hn), (sl hn), (sl hn), iv 0, iv 0], box b2 [iv a_b.Size, (sl v4a)], box b1 [(sl v0a), (sl v1a), (sl v2a), (sl v3a), iv a_g.Round, iv a_g.Year]]⟩] ?_ fun H => ?_)
 refine List.forall_mem_cons.2 ⟨fun H => ?_, ?_⟩
 intro _
 dsimp only
 refine wa_3 (i := 1) (j := 7) (k := 8) (by kernel_rfl) ?_ ?_ ?_
 exact wsc R (Zan Zg3 R fun w hw => ZZ w a_g v0a (ra r0 hw) v1a (ra r1 hw) v2a u2a (ra r2 hw) v3a (ra r3 hw) hv1) (fun _ => (zt (zc pk4 (zc pk4 (zc pk4 zn))))) R fun x1o => waj H 1 R (nl R) x1o R R (su6 R R R R R R) so7
 exact wse R (eal (cs := [(sl hn), (sl hn), (sl hn), (sl hn), iv 0, iv 0]) ZE) (fun _ => (zt (zc pk1 (zc pk1 (zc pk1 zn))))) R fun b7o => waj H 2 R (nl R) b7o R R (su7 R R R R R R R) so4
 exact wse R (eal (cs := [iv 0, iv 0, iv 0, (sl hn)]) Zgl) (fun _ => (zt (zc pk1 (zc pk1 (zc pk1 zn))))) R fun b8o => waj H 3 R (nl R) b8o R R (su7 R R R R R R R) so4
 refine List.forall_mem_cons.2 ⟨fun H => ?_, ?_⟩
 intro z
 dsimp only
 refine wa_3 (i := 5) (j := 7) (k := 8) (by kernel_rfl) ?_ ?_ ?_
 exact wsc R (cz1 ZlF R fun w hw => Zbk w a_b v4a (ra r4 hw) hv2) (fun _ => (zt (zc pk5 (zc pk5 (zc pk5 zn))))) R fun x5o => aq 6 R (Zl R (Zf2 a_number a_day v2.Size x5o)) (zc pk5 (zc pk5 (zc pk5 zn))) R (waj H 4 R (nl R) (z, x5o) R R (su4 R R R R) so8)
 exact wse R (eal (cs := [(sl hn), (sl hn), (sl hn), (sl hn), iv 0, iv 0]) ZE) (fun _ => (zt (zc pk5 (zc pk5 (zc pk5 zn))))) R fun b7o => waj H 5 R (nl R) (b7o, z) R R (su7 R R R R R R R) so8
 exact wse R (eal (cs := [iv 0, iv 0, iv 0, (sl hn)]) Zgl) (fun _ => (zt (zc pk5 (zc pk5 (zc pk5 zn))))) R fun b8o => waj H 6 R (nl R) (b8o, z) R R (su7 R R R R R R R) so8
 refine List.forall_mem_cons.2 ⟨fun H => ?_, ?_⟩
 intro z
 dsimp only
 refine wa_2 (i := 1) (j := 8) (by kernel_rfl) ?_ ?_
 exact wsc R (Zan Zg3 R fun w hw => ZZ w a_g v0a (ra r0 hw) v1a (ra r1 hw) v2a u2a (ra r2 hw) v3a (ra r3 hw) hv1) (fun _ => (zt (zc pk5 (zc pk5 (zc pk5 zn))))) R fun x1o => waj H 5 R (nl R) (z, x1o) R R (su7 R R R R R R R) (zc pk4 so7)
 exact wse R (eal (cs := [iv 0, iv 0, iv 0, (sl hn)]) Zgl) (fun _ => (zt (zc pk2 (zc pk2 (zc pk2 zn))))) R fun b8o => waj H 7 R (nl R) (z, b8o) R R (su8 R R R R R R R R) so5
 refine List.forall_mem_cons.2 ⟨fun H => ?_, ?_⟩
 intro z
 dsimp only
 refine wa_2 (i := 1) (j := 7) (by kernel_rfl) ?_ ?_
 exact wsc R (Zan Zg3 R fun w hw => ZZ w a_g v0a (ra r0 hw) v1a (ra r1 hw) v2a u2a (ra r2 hw) v3a (ra r3 hw) hv1) (fun _ => (zt (zc pk5 (zc pk5 (zc pk5 zn))))) R fun x1o => waj H 6 R (nl R) (z, x1o) R R (su7 R R R R R R R) (zc pk4 so7)
 exact wse R (eal (cs := [(sl hn), (sl hn), (sl hn), (sl hn), iv 0, iv 0]) ZE) (fun _ => (zt (zc pk2 (zc pk2 (zc pk2 zn))))) R fun b7o => waj H 7 R (nl R) (b7o, z) R R (su8 R R R R R R R R) (zc pk1 so4)
 refine List.forall_mem_cons.2 ⟨fun H => ?_, ?_⟩
 intro z
 dsimp only
 refine wa_2 (i := 7) (j := 8) (by kernel_rfl) ?_ ?_
 exact wse R (eal (cs := [(sl hn), (sl hn), (sl hn), (sl hn), iv 0, iv 0]) ZE) (fun _ => (zt (zc pk6 (zc pk6 (zc pk6 zn))))) R fun b7o => waj H 8 R (nl R) (b7o, z.1, z.2) R R (su5 R R R R R) so9
 exact wse R (eal (cs := [iv 0, iv 0, iv 0, (sl hn)]) Zgl) (fun _ => (zt (zc pk6 (zc pk6 (zc pk6 zn))))) R fun b8o => waj H 9 R (nl R) (b8o, z.1, z.2) R R (su5 R R R R R) so9
 refine List.forall_mem_cons.2 ⟨fun H => ?_, ?_⟩
 intro z
 dsimp only
 refine wa_2 (i := 5) (j := 8) (by kernel_rfl) ?_ ?_
 exact wsc R (cz1 ZlF R fun w hw => Zbk w a_b v4a (ra r4 hw) hv2) (fun _ => (zt (zc pk6 (zc pk6 (zc pk6 zn))))) R fun x5o => aq 6 R (Zl R (Zf2 a_number a_day v2.Size x5o)) (zc pk6 (zc pk6 (zc pk6 zn))) R (waj H 8 R (nl R) (z.1, z.2, x5o) R R (su5 R R R R R) (zc pk1 so8))
 exact wse R (eal (cs := [iv 0, iv 0, iv 0, (sl hn)]) Zgl) (fun _ => (zt (zc pk6 (zc pk6 (zc pk6 zn))))) R fun b8o => waj H 10 R (nl R) (z.1, b8o, z.2) R R (su8 R R R R R R R R) so9
 refine List.forall_mem_cons.2 ⟨fun H => ?_, ?_⟩
 intro z
 dsimp only
 refine wa_2 (i := 5) (j := 7) (by kernel_rfl) ?_ ?_
 exact wsc R (cz1 ZlF R fun w hw => Zbk w a_b v4a (ra r4 hw) hv2) (fun _ => (zt (zc pk6 (zc pk6 (zc pk6 zn))))) R fun x5o => aq 6 R (Zl R (Zf2 a_number a_day v2.Size x5o)) (zc pk6 (zc pk6 (zc pk6 zn))) R (waj H 9 R (nl R) (z.1, z.2, x5o) R R (su5 R R R R R) (zc pk1 so8))
 exact wse R (eal (cs := [(sl hn), (sl hn), (sl hn), (sl hn), iv 0, iv 0]) ZE) (fun _ => (zt (zc pk6 (zc pk6 (zc pk6 zn))))) R fun b7o => waj H 10 R (nl R) (b7o, z.1, z.2) R R (su8 R R R R R R R R) (zc pk1 so8)
 refine List.forall_mem_cons.2 ⟨fun H => ?_, ?_⟩
 intro z
 dsimp only
 exact a1 1 (wsc R (Zan Zg3 R fun w hw => ZZ w a_g v0a (ra r0 hw) v1a (ra r1 hw) v2a u2a (ra r2 hw) v3a (ra r3 hw) hv1) (fun _ => (zt (zc pk6 (zc pk6 (zc pk6 zn))))) R fun x1o => (waj H 10 R (nl R) (z.1, z.2, x1o) R R (su8 R R R R R R R R) (zc pk4 (zc pk4 so7))))
 refine List.forall_mem_cons.2 ⟨fun H => ?_, ?_⟩
 intro z
 dsimp only
 exact a1 8 (wse R (eal (cs := [iv 0, iv 0, iv 0, (sl hn)]) Zgl) (fun _ => (zt (zc pk7 (zc pk7 (zc pk7 zn))))) R fun b8o => (waj H 11 R (nl R) (z.1, b8o, z.2.1, z.2.2) R R (su6 R R R R R R) so10))
 refine List.forall_mem_cons.2 ⟨fun H => ?_, ?_⟩
 intro z
 dsimp only
 exact a1 7 (wse R (eal (cs := [(sl hn), (sl hn), (sl hn), (sl hn), iv 0, iv 0]) ZE) (fun _ => (zt (zc pk7 (zc pk7 (zc pk7 zn))))) R fun b7o => (waj H 11 R (nl R) (b7o, z.1, z.2.1, z.2.2) R R (su6 R R R R R R) (zc pk1 so9)))
 refine List.forall_mem_cons.2 ⟨fun H => ?_, ?_⟩
 intro z
 dsimp only
 exact a1 5 (wsc R (cz1 ZlF R fun w hw => Zbk w a_b v4a (ra r4 hw) hv2) (fun _ => (zt (zc pk7 (zc pk7 (zc pk7 zn))))) R fun x5o => (aq 6 R (Zl R (Zf2 a_number a_day v2.Size x5o)) (zc pk7 (zc pk7 (zc pk7 zn))) R (waj H 11 R (nl R) (z.1, z.2.1, z.2.2, x5o) R R (su6 R R R R R R) (zc pk1 (zc pk1 so8)))))
 refine List.forall_mem_cons.2 ⟨fun H => ?_, ?_⟩
 intro z
 dsimp only
 exact a1 9 (ZR R (sbx (cs' := [(sl z.2.2.1.1), (sl z.2.2.1.2.1), (sl z.2.2.1.2.2.1), (sl z.2.2.1.2.2.2.2), iv v1.Round, iv v1.Year]) Zb pk1 R R R R R R R) (zt (zc pk7 (zc pk7 (zc pk7 zn)))) (waj H 12 R (nl R) (z.1, z.2.1, z.2.2.2, z.2.2.1) R R (su5 R R R R R) so10))
 refine List.forall_mem_cons.2 ⟨fun H => ?_, ?_⟩
 intro z
 dsimp only
 exact a1 10 (ZR R (sbx (cs' := [iv a_number, iv a_day, iv v2.Size, (sl z.2.2.1)]) Za0 pk1 R R R R R R R) (zt (zc pk7 (zc pk7 (zc pk7 zn)))) (ae (wqm (z.1, z.2.1, z.2.2.1, z.2.2.2) trivial (su4 R R R R) (zc pz (zc pz (zc pz (zc pz (zc pz (zc pz (zc pz (zc pz (zc pk1 zn))))))))))))
 exact fun _ h => nomatch h
 exact aq (v := .agg #[(sl v0a), (sl v1a), (sl v2a), (sl v3a), iv a_g.Round, iv a_g.Year]) 0 R (plb Zb pk2 R R R) so3 R (aq 2 R (pom R) so3 R (aq 3 R (pom R) so3 R (aq (v := .agg #[iv a_b.Size, (sl v4a)]) 4 R (plb Zc pk1 R R R) so3 R (waj H 0 R (nl R) () R R (su6 R R R R R R) so3))))
 intro x1 _
 refine wqt (wcs (wcr (wlq (v := .agg #[(sl v0a), (sl v1a), (sl v2a), (sl v3a), iv a_g.Round, iv a_g.Year]) (plb Zb pk8 R R R) R (bdO t0 fun v3 hv3 t0 => (wlc (cz0 Zko R fun w hw => Zb3 w a_g v0a (ra r0 hw) v1a (ra r1 hw) v2a u2a (ra r2 hw) v3a (ra r3 hw) hv3) R fun _ => (wlq (Zd R) R (wnt (wcO t0 R (fun h1 t0 => ?_) fun h1 t0 => ?_))))))))
 refine wcr (wlq (v := .agg #[(sl x1.2.2.2.1), (sl x1.2.2.2.2.1), (sl x1.2.2.2.2.2.1), (sl x1.2.2.2.2.2.2.2), iv v1.Round, iv v1.Year]) (plb Zb pk1 R R R) R (wls (sbx (cs' := [(sl x1.2.2.2.1), (sl x1.2.2.2.2.1), (sl x1.2.2.2.2.2.1), (sl x1.2.2.2.2.2.2.2), iv v1.Round, iv v1.Year]) Zb pk7 R R R R R R R) (asg R R (wnt (wct (wqr ?_))))))
 obtain rfl := oi t0
 exact Zx R Zb R R pz R fun w hw => ⟨(x1.2.2.2.1, x1.2.2.2.2.1, x1.2.2.2.2.2.1, x1.2.2.2.2.2.2.1, x1.2.2.2.2.2.2.2), R, hw.weak (zc pk4 (zc pk4 (zc pk4 (zc pk4 zn))))⟩
 refine wck (wqt (wcs (wcr (wlq (pof ZQ R) R (wlq (v := (sl v2a)) (plx Zas pk8 R R) R (wlq (pln (rga r2) ZaC R) R (mv R R (wnt (gdO t0 fun g1 t0 => (sqO t0 fun y1 l1 t0 => (wj (J := Unit) (X := Unit) (fun z => y1 = .inl z) (fun _ _ => [(4, ptr b1 0), (8, ptr b3 0), (10, ptr x1.1 0), (11, ptr x1.2.1 0)]) (fun _ _ => [box x1.2.1 [iv a_number, iv a_day, iv v2.Size, (sl x1.2.2.1)], box x1.1 [(sl x1.2.2.2.1), (sl x1.2.2.2.2.1), (sl x1.2.2.2.2.2.1), (sl x1.2.2.2.2.2.2.2), iv v1.Round, iv v1.Year], ownF (sl x1.2.2.1) v2.Cells, ownF (sl x1.2.2.2.1) v1.Members, ownF (sl x1.2.2.2.2.1) v1.Stock, own (sl x1.2.2.2.2.2.1) x1.2.2.2.2.2.2.1 v1.Entries, ownF (sl x1.2.2.2.2.2.2.2) v1.Books, box b3 [(sl hn), (sl hn), (sl hn), (sl hn), iv 0, iv 0], box b1 [(sl v0a), (sl v1a), (sl v2a), (sl v3a), iv a_g.Round, iv a_g.Year]]) ?_ ?_)))))))))))
 refine wcb (wcf (X := Unit) l1 (fun k1 s1 x1l => [(4, ptr b1 0), (8, ptr b3 0), (10, ptr x1.1 0), (11, ptr x1.2.1 0), (26, (sl v2a)), (27, iv ((a_g.Entries.length : Nat) : Int)), (28, iv ((k1 : Nat) : Int))]) (fun k1 s1 x1l => [box x1.2.1 [iv a_number, iv a_day, iv v2.Size, (sl x1.2.2.1)], box x1.1 [(sl x1.2.2.2.1), (sl x1.2.2.2.2.1), (sl x1.2.2.2.2.2.1), (sl x1.2.2.2.2.2.2.2), iv v1.Round, iv v1.Year], ownF (sl x1.2.2.1) v2.Cells, ownF (sl x1.2.2.2.1) v1.Members, ownF (sl x1.2.2.2.2.1) v1.Stock, own (sl x1.2.2.2.2.2.1) x1.2.2.2.2.2.2.1 v1.Entries, ownF (sl x1.2.2.2.2.2.2.2) v1.Books, box b3 [(sl hn), (sl hn), (sl hn), (sl hn), iv 0, iv 0], box b1 [(sl v0a), (sl v1a), (sl v2a), (sl v3a), iv a_g.Round, iv a_g.Year]]) () (su7 R R R R R R R) so9 fun k1 s1 x1l hN1 l1 => ?_)
 by_cases hk1 : k1 < a_g.Entries.length
 refine fos l1 hk1 fun _ t1 l1 => ?_
 unfold Zg8 at t1
 have c1 : (decide (((k1 : Nat) : Int) < ((a_g.Entries.length : Nat) : Int))) = true := ddt (by omega)
 refine wcr (wlq (pls R R) R (wnt (wcs (wft R c1 (wck (wqt (wcs (wcb (wcr (wlq (Zm (k := k1) (rga r2) ZaC R R hk1) R (ZdM (rga r2) hk1 ?_)))))))))))
 rintro ⟨_, _, he1⟩
 obtain ⟨w1, hc1, _⟩ := ZaX.1 he1
 refine wlq (v := .agg #[iv ((gx a_g.Entries k1).Owner), iv ((gx a_g.Entries k1).Day), iv (((gx a_g.Entries k1).Block).Size), (sl w1)]) (Zb7 (rga r2) Za0 R hc1 R R R) R (wle (eal (cs := [iv 0, iv 0, iv 0, (sl hn)]) Zgl) R fun b4 => (wls (sbx (cs' := [iv ((gx a_g.Entries k1).Owner), iv ((gx a_g.Entries k1).Day), iv (((gx a_g.Entries k1).Block).Size), (sl w1)]) Za0 pz R R R R R R R) (wnt (wcr (wlq (v := .agg #[iv a_number, iv a_day, iv v2.Size, (sl x1.2.2.1)]) (plb Za0 pk1 R R R) R (wlq (v := .agg #[iv ((gx a_g.Entries k1).Owner), iv ((gx a_g.Entries k1).Day), iv (((gx a_g.Entries k1).Block).Size), (sl w1)]) (plb Za0 pz R R R) R (bdO t1 fun v4 hv4 t1 => (wlc (cz0 Zv3 R fun w hw => ZqQ w (GEntry.mk a_number a_day v2) x1.2.2.1 (Rg.on (rgo pk3) hw) (GEntry.mk ((gx a_g.Entries k1).Owner) ((gx a_g.Entries k1).Day) ((gx a_g.Entries k1).Block)) w1 (Rg.on (Zbg hc1 (rga r2) hk1) hw) hv4) R fun _ => (wnt (wcO t1 R (fun h2 t1 => ?_) fun h2 t1 => ?_))))))))))
 refine wcr (wlq (v := .agg #[(sl x1.2.2.2.1), (sl x1.2.2.2.2.1), (sl x1.2.2.2.2.2.1), (sl x1.2.2.2.2.2.2.2), iv v1.Round, iv v1.Year]) (plb Zb pk2 R R R) R (wls (sbx (cs' := [(sl x1.2.2.2.1), (sl x1.2.2.2.2.1), (sl x1.2.2.2.2.2.1), (sl x1.2.2.2.2.2.2.2), iv v1.Round, iv v1.Year]) Zb pk8 R R R R R R R) (asg R R (wnt (wct (wbr (wqr (wqr (wbr (wqr (wqr ?_)))))))))))
 replace t0 := lpR t0 l1 t1
 obtain rfl := oi t0
 exact Zx R Zb R R pz R fun w hw => ⟨(x1.2.2.2.1, x1.2.2.2.2.1, x1.2.2.2.2.2.1, x1.2.2.2.2.2.2.1, x1.2.2.2.2.2.2.2), R, hw.weak (zc pk5 (zc pk5 (zc pk5 (zc pk5 zn))))⟩
 refine wck (wqb (wqt (wcg (wlq (Zj R R (by omega)) R ?_))))
 exact mv R R (wln (Zk hk1 (stpN l1 t1) () (su7 R R R R R R R) (zc pk1 (zc pk1 (zc pk1 (zc pk1 (zc pk1 (zc pk1 (zc pk1 (zc pk1 (zc pk1 zn)))))))))))
 have c1 : (decide (((k1 : Nat) : Int) < ((a_g.Entries.length : Nat) : Int))) = false := ddf (by omega)
 have en1 := foe l1 hk1
 exact wcr (wlq (pls R R) R (wnt (wcs (wff R c1 (wcx (wqe (wqe (wbx (wjm _ () en1 (su4 R R R R) so9)))))))))
 intro e1 _ hp
 replace t0 := sqE (j := e1) t0 hp
 refine wqt (wcr (wlq (pof ZQ R) R (wlq (v := (sl x1.2.2.2.2.2.1)) (plx Zas pk1 R R) R (wlq (v := .agg #[iv a_number, iv a_day, iv v2.Size, (sl x1.2.2.1)]) (plb Za0 pz R R R) R (wle (ebs R (ZmQ a_number a_day v2.Size x1.2.2.1)) R fun b5 => (gdO t0 fun g2 t0 => (wle (Zdb (us := x1.2.2.2.2.2.2.1) (xs := v1.Entries) ZqU pk6 (Zjt (x := (GEntry.mk a_number a_day v2)) pk3) pz R R R g2) R fun x3 => (wlq (pof ZQ R) R (wls (sbx (cs' := [(sl x1.2.2.2.1), (sl x1.2.2.2.2.1), (sl x3), (sl x1.2.2.2.2.2.2.2), iv v1.Round, iv v1.Year]) Zas pk3 R R R R R R R) (wnt (wcr (wlq (v := .agg #[(sl v0a), (sl v1a), (sl v2a), (sl v3a), iv a_g.Round, iv a_g.Year]) (plb Zb pk8 R R R) R (wlq (v := .agg #[(sl x1.2.2.2.1), (sl x1.2.2.2.2.1), (sl x3), (sl x1.2.2.2.2.2.2.2), iv v1.Round, iv v1.Year]) (plb Zb pz R R R) R (bdO t0 fun v5 hv5 t0 => (wlc (Zkl [ownF (sl x1.2.2.2.1) v1.Members, ownF (sl x1.2.2.2.2.1) v1.Stock, own (sl x3) (x1.2.2.2.2.2.2.1 ++ [iv a_number, iv a_day, iv v2.Size, (sl x1.2.2.1)]) (v1.Entries ++ [(GEntry.mk a_number a_day v2)]), ownF (sl x1.2.2.2.2.2.2.2) v1.Books] Zkb (zc pk4 (zc pk4 (zc pk1 (zc pk3 ZdD)))) R fun w fp hw => ZaM w fp a_g v0a ((Zaj r0) w fp hw) v1a ((Zaj r1) w fp hw) v2a u2a ((Zaj r2) w fp hw) v3a ((Zaj r3) w fp hw) (GGuild.mk v1.Members v1.Stock (v1.Entries ++ [(GEntry.mk a_number a_day v2)]) v1.Books v1.Round v1.Year) x1.2.2.2.1 x1.2.2.2.2.1 x3 (x1.2.2.2.2.2.2.1 ++ [iv a_number, iv a_day, iv v2.Size, (sl x1.2.2.1)]) x1.2.2.2.2.2.2.2 true hw.ow hv5) R fun x4 => (wlq (pex R R) R (wlq (pex R R) R (wls (sbx (cs' := [(sl x4.1), (sl x4.2.1), (sl x4.2.2.1), (sl x4.2.2.2.2), iv v5.1.Round, iv v5.1.Year]) Zb pk7 R R R R R R R) (asg R R (wnt (wct ?_)))))))))))))))))))))
 obtain rfl := oi t0
 exact Zx R Zb R R pz R fun w hw => ⟨(x4.1, x4.2.1, x4.2.2.1, x4.2.2.2.1, x4.2.2.2.2), R, hw.weak (zc pk1 (zc pk1 (zc pk1 (zc pk1 zn))))⟩

theorem ZjQ (w : World) (a_b : GBlock) (v0a : Hd) (r0 : rdF w (dm w []) (sl v0a) a_b.Cells) {r : List Int} (t0 : ZdG a_b = some r) : Calls Tryz.prog 123 #[.agg #[.int .i64 a_b.Size, (sl v0a)]] w fun e w' => ∃ x : Hd, e = .returned ((sl x)) ∧ SH w [] [ownF (sl x) r] w' := by
 refine cwc (args := [_]) Tryz.func123 R Tryz.ntmps123 R ?_
 unfold ZdG at t0
 refine wcr (wle (Zg R R) R fun b1 => (asg R R (wnt (wcs (wcr (wlq (v := .agg #[iv a_b.Size, (sl v0a)]) (plb Zc pz R R R) R (bdO t0 fun v1 hv1 t0 => (wlc (cz0 Zea R fun w hw => Z0 w a_b v0a (ra r0 hw) hv1) R fun _ => (wlq (Zd R) R (wnt (wcO t0 R (fun h1 t0 => ?_) fun h1 t0 => ?_)))))))))))
 refine wcr (asg R R (wnt (wct (wqr ?_))))
 obtain rfl := oi t0
 exact wq1 R R fun w hw => ⟨hn, R, hw.weak (zc ZC zn)⟩
 refine wck (wqt (wcr (wle (ebs R Zai) R fun b2 => (asg R R (wnt (wcs (wcr (mv R R (wnt (Zn t0 fun y1 l1 t0 => (wj (J := List Int) (X := Hd) (fun z => y1 = z) (fun _ x => [(3, (sl x))]) (fun z x => [ownF (sl x) z]) ?_ ?_)))))))))))
 refine wcb (wcf (X := Hd) l1 (fun k1 s1 x1l => [(1, ptr b1 0), (3, (sl x1l)), (9, iv ((k1 : Nat) : Int))]) (fun k1 s1 x1l => [box b1 [iv a_b.Size, (sl v0a)], ownF (sl x1l) s1]) (⟨some ⟨b2, 0, none⟩, 0, 0⟩ : Hd) (su3 R R R) (zc pk1 (zc (pbo pz (n := 0) (xs := ([] : List Int)) R R (by unfold maxLen; omega)) zn)) fun k1 s1 x1l hN1 l1 => ?_)
 by_cases hk1 : k1 < 6
 refine fos l1 hk1 fun _ t1 l1 => ?_
 unfold ZeI at t1
 have c1 : (decide (((k1 : Nat) : Int) < 6)) = true := ddt (by omega)
 refine wcr (wlq (pls R R) R (wnt (wcs (wft R c1 (wck (wqt (wcs (wcb (wcr (mv R R (asg R R (wnt (wcg (mv R R (wlq (v := .agg #[iv a_b.Size, (sl v0a)]) (plb Zc pz R R R) R (mv R R (bdO t1 fun v2 hv2 t1 => (wlc (cz0 ZtU R fun w hw => ZlG w a_b v0a (ra r0 hw) ((k1 : Nat) : Int) hv2) R fun _ => (wle (ebs R (ZaA v2)) R fun b3 => (gdO t1 fun g1 t1 => (wle (Zf (xs := s1) (ys := ([v2] : List Int)) Zbp pk2 R R (Zi fun _ g => Rg.on (rgo (pbo pz (n := 1) (xs := ([v2] : List Int)) R R (by unfold maxLen; omega))) g) g1) R fun x2 => ?_)))))))))))))))))))))
 refine asg R R (wln (wqb (wqt (wcg (wlq (Zj R R (by omega)) R ?_)))))
 exact mv R R (wln (Zk hk1 (stpN l1 t1) x2 (su3 R R R) (zc pk2 so1)))
 have c1 : (decide (((k1 : Nat) : Int) < 6)) = false := ddf (by omega)
 have en1 := foe l1 hk1
 exact wcr (wlq (pls R R) R (wnt (wcs (wff R c1 (wcx (wqe (wqe (wbx (wjm _ x1l (Sum.inl.inj en1) (su1 R) (zc pk1 zn))))))))))
 intro e1 x1 hp
 obtain rfl : e1 = y1 := hp.symm
 refine wqt (wcr (mv R R (asg R R (wnt (wct ?_)))))
 obtain rfl := oi t0
 exact wq1 R R fun w hw => ⟨x1, R, hw.weak so1⟩

theorem ZnP (w : World) (a_stock : List Int) (v0a : Hd) (r0 : rdF w (dm w []) (sl v0a) a_stock) (a_a : Int) (a_length : Int) {r : (List Int) × Bool} (t0 : Ze4 a_stock a_a a_length = some r) : Calls Tryz.prog 124 #[(sl v0a), .int .i64 a_a, .int .i64 a_length] w fun e w' => ∃ x : Hd, e = .returned (.tuple #[(sl x), .bool r.2]) ∧ SH w [] [ownF (sl x) r.1] w' := by
 refine cwc (args := [_, _, _]) Tryz.func124 R Tryz.ntmps124 R ?_
 unfold Ze4 at t0
 refine wcr (asg R R (asg R R (wnt (wcr (mv R R (bdO t0 fun v1 hv1 t0 => (wlc (cz1 Zo6 R fun w hw => ZfL w a_stock v0a (ra r0 hw) hv1) R fun x1 => (asg R R (wnt (wcs (wcs (bdO t0 fun y1 t1 t0 => (wj (J := Bool) (X := Unit) (fun z => y1 = z) (fun z _ => [(1, iv a_a), (2, iv a_length), (8, (sl x1)), (27, .bool z)]) (fun _ _ => [ownF (sl x1) v1]) ?_ ?_)))))))))))))
 refine wcg (mv R R (bdO t1 fun v2 hv2 t1 => (wlc (cz0 Zq0 R fun w hw => Zhg w a_stock v0a (ra r0 hw) hv2) R fun _ => (wlq (Zd R) R (mv R R (wlo (t := 14) t1 R (fun h1 t1 => ?_) fun h1 t1 => ?_))))))
 exact wgf (j := 3) R R R R R (wgf (j := 3) R R R R R (wgf (j := 3) R R R R R (wlq (pit R R) R (mv R R (wgf (j := 8) R R R R R (wgf (j := 8) R R R R R (wgf (j := 8) R R R R R (wgf (j := 8) R R R R R (wgf (j := 8) R R R R R (wgf (j := 8) R R R R R (wgf (j := 8) R R R R R (wlq (pit R R) R (wln (wjm _ () (mtE t1) (su4 R R R R) so1))))))))))))))
 refine wgn (j := 3) R R R (mv R R (bdO t1 fun v3 hv3 t1 => (wgn (j := 3) R R R (wlc (cz0 Zo1 R fun w hw => ZgV w a_a hv3) R (fun _ => (wgn (j := 3) R R R (wlq (Zd R) R (wlq (pif R R) R (mv R R (wlo (t := 19) t1 R (fun h2 t1 => ?_) fun h2 t1 => ?_))))))))))
 exact wgf (j := 8) R R R R R (wgf (j := 8) R R R R R (wgf (j := 8) R R R R R (wgf (j := 8) R R R R R (wgf (j := 8) R R R R R (wgf (j := 8) R R R R R (wgf (j := 8) R R R R R (wlq (pit R R) R (wln (wjm _ () (mtE t1) (su4 R R R R) so1)))))))))
 exact wgn (j := 8) R R R (mv R R (wgn (j := 8) R R R (mv R R (wgn (j := 8) R R R (mv R R (gdO t1 fun g1 t1 => (wgn (j := 8) R R R (wlq (ZX (rga r0) Zy R R g1.1 g1.2) R (wgn (j := 8) R R R (wlq (v := iv (gx a_stock ((a_a).toNat))) (Zw (rga r0) tk_3 R (ZD g1) R) R (bdO t1 fun v4 hv4 t1 => (wgn (j := 8) R R R (wlc (cz0 ZaH R fun w hw => Zq w a_length 0 (gx a_stock ((a_a).toNat)) hv4) R (fun _ => (wgn (j := 8) R R R (wlq (Zd R) R (wlq (pif R R) R (wln (wjm _ () (mtE t1) (su4 R R R R) so1)))))))))))))))))))
 intro j1 _ hp
 obtain rfl : j1 = y1 := hp.symm
 refine wqt (wcO t0 R (fun h3 t0 => ?_) fun h3 t0 => ?_)
 refine wcr (mv R R (asg R R (asg R R (wnt (wct (wqr ?_))))))
 obtain rfl := oi t0
 exact ZJ R R R fun w hw => ⟨x1, R, hw.weak so1⟩
 refine wck (wqt (wcr (mv R R (mv R R (gdO t0 fun g2 t0 => (wlq (ZX (rgo pz) Zy R R g2.1 g2.2) R (wlq (v := iv (gx v1 ((a_a).toNat))) (Zw (rgo pz) tk_3 R (ZD g2) R) R (mv R R (wlq (Zaa R R) R (wlq (ZX (rgo pz) Zy R R g2.1 g2.2) R (wls (Zhx (x' := (wr ((gx v1 ((a_a).toNat)) - a_length))) tk_3 pz R R R R R R (ZD g2) R) (wnt (wcr (mv R R (asg R R (asg R R (wnt (wct ?_))))))))))))))))))
 obtain rfl := oi t0
 exact ZJ R R R fun w hw => ⟨x1, R, hw.weak so1⟩

theorem Zpz (w : World) (a_g : GGuild) (v0a : Hd) (r0 : rdF w (dm w []) (sl v0a) a_g.Members) (v1a : Hd) (r1 : rdF w (dm w []) (sl v1a) a_g.Stock) (v2a : Hd) (u2a : List Value) (r2 : RdL w (dm w []) (sl v2a) u2a a_g.Entries) (v3a : Hd) (r3 : rdF w (dm w []) (sl v3a) a_g.Books) (a_k : Int) {r : GGuild × Bool} (t0 : Zeg a_g a_k = some r) : Calls Tryz.prog 88 #[.agg #[(sl v0a), (sl v1a), (sl v2a), (sl v3a), .int .i64 a_g.Round, .int .i64 a_g.Year], .int .i64 a_k] w fun e w' => ∃ x : Hd × Hd × Hd × (List Value) × Hd, e = .returned (.tuple #[.agg #[(sl x.1), (sl x.2.1), (sl x.2.2.1), (sl x.2.2.2.2), .int .i64 r.1.Round, .int .i64 r.1.Year], .bool r.2]) ∧ SH w [] [ownF (sl x.1) r.1.Members, ownF (sl x.2.1) r.1.Stock, own (sl x.2.2.1) x.2.2.2.1 r.1.Entries, ownF (sl x.2.2.2.2) r.1.Books] w' := by
 refine cwc (args := [_, _]) Tryz.func88 R Tryz.ntmps88 R ?_
 unfold Zeg at t0
 refine wcr (wle (Zg R R) R fun b1 => (wle (eal (cs := [(sl hn), (sl hn), (sl hn), (sl hn), iv 0, iv 0]) ZE) R fun b2 => (asg R R (wnt (wcr (wlq (v := .agg #[(sl v0a), (sl v1a), (sl v2a), (sl v3a), iv a_g.Round, iv a_g.Year]) (plb Zb pk1 R R R) R (bdO t0 fun v1 hv1 t0 => (wlc (Zan Zg3 R fun w hw => ZZ w a_g v0a (ra r0 hw) v1a (ra r1 hw) v2a u2a (ra r2 hw) v3a (ra r3 hw) hv1) R fun x1 => (wle (eal (cs := [(sl hn), (sl hn), (sl hn), (sl hn), iv 0, iv 0]) ZE) R fun b3 => (wls (sbx (cs' := [(sl x1.1), (sl x1.2.1), (sl x1.2.2.1), (sl x1.2.2.2.2), iv v1.Round, iv v1.Year]) Zb pz R R R R R R R) (wnt (wcs (wcs (bdO t0 fun y1 t1 t0 => (wj (J := Bool) (X := Unit) (fun z => y1 = z) (fun z _ => [(1, iv a_k), (2, ptr b1 0), (4, ptr b2 0), (6, ptr b3 0), (24, .bool z)]) (fun _ _ => [box b3 [(sl x1.1), (sl x1.2.1), (sl x1.2.2.1), (sl x1.2.2.2.2), iv v1.Round, iv v1.Year], box b2 [(sl hn), (sl hn), (sl hn), (sl hn), iv 0, iv 0], box b1 [(sl v0a), (sl v1a), (sl v2a), (sl v3a), iv a_g.Round, iv a_g.Year], ownF (sl x1.1) v1.Members, ownF (sl x1.2.1) v1.Stock, own (sl x1.2.2.1) x1.2.2.2.1 v1.Entries, ownF (sl x1.2.2.2.2) v1.Books]) ?_ ?_)))))))))))))))
 refine wcg (wlq (v := .agg #[(sl v0a), (sl v1a), (sl v2a), (sl v3a), iv a_g.Round, iv a_g.Year]) (plb Zb pk6 R R R) R (bdO t1 fun v2 hv2 t1 => (wlc (cz0 Zko R fun w hw => Zb3 w a_g v0a (ra r0 hw) v1a (ra r1 hw) v2a u2a (ra r2 hw) v3a (ra r3 hw) hv2) R fun _ => (wlq (Zd R) R (mv R R (wlo (t := 16) t1 R (fun h1 t1 => ?_) fun h1 t1 => ?_))))))
 exact wgf (j := 3) R R R R R (wgf (j := 3) R R R R R (wgf (j := 3) R R R R R (wgf (j := 3) R R R R R (wgf (j := 3) R R R R R (wgf (j := 3) R R R R R (wgf (j := 3) R R R R R (wlq (pit R R) R (wln (wjm _ () (mtE t1) (su5 R R R R R) (zc pz (zc pk4 (zc pk4 so4))))))))))))
 exact wgn (j := 3) R R R (mv R R (wgn (j := 3) R R R (wlq (pof ZQ R) R (wgn (j := 3) R R R (wlq (v := (sl v2a)) (plx Zas pk6 R R) R (wgn (j := 3) R R R (wlq (pln (rga r2) ZaC R) R (wgn (j := 3) R R R (wlq (Zaa R R) R (bdO t1 fun v3 hv3 t1 => (wgn (j := 3) R R R (wlc (cz0 ZaH R fun w hw => Zq w a_k 0 (wr (((a_g.Entries.length : Nat) : Int) - 1)) hv3) R (fun _ => (wgn (j := 3) R R R (wlq (Zd R) R (wlq (pif R R) R (wln (wjm _ () (mtE t1) (su5 R R R R R) (zc pz (zc pk4 (zc pk4 so4)))))))))))))))))))))
 intro j1 _ hp
 obtain rfl : j1 = y1 := hp.symm
 refine wqt (wcO t0 R (fun h2 t0 => ?_) fun h2 t0 => ?_)
 refine wcr (wlq (v := .agg #[(sl x1.1), (sl x1.2.1), (sl x1.2.2.1), (sl x1.2.2.2.2), iv v1.Round, iv v1.Year]) (plb Zb pz R R R) R (wls (sbx (cs' := [(sl x1.1), (sl x1.2.1), (sl x1.2.2.1), (sl x1.2.2.2.2), iv v1.Round, iv v1.Year]) Zb pk1 R R R R R R R) (asg R R (wnt (wct (wqr ?_))))))
 obtain rfl := oi t0
 exact Zx R Zb R R pz R fun w hw => ⟨(x1.1, x1.2.1, x1.2.2.1, x1.2.2.2.1, x1.2.2.2.2), R, hw.weak (zc pk3 (zc pk3 (zc pk3 (zc pk3 zn))))⟩
 refine wck (wqt (wcs (wcr (wlq (pof ZQ R) R (wlq (v := (sl v2a)) (plx Zas pk2 R R) R (mv R R (gdO t0 fun g1 t0 => (wlq (ZX (rga r2) ZaC R R g1.1 g1.2) R (wlq (Z5 (rga r2) (ZD g1) ZaJ R) R (ZdM (rga r2) (ZD g1) ?_))))))))))
 rintro ⟨_, _, he1⟩
 obtain ⟨w1, hc1, _⟩ := ZaX.1 he1
 refine wlq (v := .agg #[iv (((gx a_g.Entries ((a_k).toNat)).Block).Size), (sl w1)]) (Zb7 (rga r2) Zc R hc1 R R R) R (bdO t0 fun v4 hv4 t0 => (wlc (cz1 ZtJ R fun w hw => ZjQ w ((gx a_g.Entries ((a_k).toNat)).Block) w1 (Rg.on (Zbg hc1 (rga r2) (ZD g1)) hw) hv4) R fun x3 => (wlq (pln (rgo pz) Zy R) R (mv R R (wnt (gdO t0 fun g2 t0 => (sqO t0 fun y1 l1 t0 => (wj (J := List Int) (X := Hd) (fun z => y1 = .inl z) (fun _ _ => [(4, ptr b2 0), (6, ptr b3 0)]) (fun z x => [box b3 [(sl x1.1), (sl x), (sl x1.2.2.1), (sl x1.2.2.2.2), iv v1.Round, iv v1.Year], box b2 [(sl hn), (sl hn), (sl hn), (sl hn), iv 0, iv 0], ownF (sl x1.1) v1.Members, ownF (sl x) z, own (sl x1.2.2.1) x1.2.2.2.1 v1.Entries, ownF (sl x1.2.2.2.2) v1.Books]) ?_ ?_))))))))
 refine wcb (wcf (X := Hd) l1 (fun k1 s1 x1l => [(2, ptr b1 0), (4, ptr b2 0), (6, ptr b3 0), (32, (sl x3)), (33, iv ((v4.length : Nat) : Int)), (34, iv ((k1 : Nat) : Int))]) (fun k1 s1 x1l => [ownF (sl x3) v4, box b3 [(sl x1.1), (sl x1l), (sl x1.2.2.1), (sl x1.2.2.2.2), iv v1.Round, iv v1.Year], box b2 [(sl hn), (sl hn), (sl hn), (sl hn), iv 0, iv 0], box b1 [(sl v0a), (sl v1a), (sl v2a), (sl v3a), iv a_g.Round, iv a_g.Year], ownF (sl x1.1) v1.Members, ownF (sl x1l) s1, own (sl x1.2.2.1) x1.2.2.2.1 v1.Entries, ownF (sl x1.2.2.2.2) v1.Books]) x1.2.1 (su6 R R R R R R) so8 fun k1 s1 x1l hN1 l1 => ?_)
 by_cases hk1 : k1 < v4.length
 refine fos l1 hk1 fun _ t1 l1 => ?_
 unfold Zfj at t1
 have c1 : (decide (((k1 : Nat) : Int) < ((v4.length : Nat) : Int))) = true := ddt (by omega)
 refine wcr (wlq (pls R R) R (wnt (wcs (wft R c1 (wck (wqt (wcs (wcb (wcr (mv R R (wlq (Zm (k := k1) (rgo pz) Zy R R hk1) R (wlq (v := iv (gx v4 k1)) (Zw (rgo pz) tk_3 R hk1 R) R (asg R R (asg R R (wnt (wcr (wlq (pof Zb1 R) R (wlq (v := (sl x1l)) (plx ZcA pk1 R R) R (mv R R (mv R R (bdO t1 fun v5 hv5 t1 => (wlc (cz1 ZvK R fun w hw => ZnP w s1 x1l (Rg.on (rgo pk5) hw) ((k1 : Nat) : Int) (gx v4 k1) hv5) R fun x5 => (mv R R (wlq (pex R R) R (wlq (pex R R) R (asg R R (asg R R (wnt (wcs (wcr (mv R R (wlq (Zd R) R (wnt (wcO t1 R (fun h3 t1 => ?_) fun h3 t1 => ?_))))))))))))))))))))))))))))))))))
 refine wcr (wlq (v := .agg #[(sl v0a), (sl v1a), (sl v2a), (sl v3a), iv a_g.Round, iv a_g.Year]) (plb Zb pk4 R R R) R (bdO t1 fun v6 hv6 t1 => (wlc (Zan Zg3 R fun w hw => ZZ w a_g v0a (ra r0 hw) v1a (ra r1 hw) v2a u2a (ra r2 hw) v3a (ra r3 hw) hv6) R fun x6 => (wls (sbx (cs' := [(sl x6.1), (sl x6.2.1), (sl x6.2.2.1), (sl x6.2.2.2.2), iv v6.Round, iv v6.Year]) Zb pk7 R R R R R R R) (asg R R (wnt (wct (wqr (wbr (wqr (wqr (wbr (wqr (wqr ?_))))))))))))))
 replace t0 := lpR t0 l1 t1
 obtain rfl := oi t0
 exact Zx R Zb R R pz R fun w hw => ⟨(x6.1, x6.2.1, x6.2.2.1, x6.2.2.2.1, x6.2.2.2.2), R, hw.weak (zc pk1 (zc pk1 (zc pk1 (zc pk1 zn))))⟩
 refine wck (wqt (wcg (mv R R (wlq (pof Zb1 R) R (wls (sbx (cs' := [(sl x1.1), (sl x5), (sl x1.2.2.1), (sl x1.2.2.2.2), iv v1.Round, iv v1.Year]) ZcA pk2 R R R R R R R) (wln (wqb (wqt (wcg (wlq (Zj R R (by omega)) R ?_))))))))))
 exact mv R R (wln (Zk hk1 (stpN l1 t1) x5 (su6 R R R R R R) (zc pk2 (zc pz (zc pk1 (zc pk1 (zc pk1 (zc pz (zc pk1 (zc pk1 zn))))))))))
 have c1 : (decide (((k1 : Nat) : Int) < ((v4.length : Nat) : Int))) = false := ddf (by omega)
 have en1 := foe l1 hk1
 exact wcr (wlq (pls R R) R (wnt (wcs (wff R c1 (wcx (wqe (wqe (wbx (wjm _ x1l en1 (su2 R R) (zc pk1 (zc pk1 (zc pk2 (zc pk2 (zc pk2 (zc pk2 zn)))))))))))))))
 intro e1 x4 hp
 replace t0 := sqE (j := e1) t0 hp
 refine wqt (wcr (wlq (v := .agg #[(sl x1.1), (sl x4), (sl x1.2.2.1), (sl x1.2.2.2.2), iv v1.Round, iv v1.Year]) (plb Zb pz R R R) R (wls (sbx (cs' := [(sl x1.1), (sl x4), (sl x1.2.2.1), (sl x1.2.2.2.2), iv v1.Round, iv v1.Year]) Zb pk1 R R R R R R R) (asg R R (wnt (wct ?_))))))
 obtain rfl := oi t0
 exact Zx R Zb R R pz R fun w hw => ⟨(x1.1, x4, x1.2.2.1, x1.2.2.2.1, x1.2.2.2.2), R, hw.weak (zc pk2 (zc pk2 (zc pk2 (zc pk2 zn))))⟩

theorem ZnZ (w : World) (a_g : GGuild) (v0a : Hd) (r0 : rdF w (dm w []) (sl v0a) a_g.Members) (v1a : Hd) (r1 : rdF w (dm w []) (sl v1a) a_g.Stock) (v2a : Hd) (u2a : List Value) (r2 : RdL w (dm w []) (sl v2a) u2a a_g.Entries) (v3a : Hd) (r3 : rdF w (dm w []) (sl v3a) a_g.Books) {r : GGuild × Bool} (t0 : Ze6 a_g = some r) : Calls Tryz.prog 89 #[.agg #[(sl v0a), (sl v1a), (sl v2a), (sl v3a), .int .i64 a_g.Round, .int .i64 a_g.Year]] w fun e w' => ∃ x : Hd × Hd × Hd × (List Value) × Hd, e = .returned (.tuple #[.agg #[(sl x.1), (sl x.2.1), (sl x.2.2.1), (sl x.2.2.2.2), .int .i64 r.1.Round, .int .i64 r.1.Year], .bool r.2]) ∧ SH w [] [ownF (sl x.1) r.1.Members, ownF (sl x.2.1) r.1.Stock, own (sl x.2.2.1) x.2.2.2.1 r.1.Entries, ownF (sl x.2.2.2.2) r.1.Books] w' := by
 refine cwc (args := [_]) Tryz.func89 R Tryz.ntmps89 R ?_
 unfold Ze6 at t0
 refine wcr (wle (Zg R R) R fun b1 => (wle (eal (cs := [(sl hn), (sl hn), (sl hn), (sl hn), iv 0, iv 0]) ZE) R fun b2 => (asg R R (wnt (wcr (wlq (v := .agg #[(sl v0a), (sl v1a), (sl v2a), (sl v3a), iv a_g.Round, iv a_g.Year]) (plb Zb pk1 R R R) R (bdO t0 fun v1 hv1 t0 => (wlc (Zan Zg3 R fun w hw => ZZ w a_g v0a (ra r0 hw) v1a (ra r1 hw) v2a u2a (ra r2 hw) v3a (ra r3 hw) hv1) R fun x1 => (wle (eal (cs := [(sl hn), (sl hn), (sl hn), (sl hn), iv 0, iv 0]) ZE) R fun b3 => (wls (sbx (cs' := [(sl x1.1), (sl x1.2.1), (sl x1.2.2.1), (sl x1.2.2.2.2), iv v1.Round, iv v1.Year]) Zb pz R R R R R R R) (wnt (wcr (wlq (pof Zcs R) R (wlq (v := iv v1.Round) (plx tk_3 pz R R) R (wlq (Zaf R R) R (wlq (pof Zcs R) R (wls (sbx (cs' := [(sl x1.1), (sl x1.2.1), (sl x1.2.2.1), (sl x1.2.2.2.2), iv (wr (v1.Round + 1)), iv v1.Year]) tk_3 pz R R R R R R R) (wnt (wcr (wlq (v := .agg #[(sl v0a), (sl v1a), (sl v2a), (sl v3a), iv a_g.Round, iv a_g.Year]) (plb Zb pk6 R R R) R (wlq (v := .agg #[(sl x1.1), (sl x1.2.1), (sl x1.2.2.1), (sl x1.2.2.2.2), iv (wr (v1.Round + 1)), iv v1.Year]) (plb Zb pz R R R) R (bdO t0 fun v2 hv2 t0 => (wlc (Zkl [ownF (sl x1.1) v1.Members, ownF (sl x1.2.1) v1.Stock, own (sl x1.2.2.1) x1.2.2.2.1 v1.Entries, ownF (sl x1.2.2.2.2) v1.Books] Zkb (zc pk1 (zc pk1 (zc pk1 (zc pk1 ZdD)))) R fun w fp hw => ZaM w fp a_g v0a ((Zaj r0) w fp hw) v1a ((Zaj r1) w fp hw) v2a u2a ((Zaj r2) w fp hw) v3a ((Zaj r3) w fp hw) (GGuild.mk v1.Members v1.Stock v1.Entries v1.Books (wr (v1.Round + 1)) v1.Year) x1.1 x1.2.1 x1.2.2.1 x1.2.2.2.1 x1.2.2.2.2 true hw.ow hv2) R fun x2 => (wlq (pex R R) R (wlq (pex R R) R (wls (sbx (cs' := [(sl x2.1), (sl x2.2.1), (sl x2.2.2.1), (sl x2.2.2.2.2), iv v2.1.Round, iv v2.1.Year]) Zb pk5 R R R R R R R) (asg R R (wnt (wct ?_)))))))))))))))))))))))))))))
 obtain rfl := oi t0
 exact Zx R Zb R R pz R fun w hw => ⟨(x2.1, x2.2.1, x2.2.2.1, x2.2.2.2.1, x2.2.2.2.2), R, hw.weak (zc pk1 (zc pk1 (zc pk1 (zc pk1 zn))))⟩

theorem ZpI (w : World) (a_g : GGuild) (v0a : Hd) (r0 : rdF w (dm w []) (sl v0a) a_g.Members) (v1a : Hd) (r1 : rdF w (dm w []) (sl v1a) a_g.Stock) (v2a : Hd) (u2a : List Value) (r2 : RdL w (dm w []) (sl v2a) u2a a_g.Entries) (v3a : Hd) (r3 : rdF w (dm w []) (sl v3a) a_g.Books) {r : GGuild × Bool} (t0 : ZgB a_g = some r) : Calls Tryz.prog 90 #[.agg #[(sl v0a), (sl v1a), (sl v2a), (sl v3a), .int .i64 a_g.Round, .int .i64 a_g.Year]] w fun e w' => ∃ x : Hd × Hd × Hd × (List Value) × Hd, e = .returned (.tuple #[.agg #[(sl x.1), (sl x.2.1), (sl x.2.2.1), (sl x.2.2.2.2), .int .i64 r.1.Round, .int .i64 r.1.Year], .bool r.2]) ∧ SH w [] [ownF (sl x.1) r.1.Members, ownF (sl x.2.1) r.1.Stock, own (sl x.2.2.1) x.2.2.2.1 r.1.Entries, ownF (sl x.2.2.2.2) r.1.Books] w' := by
 refine cwc (args := [_]) Tryz.func90 R Tryz.ntmps90 R ?_
 unfold ZgB at t0
 refine wcr (wle (Zg R R) R fun b1 => (wle (eal (cs := [(sl hn), (sl hn), (sl hn), (sl hn), iv 0, iv 0]) ZE) R fun b2 => (asg R R (wnt (wcr (wlq (v := .agg #[(sl v0a), (sl v1a), (sl v2a), (sl v3a), iv a_g.Round, iv a_g.Year]) (plb Zb pk1 R R R) R (bdO t0 fun v1 hv1 t0 => (wlc (Zan Zg3 R fun w hw => ZZ w a_g v0a (ra r0 hw) v1a (ra r1 hw) v2a u2a (ra r2 hw) v3a (ra r3 hw) hv1) R fun x1 => (wle (eal (cs := [(sl hn), (sl hn), (sl hn), (sl hn), iv 0, iv 0]) ZE) R fun b3 => (wls (sbx (cs' := [(sl x1.1), (sl x1.2.1), (sl x1.2.2.1), (sl x1.2.2.2.2), iv v1.Round, iv v1.Year]) Zb pz R R R R R R R) (wnt (wcr (wlq (pof Zc3 R) R (wlq (v := iv v1.Year) (plx tk_3 pz R R) R (wlq (Zaf R R) R (wlq (pof Zc3 R) R (wls (sbx (cs' := [(sl x1.1), (sl x1.2.1), (sl x1.2.2.1), (sl x1.2.2.2.2), iv v1.Round, iv (wr (v1.Year + 1))]) tk_3 pz R R R R R R R) (wnt (wcr (wlq (pof Zcs R) R (wls (sbx (cs' := [(sl x1.1), (sl x1.2.1), (sl x1.2.2.1), (sl x1.2.2.2.2), iv 0, iv (wr (v1.Year + 1))]) tk_3 pz R R R R R R R) (wnt (wcs (wcd [box b2 [(sl hn), (sl hn), (sl hn), (sl hn), iv 0, iv 0], box b1 [(sl v0a), (sl v1a), (sl v2a), (sl v3a), iv a_g.Round, iv a_g.Year]] 10 mixed (aq (v := .agg #[(sl v0a), (sl v1a), (sl v2a), (sl v3a), iv a_g.Round, iv a_g.Year]) 0 R (plb Zb pk1 R R R) (zc pk5 (zc pk5 zn)) R (aq 2 R (pof Zcs R) (zc pk5 (zc pk5 zn)) R (aq (v := iv a_g.Round) 3 R (plx tk_3 pk1 R R) (zc pk5 (zc pk5 zn)) R (aq (v := .agg #[(sl v0a), (sl v1a), (sl v2a), (sl v3a), iv a_g.Round, iv a_g.Year]) 4 R (plb Zb pk1 R R R) (zc pk5 (zc pk5 zn)) R (wa_2 (i := 1) (j := 5) (by kernel_rfl) ?_ ?_)))))))))))))))))))))))))))))
 refine ZkJ (v := .agg #[(sl x1.1), (sl x1.2.1), (sl x1.2.2.1), (sl x1.2.2.2.2), iv 0, iv (wr (v1.Year + 1))]) R (plb Zb pz R R R) (zt (zc pk5 (zc pk5 zn))) R (a1 5 (bdO t0 fun v2 hv2 t0 => (wsc R (cz0 ZmP R fun w hw => Zcr w a_g v0a (ra r0 hw) v1a (ra r1 hw) v2a u2a (ra r2 hw) v3a (ra r3 hw) hv2) (fun _ => (zt (zc pk5 (zc pk5 zn)))) R fun _ => (aq 6 R (ZeS R R) (zc pk5 (zc pk5 zn)) R (a1 7 (bdO t0 fun v3 hv3 t0 => (wsc R (Zkl [ownF (sl x1.1) v1.Members, ownF (sl x1.2.1) v1.Stock, own (sl x1.2.2.1) x1.2.2.2.1 v1.Entries, ownF (sl x1.2.2.2.2) v1.Books] Zkb (zc pk1 (zc pk1 (zc pk1 (zc pk1 ZdD)))) R fun w fp hw => ZaM w fp a_g v0a ((Zaj r0) w fp hw) v1a ((Zaj r1) w fp hw) v2a u2a ((Zaj r2) w fp hw) v3a ((Zaj r3) w fp hw) (GGuild.mk v1.Members v1.Stock v1.Entries v1.Books 0 (wr (v1.Year + 1))) x1.1 x1.2.1 x1.2.2.1 x1.2.2.2.1 x1.2.2.2.2 (decide (a_g.Round ≥ v2)) hw.ow hv3) (fun _ => (zt (zc pk5 (zc pk5 zn)))) R fun x2 => (aq 8 R (pex R R) (zc pk5 (zc pk5 zn)) R (aq 9 R (pex R R) (zc pk5 (zc pk5 zn)) R (a1 10 (ZR R (sbx (cs' := [(sl x2.1), (sl x2.2.1), (sl x2.2.2.1), (sl x2.2.2.2.2), iv v3.1.Round, iv v3.1.Year]) Zb pk5 R R R R R R R) (Za2 (by kernel_rfl)) ?_)))))))))))
 refine a1 11 (ZkJ R (Zp R) (Za2 (by kernel_rfl)) R ?_)
 refine ae (wqt (wct ?_))
 obtain rfl := oi t0
 exact Zx R Zb R R pz R fun w hw => ⟨(x2.1, x2.2.1, x2.2.2.1, x2.2.2.2.1, x2.2.2.2.2), R, hw.weak (zc pk1 (zc pk1 (zc pk1 (zc pk1 zn))))⟩
 refine bdO t0 fun v4 hv4 t0 => wsc R (cz0 ZmP R fun w hw => Zcr w a_g v0a (ra r0 hw) v1a (ra r1 hw) v2a u2a (ra r2 hw) v3a (ra r3 hw) hv4) (fun _ => (zt (zc pk5 (zc pk5 zn)))) R fun _ => aq 6 R (ZeS R R) (zc pk5 (zc pk5 zn)) R (a1 1 (ZkJ (v := .agg #[(sl x1.1), (sl x1.2.1), (sl x1.2.2.1), (sl x1.2.2.2.2), iv 0, iv (wr (v1.Year + 1))]) R (plb Zb pz R R R) (zt (zc pk5 (zc pk5 zn))) R (a1 7 (bdO t0 fun v5 hv5 t0 => (wsc R (Zkl [ownF (sl x1.1) v1.Members, ownF (sl x1.2.1) v1.Stock, own (sl x1.2.2.1) x1.2.2.2.1 v1.Entries, ownF (sl x1.2.2.2.2) v1.Books] Zkb (zc pk1 (zc pk1 (zc pk1 (zc pk1 ZdD)))) R fun w fp hw => ZaM w fp a_g v0a ((Zaj r0) w fp hw) v1a ((Zaj r1) w fp hw) v2a u2a ((Zaj r2) w fp hw) v3a ((Zaj r3) w fp hw) (GGuild.mk v1.Members v1.Stock v1.Entries v1.Books 0 (wr (v1.Year + 1))) x1.1 x1.2.1 x1.2.2.1 x1.2.2.2.1 x1.2.2.2.2 (decide (a_g.Round ≥ v4)) hw.ow hv5) (fun _ => (zt (zc pk5 (zc pk5 zn)))) R fun x3 => (aq 8 R (pex R R) (zc pk5 (zc pk5 zn)) R (aq 9 R (pex R R) (zc pk5 (zc pk5 zn)) R (a1 10 (ZR R (sbx (cs' := [(sl x3.1), (sl x3.2.1), (sl x3.2.2.1), (sl x3.2.2.2.2), iv v5.1.Round, iv v5.1.Year]) Zb pk5 R R R R R R R) (Za2 (by kernel_rfl)) ?_)))))))))
 refine a1 11 (ZkJ R (Zp R) (Za2 (by kernel_rfl)) R ?_)
 refine ae (wqt (wct ?_))
 obtain rfl := oi t0
 exact Zx R Zb R R pz R fun w hw => ⟨(x3.1, x3.2.1, x3.2.2.1, x3.2.2.2.1, x3.2.2.2.2), R, hw.weak (zc pk1 (zc pk1 (zc pk1 (zc pk1 zn))))⟩

end Go.Proofs.YtjfjbgihojiijacGreatDoor
