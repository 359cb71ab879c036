/-
 Each Go function computes its Lean function (part 7).
-/
import Derived.Test.YtjfjbgihojiijacGreatDoorWalks6
namespace Go.Proofs.YtjfjbgihojiijacGreatDoor
open Go Go.RowKit Go.Proofs
set_option maxRecDepth 100000

theorem ZqP (w : World) (a_stock : List Int) (v0a : Hd) (r0 : rdF w (dm w []) (sl v0a) a_stock) (a_need : List Int) (v1a : Hd) (r1 : rdF w (dm w []) (sl v1a) a_need) {r : List Int} (t0 : Zhv a_stock a_need = some r) : Calls Tryz.prog 125 #[(sl v0a), (sl v1a)] w fun e w' => ∃ x : Hd, e = .returned ((sl x)) ∧ SH w [] [ownF (sl x) r] w' := by
 refine cwc (args := [_, _]) Tryz.func125 R Tryz.ntmps125 R ?_
 unfold Zhv at t0
 refine wcr (asg R R (wnt (wcs (wcs (bdO t0 fun y1 t1 t0 => (wj (J := Bool) (X := Unit) (fun z => y1 = z) (fun z _ => [(0, (sl v0a)), (1, (sl v1a)), (14, .bool z)]) (fun _ _ => []) ?_ ?_))))))
 refine wcg (mv R R (bdO t1 fun v1 hv1 t1 => (wlc (cz0 Zq0 R fun w hw => Zhg w a_stock v0a (ra r0 hw) hv1) R fun _ => (wlq (Zd R) R (mv R R (wlo (t := 10) t1 R (fun h1 t1 => ?_) fun h1 t1 => ?_))))))
 exact wgf (j := 3) R R R R R (wgf (j := 3) R R R R R (wgf (j := 3) R R R R R (wlq (pit R R) R (wln (wjm _ () (mtE t1) (su3 R R R) zn)))))
 exact wgn (j := 3) R R R (mv R R (bdO t1 fun v2 hv2 t1 => (wgn (j := 3) R R R (wlc (cz0 Zq0 R fun w hw => Zhg w a_need v1a (ra r1 hw) hv2) R (fun _ => (wgn (j := 3) R R R (wlq (Zd R) R (wlq (pif R R) R (wln (wjm _ () (mtE t1) (su3 R R R) zn))))))))))
 intro j1 _ hp
 obtain rfl : j1 = y1 := hp.symm
 refine wqt (wcO t0 R (fun h2 t0 => ?_) fun h2 t0 => ?_)
 refine wcr (asg R R (wnt (wct (wqr ?_))))
 obtain rfl := oi t0
 exact wq1 R R fun w hw => ⟨hn, R, hw.weak (zc ZC zn)⟩
 refine wck (wqt (wcr (wle (ebs R Zai) R fun b1 => (asg R R (wnt (wcs (wcr (mv R R (wlq (pln (rga r0) Zy R) R (mv R R (wnt (gdO t0 fun g1 t0 => (Zn t0 fun y1 l1 t0 => (wj (J := List Int) (X := Hd) (fun z => y1 = z) (fun _ x => [(5, (sl x))]) (fun z x => [ownF (sl x) z]) ?_ ?_))))))))))))))
 refine wcb (wcf (X := Hd) l1 (fun k1 s1 x1l => [(0, (sl v0a)), (1, (sl v1a)), (5, (sl x1l)), (17, iv ((a_stock.length : Nat) : Int)), (18, iv ((k1 : Nat) : Int))]) (fun k1 s1 x1l => [ownF (sl x1l) s1]) (⟨some ⟨b1, 0, none⟩, 0, 0⟩ : Hd) (su5 R R R R R) (zc (pbo pz (n := 0) (xs := ([] : List Int)) R R (by unfold maxLen; omega)) zn) fun k1 s1 x1l hN1 l1 => ?_)
 by_cases hk1 : k1 < a_stock.length
 refine fos l1 hk1 fun _ t1 l1 => ?_
 unfold Zhd at t1
 have c1 : (decide (((k1 : Nat) : Int) < ((a_stock.length : Nat) : Int))) = true := ddt (by omega)
 refine wcr (wlq (pls R R) R (wnt (wcs (wft R c1 (wck (wqt (wcs (wcb (wcr (mv R R (asg R R (wnt (wcd [] 14 mixed (aq 0 R (pom R) zn R (aq 1 R (pom R) zn R (aq 2 R (pom R) zn R (gdO t1 fun g2 t1 => (aq 3 R (Zm (k := k1) (rga r1) Zy R R g2) zn R (aq (v := iv (gx a_need k1)) 4 R (Zw (rga r1) tk_3 R g2 R) zn R (aq 5 R (pom R) zn R (aq 6 R (pom R) zn R (aq 7 R (Zm (k := k1) (rga r0) Zy R R hk1) zn R (aq (v := iv (gx a_stock k1)) 8 R (Zw (rga r0) tk_3 R hk1 R) zn R (aq 9 R (Zaa R R) zn R (aq 10 R (Zk2 R R) zn R (a1 11 (wse R (ebs R (ZaA (if 0 > (wr ((gx a_need k1) - (gx a_stock k1))) then 0 else (wr ((gx a_need k1) - (gx a_stock k1)))))) (fun _ => (zt zn)) R fun b2 => (a1 12 (gdO t1 fun g3 t1 => (wse R (Zf (xs := s1) (ys := ([(if 0 > (wr ((gx a_need k1) - (gx a_stock k1))) then 0 else (wr ((gx a_need k1) - (gx a_stock k1))))] : List Int)) Zbp pk1 R R (Zi fun _ g => Rg.on (rgo (pbo pz (n := 1) (xs := ([(if 0 > (wr ((gx a_need k1) - (gx a_stock k1))) then 0 else (wr ((gx a_need k1) - (gx a_stock k1))))] : List Int)) R R (by unfold maxLen; omega))) g) g3) (fun _ => (zt zn)) R fun x3 => ?_))))))))))))))))))))))))))))))
 refine aq 13 R (Zp R) zn R (ae (wqb (wqt (wcg (wlq (Zj R R (by omega)) R ?_)))))
 exact mv R R (wln (Zk hk1 (stpN l1 t1) x3 (su5 R R R R R) so1))
 have c1 : (decide (((k1 : Nat) : Int) < ((a_stock.length : Nat) : Int))) = false := ddf (by omega)
 have en1 := foe l1 hk1
 exact wcr (wlq (pls R R) R (wnt (wcs (wff R c1 (wcx (wqe (wqe (wbx (wjm _ x1l (Sum.inl.inj en1) (su1 R) so1)))))))))
 intro e1 x2 hp
 obtain rfl : e1 = y1 := hp.symm
 refine wqt (wcr (mv R R (asg R R (wnt (wct ?_)))))
 obtain rfl := oi t0
 exact wq1 R R fun w hw => ⟨x2, R, hw.weak so1⟩

theorem Zr6 (w : World) (a_g : GGuild) (v0a : Hd) (_r0 : rdF w (dm w []) (sl v0a) a_g.Members) (v1a : Hd) (r1 : rdF w (dm w []) (sl v1a) a_g.Stock) (v2a : Hd) (u2a : List Value) (r2 : RdL w (dm w []) (sl v2a) u2a a_g.Entries) (v3a : Hd) (_r3 : rdF w (dm w []) (sl v3a) a_g.Books) (a_k : Int) {r : Int} (t0 : ZhU a_g a_k = some r) : Calls Tryz.prog 91 #[.agg #[(sl v0a), (sl v1a), (sl v2a), (sl v3a), .int .i64 a_g.Round, .int .i64 a_g.Year], .int .i64 a_k] w fun e w' => e = .returned (.int .i64 r) ∧ SH w [] [] w' := by
 refine cwc (args := [_, _]) Tryz.func91 R Tryz.ntmps91 R ?_
 unfold ZhU at t0
 refine wcr (wle (Zg R R) R fun b1 => (asg R R (wnt (wcs (wcr (mv R R (wlq (pof ZQ R) R (wlq (v := (sl v2a)) (plx Zas pz R R) R (wlq (pln (rga r2) ZaC R) R (wlq (Zaa R R) R (bdO t0 fun v1 hv1 t0 => (wlc (cz0 ZaH R fun w hw => Zq w a_k 0 (wr (((a_g.Entries.length : Nat) : Int) - 1)) hv1) R fun _ => (wlq (Zd R) R (wnt (wcO t0 R (fun h1 t0 => ?_) fun h1 t0 => ?_)))))))))))))))
 refine wcr (asg R R (wnt (wct (wqr ?_))))
 obtain rfl := oi t0
 exact wq1 R R fun w hw => ⟨R, hw.weak zn⟩
 refine wck (wqt (wcr (asg R R (wnt (wcs (wcs (wcd [box b1 [(sl v0a), (sl v1a), (sl v2a), (sl v3a), iv a_g.Round, iv a_g.Year]] 12 mixed (aq 0 R (pof Zb1 R) so1 R (aq (v := (sl v1a)) 1 R (plx ZcA pz R R) so1 R (aq 2 R (pof ZQ R) so1 R (aq (v := (sl v2a)) 3 R (plx Zas pz R R) so1 R (aq 4 R (pom R) so1 R (gdO t0 fun g1 t0 => (aq 5 R (ZX (rga r2) ZaC R R g1.1 g1.2) so1 R (aq 6 R (Z5 (rga r2) (ZD g1) ZaJ R) so1 R (ZhZ (rga r2) (ZD g1) ?_))))))))))))))))
 rintro ⟨_, _, he1⟩
 obtain ⟨w1, hc1, _⟩ := ZaX.1 he1
 refine aq (v := .agg #[iv (((gx a_g.Entries ((a_k).toNat)).Block).Size), (sl w1)]) 7 R (Zb7 (rga r2) Zc R hc1 R R R) so1 R (aq 11 R (pom R) so1 R (a1 8 (bdO t0 fun v2 hv2 t0 => (wsc R (cz1 ZtJ R fun w hw => ZjQ w ((gx a_g.Entries ((a_k).toNat)).Block) w1 (Rg.on (Zbg hc1 (rga r2) (ZD g1)) hw) hv2) (fun _ => (zt (zc pk1 zn))) R fun x1 => (a1 9 (bdO t0 fun v3 hv3 t0 => (wsc R (cz1 ZwH R fun w hw => ZqP w a_g.Stock v1a (ra r1 hw) v2 x1 (Rg.on (rgo pz) hw) hv3) (fun _ => (zt (zc pk2 zn))) R fun x2 => (a1 10 (ZkJ R (pln (rgo pz) Zy R) (zt (zc pk2 zn)) R (ae (wqt (gdO t0 fun g2 t0 => (Zn t0 fun y1 l1 t0 => (wj (J := Int) (X := Unit) (fun z => y1 = z) (fun z _ => [(5, iv z)]) (fun _ _ => []) ?_ ?_))))))))))))))
 refine wcb (wcf (X := Unit) l1 (fun k1 s1 x1l => [(5, iv s1), (24, (sl x2)), (25, iv ((v3.length : Nat) : Int)), (26, iv ((k1 : Nat) : Int))]) (fun k1 s1 x1l => [ownF (sl x2) v3]) () (su4 R R R R) so1 fun k1 s1 x1l hN1 l1 => ?_)
 by_cases hk1 : k1 < v3.length
 refine fos l1 hk1 fun _ t1 l1 => ?_
 unfold ZjT at t1
 have c1 : (decide (((k1 : Nat) : Int) < ((v3.length : Nat) : Int))) = true := ddt (by omega)
 refine wcr (wlq (pls R R) R (wnt (wcs (wft R c1 (wck (wqt (wcs (wcb (wcr (wlq (Zm (k := k1) (rgo pz) Zy R R hk1) R (wlq (v := iv (gx v3 k1)) (Zw (rgo pz) tk_3 R hk1 R) R (asg R R (wnt (wcg (mv R R (mv R R (wlq (Zaf R R) R (asg R R (wln (wqb (wqt (wcg (wlq (Zj R R (by omega)) R ?_)))))))))))))))))))))))
 exact mv R R (wln (Zk hk1 (stpN l1 t1) () (su4 R R R R) so1))
 have c1 : (decide (((k1 : Nat) : Int) < ((v3.length : Nat) : Int))) = false := ddf (by omega)
 have en1 := foe l1 hk1
 exact wcr (wlq (pls R R) R (wnt (wcs (wff R c1 (wcx (wqe (wqe (wbx (wjm _ () (Sum.inl.inj en1) (su1 R) zn)))))))))
 intro e1 _ hp
 obtain rfl : e1 = y1 := hp.symm
 refine wqt (wcr (mv R R (asg R R (wnt (wct ?_)))))
 obtain rfl := oi t0
 exact wq1 R R fun w hw => ⟨R, hw.weak zn⟩

theorem ZrB (w : World) (a_g : GGuild) (v0a : Hd) (r0 : rdF w (dm w []) (sl v0a) a_g.Members) (v1a : Hd) (r1 : rdF w (dm w []) (sl v1a) a_g.Stock) (v2a : Hd) (u2a : List Value) (r2 : RdL w (dm w []) (sl v2a) u2a a_g.Entries) (v3a : Hd) (r3 : rdF w (dm w []) (sl v3a) a_g.Books) (a_a : GAct) {r : GGuild × Int} (t0 : ZcY a_g a_a = some r) : Calls Tryz.prog 41 #[.agg #[(sl v0a), (sl v1a), (sl v2a), (sl v3a), .int .i64 a_g.Round, .int .i64 a_g.Year], .agg #[.int .i64 a_a.Kind, .int .i64 a_a.A, .int .i64 a_a.B]] w fun e w' => ∃ x : Hd × Hd × Hd × (List Value) × Hd, e = .returned (.tuple #[.agg #[(sl x.1), (sl x.2.1), (sl x.2.2.1), (sl x.2.2.2.2), .int .i64 r.1.Round, .int .i64 r.1.Year], .int .i64 r.2]) ∧ SH w [] [ownF (sl x.1) r.1.Members, ownF (sl x.2.1) r.1.Stock, own (sl x.2.2.1) x.2.2.2.1 r.1.Entries, ownF (sl x.2.2.2.2) r.1.Books] w' := by
 refine cwc (args := [_, _]) Tryz.func41 R Tryz.ntmps41 R ?_
 unfold ZcY at t0
 refine wcr (wle (Zg R R) R fun b1 => (wle (Zg R R) R fun b2 => (wle (eal (cs := [(sl hn), (sl hn), (sl hn), (sl hn), iv 0, iv 0]) ZE) R fun b3 => (asg R R (wnt (wcs (wcs (bdO t0 fun y1 t1 t0 => (wj (J := Bool) (X := Unit) (fun z => y1 = z) (fun z _ => [(2, ptr b1 0), (3, ptr b2 0), (4, ptr b3 0), (17, .bool z)]) (fun _ _ => [box b3 [(sl hn), (sl hn), (sl hn), (sl hn), iv 0, iv 0], box b2 [iv a_a.Kind, iv a_a.A, iv a_a.B], box b1 [(sl v0a), (sl v1a), (sl v2a), (sl v3a), iv a_g.Round, iv a_g.Year]]) ?_ ?_)))))))))
 refine wcg (wlq (v := .agg #[(sl v0a), (sl v1a), (sl v2a), (sl v3a), iv a_g.Round, iv a_g.Year]) (plb Zb pk2 R R R) R (bdO t1 fun v1 hv1 t1 => (wlc (cz0 Zko R fun w hw => Zb3 w a_g v0a (ra r0 hw) v1a (ra r1 hw) v2a u2a (ra r2 hw) v3a (ra r3 hw) hv1) R fun _ => (wlq (Zd R) R (mv R R (wlo (t := 13) t1 R (fun h1 t1 => ?_) fun h1 t1 => ?_))))))
 exact wgf (j := 3) R R R R R (wgf (j := 3) R R R R R (wgf (j := 3) R R R R R (wlq (pit R R) R (wln (wjm _ () (mtE t1) (su4 R R R R) so3)))))
 exact wgn (j := 3) R R R (wlq (v := .agg #[iv a_a.Kind, iv a_a.A, iv a_a.B]) (plb Za3 pk1 R R R) R (bdO t1 fun v2 hv2 t1 => (wgn (j := 3) R R R (wlc (cz0 Zu2 R fun w hw => Zmi w a_a hv2) R (fun _ => (wgn (j := 3) R R R (wlq (Zd R) R (wlq (pif R R) R (wln (wjm _ () (mtE t1) (su4 R R R R) so3))))))))))
 intro j1 _ hp
 obtain rfl : j1 = y1 := hp.symm
 refine wqt (wcO t0 R (fun h2 t0 => ?_) fun h2 t0 => ?_)
 refine wcr (wlq (v := .agg #[(sl v0a), (sl v1a), (sl v2a), (sl v3a), iv a_g.Round, iv a_g.Year]) (plb Zb pk2 R R R) R (bdO t0 fun v3 hv3 t0 => (wlc (Zan Zg3 R fun w hw => ZZ w a_g v0a (ra r0 hw) v1a (ra r1 hw) v2a u2a (ra r2 hw) v3a (ra r3 hw) hv3) R fun x2 => (wls (sbx (cs' := [(sl x2.1), (sl x2.2.1), (sl x2.2.2.1), (sl x2.2.2.2.2), iv v3.Round, iv v3.Year]) Zb pk4 R R R R R R R) (asg R R (wnt (wct (wqr ?_))))))))
 obtain rfl := oi t0
 exact Zx R Zb R R pz R fun w hw => ⟨(x2.1, x2.2.1, x2.2.2.1, x2.2.2.2.1, x2.2.2.2.2), R, hw.weak (zc pk1 (zc pk1 (zc pk1 (zc pk1 zn))))⟩
 refine wck (wqt (wcr (wlq (v := .agg #[(sl v0a), (sl v1a), (sl v2a), (sl v3a), iv a_g.Round, iv a_g.Year]) (plb Zb pk2 R R R) R (bdO t0 fun v4 hv4 t0 => (wlc (Zan Zg3 R fun w hw => ZZ w a_g v0a (ra r0 hw) v1a (ra r1 hw) v2a u2a (ra r2 hw) v3a (ra r3 hw) hv4) R fun x3 => (wle (eal (cs := [(sl hn), (sl hn), (sl hn), (sl hn), iv 0, iv 0]) ZE) R fun b4 => (wls (sbx (cs' := [(sl x3.1), (sl x3.2.1), (sl x3.2.2.1), (sl x3.2.2.2.2), iv v4.Round, iv v4.Year]) Zb pz R R R R R R R) (asg R R (wnt (wcs (wcr (wlq (pof Zf8 R) R (wlq (v := iv a_a.Kind) (plx tk_3 pk6 R R) R (wnt (wcb (wcr (wlq (pol R R) R (asg R R (wnt (sqO t0 fun y1 t1 t0 => (wj (J := Bool × GGuild) (X := Hd × Hd × Hd × (List Value) × Hd) (fun z => y1 = .inl z) (fun z _ => [(4, ptr b3 0), (6, ptr b4 0), (7, .bool z.1)]) (fun z x => [box b4 [(sl x.1), (sl x.2.1), (sl x.2.2.1), (sl x.2.2.2.2), iv ((z.2).Round), iv ((z.2).Year)], box b3 [(sl hn), (sl hn), (sl hn), (sl hn), iv 0, iv 0], ownF (sl x.1) ((z.2).Members), ownF (sl x.2.1) ((z.2).Stock), own (sl x.2.2.1) x.2.2.2.1 ((z.2).Entries), ownF (sl x.2.2.2.2) ((z.2).Books)]) ?_ ?_)))))))))))))))))))))
 refine wcO t1 R (fun h3 t1 => ?_) fun h3 t1 => ?_
 exact wcg (wlq (v := .agg #[(sl v0a), (sl v1a), (sl v2a), (sl v3a), iv a_g.Round, iv a_g.Year]) (plb Zb pk7 R R R) R (wlq (pof ZaU R) R (wlq (v := iv a_a.A) (plx tk_3 pk6 R R) R (bdO t1 fun v5 hv5 t1 => (wlc (Zan ZuZ R fun w hw => Zl9 w a_g v0a (ra r0 hw) v1a (ra r1 hw) v2a u2a (ra r2 hw) v3a (ra r3 hw) a_a.A hv5) R fun x5 => (mv R R (wlq (pex R R) R (wlq (pex R R) R (wls (sbx (cs' := [(sl x5.1), (sl x5.2.1), (sl x5.2.2.1), (sl x5.2.2.2.2), iv v5.1.Round, iv v5.1.Year]) Zb pk4 R R R R R R R) (asg R R (wln (wjm _ (x5.1, x5.2.1, x5.2.2.1, x5.2.2.2.1, x5.2.2.2.2) (mtE t1) (su3 R R R) (zc pz (zc pk8 so4))))))))))))))
 refine wcr (wlq (pol R R) R (asg R R (wnt (wcO t1 R (fun h4 t1 => ?_) fun h4 t1 => ?_))))
 refine wcr (asg R R (wnt (wcs (wcr (wlq (pof ZQ R) R (wlq (v := (sl v2a)) (plx Zas pk7 R R) R (wlq (pln (rga r2) ZaC R) R (asg R R (wnt (wcr (mv R R (wlq (Zad R R) R (wnt (bdO t1 fun y2 t2 t1 => (wj (J := Int) (X := Unit) (fun z => y2 = z) (fun z _ => [(2, ptr b1 0), (3, ptr b2 0), (4, ptr b3 0), (6, ptr b4 0), (8, iv z)]) (fun _ _ => [box b4 [(sl x3.1), (sl x3.2.1), (sl x3.2.2.1), (sl x3.2.2.2.2), iv v4.Round, iv v4.Year], box b3 [(sl hn), (sl hn), (sl hn), (sl hn), iv 0, iv 0], box b2 [iv a_a.Kind, iv a_a.A, iv a_a.B], box b1 [(sl v0a), (sl v1a), (sl v2a), (sl v3a), iv a_g.Round, iv a_g.Year], ownF (sl x3.1) v4.Members, ownF (sl x3.2.1) v4.Stock, own (sl x3.2.2.1) x3.2.2.2.1 v4.Entries, ownF (sl x3.2.2.2.2) v4.Books]) ?_ ?_)))))))))))))))
 refine wcO t2 R (fun h5 t2 => ?_) fun h5 t2 => ?_
 refine wcg (wlq (pof ZQ R) R (wlq (v := (sl v2a)) (plx Zas pk7 R R) R (mv R R (wlq (Zaa R R) R (gdO t2 fun g1 t2 => (wlq (ZX (rga r2) ZaC R R g1.1 g1.2) R (wlq (Z5 (rga r2) (ZD g1) Zb5 R) R (ZdM (rga r2) (ZD g1) ?_))))))))
 rintro ⟨_, _, he1⟩
 obtain ⟨w1, hc1, _⟩ := ZaX.1 he1
 exact wlq (v := iv ((gx a_g.Entries (((wr (((a_g.Entries.length : Nat) : Int) - 1))).toNat)).Day)) (ZjC (rga r2) tk_3 R hc1 R) R (wlq (Zaf R R) R (asg R R (wln (wjm _ () (mtE t2) (su5 R R R R R) (zc pz (zc pk4 (zc pk4 (zc pk4 so4))))))))
 exact wck (wjm _ () (mtE t2) (su5 R R R R R) (zc pz (zc pk4 (zc pk4 (zc pk4 so4)))))
 intro j3 _ hp
 obtain rfl : j3 = y2 := hp.symm
 exact wqt (wcd [box b3 [(sl hn), (sl hn), (sl hn), (sl hn), iv 0, iv 0], box b2 [iv a_a.Kind, iv a_a.A, iv a_a.B], box b1 [(sl v0a), (sl v1a), (sl v2a), (sl v3a), iv a_g.Round, iv a_g.Year], ownF (sl x3.1) v4.Members, ownF (sl x3.2.1) v4.Stock, own (sl x3.2.2.1) x3.2.2.2.1 v4.Entries, ownF (sl x3.2.2.2.2) v4.Books] 13 mixed (aq (v := .agg #[(sl v0a), (sl v1a), (sl v2a), (sl v3a), iv a_g.Round, iv a_g.Year]) 0 R (plb Zb pk2 R R R) (zc pk1 (zc pk1 (zc pk1 (zc pk1 (zc pk1 (zc pk1 (zc pk1 zn))))))) R (aq 1 R (pof ZaU R) (zc pk1 (zc pk1 (zc pk1 (zc pk1 (zc pk1 (zc pk1 (zc pk1 zn))))))) R (aq (v := iv a_a.A) 2 R (plx tk_3 pk1 R R) (zc pk1 (zc pk1 (zc pk1 (zc pk1 (zc pk1 (zc pk1 (zc pk1 zn))))))) R (aq 3 R (pom R) (zc pk1 (zc pk1 (zc pk1 (zc pk1 (zc pk1 (zc pk1 (zc pk1 zn))))))) R (aq 4 R (pof Zc5 R) (zc pk1 (zc pk1 (zc pk1 (zc pk1 (zc pk1 (zc pk1 (zc pk1 zn))))))) R (aq (v := iv a_a.B) 5 R (plx tk_3 pk1 R R) (zc pk1 (zc pk1 (zc pk1 (zc pk1 (zc pk1 (zc pk1 (zc pk1 zn))))))) R (a1 6 (bdO t1 fun v6 hv6 t1 => (wsc R (cz1 Zxh R fun w hw => Zmn w a_a.B hv6) (fun _ => (zt (zc pk2 (zc pk2 (zc pk2 (zc pk2 (zc pk2 (zc pk2 (zc pk2 zn))))))))) R fun x7 => (a1 7 (bdO t1 fun v7 hv7 t1 => (wsc R (Zan Zxq R fun w hw => ZqF w a_g v0a (ra r0 hw) v1a (ra r1 hw) v2a u2a (ra r2 hw) v3a (ra r3 hw) a_a.A j3 v6 x7 (Rg.on (rgo pz) hw) hv7) (fun _ => (zt (zc pk6 (zc pk6 (zc pk6 (zc pk6 (zc pk6 (zc pk6 (zc pk6 zn))))))))) R fun x8 => (aq 8 R (pom R) (zc pk6 (zc pk6 (zc pk6 (zc pk6 (zc pk6 (zc pk6 (zc pk6 zn))))))) R (aq 9 R (pex R R) (zc pk6 (zc pk6 (zc pk6 (zc pk6 (zc pk6 (zc pk6 (zc pk6 zn))))))) R (aq 10 R (pex R R) (zc pk6 (zc pk6 (zc pk6 (zc pk6 (zc pk6 (zc pk6 (zc pk6 zn))))))) R (a1 11 (ZR R (sbx (cs' := [(sl x8.1), (sl x8.2.1), (sl x8.2.2.1), (sl x8.2.2.2.2), iv v7.1.Round, iv v7.1.Year]) Zb pk5 R R R R R R R) (zt (zc pk6 (zc pk6 (zc pk6 (zc pk6 (zc pk6 (zc pk6 (zc pk6 zn)))))))) (aq 12 R (Zp R) (zc pk6 (zc pk6 (zc pk6 (zc pk6 (zc pk6 (zc pk6 (zc pk6 zn))))))) R (ae (wjm _ (x8.1, x8.2.1, x8.2.2.1, x8.2.2.2.1, x8.2.2.2.2) (mtE t1) (su3 R R R) (zc pz (zc pk5 so4)))))))))))))))))))))))
 refine wcr (wlq (pol R R) R (asg R R (wnt (wcO t1 R (fun h6 t1 => ?_) fun h6 t1 => ?_))))
 exact wcg (wlq (v := .agg #[(sl v0a), (sl v1a), (sl v2a), (sl v3a), iv a_g.Round, iv a_g.Year]) (plb Zb pk7 R R R) R (wlq (pof ZaU R) R (wlq (v := iv a_a.A) (plx tk_3 pk6 R R) R (bdO t1 fun v8 hv8 t1 => (wlc (Zan Zxs R fun w hw => Zpz w a_g v0a (ra r0 hw) v1a (ra r1 hw) v2a u2a (ra r2 hw) v3a (ra r3 hw) a_a.A hv8) R fun x9 => (mv R R (wlq (pex R R) R (wlq (pex R R) R (wls (sbx (cs' := [(sl x9.1), (sl x9.2.1), (sl x9.2.2.1), (sl x9.2.2.2.2), iv v8.1.Round, iv v8.1.Year]) Zb pk4 R R R R R R R) (asg R R (wln (wjm _ (x9.1, x9.2.1, x9.2.2.1, x9.2.2.2.1, x9.2.2.2.2) (mtE t1) (su3 R R R) (zc pz (zc pk8 so4))))))))))))))
 refine wcr (wlq (pol R R) R (asg R R (wnt (wcO t1 R (fun h7 t1 => ?_) fun h7 t1 => ?_))))
 exact wcg (wlq (v := .agg #[(sl v0a), (sl v1a), (sl v2a), (sl v3a), iv a_g.Round, iv a_g.Year]) (plb Zb pk7 R R R) R (bdO t1 fun v9 hv9 t1 => (wlc (Zan Zxc R fun w hw => ZnZ w a_g v0a (ra r0 hw) v1a (ra r1 hw) v2a u2a (ra r2 hw) v3a (ra r3 hw) hv9) R fun x10 => (mv R R (wlq (pex R R) R (wlq (pex R R) R (wls (sbx (cs' := [(sl x10.1), (sl x10.2.1), (sl x10.2.2.1), (sl x10.2.2.2.2), iv v9.1.Round, iv v9.1.Year]) Zb pk4 R R R R R R R) (asg R R (wln (wjm _ (x10.1, x10.2.1, x10.2.2.1, x10.2.2.2.1, x10.2.2.2.2) (mtE t1) (su3 R R R) (zc pz (zc pk8 so4))))))))))))
 refine wcr (wlq (pol R R) R (asg R R (wnt (wcO t1 R (fun h8 t1 => ?_) fun h8 t1 => ?_))))
 exact wcg (wlq (v := .agg #[(sl v0a), (sl v1a), (sl v2a), (sl v3a), iv a_g.Round, iv a_g.Year]) (plb Zb pk7 R R R) R (bdO t1 fun v10 hv10 t1 => (wlc (Zan Zxb R fun w hw => ZpI w a_g v0a (ra r0 hw) v1a (ra r1 hw) v2a u2a (ra r2 hw) v3a (ra r3 hw) hv10) R fun x11 => (mv R R (wlq (pex R R) R (wlq (pex R R) R (wls (sbx (cs' := [(sl x11.1), (sl x11.2.1), (sl x11.2.2.1), (sl x11.2.2.2.2), iv v10.1.Round, iv v10.1.Year]) Zb pk4 R R R R R R R) (asg R R (wln (wjm _ (x11.1, x11.2.1, x11.2.2.1, x11.2.2.2.1, x11.2.2.2.2) (mtE t1) (su3 R R R) (zc pz (zc pk8 so4))))))))))))
 refine wcs (wcd [box b4 [(sl x3.1), (sl x3.2.1), (sl x3.2.2.1), (sl x3.2.2.2.2), iv v4.Round, iv v4.Year], ownF (sl x3.1) v4.Members, ownF (sl x3.2.1) v4.Stock, own (sl x3.2.2.1) x3.2.2.2.1 v4.Entries, ownF (sl x3.2.2.2.2) v4.Books, box b2 [iv a_a.Kind, iv a_a.A, iv a_a.B], box b1 [(sl v0a), (sl v1a), (sl v2a), (sl v3a), iv a_g.Round, iv a_g.Year]] 7 mixed (aq (v := .agg #[(sl x3.1), (sl x3.2.1), (sl x3.2.2.1), (sl x3.2.2.2.2), iv v4.Round, iv v4.Year]) 0 R (plb Zb pz R R R) (zc pz (zc pz (zc pz (zc pz (zc pz (zc pk1 (zc pk1 zn))))))) R (aq (v := .agg #[(sl v0a), (sl v1a), (sl v2a), (sl v3a), iv a_g.Round, iv a_g.Year]) 1 R (plb Zb pk6 R R R) (zc pz (zc pz (zc pz (zc pz (zc pz (zc pk1 (zc pk1 zn))))))) R (aq 2 R (pof ZaU R) (zc pz (zc pz (zc pz (zc pz (zc pz (zc pk1 (zc pk1 zn))))))) R (aq (v := iv a_a.A) 3 R (plx tk_3 pk5 R R) (zc pz (zc pz (zc pz (zc pz (zc pz (zc pk1 (zc pk1 zn))))))) R (a1 4 (bdO t1 fun v11 hv11 t1 => (wsc R (cz0 ZwN R fun w hw => Zr6 w a_g v0a (ra r0 hw) v1a (ra r1 hw) v2a u2a (ra r2 hw) v3a (ra r3 hw) a_a.A hv11) (fun _ => (zt (zc pz (zc pz (zc pz (zc pz (zc pz (zc pk1 (zc pk1 zn))))))))) R fun _ => (a1 5 (ZR R (sbx (cs' := [(sl x3.1), (sl x3.2.1), (sl x3.2.2.1), (sl x3.2.2.2.2), iv v4.Round, iv v4.Year]) Zb pk5 R R R R R R R) (zt (zc pk1 (zc pk1 (zc pk1 (zc pk1 (zc pk1 (zc pk1 (zc pk1 zn)))))))) (aq 6 R (Zp R) (zc pk1 (zc pk1 (zc pk1 (zc pk1 (zc pk1 (zc pk1 (zc pk1 zn))))))) R (ae (wqt (wct (wqr (wbr (wqr ?_)))))))))))))))))
 replace t0 := sqR t0 t1
 obtain rfl := oi t0
 exact Zx R Zb R R pz R fun w hw => ⟨(x3.1, x3.2.1, x3.2.2.1, x3.2.2.2.1, x3.2.2.2.2), R, hw.weak (zc pk2 (zc pk2 (zc pk2 (zc pk2 zn))))⟩
 intro j2 x4 hp
 replace t0 := sqE (j := j2) t0 hp
 refine wqb (wqt (wcs (wcr (mv R R (wnt (wcO t0 R (fun h9 t0 => ?_) fun h9 t0 => ?_))))))
 refine wcr (wlq (v := .agg #[(sl x4.1), (sl x4.2.1), (sl x4.2.2.1), (sl x4.2.2.2.2), iv ((j2.2).Round), iv ((j2.2).Year)]) (plb Zb pz R R R) R (wls (sbx (cs' := [(sl x4.1), (sl x4.2.1), (sl x4.2.2.1), (sl x4.2.2.2.2), iv ((j2.2).Round), iv ((j2.2).Year)]) Zb pk1 R R R R R R R) (asg R R (wnt (wct (wqr ?_))))))
 obtain rfl := oi t0
 exact Zx R Zb R R pz R fun w hw => ⟨(x4.1, x4.2.1, x4.2.2.1, x4.2.2.2.1, x4.2.2.2.2), R, hw.weak (zc pk2 (zc pk2 (zc pk2 (zc pk2 zn))))⟩
 refine wck (wqt (wcr (wlq (v := .agg #[(sl x4.1), (sl x4.2.1), (sl x4.2.2.1), (sl x4.2.2.2.2), iv ((j2.2).Round), iv ((j2.2).Year)]) (plb Zb pz R R R) R (wls (sbx (cs' := [(sl x4.1), (sl x4.2.1), (sl x4.2.2.1), (sl x4.2.2.2.2), iv ((j2.2).Round), iv ((j2.2).Year)]) Zb pk1 R R R R R R R) (asg R R (wnt (wct ?_)))))))
 obtain rfl := oi t0
 exact Zx R Zb R R pz R fun w hw => ⟨(x4.1, x4.2.1, x4.2.2.1, x4.2.2.2.1, x4.2.2.2.2), R, hw.weak (zc pk2 (zc pk2 (zc pk2 (zc pk2 zn))))⟩

theorem ZpV (w : World) (a_g : GGuild) (v0a : Hd) (r0 : rdF w (dm w []) (sl v0a) a_g.Members) (v1a : Hd) (r1 : rdF w (dm w []) (sl v1a) a_g.Stock) (v2a : Hd) (u2a : List Value) (r2 : RdL w (dm w []) (sl v2a) u2a a_g.Entries) (v3a : Hd) (r3 : rdF w (dm w []) (sl v3a) a_g.Books) (a_acts : List GAct) (v4a : Hd) (r4 : rdF w (dm w []) (sl v4a) a_acts) {r : GGuild × (List Int)} (t0 : ZgE a_g a_acts = some r) : Calls Tryz.prog 18 #[.agg #[(sl v0a), (sl v1a), (sl v2a), (sl v3a), .int .i64 a_g.Round, .int .i64 a_g.Year], (sl v4a)] w fun e w' => ∃ x : Hd × Hd × Hd × (List Value) × Hd × Hd, e = .returned (.tuple #[.agg #[(sl x.1), (sl x.2.1), (sl x.2.2.1), (sl x.2.2.2.2.1), .int .i64 r.1.Round, .int .i64 r.1.Year], (sl x.2.2.2.2.2)]) ∧ SH w [] [ownF (sl x.1) r.1.Members, ownF (sl x.2.1) r.1.Stock, own (sl x.2.2.1) x.2.2.2.1 r.1.Entries, ownF (sl x.2.2.2.2.1) r.1.Books, ownF (sl x.2.2.2.2.2) r.2] w' := by
 refine cwc (args := [_, _]) Tryz.func18 R Tryz.ntmps18 R ?_
 unfold ZgE at t0
 refine wcr (wle (Zg R R) R fun b1 => (wle (eal (cs := [(sl hn), (sl hn), (sl hn), (sl hn), iv 0, iv 0]) ZE) R fun b2 => (asg R R (wnt (wcr (wlq (v := .agg #[(sl v0a), (sl v1a), (sl v2a), (sl v3a), iv a_g.Round, iv a_g.Year]) (plb Zb pk1 R R R) R (bdO t0 fun v1 hv1 t0 => (wlc (Zan Zg3 R fun w hw => ZZ w a_g v0a (ra r0 hw) v1a (ra r1 hw) v2a u2a (ra r2 hw) v3a (ra r3 hw) hv1) R fun x1 => (wle (eal (cs := [(sl hn), (sl hn), (sl hn), (sl hn), iv 0, iv 0]) ZE) R fun b3 => (wls (sbx (cs' := [(sl x1.1), (sl x1.2.1), (sl x1.2.2.1), (sl x1.2.2.2.2), iv v1.Round, iv v1.Year]) Zb pz R R R R R R R) (wnt (wcs (wcs (bdO t0 fun y1 t1 t0 => (wj (J := Bool) (X := Unit) (fun z => y1 = z) (fun z _ => [(1, (sl v4a)), (4, ptr b2 0), (6, ptr b3 0), (21, .bool z)]) (fun _ _ => [box b3 [(sl x1.1), (sl x1.2.1), (sl x1.2.2.1), (sl x1.2.2.2.2), iv v1.Round, iv v1.Year], box b2 [(sl hn), (sl hn), (sl hn), (sl hn), iv 0, iv 0], ownF (sl x1.1) v1.Members, ownF (sl x1.2.1) v1.Stock, own (sl x1.2.2.1) x1.2.2.2.1 v1.Entries, ownF (sl x1.2.2.2.2) v1.Books]) ?_ ?_)))))))))))))))
 refine wcg (wlq (v := .agg #[(sl v0a), (sl v1a), (sl v2a), (sl v3a), iv a_g.Round, iv a_g.Year]) (plb Zb pk6 R R R) R (bdO t1 fun v2 hv2 t1 => (wlc (cz0 Zko R fun w hw => Zb3 w a_g v0a (ra r0 hw) v1a (ra r1 hw) v2a u2a (ra r2 hw) v3a (ra r3 hw) hv2) R fun _ => (wlq (Zd R) R (mv R R (wlo (t := 17) t1 R (fun h1 t1 => ?_) fun h1 t1 => ?_))))))
 exact wgf (j := 3) R R R R R (wgf (j := 3) R R R R R (wgf (j := 3) R R R R R (wlq (pit R R) R (wln (wjm _ () (mtE t1) (su4 R R R R) (zc pz (zc pk4 so4)))))))
 exact wgn (j := 3) R R R (mv R R (wgn (j := 3) R R R (wlq (pln (rga r4) Zjm R) R (wgn (j := 3) R R R (wlq (Zad R R) R (wlq (pif R R) R (wln (wjm _ () (mtE t1) (su4 R R R R) (zc pz (zc pk4 so4))))))))))
 intro j1 _ hp
 obtain rfl : j1 = y1 := hp.symm
 refine wqt (wcO t0 R (fun h2 t0 => ?_) fun h2 t0 => ?_)
 refine wcr (wlq (v := .agg #[(sl x1.1), (sl x1.2.1), (sl x1.2.2.1), (sl x1.2.2.2.2), iv v1.Round, iv v1.Year]) (plb Zb pz R R R) R (wls (sbx (cs' := [(sl x1.1), (sl x1.2.1), (sl x1.2.2.1), (sl x1.2.2.2.2), iv v1.Round, iv v1.Year]) Zb pk1 R R R R R R R) (asg R R (wnt (wct (wqr ?_))))))
 obtain rfl := oi t0
 exact Zx R Zb R R pz R fun w hw => ⟨(x1.1, x1.2.1, x1.2.2.1, x1.2.2.2.1, x1.2.2.2.2, hn), R, hw.weak (zc pk2 (zc pk2 (zc pk2 (zc pk2 (zc ZC zn)))))⟩
 refine wck (wqt (wcr (wle (ebs R Zai) R fun b4 => (asg R R (wnt (wcs (wcr (mv R R (wlq (pln (rga r4) Zjm R) R (mv R R (wnt (gdO t0 fun g1 t0 => (Zn t0 fun y1 l1 t0 => (wj (J := (List Int) × (List GMember) × (List Int) × (List GEntry) × (List GBooking) × Int × Int) (X := Hd × Hd × Hd × Hd × (List Value) × Hd) (fun z => y1 = z) (fun _ x => [(4, ptr b2 0), (6, ptr b3 0), (7, (sl x.1))]) (fun z x => [box b3 [(sl x.2.1), (sl x.2.2.1), (sl x.2.2.2.1), (sl x.2.2.2.2.2), iv z.2.2.2.2.2.1, iv z.2.2.2.2.2.2], box b2 [(sl hn), (sl hn), (sl hn), (sl hn), iv 0, iv 0], ownF (sl x.2.1) z.2.1, ownF (sl x.2.2.1) z.2.2.1, own (sl x.2.2.2.1) x.2.2.2.2.1 z.2.2.2.1, ownF (sl x.2.2.2.2.2) z.2.2.2.2.1, ownF (sl x.1) z.1]) ?_ ?_))))))))))))))
 refine wcb (wcf (X := Hd × Hd × Hd × Hd × (List Value) × Hd) l1 (fun k1 s1 x1l => [(4, ptr b2 0), (6, ptr b3 0), (7, (sl x1l.1)), (24, (sl v4a)), (25, iv ((a_acts.length : Nat) : Int)), (26, iv ((k1 : Nat) : Int))]) (fun k1 s1 x1l => [box b3 [(sl x1l.2.1), (sl x1l.2.2.1), (sl x1l.2.2.2.1), (sl x1l.2.2.2.2.2), iv s1.2.2.2.2.2.1, iv s1.2.2.2.2.2.2], box b2 [(sl hn), (sl hn), (sl hn), (sl hn), iv 0, iv 0], ownF (sl x1l.2.1) s1.2.1, ownF (sl x1l.2.2.1) s1.2.2.1, own (sl x1l.2.2.2.1) x1l.2.2.2.2.1 s1.2.2.2.1, ownF (sl x1l.2.2.2.2.2) s1.2.2.2.2.1, ownF (sl x1l.1) s1.1]) ((⟨some ⟨b4, 0, none⟩, 0, 0⟩ : Hd), x1.1, x1.2.1, x1.2.2.1, x1.2.2.2.1, x1.2.2.2.2) (su6 R R R R R R) (zc pk1 (zc pk1 (zc pk1 (zc pk1 (zc pk1 (zc pk1 (zc (pbo pz (n := 0) (xs := ([] : List Int)) R R (by unfold maxLen; omega)) zn))))))) fun k1 s1 x1l hN1 l1 => ?_)
 by_cases hk1 : k1 < a_acts.length
 refine fos l1 hk1 fun _ t1 l1 => ?_
 unfold Zgm at t1
 have c1 : (decide (((k1 : Nat) : Int) < ((a_acts.length : Nat) : Int))) = true := ddt (by omega)
 refine wcr (wlq (pls R R) R (wnt (wcs (wft R c1 (wck (wqt (wcs (wcb (wcr (wlq (Zm (k := k1) (rga r4) Zjm R R hk1) R (wlq (v := .agg #[iv ((gx a_acts k1).Kind), iv ((gx a_acts k1).A), iv ((gx a_acts k1).B)]) (Zaw (rga r4) Za3 R hk1 R R R) R (wle (eal (cs := [iv 0, iv 0, iv 0]) Zlo) R fun b5 => (wls (sbx (cs' := [iv ((gx a_acts k1).Kind), iv ((gx a_acts k1).A), iv ((gx a_acts k1).B)]) Za3 pz R R R R R R R) (wnt (wcr (wlq (v := .agg #[(sl x1l.2.1), (sl x1l.2.2.1), (sl x1l.2.2.2.1), (sl x1l.2.2.2.2.2), iv s1.2.2.2.2.2.1, iv s1.2.2.2.2.2.2]) (plb Zb pk1 R R R) R (wlq (v := .agg #[iv ((gx a_acts k1).Kind), iv ((gx a_acts k1).A), iv ((gx a_acts k1).B)]) (plb Za3 pz R R R) R (bdO t1 fun v3 hv3 t1 => (wlc (Zan ZwS R fun w hw => ZrB w (GGuild.mk s1.2.1 s1.2.2.1 s1.2.2.2.1 s1.2.2.2.2.1 s1.2.2.2.2.2.1 s1.2.2.2.2.2.2) x1l.2.1 (Rg.on (rgo pk3) hw) x1l.2.2.1 (Rg.on (rgo pk4) hw) x1l.2.2.2.1 x1l.2.2.2.2.1 (Rg.on (rgo pk5) hw) x1l.2.2.2.2.2 (Rg.on (rgo pk6) hw) (gx a_acts k1) hv3) R fun x4 => (mv R R (wlq (pex R R) R (wlq (pex R R) R (wle (eal (cs := [(sl hn), (sl hn), (sl hn), (sl hn), iv 0, iv 0]) ZE) R fun b6 => (wls (sbx (cs' := [(sl x4.1), (sl x4.2.1), (sl x4.2.2.1), (sl x4.2.2.2.2), iv v3.1.Round, iv v3.1.Year]) Zb pz R R R R R R R) (asg R R (wnt (wcr (wlq (v := .agg #[(sl x4.1), (sl x4.2.1), (sl x4.2.2.1), (sl x4.2.2.2.2), iv v3.1.Round, iv v3.1.Year]) (plb Zb pz R R R) R (wls (sbx (cs' := [(sl x4.1), (sl x4.2.1), (sl x4.2.2.1), (sl x4.2.2.2.2), iv v3.1.Round, iv v3.1.Year]) Zb pk6 R R R R R R R) (wnt (wcg (mv R R (mv R R (wle (ebs R (ZaA v3.2)) R fun b7 => (gdO t1 fun g2 t1 => (wle (Zf (xs := s1.1) (ys := ([v3.2] : List Int)) Zbp pk13 R R (Zi fun _ g => Rg.on (rgo (pbo pz (n := 1) (xs := ([v3.2] : List Int)) R R (by unfold maxLen; omega))) g) g2) R fun x5 => ?_))))))))))))))))))))))))))))))))))))
 refine asg R R (wln (wqb (wqt (wcg (wlq (Zj R R (by omega)) R ?_)))))
 exact mv R R (wln (Zk hk1 (stpN l1 t1) (x5, x4.1, x4.2.1, x4.2.2.1, x4.2.2.2.1, x4.2.2.2.2) (su6 R R R R R R) (zc pk2 (zc pk8 (zc pk3 (zc pk3 (zc pk3 (zc pk3 so1))))))))
 have c1 : (decide (((k1 : Nat) : Int) < ((a_acts.length : Nat) : Int))) = false := ddf (by omega)
 have en1 := foe l1 hk1
 exact wcr (wlq (pls R R) R (wnt (wcs (wff R c1 (wcx (wqe (wqe (wbx (wjm _ (x1l.1, x1l.2.1, x1l.2.2.1, x1l.2.2.2.1, x1l.2.2.2.2.1, x1l.2.2.2.2.2) (Sum.inl.inj en1) (su3 R R R) so7)))))))))
 intro e1 x3 hp
 obtain rfl : e1 = y1 := hp.symm
 refine wqt (wcr (wlq (v := .agg #[(sl x3.2.1), (sl x3.2.2.1), (sl x3.2.2.2.1), (sl x3.2.2.2.2.2), iv e1.2.2.2.2.2.1, iv e1.2.2.2.2.2.2]) (plb Zb pz R R R) R (mv R R (wls (sbx (cs' := [(sl x3.2.1), (sl x3.2.2.1), (sl x3.2.2.2.1), (sl x3.2.2.2.2.2), iv e1.2.2.2.2.2.1, iv e1.2.2.2.2.2.2]) Zb pk1 R R R R R R R) (asg R R (wnt (wct ?_)))))))
 obtain rfl := oi t0
 exact Zx R Zb R R pz R fun w hw => ⟨(x3.2.1, x3.2.2.1, x3.2.2.2.1, x3.2.2.2.2.1, x3.2.2.2.2.2, x3.1), R, hw.weak (zc pk2 (zc pk2 (zc pk2 (zc pk2 (zc pk2 zn)))))⟩

theorem ZnJ (w : World) (a_b : GBlock) (v0a : Hd) (r0 : rdF w (dm w []) (sl v0a) a_b.Cells) {r : Str} (t0 : Ze7 a_b = some r) : Calls Tryz.prog 46 #[.agg #[.int .i64 a_b.Size, (sl v0a)]] w fun e w' => e = .returned (bs r) ∧ SH w [] [] w' := by
 refine cwc (args := [_]) Tryz.func46 R Tryz.ntmps46 R ?_
 unfold Ze7 at t0
 refine wcr (wle (Zg R R) R fun b1 => (asg R R (wnt (wcs (wcr (wlq (v := .agg #[iv a_b.Size, (sl v0a)]) (plb Zc pz R R R) R (bdO t0 fun v1 hv1 t0 => (wlc (cz0 Zea R fun w hw => Z0 w a_b v0a (ra r0 hw) hv1) R fun _ => (wlq (Zd R) R (wnt (wcO t0 R (fun h1 t0 => ?_) fun h1 t0 => ?_)))))))))))
 refine wcr (asg R R (wnt (wct (wqr ?_))))
 obtain rfl := oi t0
 exact wq1 R R fun w hw => ⟨R, hw.weak zn⟩
 refine wck (wqt (wcr (wle (ebs R Zga) R fun b2 => (asg R R (wnt (wcs (wcr (wlq (pof ZM R) R (wlq (v := iv a_b.Size) (plx tk_3 pk1 R R) R (mv R R (wnt (gdO t0 fun g1 t0 => (Zn t0 fun y1 l1 t0 => (wj (J := List Str) (X := Hd) (fun z => y1 = z) (fun _ x => [(3, (sl x))]) (fun z x => [ownF (sl x) z]) ?_ ?_))))))))))))))
 refine wcb (wcf (X := Hd) l1 (fun k1 s1 x1l => [(1, ptr b1 0), (3, (sl x1l)), (12, iv a_b.Size), (13, iv ((k1 : Nat) : Int))]) (fun k1 s1 x1l => [box b1 [iv a_b.Size, (sl v0a)], ownF (sl x1l) s1]) (⟨some ⟨b2, 0, none⟩, 0, 0⟩ : Hd) (su4 R R R R) (zc pk1 (zc (pbo pz (n := 0) (xs := ([] : List Str)) R R (by unfold maxLen; omega)) zn)) fun k1 s1 x1l hN1 l1 => ?_)
 by_cases hk1 : k1 < (a_b.Size).toNat
 refine fos l1 hk1 fun _ t1 l1 => ?_
 unfold ZeD at t1
 have c1 : (decide (((k1 : Nat) : Int) < a_b.Size)) = true := ddt (by omega)
 refine wcr (wlq (pls R R) R (wnt (wcs (wft R c1 (wck (wqt (wcs (wcb (wcr (mv R R (asg R R (wnt (wcr (wle (ebs R Zga) R fun b3 => (asg R R (wnt (wcs (wcr (wlq (pof ZM R) R (wlq (v := iv a_b.Size) (plx tk_3 pk1 R R) R (mv R R (wnt (Zn t1 fun y2 l2 t1 => (wj (J := List Str) (X := Hd) (fun z => y2 = z) (fun _ x => [(1, ptr b1 0), (3, (sl x1l)), (5, (sl x)), (12, iv a_b.Size), (13, iv ((k1 : Nat) : Int))]) (fun z x => [box b1 [iv a_b.Size, (sl v0a)], ownF (sl x1l) s1, ownF (sl x) z]) ?_ ?_))))))))))))))))))))))))
 refine wcb (wcf (X := Hd) l2 (fun k2 s2 x2l => [(1, ptr b1 0), (3, (sl x1l)), (4, iv ((k1 : Nat) : Int)), (5, (sl x2l)), (12, iv a_b.Size), (13, iv ((k1 : Nat) : Int)), (18, iv a_b.Size), (19, iv ((k2 : Nat) : Int))]) (fun k2 s2 x2l => [box b1 [iv a_b.Size, (sl v0a)], ownF (sl x1l) s1, ownF (sl x2l) s2]) (⟨some ⟨b3, 0, none⟩, 0, 0⟩ : Hd) (su8 R R R R R R R R) (zc pk1 (zc pk1 (zc (pbo pz (n := 0) (xs := ([] : List Str)) R R (by unfold maxLen; omega)) zn))) fun k2 s2 x2l hN2 l2 => ?_)
 by_cases hk2 : k2 < (a_b.Size).toNat
 refine fos l2 hk2 fun _ t2 l2 => ?_
 unfold Zdh at t2
 have c2 : (decide (((k2 : Nat) : Int) < a_b.Size)) = true := ddt (by omega)
 refine wcr (wlq (pls R R) R (wnt (wcs (wft R c2 (wck (wqt (wcs (wcb (wcr (mv R R (asg R R (wnt (wcg (mv R R (wlq (v := .agg #[iv a_b.Size, (sl v0a)]) (plb Zc pz R R R) R (mv R R (mv R R (bdO t2 fun v2 hv2 t2 => (wlc (cz0 Zq2 R fun w hw => ZhI w a_b v0a (ra r0 hw) ((k2 : Nat) : Int) ((k1 : Nat) : Int) hv2) R fun _ => (bdO t2 fun v3 hv3 t2 => (wlc (cz0 ZuX R fun w hw => Zkm w v2 hv3) R fun _ => (wle (ebs R (ZeZ v3)) R fun b4 => (gdO t2 fun g2 t2 => (wle (Zf (xs := s2) (ys := ([v3] : List Str)) Zeq pk3 R R (Zi fun _ g => Rg.on (rgo (pbo pz (n := 1) (xs := ([v3] : List Str)) R R (by unfold maxLen; omega))) g) g2) R fun x3 => ?_))))))))))))))))))))))))
 refine asg R R (wln (wqb (wqt (wcg (wlq (Zj R R (by omega)) R ?_)))))
 exact mv R R (wln (Zk hk2 (stpN l2 t2) x3 (su8 R R R R R R R R) (zc pk2 (zc pk2 so1))))
 have c2 : (decide (((k2 : Nat) : Int) < a_b.Size)) = false := ddf (by omega)
 have en1 := foe l2 hk2
 exact wcr (wlq (pls R R) R (wnt (wcs (wff R c2 (wcx (wqe (wqe (wbx (wjm _ x2l (Sum.inl.inj en1) (su5 R R R R R) so3)))))))))
 intro e2 x2 hp
 obtain rfl : e2 = y2 := hp.symm
 refine wqt (wcg (mv R R (mv R R (bdO t1 fun v4 hv4 t1 => (wlc (cz0 ZqY R fun w hw => Zhc w e2 x2 (Rg.on (rgo pk2) hw) (⟨[44]⟩ : Str) hv4) R fun _ => (wle (ebs R (ZeZ v4)) R fun b5 => (gdO t1 fun g3 t1 => (wle (Zf (xs := s1) (ys := ([v4] : List Str)) Zeq pk2 R R (Zi fun _ g => Rg.on (rgo (pbo pz (n := 1) (xs := ([v4] : List Str)) R R (by unfold maxLen; omega))) g) g3) R fun x4 => ?_))))))))
 refine asg R R (wln (wqb (wqt (wcg (wlq (Zj R R (by omega)) R ?_)))))
 exact mv R R (wln (Zk hk1 (stpN l1 t1) x4 (su4 R R R R) (zc pk2 so1)))
 have c1 : (decide (((k1 : Nat) : Int) < a_b.Size)) = false := ddf (by omega)
 have en2 := foe l1 hk1
 exact wcr (wlq (pls R R) R (wnt (wcs (wff R c1 (wcx (wqe (wqe (wbx (wjm _ x1l (Sum.inl.inj en2) (su1 R) (zc pk1 zn))))))))))
 intro e1 x1 hp
 obtain rfl : e1 = y1 := hp.symm
 refine wqt (wcr (mv R R (bdO t0 fun v5 hv5 t0 => (wlc (cz0 ZqY R fun w hw => Zhc w e1 x1 (Rg.on (rgo pz) hw) (⟨[59]⟩ : Str) hv5) R fun _ => (asg R R (wnt (wct ?_)))))))
 obtain rfl := oi t0
 exact wq1 R R fun w hw => ⟨R, hw.weak zn⟩

theorem Zmf (w : World) (ht : Tb w) (a_g : GGuild) (v0a : Hd) (r0 : rdF w (dm w []) (sl v0a) a_g.Members) (v1a : Hd) (r1 : rdF w (dm w []) (sl v1a) a_g.Stock) (v2a : Hd) (u2a : List Value) (r2 : RdL w (dm w []) (sl v2a) u2a a_g.Entries) (v3a : Hd) (r3 : rdF w (dm w []) (sl v3a) a_g.Books) {r : List Str} (t0 : ZcQ a_g = some r) : Calls Tryz.prog 21 #[.agg #[(sl v0a), (sl v1a), (sl v2a), (sl v3a), .int .i64 a_g.Round, .int .i64 a_g.Year]] w fun e w' => ∃ x : Hd, e = .returned ((sl x)) ∧ SH w [] [ownF (sl x) r] w' := by
 refine cwc (args := [_]) Tryz.func21 R Tryz.ntmps21 R ?_
 unfold ZcQ at t0
 refine wcr (wle (Zg R R) R fun b1 => (asg R R (wnt (wcs (wcr (wlq (v := .agg #[(sl v0a), (sl v1a), (sl v2a), (sl v3a), iv a_g.Round, iv a_g.Year]) (plb Zb pz R R R) R (bdO t0 fun v1 hv1 t0 => (wlc (cz0 Zko R fun w hw => Zb3 w a_g v0a (ra r0 hw) v1a (ra r1 hw) v2a u2a (ra r2 hw) v3a (ra r3 hw) hv1) R fun _ => (wlq (Zd R) R (wnt (wcO t0 R (fun h1 t0 => ?_) fun h1 t0 => ?_)))))))))))
 refine wcr (asg R R (wnt (wct (wqr ?_))))
 obtain rfl := oi t0
 exact wq1 R R fun w hw => ⟨hn, R, hw.weak (zc ZC zn)⟩
 refine wck (wqt (wcr (wle (ebs R Zai) R fun b2 => (asg R R (wnt (wcs (wcr (wlq (pof Zct R) R (wlq (v := (sl v0a)) (plx ZeK pk1 R R) R (wlq (pln (rga r0) Zat R) R (mv R R (wnt (gdO t0 fun g1 t0 => (Zn t0 fun y1 l1 t0 => (wj (J := List Int) (X := Hd) (fun z => y1 = z) (fun _ x => [(1, ptr b1 0), (3, (sl x))]) (fun z x => [box b1 [(sl v0a), (sl v1a), (sl v2a), (sl v3a), iv a_g.Round, iv a_g.Year], ownF (sl x) z]) ?_ ?_)))))))))))))))
 refine wcb (wcf (X := Hd) l1 (fun k1 s1 x1l => [(1, ptr b1 0), (3, (sl x1l)), (14, (sl v0a)), (15, iv ((a_g.Members.length : Nat) : Int)), (16, iv ((k1 : Nat) : Int))]) (fun k1 s1 x1l => [box b1 [(sl v0a), (sl v1a), (sl v2a), (sl v3a), iv a_g.Round, iv a_g.Year], ownF (sl x1l) s1]) (⟨some ⟨b2, 0, none⟩, 0, 0⟩ : Hd) (su5 R R R R R) (zc pk1 (zc (pbo pz (n := 0) (xs := ([] : List Int)) R R (by unfold maxLen; omega)) zn)) fun k1 s1 x1l hN1 l1 => ?_)
 by_cases hk1 : k1 < a_g.Members.length
 refine fos l1 hk1 fun _ t1 l1 => ?_
 unfold Zd3 at t1
 have c1 : (decide (((k1 : Nat) : Int) < ((a_g.Members.length : Nat) : Int))) = true := ddt (by omega)
 refine wcr (wlq (pls R R) R (wnt (wcs (wft R c1 (wck (wqt (wcs (wcb (wcr (wlq (Zm (k := k1) (rga r0) Zat R R hk1) R (wlq (v := .agg #[iv ((gx a_g.Members k1).Number), iv ((gx a_g.Members k1).Since), iv ((gx a_g.Members k1).Paid)]) (Zaw (rga r0) ZiO R hk1 R R R) R (wle (eal (cs := [iv 0, iv 0, iv 0]) Zpv) R fun b3 => (wls (sbx (cs' := [iv ((gx a_g.Members k1).Number), iv ((gx a_g.Members k1).Since), iv ((gx a_g.Members k1).Paid)]) ZiO pz R R R R R R R) (wnt (wcg (mv R R (wlq (pof Zcq R) R (wlq (v := iv ((gx a_g.Members k1).Number)) (plx tk_3 pz R R) R (wle (ebs R (ZaA ((gx a_g.Members k1).Number))) R fun b4 => (gdO t1 fun g2 t1 => (wle (Zf (xs := s1) (ys := ([(gx a_g.Members k1).Number] : List Int)) Zbp pk3 R R (Zi fun _ g => Rg.on (rgo (pbo pz (n := 1) (xs := ([(gx a_g.Members k1).Number] : List Int)) R R (by unfold maxLen; omega))) g) g2) R fun x2 => ?_)))))))))))))))))))))
 refine asg R R (wln (wqb (wqt (wcg (wlq (Zj R R (by omega)) R ?_)))))
 exact mv R R (wln (Zk hk1 (stpN l1 t1) x2 (su5 R R R R R) (zc pk3 so1)))
 have c1 : (decide (((k1 : Nat) : Int) < ((a_g.Members.length : Nat) : Int))) = false := ddf (by omega)
 have en1 := foe l1 hk1
 exact wcr (wlq (pls R R) R (wnt (wcs (wff R c1 (wcx (wqe (wqe (wbx (wjm _ x1l (Sum.inl.inj en1) (su2 R R) so2)))))))))
 intro e1 x1 hp
 obtain rfl : e1 = y1 := hp.symm
 refine wqt (wcs (wcd [box b1 [(sl v0a), (sl v1a), (sl v2a), (sl v3a), iv a_g.Round, iv a_g.Year], ownF (sl x1) e1] 7 mixed (aq 0 R (pom R) so2 R (aq 2 R (pof Zb1 R) so2 R (aq (v := (sl v1a)) 3 R (plx ZcA pz R R) so2 R (a1 1 (bdO t0 fun v2 hv2 t0 => (wsc R (cz0 ZiJ R fun w hw => Zbz w (hw.tab ht) (⟨[109, 101, 109, 98, 101, 114, 115]⟩ : Str) e1 x1 (Rg.on (rgo pk1) hw) hv2) (fun _ => (zt so2)) R fun _ => (a1 4 (bdO t0 fun v3 hv3 t0 => (wsc R (cz0 ZiJ R fun w hw => Zbz w (hw.tab ht) (⟨[115, 116, 111, 99, 107]⟩ : Str) a_g.Stock v1a (ra r1 hw) hv3) (fun _ => (zt so2)) R fun _ => (a1 5 (wse R (ebs R (ZiE v2 v3)) (fun _ => (zt (zc pk1 (zc pk1 zn)))) R fun b5 => (aq 6 R (Zp R) (zc pk1 (zc pk1 zn)) R (ae (wqt (wcs (wcr (wlq (pof ZQ R) R (wlq (v := (sl v2a)) (plx Zas pk1 R R) R (wlq (pln (rga r2) ZaC R) R (mv R R (wnt (gdO t0 fun g3 t0 => (Zn t0 fun y1 l1 t0 => (wj (J := List Str) (X := Hd) (fun z => y1 = z) (fun _ x => [(1, ptr b1 0), (6, (sl x))]) (fun z x => [box b1 [(sl v0a), (sl v1a), (sl v2a), (sl v3a), iv a_g.Round, iv a_g.Year], ownF (sl x) z]) ?_ ?_))))))))))))))))))))))))))
 refine wcb (wcf (X := Hd) l1 (fun k2 s2 x2l => [(1, ptr b1 0), (6, (sl x2l)), (33, (sl v2a)), (34, iv ((a_g.Entries.length : Nat) : Int)), (35, iv ((k2 : Nat) : Int))]) (fun k2 s2 x2l => [box b1 [(sl v0a), (sl v1a), (sl v2a), (sl v3a), iv a_g.Round, iv a_g.Year], ownF (sl x2l) s2]) (⟨some ⟨b5, 0, none⟩, 2, 2⟩ : Hd) (su5 R R R R R) (zc pk1 (zc (pbo pz (n := 2) (xs := ([v2, v3] : List Str)) R R (by unfold maxLen; omega)) zn)) fun k2 s2 x2l hN2 l1 => ?_)
 by_cases hk2 : k2 < a_g.Entries.length
 refine fos l1 hk2 fun _ t1 l1 => ?_
 unfold ZdZ at t1
 have c2 : (decide (((k2 : Nat) : Int) < ((a_g.Entries.length : Nat) : Int))) = true := ddt (by omega)
 refine wcr (wlq (pls R R) R (wnt (wcs (wft R c2 (wck (wqt (wcs (wcb (wcr (wlq (Zm (k := k2) (rga r2) ZaC R R hk2) R (ZdM (rga r2) hk2 ?_)))))))))))
 rintro ⟨_, _, he1⟩
 obtain ⟨w1, hc1, _⟩ := ZaX.1 he1
 refine wlq (v := .agg #[iv ((gx a_g.Entries k2).Owner), iv ((gx a_g.Entries k2).Day), iv (((gx a_g.Entries k2).Block).Size), (sl w1)]) (Zb7 (rga r2) Za0 R hc1 R R R) R (wle (eal (cs := [iv 0, iv 0, iv 0, (sl hn)]) Zgl) R fun b6 => (wls (sbx (cs' := [iv ((gx a_g.Entries k2).Owner), iv ((gx a_g.Entries k2).Day), iv (((gx a_g.Entries k2).Block).Size), (sl w1)]) Za0 pz R R R R R R R) (wnt (wcd [box b6 [iv ((gx a_g.Entries k2).Owner), iv ((gx a_g.Entries k2).Day), iv (((gx a_g.Entries k2).Block).Size), (sl w1)], box b1 [(sl v0a), (sl v1a), (sl v2a), (sl v3a), iv a_g.Round, iv a_g.Year]] 17 mixed (aq 0 R (pom R) so2 R (aq 1 R (pof ZdI R) so2 R (aq (v := iv ((gx a_g.Entries k2).Owner)) 2 R (plx tk_3 pz R R) so2 R (aq 5 R (pof Zb5 R) so2 R (aq (v := iv ((gx a_g.Entries k2).Day)) 6 R (plx tk_3 pz R R) so2 R (aq 10 R (pof ZaJ R) so2 R (aq (v := .agg #[iv (((gx a_g.Entries k2).Block).Size), (sl w1)]) 11 R (plb Zc pz R R R) so2 R (a1 3 (bdO t1 fun v4 hv4 t1 => (wsc R (cz0 Zgq R fun w hw => Zap w (hw.tab ht) ((gx a_g.Entries k2).Owner) hv4) (fun _ => (zt so2)) R fun _ => (gdO t1 fun g4 t1 => (aq 4 R (ZO R R g4) so2 R (a1 7 (bdO t1 fun v5 hv5 t1 => (wsc R (cz0 Zgq R fun w hw => Zap w (hw.tab ht) ((gx a_g.Entries k2).Day) hv5) (fun _ => (zt so2)) R fun _ => (gdO t1 fun g5 t1 => (aq 8 R (ZO R R g5) so2 R (gdO t1 fun g6 t1 => (aq 9 R (ZO R R g6) so2 R (a1 12 (bdO t1 fun v6 hv6 t1 => (wsc R (cz0 Zw7 R fun w hw => ZnJ w ((gx a_g.Entries k2).Block) w1 (Rg.on (Zbg hc1 (rga r2) hk2) hw) hv6) (fun _ => (zt so2)) R fun _ => (gdO t1 fun g7 t1 => (aq 13 R (ZO R R g7) so2 R (a1 14 (wse R (ebs R (ZeZ (sadd (sadd (sadd (sadd v4 (⟨[32]⟩ : Str)) v5) (⟨[32]⟩ : Str)) v6))) (fun _ => (zt (zc pk1 (zc pk1 zn)))) R fun b7 => (a1 15 (gdO t1 fun g8 t1 => (wse R (Zf (xs := s2) (ys := ([(sadd (sadd (sadd (sadd v4 (⟨[32]⟩ : Str)) v5) (⟨[32]⟩ : Str)) v6)] : List Str)) Zeq pk3 R R (Zi fun _ g => Rg.on (rgo (pbo pz (n := 1) (xs := ([(sadd (sadd (sadd (sadd v4 (⟨[32]⟩ : Str)) v5) (⟨[32]⟩ : Str)) v6)] : List Str)) R R (by unfold maxLen; omega))) g) g8) (fun _ => (zt (zc pk2 (zc pk2 zn)))) R fun x4 => ?_)))))))))))))))))))))))))))))))))
 refine aq 16 R (Zp R) (zc pk2 (zc pk2 zn)) R (ae (wqb (wqt (wcg (wlq (Zj R R (by omega)) R ?_)))))
 exact mv R R (wln (Zk hk2 (stpN l1 t1) x4 (su5 R R R R R) (zc pk3 so1)))
 have c2 : (decide (((k2 : Nat) : Int) < ((a_g.Entries.length : Nat) : Int))) = false := ddf (by omega)
 have en2 := foe l1 hk2
 exact wcr (wlq (pls R R) R (wnt (wcs (wff R c2 (wcx (wqe (wqe (wbx (wjm _ x2l (Sum.inl.inj en2) (su2 R R) so2)))))))))
 intro e2 x3 hp
 obtain rfl : e2 = y1 := hp.symm
 refine wqt (wcs (bdO t0 fun v7 hv7 t0 => (gdO t0 fun g9 t0 => (gdO t0 fun g10 t0 => (bdO t0 fun v8 hv8 t0 => (bdO t0 fun v9 hv9 t0 => (gdO t0 fun g11 t0 => (bdO t0 fun v10 hv10 t0 => (gdO t0 fun g12 t0 => (wcj (X := Hd) (fun _ => True) (fun z => [(2, (sl z))]) (fun z => [ownF (sl z) (e2 ++ [(sadd (sadd (sadd (⟨[114, 111, 117, 110, 100, 32]⟩ : Str) v7) (⟨[47]⟩ : Str)) v9), v10])]) ?_ ?_))))))))))
 refine wcd [box b1 [(sl v0a), (sl v1a), (sl v2a), (sl v3a), iv a_g.Round, iv a_g.Year]] 17 mixed (aq 0 R (pom R) so1 R (aq 1 R (pof Zcs R) so1 R (aq (v := iv a_g.Round) 2 R (plx tk_3 pz R R) so1 R (aq (v := .agg #[(sl v0a), (sl v1a), (sl v2a), (sl v3a), iv a_g.Round, iv a_g.Year]) 6 R (plb Zb pz R R R) so1 R (aq 10 R (pof Zc3 R) so1 R (aq (v := iv a_g.Year) 11 R (plx tk_3 pz R R) so1 R (wa_2 (i := 3) (j := 12) (by kernel_rfl) ?_ ?_)))))))
 refine wsc R (cz0 Zgq R fun w hw => Zap w (hw.tab ht) a_g.Round hv7) (fun _ => (zt so1)) R fun _ => aq 4 R (ZO R R g9) so1 R (aq 5 R (ZO R R g10) so1 R (wa_2 (i := 7) (j := 12) (by kernel_rfl) ?_ ?_))
 refine wsc R (cz0 ZmP R fun w hw => Zcr w a_g v0a (ra r0 hw) v1a (ra r1 hw) v2a u2a (ra r2 hw) v3a (ra r3 hw) hv8) (fun _ => (zt so1)) R fun _ => wa_2 (i := 8) (j := 12) (by kernel_rfl) ?_ ?_
 refine wsc R (cz0 Zgq R fun w hw => Zap w (hw.tab ht) v8 hv9) (fun _ => (zt so1)) R fun _ => aq 9 R (ZO R R g11) so1 R (a1 12 (wse R (ebs R (ZaA a_g.Year)) (fun _ => (zt (zc pk1 zn))) R fun b8 => (a1 13 (wsc R (cz0 ZiJ R fun w hw => Zbz w (hw.tab ht) (⟨[121, 101, 97, 114]⟩ : Str) ([a_g.Year] : List Int) (⟨some ⟨b8, 0, none⟩, 1, 1⟩ : Hd) (Rg.on (rgo (pbo pz (n := 1) (xs := ([a_g.Year] : List Int)) R R (by unfold maxLen; omega))) hw) hv10) (fun _ => (zt (zc pk1 zn))) R fun _ => ?_))))
 refine a1 14 (wse R (ebs R (ZiE (sadd (sadd (sadd (⟨[114, 111, 117, 110, 100, 32]⟩ : Str) v7) (⟨[47]⟩ : Str)) v9) v10)) (fun _ => (zt (zc pk2 zn))) R fun b9 => (a1 15 (wse R (Zf (xs := e2) (ys := ([(sadd (sadd (sadd (⟨[114, 111, 117, 110, 100, 32]⟩ : Str) v7) (⟨[47]⟩ : Str)) v9), v10] : List Str)) Zeq pk3 R R (Zi fun _ g => Rg.on (rgo (pbo pz (n := 2) (xs := ([(sadd (sadd (sadd (⟨[114, 111, 117, 110, 100, 32]⟩ : Str) v7) (⟨[47]⟩ : Str)) v9), v10] : List Str)) R R (by unfold maxLen; omega))) g) g12) (fun _ => (zt (zc pk3 zn))) R fun x5 => ?_)))
 exact aq 16 R (Zp R) (zc pk3 zn) R (ae (wqm x5 trivial (su1 R) so1))
 refine wse R (ebs R (ZaA a_g.Year)) (fun _ => (zt (zc pk1 zn))) R fun b10 => a1 8 (wsc R (cz0 Zgq R fun w hw => Zap w (hw.tab ht) v8 hv9) (fun _ => (zt (zc pk1 zn))) R fun _ => (aq 9 R (ZO R R g11) (zc pk1 zn) R (a1 13 (wsc R (cz0 ZiJ R fun w hw => Zbz w (hw.tab ht) (⟨[121, 101, 97, 114]⟩ : Str) ([a_g.Year] : List Int) (⟨some ⟨b10, 0, none⟩, 1, 1⟩ : Hd) (Rg.on (rgo (pbo pz (n := 1) (xs := ([a_g.Year] : List Int)) R R (by unfold maxLen; omega))) hw) hv10) (fun _ => (zt (zc pk1 zn))) R fun _ => ?_))))
 refine a1 14 (wse R (ebs R (ZiE (sadd (sadd (sadd (⟨[114, 111, 117, 110, 100, 32]⟩ : Str) v7) (⟨[47]⟩ : Str)) v9) v10)) (fun _ => (zt (zc pk2 zn))) R fun b11 => (a1 15 (wse R (Zf (xs := e2) (ys := ([(sadd (sadd (sadd (⟨[114, 111, 117, 110, 100, 32]⟩ : Str) v7) (⟨[47]⟩ : Str)) v9), v10] : List Str)) Zeq pk3 R R (Zi fun _ g => Rg.on (rgo (pbo pz (n := 2) (xs := ([(sadd (sadd (sadd (⟨[114, 111, 117, 110, 100, 32]⟩ : Str) v7) (⟨[47]⟩ : Str)) v9), v10] : List Str)) R R (by unfold maxLen; omega))) g) g12) (fun _ => (zt (zc pk3 zn))) R fun x6 => ?_)))
 exact aq 16 R (Zp R) (zc pk3 zn) R (ae (wqm x6 trivial (su1 R) so1))
 refine wse R (ebs R (ZaA a_g.Year)) (fun _ => (zt (zc pk1 zn))) R fun b12 => a1 7 (wsc R (cz0 ZmP R fun w hw => Zcr w a_g v0a (ra r0 hw) v1a (ra r1 hw) v2a u2a (ra r2 hw) v3a (ra r3 hw) hv8) (fun _ => (zt (zc pk1 zn))) R fun _ => (a1 8 (wsc R (cz0 Zgq R fun w hw => Zap w (hw.tab ht) v8 hv9) (fun _ => (zt (zc pk1 zn))) R fun _ => (aq 9 R (ZO R R g11) (zc pk1 zn) R (a1 13 (wsc R (cz0 ZiJ R fun w hw => Zbz w (hw.tab ht) (⟨[121, 101, 97, 114]⟩ : Str) ([a_g.Year] : List Int) (⟨some ⟨b12, 0, none⟩, 1, 1⟩ : Hd) (Rg.on (rgo (pbo pz (n := 1) (xs := ([a_g.Year] : List Int)) R R (by unfold maxLen; omega))) hw) hv10) (fun _ => (zt (zc pk1 zn))) R fun _ => ?_))))))
 refine a1 14 (wse R (ebs R (ZiE (sadd (sadd (sadd (⟨[114, 111, 117, 110, 100, 32]⟩ : Str) v7) (⟨[47]⟩ : Str)) v9) v10)) (fun _ => (zt (zc pk2 zn))) R fun b13 => (a1 15 (wse R (Zf (xs := e2) (ys := ([(sadd (sadd (sadd (⟨[114, 111, 117, 110, 100, 32]⟩ : Str) v7) (⟨[47]⟩ : Str)) v9), v10] : List Str)) Zeq pk3 R R (Zi fun _ g => Rg.on (rgo (pbo pz (n := 2) (xs := ([(sadd (sadd (sadd (⟨[114, 111, 117, 110, 100, 32]⟩ : Str) v7) (⟨[47]⟩ : Str)) v9), v10] : List Str)) R R (by unfold maxLen; omega))) g) g12) (fun _ => (zt (zc pk3 zn))) R fun x7 => ?_)))
 exact aq 16 R (Zp R) (zc pk3 zn) R (ae (wqm x7 trivial (su1 R) so1))
 refine wse R (ebs R (ZaA a_g.Year)) (fun _ => (zt (zc pk1 zn))) R fun b14 => a1 3 (wsc R (cz0 Zgq R fun w hw => Zap w (hw.tab ht) a_g.Round hv7) (fun _ => (zt (zc pk1 zn))) R fun _ => (aq 4 R (ZO R R g9) (zc pk1 zn) R (aq 5 R (ZO R R g10) (zc pk1 zn) R (a1 7 (wsc R (cz0 ZmP R fun w hw => Zcr w a_g v0a (ra r0 hw) v1a (ra r1 hw) v2a u2a (ra r2 hw) v3a (ra r3 hw) hv8) (fun _ => (zt (zc pk1 zn))) R fun _ => (a1 8 (wsc R (cz0 Zgq R fun w hw => Zap w (hw.tab ht) v8 hv9) (fun _ => (zt (zc pk1 zn))) R fun _ => (aq 9 R (ZO R R g11) (zc pk1 zn) R (a1 13 (wsc R (cz0 ZiJ R fun w hw => Zbz w (hw.tab ht) (⟨[121, 101, 97, 114]⟩ : Str) ([a_g.Year] : List Int) (⟨some ⟨b14, 0, none⟩, 1, 1⟩ : Hd) (Rg.on (rgo (pbo pz (n := 1) (xs := ([a_g.Year] : List Int)) R R (by unfold maxLen; omega))) hw) hv10) (fun _ => (zt (zc pk1 zn))) R fun _ => ?_))))))))))
 refine a1 14 (wse R (ebs R (ZiE (sadd (sadd (sadd (⟨[114, 111, 117, 110, 100, 32]⟩ : Str) v7) (⟨[47]⟩ : Str)) v9) v10)) (fun _ => (zt (zc pk2 zn))) R fun b15 => (a1 15 (wse R (Zf (xs := e2) (ys := ([(sadd (sadd (sadd (⟨[114, 111, 117, 110, 100, 32]⟩ : Str) v7) (⟨[47]⟩ : Str)) v9), v10] : List Str)) Zeq pk3 R R (Zi fun _ g => Rg.on (rgo (pbo pz (n := 2) (xs := ([(sadd (sadd (sadd (⟨[114, 111, 117, 110, 100, 32]⟩ : Str) v7) (⟨[47]⟩ : Str)) v9), v10] : List Str)) R R (by unfold maxLen; omega))) g) g12) (fun _ => (zt (zc pk3 zn))) R fun x8 => ?_)))
 exact aq 16 R (Zp R) (zc pk3 zn) R (ae (wqm x8 trivial (su1 R) so1))
 intro x9 _
 refine wqt (wct ?_)
 obtain rfl := oi t0
 exact wq1 R R fun w hw => ⟨x9, R, hw.weak so1⟩

theorem Zj0 (w : World) (ht : Tb w) (a_text : Str) {r : (List Str) × Bool} (t0 : ZcH a_text = some r) : Calls Tryz.prog 5 #[bs a_text] w fun e w' => ∃ x : Hd, e = .returned (.tuple #[(sl x), .bool r.2]) ∧ SH w [] [ownF (sl x) r.1] w' := by
 refine cwc (args := [_]) Tryz.func5 R Tryz.ntmps5 R ?_
 unfold ZcH at t0
 refine wcr (asg R R (asg R R (wnt (wcs (wcr (mv R R (wlq (ZbM Z2 R) R (wlq (Zad R R) R (wnt (wcO t0 R (fun h1 t0 => ?_) fun h1 t0 => ?_))))))))))
 refine wcr (asg R R (asg R R (wnt (wct (wqr ?_)))))
 obtain rfl := oi t0
 exact ZJ R R R fun w hw => ⟨hn, R, hw.weak (zc ZC zn)⟩
 refine wck (wqt (wcr (wle (ebs R Zsy) R fun b1 => (asg R R (wnt (wcs (wcr (mv R R (bdO t0 fun v1 hv1 t0 => (wlc (cz1 Zxi R fun w hw => Zpy w (hw.tab ht) a_text (⟨[10]⟩ : Str) hv1) R fun x1 => (wlq (pln (rgo pz) ZaZ R) R (mv R R (wnt (gdO t0 fun g1 t0 => (sqO t0 fun y1 l1 t0 => (wj (J := List GAct) (X := Hd) (fun z => y1 = .inl z) (fun _ x => [(4, (sl x))]) (fun z x => [ownF (sl x) z]) ?_ ?_))))))))))))))))
 refine wcb (wcf (X := Hd) l1 (fun k1 s1 x1l => [(4, (sl x1l)), (21, (sl x1)), (22, iv ((v1.length : Nat) : Int)), (23, iv ((k1 : Nat) : Int))]) (fun k1 s1 x1l => [ownF (sl x1) v1, ownF (sl x1l) s1]) (⟨some ⟨b1, 0, none⟩, 0, 0⟩ : Hd) (su4 R R R R) (zc pz (zc (pbo pz (n := 0) (xs := ([] : List GAct)) R R (by unfold maxLen; omega)) zn)) fun k1 s1 x1l hN1 l1 => ?_)
 by_cases hk1 : k1 < v1.length
 refine fos l1 hk1 fun _ t1 l1 => ?_
 unfold Zdi at t1
 have c1 : (decide (((k1 : Nat) : Int) < ((v1.length : Nat) : Int))) = true := ddt (by omega)
 refine wcr (wlq (pls R R) R (wnt (wcs (wft R c1 (wck (wqt (wcs (wcb (wcr (wlq (Zm (k := k1) (rgo pz) ZaZ R R hk1) R (wlq (v := bs (gx v1 k1)) (Zw (rgo pz) tk_9 R hk1 R) R (asg R R (wnt (wcs (wcr (mv R R (bdO t1 fun v2 hv2 t1 => (wlc (cz1 ZuQ R fun w hw => Zi4 w (gx v1 k1) hv2) R fun x3 => (mv R R (wlq (pex R R) R (wlq (pex R R) R (asg R R (asg R R (wnt (wcs (wcj (X := Unit) (fun _ => True) (fun _ => [(4, (sl x1l)), (6, bs (gx v1 k1)), (21, (sl x1)), (22, iv ((v1.length : Nat) : Int)), (23, iv ((k1 : Nat) : Int)), (37, .bool (v2.2 && (((v2.1.length : Nat) : Int) == 0)))]) (fun _ => [ownF (sl x1l) s1, ownF (sl x1) v1]) ?_ ?_))))))))))))))))))))))))))
 refine wcg (mv R R (mv R R (Zae (t := 33) R (fun h2 => ?_) fun h2 => ?_)))
 exact wgn (j := 1) R R R (mv R R (wgn (j := 1) R R R (wlq (pln (rgo pz) ZaZ R) R (wgn (j := 1) R R R (wlq (pol R R) R (wlq (pit R R) R (wln (wqm () trivial (yc R (yc R (yc R (yc R (yc R (ZS R (by rw [h2]; rfl) yn)))))) (zc pk2 (zc pk1 zn))))))))))
 exact wgf (j := 1) R R R R R (wgf (j := 1) R R R R R (wgf (j := 1) R R R R R (wlq (pif R R) R (wln (wqm () trivial (yc R (yc R (yc R (yc R (yc R (ZS R (by rw [h2]; rfl) yn)))))) (zc pk2 (zc pk1 zn)))))))
 intro _ _
 refine wqt (wcO t1 R (fun h3 t1 => ?_) fun h3 t1 => ?_)
 refine wcx (wqe (wbx (wqt (wcg (wlq (Zj R R (by omega)) R ?_)))))
 exact mv R R (wln (Zk hk1 (stpN l1 t1) x1l (su4 R R R R) (zc pk1 so1)))
 refine wck (wqt (wcr (mv R R (bdO t1 fun v3 hv3 t1 => (wlc (cz0 ZwZ R fun w hw => Zpk w (hw.tab ht) (gx v1 k1) hv3) R fun _ => (mv R R (wlq (pex R R) R (wlq (pex R R) R (wle (eal (cs := [iv 0, iv 0, iv 0]) Zlo) R fun b2 => (wls (sbx (cs' := [iv v3.1.Kind, iv v3.1.A, iv v3.1.B]) Za3 pz R R R R R R R) (asg R R (wnt (wcs (wcr (mv R R (wlq (Zd R) R (wnt (wcO t1 R (fun h4 t1 => ?_) fun h4 t1 => ?_))))))))))))))))))
 refine wcr (asg R R (asg R R (wnt (wct (wqr (wbr (wqr (wqr (wbr (wqr (wqr ?_)))))))))))
 replace t0 := lpR t0 l1 t1
 obtain rfl := oi t0
 exact ZJ R R R fun w hw => ⟨hn, R, hw.weak (zc ZC zn)⟩
 refine wck (wqt (wcg (mv R R (wlq (v := .agg #[iv v3.1.Kind, iv v3.1.A, iv v3.1.B]) (plb Za3 pz R R R) R (wle (ebs R (Zsl v3.1.Kind v3.1.A v3.1.B)) R fun b3 => (gdO t1 fun g2 t1 => (wle (Zf (xs := s1) (ys := ([v3.1] : List GAct)) Zu3 pk2 R R (Zi fun _ g => Rg.on (rgo (pbo pz (n := 1) (xs := ([v3.1] : List GAct)) R R (by unfold maxLen; omega))) g) g2) R fun x5 => ?_)))))))
 refine asg R R (wln (wqb (wqt (wcg (wlq (Zj R R (by omega)) R ?_)))))
 exact mv R R (wln (Zk hk1 (stpN l1 t1) x5 (su4 R R R R) (zc pk3 so1)))
 have c1 : (decide (((k1 : Nat) : Int) < ((v1.length : Nat) : Int))) = false := ddf (by omega)
 have en1 := foe l1 hk1
 exact wcr (wlq (pls R R) R (wnt (wcs (wff R c1 (wcx (wqe (wqe (wbx (wjm _ x1l en1 (su1 R) (zc pk1 zn))))))))))
 intro e1 x2 hp
 replace t0 := sqE (j := e1) t0 hp
 refine wqt (wcs (wcr (mv R R (wlq (pln (rgo pz) Zjm R) R (wlq (Zad R R) R (wnt (wcO t0 R (fun h5 t0 => ?_) fun h5 t0 => ?_)))))))
 refine wcr (asg R R (asg R R (wnt (wct (wqr ?_)))))
 obtain rfl := oi t0
 exact ZJ R R R fun w hw => ⟨hn, R, hw.weak (zc ZC zn)⟩
 refine wck (wqt (wcr (bdO t0 fun v4 hv4 t0 => (wlc (Zan Zw6 R fun w hw => Zl8 w hv4) R fun x6 => (mv R R (bdO t0 fun v5 hv5 t0 => (wlc (Zu0 Zxo R fun w hw => ZpV w v4 x6.1 (Rg.on (rgo pz) hw) x6.2.1 (Rg.on (rgo pk1) hw) x6.2.2.1 x6.2.2.2.1 (Rg.on (rgo pk2) hw) x6.2.2.2.2 (Rg.on (rgo pk3) hw) e1 x2 (Rg.on (rgo pk4) hw) hv5) R fun x7 => (mv R R (wlq (pex R R) R (wlq (pex R R) R (wle (eal (cs := [(sl hn), (sl hn), (sl hn), (sl hn), iv 0, iv 0]) ZE) R fun b4 => (wls (sbx (cs' := [(sl x7.1), (sl x7.2.1), (sl x7.2.2.1), (sl x7.2.2.2.2.1), iv v5.1.Round, iv v5.1.Year]) Zb pz R R R R R R R) (asg R R (wnt (wcr (wle (ebs R Zga) R fun b5 => (asg R R (wnt (wcs (wcr (mv R R (wlq (pln (rgo pk6) Zy R) R (mv R R (wnt (gdO t0 fun g3 t0 => (Zn t0 fun y1 l1 t0 => (wj (J := List Str) (X := Hd) (fun z => y1 = z) (fun _ x => [(11, ptr b4 0), (13, (sl x))]) (fun z x => [box b4 [(sl x7.1), (sl x7.2.1), (sl x7.2.2.1), (sl x7.2.2.2.2.1), iv v5.1.Round, iv v5.1.Year], ownF (sl x7.1) v5.1.Members, ownF (sl x7.2.1) v5.1.Stock, own (sl x7.2.2.1) x7.2.2.2.1 v5.1.Entries, ownF (sl x7.2.2.2.2.1) v5.1.Books, ownF (sl x) z]) ?_ ?_)))))))))))))))))))))))))))
 refine wcb (wcf (X := Hd) l1 (fun k2 s2 x2l => [(11, ptr b4 0), (13, (sl x2l)), (60, (sl x7.2.2.2.2.2)), (61, iv ((v5.2.length : Nat) : Int)), (62, iv ((k2 : Nat) : Int))]) (fun k2 s2 x2l => [box b4 [(sl x7.1), (sl x7.2.1), (sl x7.2.2.1), (sl x7.2.2.2.2.1), iv v5.1.Round, iv v5.1.Year], ownF (sl x7.1) v5.1.Members, ownF (sl x7.2.1) v5.1.Stock, own (sl x7.2.2.1) x7.2.2.2.1 v5.1.Entries, ownF (sl x7.2.2.2.2.1) v5.1.Books, ownF (sl x7.2.2.2.2.2) v5.2, ownF (sl x2l) s2]) (⟨some ⟨b5, 0, none⟩, 0, 0⟩ : Hd) (su5 R R R R R) (zc pk1 (zc pk1 (zc pk1 (zc pk1 (zc pk1 (zc pk1 (zc (pbo pz (n := 0) (xs := ([] : List Str)) R R (by unfold maxLen; omega)) zn))))))) fun k2 s2 x2l hN2 l1 => ?_)
 by_cases hk2 : k2 < v5.2.length
 refine fos l1 hk2 fun _ t1 l1 => ?_
 unfold ZeE at t1
 have c2 : (decide (((k2 : Nat) : Int) < ((v5.2.length : Nat) : Int))) = true := ddt (by omega)
 refine wcr (wlq (pls R R) R (wnt (wcs (wft R c2 (wck (wqt (wcs (wcb (wcr (wlq (Zm (k := k2) (rgo pk5) Zy R R hk2) R (wlq (v := iv (gx v5.2 k2)) (Zw (rgo pk5) tk_3 R hk2 R) R (asg R R (wnt (wcg (mv R R (mv R R (bdO t1 fun v6 hv6 t1 => (wlc (cz0 Zgq R fun w hw => Zap w (hw.tab ht) (gx v5.2 k2) hv6) R fun _ => (wle (ebs R (ZeZ v6)) R fun b6 => (gdO t1 fun g4 t1 => (wle (Zf (xs := s2) (ys := ([v6] : List Str)) Zeq pk7 R R (Zi fun _ g => Rg.on (rgo (pbo pz (n := 1) (xs := ([v6] : List Str)) R R (by unfold maxLen; omega))) g) g4) R fun x9 => ?_)))))))))))))))))))))
 refine asg R R (wln (wqb (wqt (wcg (wlq (Zj R R (by omega)) R ?_)))))
 exact mv R R (wln (Zk hk2 (stpN l1 t1) x9 (su5 R R R R R) (zc pk2 (zc pk2 (zc pk2 (zc pk2 (zc pk2 (zc pk2 so1))))))))
 have c2 : (decide (((k2 : Nat) : Int) < ((v5.2.length : Nat) : Int))) = false := ddf (by omega)
 have en2 := foe l1 hk2
 exact wcr (wlq (pls R R) R (wnt (wcs (wff R c2 (wcx (wqe (wqe (wbx (wjm _ x2l (Sum.inl.inj en2) (su2 R R) (zc pz (zc pz (zc pz (zc pz (zc pz (zc pk1 zn)))))))))))))))
 intro e2 x8 hp
 obtain rfl : e2 = y1 := hp.symm
 refine wqt (wcr (mv R R (wlq (v := .agg #[(sl x7.1), (sl x7.2.1), (sl x7.2.2.1), (sl x7.2.2.2.2.1), iv v5.1.Round, iv v5.1.Year]) (plb Zb pz R R R) R (bdO t0 fun v7 hv7 t0 => (wlc (cz1 Zxj R fun w hw => Zmf w (hw.tab ht) v5.1 x7.1 (Rg.on (rgo pk1) hw) x7.2.1 (Rg.on (rgo pk2) hw) x7.2.2.1 x7.2.2.2.1 (Rg.on (rgo pk3) hw) x7.2.2.2.2.1 (Rg.on (rgo pk4) hw) hv7) R fun x10 => (gdO t0 fun g5 t0 => (wle (Zf (xs := e2) (ys := v7) Zeq pk6 R R (Zi fun _ g => Rg.on (rgo pz) g) g5) R fun x11 => (asg R R (asg R R (wnt (wct ?_)))))))))))
 obtain rfl := oi t0
 exact ZJ R R R fun w hw => ⟨x11, R, hw.weak so1⟩

theorem ZjU (w : World) (a_a : List Str) (v0a : Hd) (r0 : rdF w (dm w []) (sl v0a) a_a) (a_b : List Str) (v1a : Hd) (r1 : rdF w (dm w []) (sl v1a) a_b) {r : Bool} (t0 : ZdN a_a a_b = some r) : Calls Tryz.prog 6 #[(sl v0a), (sl v1a)] w fun e w' => e = .returned (.bool r) ∧ SH w [] [] w' := by
 refine cwc (args := [_, _]) Tryz.func6 R Tryz.ntmps6 R ?_
 unfold ZdN at t0
 refine wcr (asg R R (wnt (wcs (wcr (mv R R (wlq (pln (rga r0) ZaZ R) R (mv R R (wlq (pln (rga r1) ZaZ R) R (wlq (ZcD R R) R (wnt (wcO t0 R (fun h1 t0 => ?_) fun h1 t0 => ?_)))))))))))
 refine wcr (asg R R (wnt (wct (wqr ?_))))
 obtain rfl := oi t0
 exact wq1 R R fun w hw => ⟨R, hw.weak zn⟩
 refine wck (wqt (wcs (wcr (asg R R (wnt (gdO t0 fun g1 t0 => (sqO t0 fun y1 l1 t0 => (wj (J := Unit) (X := Unit) (fun z => y1 = .inl z) (fun _ _ => []) (fun _ _ => []) ?_ ?_))))))))
 refine wcb (wcf (X := Unit) l1 (fun k1 s1 x1l => [(0, (sl v0a)), (1, (sl v1a)), (5, iv ((k1 : Nat) : Int))]) (fun k1 s1 x1l => []) () (su3 R R R) zn fun k1 s1 x1l hN1 l1 => ?_)
 by_cases hk1 : k1 < a_a.length
 refine fos l1 hk1 fun _ t1 l1 => ?_
 unfold ZeJ at t1
 have c1 : (decide (((k1 : Nat) : Int) < ((a_a.length : Nat) : Int))) = true := ddt (by omega)
 refine wcs (wcr (mv R R (mv R R (wlq (pln (rga r0) ZaZ R) R (wlq (pls R R) R (wnt (wft R c1 (wck (wqt (wcs (wcb (wcs (wcd [] 9 mixed (aq 0 R (pom R) zn R (aq 1 R (pom R) zn R (aq 2 R (Zm (k := k1) (rga r0) ZaZ R R hk1) zn R (aq (v := bs (gx a_a k1)) 3 R (Zw (rga r0) tk_9 R hk1 R) zn R (aq 4 R (pom R) zn R (aq 5 R (pom R) zn R (gdO t1 fun g2 t1 => (aq 6 R (Zm (k := k1) (rga r1) ZaZ R R g2) zn R (aq (v := bs (gx a_b k1)) 7 R (Zw (rga r1) tk_9 R g2 R) zn R (aq 8 R (ZkU R R) zn R (ae (wqt (wcO t1 R (fun h2 t1 => ?_) fun h2 t1 => ?_))))))))))))))))))))))))))
 refine wcr (asg R R (wnt (wct (wbr (wqr (wqr (wbr (wqr (wqr ?_)))))))))
 replace t0 := lpR t0 l1 t1
 obtain rfl := oi t0
 exact wq1 R R fun w hw => ⟨R, hw.weak zn⟩
 refine wck (wqb (wqt (wcg (mv R R (wlq (Zj R R (by omega)) R ?_)))))
 exact asg R R (wln (Zk hk1 (stpN l1 t1) () (su3 R R R) zn))
 have c1 : (decide (((k1 : Nat) : Int) < ((a_a.length : Nat) : Int))) = false := ddf (by omega)
 have en1 := foe l1 hk1
 exact wcs (wcr (mv R R (mv R R (wlq (pln (rga r0) ZaZ R) R (wlq (pls R R) R (wnt (wff R c1 (wcx (wqe (wqe (wbx (wjm _ () en1 yn zn))))))))))))
 intro e1 _ hp
 replace t0 := sqE (j := e1) t0 hp
 refine wqt (wcr (asg R R (wnt (wct ?_))))
 obtain rfl := oi t0
 exact wq1 R R fun w hw => ⟨R, hw.weak zn⟩

theorem Zkd (w : World) (a_k : Int) {r : Str} (t0 : Zek a_k = some r) : Calls Tryz.prog 22 #[.int .i64 a_k] w fun e w' => e = .returned (bs r) ∧ SH w [] [] w' := by
 refine cwc (args := [_]) Tryz.func22 R Tryz.ntmps22 R ?_
 unfold Zek at t0
 refine wcr (asg R R (wnt (wcs (wcr (mv R R (wlq (ZbQ R R) R (wnt (wcO t0 R (fun h1 t0 => ?_) fun h1 t0 => ?_))))))))
 refine wcr (asg R R (wnt (wct (wqr ?_))))
 obtain rfl := oi t0
 exact wq1 R R fun w hw => ⟨R, hw.weak zn⟩
 refine wck (wqt (wcr (asg R R (wnt (wcs (ZmU t0 fun y1 l1 t0 => (wj (J := Int × Str) (X := Unit) (fun z => y1 = z) (fun z _ => [(0, iv z.1), (3, bs z.2)]) (fun _ _ => []) ?_ ?_)))))))
 refine wcb (ZoL (X := Unit) l1 (fun s1 x1l => [(0, iv s1.1), (3, bs s1.2)]) (fun s1 x1l => []) () (su2 R R) zn fun m1 s1 x1l l1 => (Zlv l1 fun _ t1 l1 => ?_))
 unfold ZfG at t1
 refine wcs (wcr (mv R R (wlq (Zad R R) R (wnt (wcO t1 R (fun h2 t1 => ?_) fun h2 t1 => ?_)))))
 refine wck (wqt (wcb (wcr (mv R R (wlq (ZhA R R (by decide)) R ?_)))))
 refine wlq (Zaf R R) R (wlq (Zox ZmZ Zpi R) R (wle (ebs R (Zsq (u8of (wr (48 + (s1.1.tmod 10)))))) R fun b1 => (wlq (Zta (rgo (pbo pz (n := 1) (xs := ([(u8of (wr (48 + (s1.1.tmod 10))))] : List UInt8)) R R (by unfold maxLen; omega))) Zpb Z2 R) R ?_)))
 refine mv R R (gdO t1 fun g1 t1 => (wlq (ZO R R g1) R (asg R R (wnt (wcg (mv R R (wlq (Zi1 R R (by decide)) R ?_)))))))
 exact asg R R (wln (wqb (ZmR (stwN l1 t1) () (su2 R R) zn)))
 exact wcx (wqe (wqe (wbx (wjm _ () (Sum.inl.inj (stwB l1 t1)) (su2 R R) zn))))
 intro e1 _ hp
 obtain rfl : e1 = y1 := hp.symm
 refine wqt (wcr (mv R R (gdO t0 fun g2 t0 => (wlq (ZO R R g2) R (asg R R (wnt (wct ?_)))))))
 obtain rfl := oi t0
 exact wq1 R R fun w hw => ⟨R, hw.weak zn⟩

theorem Zmp (w : World) (fp : List Nat) (a_a : List Str) (v0a : Hd) (a_k : Int) (o : Ow w [ownF (sl v0a) a_a] fp) {r : Int × (List Str)} (t0 : ZdU a_a a_k = some r) : Calls Tryz.prog 7 #[(sl v0a), .int .i64 a_k] w fun e w' => ∃ _x : Unit, e = .returned (.int .i64 r.1) ∧ SH w fp [ownF (sl v0a) r.2] w' := by
 refine Zh1 (args := [_, _]) o Tryz.func7 R Tryz.ntmps7 R ?_
 unfold ZdU at t0
 refine wcr (asg R R (wnt (wcs (wcr (asg R R (wnt (gdO t0 fun g1 t0 => (ZuI (rgo pz) fun hl1 => (Zn t0 fun y1 l1 t0 => (wj (J := (List Str) × Int) (X := Unit) (fun z => y1 = z) (fun z _ => [(0, (sl v0a)), (1, iv z.2)]) (fun z _ => [ownF (sl v0a) z.1]) ?_ ?_))))))))))
 refine wcb (wcf (X := Unit) l1 (fun k1 s1 x1l => [(0, (sl v0a)), (1, iv s1.2), (5, iv ((k1 : Nat) : Int))]) (fun k1 s1 x1l => [ownF (sl v0a) s1.1]) () (su3 R R R) so1 fun k1 s1 x1l hN1 l1 => (ZuI (rgo pz) fun hl2 => ?_))
 by_cases hk1 : k1 < a_a.length
 refine fos l1 hk1 fun _ t1 l1 => ?_
 unfold ZcC at t1
 have c1 : (decide (((k1 : Nat) : Int) < ((s1.1.length : Nat) : Int))) = true := ddt (by omega)
 have hq1 : k1 < s1.1.length := by omega
 refine wcs (wcr (mv R R (mv R R (wlq (pln (rgo pz) ZaZ R) R (wlq (pls R R) R (wnt (wft R c1 (wck (wqt (wcs (wcb (wcr (mv R R (mv R R (mv R R (bdO t1 fun v1 hv1 t1 => (wlc (cz0 ZuT R fun w hw => Zkd w s1.2 hv1) R fun _ => (wlq (Zm (k := k1) (rgo pz) ZaZ R R hq1) R (wls (Zhx (x' := v1) tk_9 pz R R R R R R hq1 R) (wnt (wcg (mv R R (wlq (Zaf R R) R (asg R R (wln (wqb (wqt (wcg (mv R R (wlq (Zj R R (by omega)) R ?_))))))))))))))))))))))))))))))
 exact asg R R (wln (Zk hk1 (stpN l1 t1) () (su3 R R R) so1))
 have c1 : (decide (((k1 : Nat) : Int) < ((s1.1.length : Nat) : Int))) = false := ddf (by omega)
 have en1 := foe l1 hk1
 exact wcs (wcr (mv R R (mv R R (wlq (pln (rgo pz) ZaZ R) R (wlq (pls R R) R (wnt (wff R c1 (wcx (wqe (wqe (wbx (wjm _ () (Sum.inl.inj en1) (su2 R R) so1))))))))))))
 intro e1 _ hp
 obtain rfl : e1 = y1 := hp.symm
 refine wqt (wcr (mv R R (asg R R (wnt (wct ?_)))))
 obtain rfl := oi t0
 exact wq1 R R fun w hw => ⟨(), R, hw.weak so1⟩

theorem ZiU (w : World) (a_a : List Str) (v0a : Hd) (r0 : rdF w (dm w []) (sl v0a) a_a) (a_k : Int) {r : Int} (t0 : ZcP a_a a_k = some r) : Calls Tryz.prog 8 #[(sl v0a), .int .i64 a_k] w fun e w' => e = .returned (.int .i64 r) ∧ SH w [] [] w' := by
 refine cwc (args := [_, _]) Tryz.func8 R Tryz.ntmps8 R ?_
 unfold ZcP at t0
 refine wcr (asg R R (wnt (wcs (wcr (asg R R (wnt (gdO t0 fun g1 t0 => (sqO t0 fun y1 l1 t0 => (wj (J := Int) (X := Unit) (fun z => y1 = .inl z) (fun z _ => [(1, iv z)]) (fun _ _ => []) ?_ ?_)))))))))
 refine wcb (wcf (X := Unit) l1 (fun k1 s1 x1l => [(0, (sl v0a)), (1, iv s1), (5, iv ((k1 : Nat) : Int))]) (fun k1 s1 x1l => []) () (su3 R R R) zn fun k1 s1 x1l hN1 l1 => ?_)
 by_cases hk1 : k1 < a_a.length
 refine fos l1 hk1 fun _ t1 l1 => ?_
 unfold ZbO at t1
 have c1 : (decide (((k1 : Nat) : Int) < ((a_a.length : Nat) : Int))) = true := ddt (by omega)
 refine wcs (wcr (mv R R (mv R R (wlq (pln (rga r0) ZaZ R) R (wlq (pls R R) R (wnt (wft R c1 (wck (wqt (wcs (wcb (wcs (wcs (wcd [] 7 mixed (aq 0 R (pom R) zn R (aq 1 R (pom R) zn R (aq 2 R (Zm (k := k1) (rga r0) ZaZ R R hk1) zn R (aq (v := bs (gx a_a k1)) 3 R (Zw (rga r0) tk_9 R hk1 R) zn R (aq 4 R (pom R) zn R (a1 5 (bdO t1 fun v1 hv1 t1 => (wsc R (cz0 ZuT R fun w hw => Zkd w s1 hv1) (fun _ => (zt zn)) R fun _ => (aq 6 R (ZkU R R) zn R (ae (wqt (wcO t1 R (fun h1 t1 => ?_) fun h1 t1 => ?_))))))))))))))))))))))))))
 refine wcr (asg R R (wnt (wct (wqr (wbr (wqr (wqr (wbr (wqr (wqr ?_))))))))))
 replace t0 := lpR t0 l1 t1
 obtain rfl := oi t0
 exact wq1 R R fun w hw => ⟨R, hw.weak zn⟩
 refine wck (wqt (wcg (mv R R (wlq (Zaf R R) R (asg R R (wln (wqb (wqt (wcg (mv R R (wlq (Zj R R (by omega)) R ?_)))))))))))
 exact asg R R (wln (Zk hk1 (stpN l1 t1) () (su3 R R R) zn))
 have c1 : (decide (((k1 : Nat) : Int) < ((a_a.length : Nat) : Int))) = false := ddf (by omega)
 have en1 := foe l1 hk1
 exact wcs (wcr (mv R R (mv R R (wlq (pln (rga r0) ZaZ R) R (wlq (pls R R) R (wnt (wff R c1 (wcx (wqe (wqe (wbx (wjm _ () en1 (su1 R) zn))))))))))))
 intro e1 _ hp
 replace t0 := sqE (j := e1) t0 hp
 refine wqt (wcr (mv R R (asg R R (wnt (wct ?_)))))
 obtain rfl := oi t0
 exact wq1 R R fun w hw => ⟨R, hw.weak zn⟩

theorem c_laws_FnExactRunScript (w : World) (ht : Tb w) (a_aText : Str) {r : Bool} (t0 : laws_FnExactRunScript a_aText = some r) : Calls Tryz.prog 3 #[bs a_aText] w fun e w' => e = .returned (.bool r) ∧ SH w [] [] w' := by
 refine cwc (args := [_]) Tryz.func3 R Tryz.ntmps3 R ?_
 unfold laws_FnExactRunScript at t0
 refine wcr (asg R R (wnt (wcs (wcr (mv R R (wlq (ZbM Z2 R) R (wlq (Zad R R) R (wnt (wcO t0 R (fun h1 t0 => ?_) fun h1 t0 => ?_)))))))))
 refine wcr (asg R R (wnt (wct (wqr ?_))))
 obtain rfl := oi t0
 exact wq1 R R fun w hw => ⟨R, hw.weak zn⟩
 refine wck (wqt (wcr (mv R R (bdO t0 fun v1 hv1 t0 => (wlc (cz1 fa_4 R fun w hw => Zoa w a_aText hv1) R fun x1 => (mv R R (wlq (pex R R) R (wlq (pex R R) R (asg R R (asg R R (wnt (wcr (mv R R (bdO t0 fun v2 hv2 t0 => (wlc (cz1 fa_5 R fun w hw => Zj0 w (hw.tab ht) a_aText hv2) R fun x2 => (mv R R (wlq (pex R R) R (wlq (pex R R) R (asg R R (asg R R (wnt (wcs (wcs (bdO t0 fun y1 t1 t0 => (wj (J := Bool) (X := Unit) (fun z => y1 = z) (fun z _ => [(0, bs a_aText), (3, (sl x1)), (4, .bool v1.2), (5, (sl x2)), (32, .bool z)]) (fun _ _ => [ownF (sl x1) v1.1, ownF (sl x2) v2.1]) ?_ ?_)))))))))))))))))))))))))
 refine wcg (mv R R (mv R R (bdO t1 fun v3 hv3 t1 => (wlc (cz0 fa_6 R fun w hw => ZjU w v2.1 x2 (Rg.on (rgo pz) hw) v1.1 x1 (Rg.on (rgo pk1) hw) hv3) R fun _ => (wlq (Zd R) R (mv R R (wlo (t := 28) t1 R (fun h2 t1 => ?_) fun h2 t1 => ?_)))))))
 exact wgf (j := 4) R R R R R (wgf (j := 4) R R R R R (wgf (j := 4) R R R R R (wlq (pit R R) R (wln (wjm _ () (mtE t1) (su5 R R R R R) (zc pk1 so1))))))
 exact wgn (j := 4) R R R (mv R R (wgn (j := 4) R R R (mv R R (wgn (j := 4) R R R (wlq (ZnF ub_4 R R) R (wlq (pif R R) R (wln (wjm _ () (mtE t1) (su5 R R R R R) (zc pk1 so1)))))))))
 intro j1 _ hp
 obtain rfl : j1 = y1 := hp.symm
 refine wqt (wcO t0 R (fun h3 t0 => ?_) fun h3 t0 => ?_)
 refine wcr (asg R R (wnt (wct (wqr ?_))))
 obtain rfl := oi t0
 exact wq1 R R fun w hw => ⟨R, hw.weak zn⟩
 refine wck (wqt (wcr (asg R R (wnt (wcr (mv R R (mv R R (bdO t0 fun v4 hv4 t0 => (wlc (Zu1 [ownF (sl x2) v2.1] fa_7 (zc pk1 ZdD) R fun w fp hw => Zmp w fp v2.1 x2 1 hw.ow hv4) R fun _ => (asg R R (wnt (wcr (asg R R (wnt (wcr (mv R R (mv R R (bdO t0 fun v5 hv5 t0 => (wlc (cz0 fa_8 R fun w hw => ZiU w v4.2 x2 (Rg.on (rgo pz) hw) 1 hv5) R fun _ => (asg R R (wnt (wcs (wcr (mv R R (wlq (pls R R) R (wnt (wcO t0 R (fun h4 t0 => ?_) fun h4 t0 => ?_)))))))))))))))))))))))))))
 refine wcr (asg R R (wnt (wct (wqr ?_))))
 obtain rfl := oi t0
 exact wq1 R R fun w hw => ⟨R, hw.weak zn⟩
 refine wck (wqt (wcs (wcr (mv R R (mv R R (wlq (ZcD R R) R (wnt (wcO t0 R (fun h5 t0 => ?_) fun h5 t0 => ?_))))))))
 refine wcr (asg R R (wnt (wct (wqr ?_))))
 obtain rfl := oi t0
 exact wq1 R R fun w hw => ⟨R, hw.weak zn⟩
 refine wck (wqt (wcr (mv R R (bdO t0 fun v6 hv6 t0 => (wlc (cz1 fa_5 R fun w hw => Zj0 w (hw.tab ht) a_aText hv6) R fun x4 => (mv R R (wlq (pex R R) R (wlq (pex R R) R (asg R R (asg R R (wnt (wcs (wcs (bdO t0 fun y1 t1 t0 => (wj (J := Bool) (X := Unit) (fun z => y1 = z) (fun z _ => [(5, (sl x2)), (7, iv v4.1), (57, .bool z)]) (fun _ _ => [ownF (sl x2) v4.2]) ?_ ?_)))))))))))))))
 refine wcg (mv R R (mv R R (bdO t1 fun v7 hv7 t1 => (wlc (cz0 fa_6 R fun w hw => ZjU w v6.1 x4 (Rg.on (rgo pz) hw) v1.1 x1 (Rg.on (rgo pk2) hw) hv7) R fun _ => (wlq (Zd R) R (mv R R (wlo (t := 53) t1 R (fun h6 t1 => ?_) fun h6 t1 => ?_)))))))
 exact wgf (j := 4) R R R R R (wgf (j := 4) R R R R R (wgf (j := 4) R R R R R (wlq (pit R R) R (wln (wjm _ () (mtE t1) (su3 R R R) (zc pk1 zn))))))
 exact wgn (j := 4) R R R (mv R R (wgn (j := 4) R R R (mv R R (wgn (j := 4) R R R (wlq (ZnF ub_4 R R) R (wlq (pif R R) R (wln (wjm _ () (mtE t1) (su3 R R R) (zc pk1 zn)))))))))
 intro j2 _ hp
 obtain rfl : j2 = y1 := hp.symm
 refine wqt (wcO t0 R (fun h7 t0 => ?_) fun h7 t0 => ?_)
 refine wcr (asg R R (wnt (wct (wqr ?_))))
 obtain rfl := oi t0
 exact wq1 R R fun w hw => ⟨R, hw.weak zn⟩
 refine wck (wqt (wcr (asg R R (wnt (wcr (mv R R (mv R R (bdO t0 fun v8 hv8 t0 => (wlc (cz0 fa_8 R fun w hw => ZiU w v4.2 x2 (Rg.on (rgo pz) hw) 1 hv8) R fun _ => (asg R R (wnt (wcs (wcr (mv R R (wlq (pls R R) R (wnt (wcO t0 R (fun h8 t0 => ?_) fun h8 t0 => ?_)))))))))))))))))
 refine wcr (asg R R (wnt (wct (wqr ?_))))
 obtain rfl := oi t0
 exact wq1 R R fun w hw => ⟨R, hw.weak zn⟩
 refine wck (wqt (wcs (wcr (mv R R (mv R R (wlq (ZcD R R) R (wnt (wcO t0 R (fun h9 t0 => ?_) fun h9 t0 => ?_))))))))
 refine wcr (asg R R (wnt (wct (wqr ?_))))
 obtain rfl := oi t0
 exact wq1 R R fun w hw => ⟨R, hw.weak zn⟩
 refine wck (wqt (wcr (asg R R (wnt (wct ?_)))))
 obtain rfl := oi t0
 exact wq1 R R fun w hw => ⟨R, hw.weak zn⟩

end Go.Proofs.YtjfjbgihojiijacGreatDoor
