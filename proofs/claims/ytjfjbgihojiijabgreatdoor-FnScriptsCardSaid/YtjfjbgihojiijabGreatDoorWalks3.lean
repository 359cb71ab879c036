/-
 Each Go function computes its Lean function (part 3).
-/
import Derived.Test.YtjfjbgihojiijabGreatDoorWalks2
namespace Go.Proofs.YtjfjbgihojiijabGreatDoor
open Go Go.RowKit Go.Proofs
set_option maxRecDepth 100000

theorem ZqN (w : World) (a_g : GGuild) (v0a : Hd) (r0 : rdF w (dm w []) (sl v0a) a_g.Members) (v1a : Hd) (r1 : rdF w (dm w []) (sl v1a) a_g.Stock) (v2a : Hd) (u2a : List Value) (r2 : RdL w (dm w []) (sl v2a) u2a a_g.Entries) (v3a : Hd) (r3 : rdF w (dm w []) (sl v3a) a_g.Books) (a_number : Int) (a_day : Int) (a_b : GBlock) (v4a : Hd) (r4 : rdF w (dm w []) (sl v4a) a_b.Cells) {r : GGuild × Bool} (t0 : Zf2 a_g a_number a_day a_b = some r) : Calls Tryz.prog 65 #[.agg #[(sl v0a), (sl v1a), (sl v2a), (sl v3a), .int .i64 a_g.Round, .int .i64 a_g.Year], .int .i64 a_number, .int .i64 a_day, .agg #[.int .i64 a_b.Size, (sl v4a)]] w fun e w' => ∃ x : Hd × Hd × Hd × (List Value) × Hd, e = .returned (.tuple #[.agg #[(sl x.1), (sl x.2.1), (sl x.2.2.1), (sl x.2.2.2.2), .int .i64 r.1.Round, .int .i64 r.1.Year], .bool r.2]) ∧ SH w [] [ownF (sl x.1) r.1.Members, ownF (sl x.2.1) r.1.Stock, own (sl x.2.2.1) x.2.2.2.1 r.1.Entries, ownF (sl x.2.2.2.2) r.1.Books] w' := by
 refine cwc (args := [_, _, _, _]) Tryz.func65 R Tryz.ntmps65 R ?_
 unfold Zf2 at t0
 refine wcr (wle (Zh R R) R fun b1 => (wle (Zh R R) R fun b2 => (wle (eal (cs := [(sl hn), (sl hn), (sl hn), (sl hn), iv 0, iv 0]) ZF) R fun b3 => (asg R R (wnt (wcr (wlq (v := .agg #[(sl v0a), (sl v1a), (sl v2a), (sl v3a), iv a_g.Round, iv a_g.Year]) (plb Zc pk2 R R R) R (bdO t0 fun v1 hv1 t0 => (wlc (ZaM Zne R fun w hw => ZdC w a_g v0a (ra r0 hw) v1a (ra r1 hw) v2a u2a (ra r2 hw) v3a (ra r3 hw) hv1) R fun x1 => (wle (eal (cs := [(sl hn), (sl hn), (sl hn), (sl hn), iv 0, iv 0]) ZF) R fun b4 => (wls (sbx (cs' := [(sl x1.1), (sl x1.2.1), (sl x1.2.2.1), (sl x1.2.2.2.2), iv v1.Round, iv v1.Year]) Zc pz R R R R R R R) (wnt (wcr (mv R R (mv R R (wlq (v := .agg #[iv a_b.Size, (sl v4a)]) (plb Zb pk6 R R R) R (bdO t0 fun v2 hv2 t0 => (wlc (cz1 Zq9 R fun w hw => Zg2 w a_b v4a (ra r4 hw) hv2) R fun x2 => (wlq (Zk R (ZfZ a_number a_day v2.Size x2)) R (wle (eal (cs := [iv 0, iv 0, iv 0, (sl hn)]) ZgP) R fun b5 => (wls (sbx (cs' := [iv a_number, iv a_day, iv v2.Size, (sl x2)]) Za7 pz R R R R R R R) (wnt (wcs (wcr (wlq (v := .agg #[(sl v0a), (sl v1a), (sl v2a), (sl v3a), iv a_g.Round, iv a_g.Year]) (plb Zc pk9 R R R) R (bdO t0 fun v3 hv3 t0 => (wlc (cz0 Zlz R fun w hw => ZcH w a_g v0a (ra r0 hw) v1a (ra r1 hw) v2a u2a (ra r2 hw) v3a (ra r3 hw) hv3) R fun _ => (wlq (Zd R) R (wnt (wcO t0 R (fun h1 t0 => ?_) fun h1 t0 => ?_))))))))))))))))))))))))))))))
 refine wcr (wlq (v := .agg #[(sl x1.1), (sl x1.2.1), (sl x1.2.2.1), (sl x1.2.2.2.2), iv v1.Round, iv v1.Year]) (plb Zc pk2 R R R) R (wls (sbx (cs' := [(sl x1.1), (sl x1.2.1), (sl x1.2.2.1), (sl x1.2.2.2.2), iv v1.Round, iv v1.Year]) Zc pk7 R R R R R R R) (asg R R (wnt (wct (wqr ?_))))))
 obtain rfl := oi t0
 exact ZG R Zc R R pz R fun w hw => ⟨(x1.1, x1.2.1, x1.2.2.1, x1.2.2.2.1, x1.2.2.2.2), R, hw.weak (zc pk4 (zc pk4 (zc pk4 (zc pk4 zn))))⟩
 refine wck (wqt (wcs (wcr (asg R R (wnt (gdO t0 fun g1 t0 => (sqO t0 fun y1 l1 t0 => (wj (J := Unit) (X := Unit) (fun z => y1 = .inl z) (fun _ _ => [(4, ptr b1 0), (8, ptr b3 0), (10, ptr b4 0), (11, ptr b5 0)]) (fun _ _ => [box b5 [iv a_number, iv a_day, iv v2.Size, (sl x2)], ownF (sl x2) v2.Cells, box b4 [(sl x1.1), (sl x1.2.1), (sl x1.2.2.1), (sl x1.2.2.2.2), iv v1.Round, iv v1.Year], ownF (sl x1.1) v1.Members, ownF (sl x1.2.1) v1.Stock, own (sl x1.2.2.1) x1.2.2.2.1 v1.Entries, ownF (sl x1.2.2.2.2) v1.Books, box b3 [(sl hn), (sl hn), (sl hn), (sl hn), iv 0, iv 0], box b1 [(sl v0a), (sl v1a), (sl v2a), (sl v3a), iv a_g.Round, iv a_g.Year]]) ?_ ?_))))))))
 refine wcb (wcf (X := Unit) l1 (fun k1 s1 x1l => [(4, ptr b1 0), (8, ptr b3 0), (10, ptr b4 0), (11, ptr b5 0), (12, iv ((k1 : Nat) : Int))]) (fun k1 s1 x1l => [box b5 [iv a_number, iv a_day, iv v2.Size, (sl x2)], ownF (sl x2) v2.Cells, box b4 [(sl x1.1), (sl x1.2.1), (sl x1.2.2.1), (sl x1.2.2.2.2), iv v1.Round, iv v1.Year], ownF (sl x1.1) v1.Members, ownF (sl x1.2.1) v1.Stock, own (sl x1.2.2.1) x1.2.2.2.1 v1.Entries, ownF (sl x1.2.2.2.2) v1.Books, box b3 [(sl hn), (sl hn), (sl hn), (sl hn), iv 0, iv 0], box b1 [(sl v0a), (sl v1a), (sl v2a), (sl v3a), iv a_g.Round, iv a_g.Year]]) () (su5 R R R R R) (zc pz (zc pz (zc pz (zc pz (zc pz (zc pz (zc pz (zc pz (zc pk1 zn))))))))) fun k1 s1 x1l hN1 l1 => ?_)
 by_cases hk1 : k1 < a_g.Entries.length
 refine fos l1 hk1 fun _ t1 l1 => ?_
 unfold ZgR at t1
 have c1 : (decide (((k1 : Nat) : Int) < ((a_g.Entries.length : Nat) : Int))) = true := ddt (by omega)
 refine wcs (wcr (mv R R (wlq (pof Zaj R) R (wlq (v := (sl v2a)) (plx Za5 pk8 R R) R (wlq (pln (rga r2) Zbv R) R (wlq (pls R R) R (wnt (wft R c1 (wck (wqt (wcs (wcb (wcs (wcd [box b5 [iv a_number, iv a_day, iv v2.Size, (sl x2)], ownF (sl x2) v2.Cells, box b4 [(sl x1.1), (sl x1.2.1), (sl x1.2.2.1), (sl x1.2.2.2.2), iv v1.Round, iv v1.Year], ownF (sl x1.1) v1.Members, ownF (sl x1.2.1) v1.Stock, own (sl x1.2.2.1) x1.2.2.2.1 v1.Entries, ownF (sl x1.2.2.2.2) v1.Books, box b3 [(sl hn), (sl hn), (sl hn), (sl hn), iv 0, iv 0], box b1 [(sl v0a), (sl v1a), (sl v2a), (sl v3a), iv a_g.Round, iv a_g.Year]] 7 mixed (aq (v := .agg #[iv a_number, iv a_day, iv v2.Size, (sl x2)]) 0 R (plb Za7 pz R R R) so9 R (aq 1 R (pof Zaj R) so9 R (aq (v := (sl v2a)) 2 R (plx Za5 pk8 R R) so9 R (aq 3 R (pom R) so9 R (aq 4 R (Zv (k := k1) (rga r2) Zbv R R hk1) so9 R (Zju (rga r2) hk1 ?_))))))))))))))))))))
 rintro ⟨_, _, he1⟩
 obtain ⟨w1, hc1, _⟩ := ZbW.1 he1
 refine aq (v := .agg #[iv ((gx a_g.Entries k1).Owner), iv ((gx a_g.Entries k1).Day), iv (((gx a_g.Entries k1).Block).Size), (sl w1)]) 5 R (Zdy (rga r2) Za7 R hc1 R R R) so9 R (a1 6 (bdO t1 fun v4 hv4 t1 => (wsc R (cz0 Zxo R fun w hw => ZqZ w (GEntry.mk a_number a_day v2) x2 (Rg.on (rgo pk1) hw) (gx a_g.Entries k1) w1 (Rg.on (ZcN hc1 (rga r2) hk1) hw) hv4) (fun _ => (zt so9)) R fun _ => (ae (wqt (wcO t1 R (fun h2 t1 => ?_) fun h2 t1 => ?_))))))
 refine wcr (wlq (v := .agg #[(sl x1.1), (sl x1.2.1), (sl x1.2.2.1), (sl x1.2.2.2.2), iv v1.Round, iv v1.Year]) (plb Zc pk2 R R R) R (wls (sbx (cs' := [(sl x1.1), (sl x1.2.1), (sl x1.2.2.1), (sl x1.2.2.2.2), iv v1.Round, iv v1.Year]) Zc pk7 R R R R R R R) (asg R R (wnt (wct (wbr (wqr (wqr (wbr (wqr (wqr ?_)))))))))))
 replace t0 := lpR t0 l1 t1
 obtain rfl := oi t0
 exact ZG R Zc R R pz R fun w hw => ⟨(x1.1, x1.2.1, x1.2.2.1, x1.2.2.2.1, x1.2.2.2.2), R, hw.weak (zc pk4 (zc pk4 (zc pk4 (zc pk4 zn))))⟩
 refine wck (wqb (wqt (wcg (mv R R (wlq (Zj R R (by omega)) R ?_)))))
 exact asg R R (wln (Zl hk1 (stpN l1 t1) () (su5 R R R R R) so9))
 have c1 : (decide (((k1 : Nat) : Int) < ((a_g.Entries.length : Nat) : Int))) = false := ddf (by omega)
 have en1 := foe l1 hk1
 exact wcs (wcr (mv R R (wlq (pof Zaj R) R (wlq (v := (sl v2a)) (plx Za5 pk8 R R) R (wlq (pln (rga r2) Zbv R) R (wlq (pls R R) R (wnt (wff R c1 (wcx (wqe (wqe (wbx (wjm _ () en1 (su4 R R R R) so9)))))))))))))
 intro e1 _ hp
 replace t0 := sqE (j := e1) t0 hp
 refine wqt (wcr (wlq (v := .agg #[(sl v0a), (sl v1a), (sl v2a), (sl v3a), iv a_g.Round, iv a_g.Year]) (plb Zc pk8 R R R) R (bdO t0 fun v5 hv5 t0 => (wlc (ZaM Zne R fun w hw => ZdC w a_g v0a (ra r0 hw) v1a (ra r1 hw) v2a u2a (ra r2 hw) v3a (ra r3 hw) hv5) R fun x4 => (wle (eal (cs := [(sl hn), (sl hn), (sl hn), (sl hn), iv 0, iv 0]) ZF) R fun b6 => (wls (sbx (cs' := [(sl x4.1), (sl x4.2.1), (sl x4.2.2.1), (sl x4.2.2.2.2), iv v5.Round, iv v5.Year]) Zc pz R R R R R R R) (wnt (wcr (wlq (pof Zaj R) R (wlq (v := (sl x4.2.2.1)) (plx Za5 pz R R) R (wlq (v := .agg #[iv a_number, iv a_day, iv v2.Size, (sl x2)]) (plb Za7 pk5 R R R) R (wle (ebs R (Zna a_number a_day v2.Size x2)) R fun b7 => (gdO t0 fun g2 t0 => (wle (Zc3 (us := x4.2.2.2.1) (xs := v5.Entries) Zre pk4 (Zjj (x := (GEntry.mk a_number a_day v2)) pk6) pz R R R g2) R fun x5 => (wlq (pof Zaj R) R (wls (sbx (cs' := [(sl x4.1), (sl x4.2.1), (sl x5), (sl x4.2.2.2.2), iv v5.Round, iv v5.Year]) Za5 pk2 R R R R R R R) (wnt (wcs (wcr (wlq (v := .agg #[(sl x4.1), (sl x4.2.1), (sl x5), (sl x4.2.2.2.2), iv v5.Round, iv v5.Year]) (plb Zc pz R R R) R (bdO t0 fun v6 hv6 t0 => (wlc (cz0 Zlz R fun w hw => ZcH w (GGuild.mk v5.Members v5.Stock (v5.Entries ++ [(GEntry.mk a_number a_day v2)]) v5.Books v5.Round v5.Year) x4.1 (Rg.on (rgo pk3) hw) x4.2.1 (Rg.on (rgo pk4) hw) x5 (x4.2.2.2.1 ++ [iv a_number, iv a_day, iv v2.Size, (sl x2)]) (Rg.on (rgo pk1) hw) x4.2.2.2.2 (Rg.on (rgo pk5) hw) hv6) R fun _ => (wlq (Zd R) R (wnt (wcO t0 R (fun h3 t0 => ?_) fun h3 t0 => ?_)))))))))))))))))))))))))
 refine wcr (wlq (v := .agg #[(sl x1.1), (sl x1.2.1), (sl x1.2.2.1), (sl x1.2.2.2.2), iv v1.Round, iv v1.Year]) (plb Zc pk7 R R R) R (wls (sbx (cs' := [(sl x1.1), (sl x1.2.1), (sl x1.2.2.1), (sl x1.2.2.2.2), iv v1.Round, iv v1.Year]) Zc pk12 R R R R R R R) (asg R R (wnt (wct (wqr ?_))))))
 obtain rfl := oi t0
 exact ZG R Zc R R pz R fun w hw => ⟨(x1.1, x1.2.1, x1.2.2.1, x1.2.2.2.1, x1.2.2.2.2), R, hw.weak (zc pk9 (zc pk9 (zc pk9 (zc pk9 zn))))⟩
 refine wck (wqt (wcr (wlq (v := .agg #[(sl x4.1), (sl x4.2.1), (sl x5), (sl x4.2.2.2.2), iv v5.Round, iv v5.Year]) (plb Zc pz R R R) R (wls (sbx (cs' := [(sl x4.1), (sl x4.2.1), (sl x5), (sl x4.2.2.2.2), iv v5.Round, iv v5.Year]) Zc pk12 R R R R R R R) (asg R R (wnt (wct ?_)))))))
 obtain rfl := oi t0
 exact ZG R Zc R R pz R fun w hw => ⟨(x4.1, x4.2.1, x5, (x4.2.2.2.1 ++ [iv a_number, iv a_day, iv v2.Size, (sl x2)]), x4.2.2.2.2), R, hw.weak (zc pk4 (zc pk4 (zc pk2 (zc pk3 zn))))⟩

theorem ZnW (w : World) (a_g : GGuild) (v0a : Hd) (r0 : rdF w (dm w []) (sl v0a) a_g.Members) (v1a : Hd) (r1 : rdF w (dm w []) (sl v1a) a_g.Stock) (v2a : Hd) (u2a : List Value) (r2 : RdL w (dm w []) (sl v2a) u2a a_g.Entries) (v3a : Hd) (r3 : rdF w (dm w []) (sl v3a) a_g.Books) {r : GGuild × Bool} (t0 : ZdA a_g = some r) : Calls Tryz.prog 66 #[.agg #[(sl v0a), (sl v1a), (sl v2a), (sl v3a), .int .i64 a_g.Round, .int .i64 a_g.Year]] w fun e w' => ∃ x : Hd × Hd × Hd × (List Value) × Hd, e = .returned (.tuple #[.agg #[(sl x.1), (sl x.2.1), (sl x.2.2.1), (sl x.2.2.2.2), .int .i64 r.1.Round, .int .i64 r.1.Year], .bool r.2]) ∧ SH w [] [ownF (sl x.1) r.1.Members, ownF (sl x.2.1) r.1.Stock, own (sl x.2.2.1) x.2.2.2.1 r.1.Entries, ownF (sl x.2.2.2.2) r.1.Books] w' := by
 refine cwc (args := [_]) Tryz.func66 R Tryz.ntmps66 R ?_
 unfold ZdA at t0
 refine wcr (wle (Zh R R) R fun b1 => (wle (eal (cs := [(sl hn), (sl hn), (sl hn), (sl hn), iv 0, iv 0]) ZF) R fun b2 => (asg R R (wnt (wcr (wlq (v := .agg #[(sl v0a), (sl v1a), (sl v2a), (sl v3a), iv a_g.Round, iv a_g.Year]) (plb Zc pk1 R R R) R (bdO t0 fun v1 hv1 t0 => (wlc (ZaM Zne R fun w hw => ZdC w a_g v0a (ra r0 hw) v1a (ra r1 hw) v2a u2a (ra r2 hw) v3a (ra r3 hw) hv1) R fun x1 => (wle (eal (cs := [(sl hn), (sl hn), (sl hn), (sl hn), iv 0, iv 0]) ZF) R fun b3 => (wls (sbx (cs' := [(sl x1.1), (sl x1.2.1), (sl x1.2.2.1), (sl x1.2.2.2.2), iv v1.Round, iv v1.Year]) Zc pz R R R R R R R) (wnt (wcr (wlq (pof Zdz R) R (wlq (v := iv v1.Round) (plx tk_3 pz R R) R (wlq (Z4 R R) R (wlq (pof Zdz R) R (wls (sbx (cs' := [(sl x1.1), (sl x1.2.1), (sl x1.2.2.1), (sl x1.2.2.2.2), iv (wr (v1.Round + 1)), iv v1.Year]) tk_3 pz R R R R R R R) (wnt (wcs (wcs (bdO t0 fun y1 t1 t0 => (wj (J := Bool) (X := Unit) (fun z => y1 = z) (fun z _ => [(1, ptr b1 0), (2, ptr b2 0), (4, ptr b3 0), (18, .bool z)]) (fun _ _ => [box b3 [(sl x1.1), (sl x1.2.1), (sl x1.2.2.1), (sl x1.2.2.2.2), iv (wr (v1.Round + 1)), iv v1.Year], box b2 [(sl hn), (sl hn), (sl hn), (sl hn), iv 0, iv 0], box b1 [(sl v0a), (sl v1a), (sl v2a), (sl v3a), iv a_g.Round, iv a_g.Year], ownF (sl x1.1) v1.Members, ownF (sl x1.2.1) v1.Stock, own (sl x1.2.2.1) x1.2.2.2.1 v1.Entries, ownF (sl x1.2.2.2.2) v1.Books]) ?_ ?_))))))))))))))))))))))
 refine wcg (wlq (v := .agg #[(sl v0a), (sl v1a), (sl v2a), (sl v3a), iv a_g.Round, iv a_g.Year]) (plb Zc pk6 R R R) R (bdO t1 fun v2 hv2 t1 => (wlc (cz0 Zlz R fun w hw => ZcH w a_g v0a (ra r0 hw) v1a (ra r1 hw) v2a u2a (ra r2 hw) v3a (ra r3 hw) hv2) R fun _ => (wlq (Zd R) R (mv R R (wlo (t := 14) t1 R (fun h1 t1 => ?_) fun h1 t1 => ?_))))))
 exact wgf (j := 3) R R R R R (wgf (j := 3) R R R R R (wgf (j := 3) R R R R R (wlq (pit R R) R (wln (wjm _ () (mtE t1) (su4 R R R R) (zc pz (zc pk4 (zc pk4 so4))))))))
 exact wgn (j := 3) R R R (wlq (v := .agg #[(sl x1.1), (sl x1.2.1), (sl x1.2.2.1), (sl x1.2.2.2.2), iv (wr (v1.Round + 1)), iv v1.Year]) (plb Zc pz R R R) R (bdO t1 fun v3 hv3 t1 => (wgn (j := 3) R R R (wlc (cz0 Zlz R fun w hw => ZcH w (GGuild.mk v1.Members v1.Stock v1.Entries v1.Books (wr (v1.Round + 1)) v1.Year) x1.1 (Rg.on (rgo pk1) hw) x1.2.1 (Rg.on (rgo pk2) hw) x1.2.2.1 x1.2.2.2.1 (Rg.on (rgo pk3) hw) x1.2.2.2.2 (Rg.on (rgo pk4) hw) hv3) R (fun _ => (wgn (j := 3) R R R (wlq (Zd R) R (wlq (pif R R) R (wln (wjm _ () (mtE t1) (su4 R R R R) (zc pz (zc pk4 (zc pk4 so4)))))))))))))
 intro j1 _ hp
 obtain rfl : j1 = y1 := hp.symm
 refine wqt (wcO t0 R (fun h2 t0 => ?_) fun h2 t0 => ?_)
 refine wcr (wlq (v := .agg #[(sl v0a), (sl v1a), (sl v2a), (sl v3a), iv a_g.Round, iv a_g.Year]) (plb Zc pk2 R R R) R (bdO t0 fun v4 hv4 t0 => (wlc (ZaM Zne R fun w hw => ZdC w a_g v0a (ra r0 hw) v1a (ra r1 hw) v2a u2a (ra r2 hw) v3a (ra r3 hw) hv4) R fun x3 => (wls (sbx (cs' := [(sl x3.1), (sl x3.2.1), (sl x3.2.2.1), (sl x3.2.2.2.2), iv v4.Round, iv v4.Year]) Zc pk5 R R R R R R R) (asg R R (wnt (wct (wqr ?_))))))))
 obtain rfl := oi t0
 exact ZG R Zc R R pz R fun w hw => ⟨(x3.1, x3.2.1, x3.2.2.1, x3.2.2.2.1, x3.2.2.2.2), R, hw.weak (zc pk1 (zc pk1 (zc pk1 (zc pk1 zn))))⟩
 refine wck (wqt (wcr (wlq (v := .agg #[(sl x1.1), (sl x1.2.1), (sl x1.2.2.1), (sl x1.2.2.2.2), iv (wr (v1.Round + 1)), iv v1.Year]) (plb Zc pz R R R) R (wls (sbx (cs' := [(sl x1.1), (sl x1.2.1), (sl x1.2.2.1), (sl x1.2.2.2.2), iv (wr (v1.Round + 1)), iv v1.Year]) Zc pk1 R R R R R R R) (asg R R (wnt (wct ?_)))))))
 obtain rfl := oi t0
 exact ZG R Zc R R pz R fun w hw => ⟨(x1.1, x1.2.1, x1.2.2.1, x1.2.2.2.1, x1.2.2.2.2), R, hw.weak (zc pk3 (zc pk3 (zc pk3 (zc pk3 zn))))⟩

theorem ZoS (w : World) (fp : List Nat) (b0p : Nat) (a_c0 : List UInt8) (v0a : Hd) (r0 : rdF w (dm w fp) (sl v0a) a_c0) (a_c1 : Int) (a_c2 : Int) (a_top : Int) (o : Ow w [box b0p [(sl v0a), .int .i64 a_c1, .int .i64 a_c2]] fp) {r : (List Int) × Int × Int} (t0 : ZfS a_c0 a_c1 a_c2 a_top = some r) : Calls Tryz.prog 67 #[ptr b0p 0, .int .i64 a_top] w fun e w' => ∃ x : Hd, e = .returned ((sl x)) ∧ SH w fp [ownF (sl x) r.1, box b0p [(sl v0a), .int .i64 r.2.1, .int .i64 r.2.2]] w' := by
 refine ZaS (args := [_, _]) o Tryz.func67 R Tryz.ntmps67 R ?_
 unfold ZfS at t0
 refine wcr (asg R R (wnt (wcr (wle (ebs R Zao) R fun b1 => (asg R R (wnt (wcs (wcr (asg R R (wnt (Zr t0 fun y1 l1 t0 => (wj (J := (List Int) × Int × Int) (X := Hd) (fun z => y1 = z) (fun _ x => [(5, (sl x))]) (fun z x => [box b0p [(sl v0a), iv z.2.1, iv z.2.2], ownF (sl x) z.1]) ?_ ?_))))))))))))
 refine wcb (wcf (X := Hd) l1 (fun k1 s1 x1l => [(0, ptr b0p 0), (1, iv a_top), (5, (sl x1l)), (6, iv ((k1 : Nat) : Int))]) (fun k1 s1 x1l => [box b0p [(sl v0a), iv s1.2.1, iv s1.2.2], ownF (sl x1l) s1.1]) (⟨some ⟨b1, 0, none⟩, 0, 0⟩ : Hd) (su4 R R R R) (zc pk1 (zc (pbo pz (n := 0) (xs := ([] : List Int)) R R (by unfold maxLen; omega)) zn)) fun k1 s1 x1l hN1 l1 => ?_)
 by_cases hk1 : k1 < 6
 refine fos l1 hk1 fun _ t1 l1 => ?_
 unfold Zft at t1
 have c1 : (decide (((k1 : Nat) : Int) < 6)) = true := ddt (by omega)
 refine wcs (wcr (mv R R (wlq (pls R R) R (wnt (wft R c1 (wck (wqt (wcs (wcb (wcg (mv R R (mv R R (mv R R (bdO t1 fun v1 hv1 t1 => (wlc (Zbi [box b0p [(sl v0a), iv s1.2.1, iv s1.2.2]] Zdu (zc pz Zz) R fun w fp hw => ZQ w fp b0p a_c0 v0a ((Zt r0) w fp hw) s1.2.1 s1.2.2 a_top hw.ow hv1) R fun _ => (wle (ebs R (ZaZ v1.1)) R fun b2 => (gdO t1 fun g1 t1 => (wle (Zg (xs := s1.1) (ys := ([v1.1] : List Int)) Zb1 pk2 R R (Zi fun _ g => Rg.on (rgo (pbo pz (n := 1) (xs := ([v1.1] : List Int)) R R (by unfold maxLen; omega))) g) g1) R fun x2 => ?_))))))))))))))))))
 refine asg R R (wln (wqb (wqt (wcg (mv R R (wlq (Zj R R (by omega)) R ?_))))))
 exact asg R R (wln (Zl hk1 (stpN l1 t1) x2 (su4 R R R R) (zc pk2 so1)))
 have c1 : (decide (((k1 : Nat) : Int) < 6)) = false := ddf (by omega)
 have en1 := foe l1 hk1
 exact wcs (wcr (mv R R (wlq (pls R R) R (wnt (wff R c1 (wcx (wqe (wqe (wbx (wjm _ x1l (Sum.inl.inj en1) (su1 R) so2))))))))))
 intro e1 x1 hp
 obtain rfl : e1 = y1 := hp.symm
 refine wqt (wcr (mv R R (asg R R (wnt (wct ?_)))))
 obtain rfl := oi t0
 exact wq1 R R fun w hw => ⟨x1, R, hw.weak (zc pk1 so1)⟩

theorem ZoO (w : World) (fp : List Nat) (b0p : Nat) (a_c0 : List UInt8) (v0a : Hd) (r0 : rdF w (dm w fp) (sl v0a) a_c0) (a_c1 : Int) (a_c2 : Int) (o : Ow w [box b0p [(sl v0a), .int .i64 a_c1, .int .i64 a_c2]] fp) {r : GGuild × Int × Int} (t0 : ZfB a_c0 a_c1 a_c2 = some r) : Calls Tryz.prog 31 #[ptr b0p 0] w fun e w' => ∃ x : Hd × Hd × Hd × (List Value) × Hd, e = .returned (.agg #[(sl x.1), (sl x.2.1), (sl x.2.2.1), (sl x.2.2.2.2), .int .i64 r.1.Round, .int .i64 r.1.Year]) ∧ SH w fp [ownF (sl x.1) r.1.Members, ownF (sl x.2.1) r.1.Stock, own (sl x.2.2.1) x.2.2.2.1 r.1.Entries, ownF (sl x.2.2.2.2) r.1.Books, box b0p [(sl v0a), .int .i64 r.2.1, .int .i64 r.2.2]] w' := by
 refine ZaS (args := [_]) o Tryz.func31 R Tryz.ntmps31 R ?_
 unfold ZfB at t0
 refine wcr (wle (eal (cs := [(sl hn), (sl hn), (sl hn), (sl hn), iv 0, iv 0]) ZF) R fun b1 => (wnt (wcr (mv R R (bdO t0 fun v1 hv1 t0 => (wlc (Zbi [box b0p [(sl v0a), iv a_c1, iv a_c2]] Zdu (zc pk1 Zz) R fun w fp hw => ZQ w fp b0p a_c0 v0a ((Zt r0) w fp hw) a_c1 a_c2 20 hw.ow hv1) R fun _ => (wlq (Z4 R R) R (bdO t0 fun v2 hv2 t0 => (wlc (ZaM Zvu R fun w hw => Zkn w (wr (2000 + v1.1)) hv2) R fun x1 => (mv R R (wlq (pex R R) R (wlq (pex R R) R (wle (eal (cs := [(sl hn), (sl hn), (sl hn), (sl hn), iv 0, iv 0]) ZF) R fun b2 => (wls (sbx (cs' := [(sl x1.1), (sl x1.2.1), (sl x1.2.2.1), (sl x1.2.2.2.2), iv v2.1.Round, iv v2.1.Year]) Zc pz R R R R R R R) (asg R R (wnt (wcs (wcr (mv R R (bdO t0 fun v3 hv3 t0 => (wlc (Zbi [box b0p [(sl v0a), iv v1.2.1, iv v1.2.2]] Zdu (zc pk5 Zz) R fun w fp hw => ZQ w fp b0p a_c0 v0a ((Zt r0) w fp hw) v1.2.1 v1.2.2 5 hw.ow hv3) R fun _ => (asg R R (wnt (Zjx t0 fun y1 l1 t0 => (wj (J := Int × Int × Int × (List GMember) × (List Int) × (List GEntry) × (List GBooking) × Int × Int) (X := Hd × Hd × Hd × (List Value) × Hd) (fun z => y1 = z) (fun _ _ => [(0, ptr b0p 0), (2, ptr b1 0), (3, ptr b2 0)]) (fun z x => [box b0p [(sl v0a), iv z.2.1, iv z.2.2.1], box b2 [(sl x.1), (sl x.2.1), (sl x.2.2.1), (sl x.2.2.2.2), iv z.2.2.2.2.2.2.2.1, iv z.2.2.2.2.2.2.2.2], ownF (sl x.1) z.2.2.2.1, ownF (sl x.2.1) z.2.2.2.2.1, own (sl x.2.2.1) x.2.2.2.1 z.2.2.2.2.2.1, ownF (sl x.2.2.2.2) z.2.2.2.2.2.2.1, box b1 [(sl hn), (sl hn), (sl hn), (sl hn), iv 0, iv 0]]) ?_ ?_)))))))))))))))))))))))))
 refine wcb (ZkQ (X := Hd × Hd × Hd × (List Value) × Hd) l1 (fun s1 x1l => [(0, ptr b0p 0), (2, ptr b1 0), (3, ptr b2 0), (5, iv s1.1)]) (fun s1 x1l => [box b0p [(sl v0a), iv s1.2.1, iv s1.2.2.1], box b2 [(sl x1l.1), (sl x1l.2.1), (sl x1l.2.2.1), (sl x1l.2.2.2.2), iv s1.2.2.2.2.2.2.2.1, iv s1.2.2.2.2.2.2.2.2], ownF (sl x1l.1) s1.2.2.2.1, ownF (sl x1l.2.1) s1.2.2.2.2.1, own (sl x1l.2.2.1) x1l.2.2.2.1 s1.2.2.2.2.2.1, ownF (sl x1l.2.2.2.2) s1.2.2.2.2.2.2.1, box b1 [(sl hn), (sl hn), (sl hn), (sl hn), iv 0, iv 0]]) (x1.1, x1.2.1, x1.2.2.1, x1.2.2.2.1, x1.2.2.2.2) (su4 R R R R) so7 fun m1 s1 x1l l1 => (Ziy l1 fun _ t1 l1 => ?_))
 unfold ZdO at t1
 refine wcs (wcr (mv R R (wlq (ZaD R R) R (wnt (wcO t1 R (fun h1 t1 => ?_) fun h1 t1 => ?_)))))
 refine wck (wqt (wcs (wcb (bdO t1 fun v4 hv4 t1 => (bdO t1 fun v5 hv5 t1 => (wcj (X := Hd × Hd × Hd × (List Value) × Hd) (fun _ => True) (fun z => [(0, ptr b0p 0), (2, ptr b1 0), (3, ptr b2 0), (5, iv s1.1)]) (fun z => [box b2 [(sl z.1), (sl z.2.1), (sl z.2.2.1), (sl z.2.2.2.2), iv v5.1.Round, iv v5.1.Year], ownF (sl z.1) v5.1.Members, ownF (sl z.2.1) v5.1.Stock, own (sl z.2.2.1) z.2.2.2.1 v5.1.Entries, ownF (sl z.2.2.2.2) v5.1.Books, box b0p [(sl v0a), iv v4.2.1, iv v4.2.2], box b1 [(sl hn), (sl hn), (sl hn), (sl hn), iv 0, iv 0]]) ?_ ?_))))))
 refine wcd [box b2 [(sl x1l.1), (sl x1l.2.1), (sl x1l.2.2.1), (sl x1l.2.2.2.2), iv s1.2.2.2.2.2.2.2.1, iv s1.2.2.2.2.2.2.2.2], ownF (sl x1l.1) s1.2.2.2.1, ownF (sl x1l.2.1) s1.2.2.2.2.1, own (sl x1l.2.2.1) x1l.2.2.2.1 s1.2.2.2.2.2.1, ownF (sl x1l.2.2.2.2) s1.2.2.2.2.2.2.1, box b1 [(sl hn), (sl hn), (sl hn), (sl hn), iv 0, iv 0]] 8 mixed (aq (v := .agg #[(sl x1l.1), (sl x1l.2.1), (sl x1l.2.2.1), (sl x1l.2.2.2.2), iv s1.2.2.2.2.2.2.2.1, iv s1.2.2.2.2.2.2.2.2]) 0 R (plb Zc pz R R R) (zc pk1 (zc pk1 (zc pk1 (zc pk1 (zc pk1 (zc pk1 zn)))))) R (aq 1 R (pom R) (zc pk1 (zc pk1 (zc pk1 (zc pk1 (zc pk1 (zc pk1 zn)))))) R (a1 2 (wsc R (Zbi [box b0p [(sl v0a), iv s1.2.1, iv s1.2.2.1]] Zdu (zc pz Zz) R fun w fp hw => ZQ w fp b0p a_c0 v0a ((Zt r0) w fp hw) s1.2.1 s1.2.2.1 8 hw.ow hv4) (fun _ => (zt (zc pk1 (zc pk1 (zc pk1 (zc pk1 (zc pk1 (zc pk1 zn)))))))) R fun _ => (aq 3 R (Z4 R R) (zc pk1 (zc pk1 (zc pk1 (zc pk1 (zc pk1 (zc pk1 zn)))))) R (a1 4 (wsc R (ZaM Zvx R fun w hw => Zmy w (GGuild.mk s1.2.2.2.1 s1.2.2.2.2.1 s1.2.2.2.2.2.1 s1.2.2.2.2.2.2.1 s1.2.2.2.2.2.2.2.1 s1.2.2.2.2.2.2.2.2) x1l.1 (Rg.on (rgo pk2) hw) x1l.2.1 (Rg.on (rgo pk3) hw) x1l.2.2.1 x1l.2.2.2.1 (Rg.on (rgo pk4) hw) x1l.2.2.2.2 (Rg.on (rgo pk5) hw) (wr (1 + v4.1)) hv5) (fun _ => (zt (zc pk5 (zc pk5 (zc pk5 (zc pk5 (zc pk5 (zc pk5 zn)))))))) R fun x3 => (aq 5 R (pom R) (zc pk5 (zc pk5 (zc pk5 (zc pk5 (zc pk5 (zc pk5 zn)))))) R (aq 6 R (pex R R) (zc pk5 (zc pk5 (zc pk5 (zc pk5 (zc pk5 (zc pk5 zn)))))) R (wa_2 (i := 7) (j := 8) (by kernel_rfl) ?_ ?_))))))))))
 refine ZgY R (pex R R) (zt (zc pk5 (zc pk5 (zc pk5 (zc pk5 (zc pk5 (zc pk5 zn))))))) R (a1 8 (ZU R (sbx (cs' := [(sl x3.1), (sl x3.2.1), (sl x3.2.2.1), (sl x3.2.2.2.2), iv v5.1.Round, iv v5.1.Year]) Zc pk5 R R R R R R R) (Zaw (by kernel_rfl)) ?_))
 exact ae (wqm x3 trivial (su4 R R R R) (zc pz (zc pz (zc pz (zc pz (zc pz (zc pz (zc pk4 zn))))))))
 refine ZU R (sbx (cs' := [(sl x3.1), (sl x3.2.1), (sl x3.2.2.1), (sl x3.2.2.2.2), iv v5.1.Round, iv v5.1.Year]) Zc pk5 R R R R R R R) (Zaw (by kernel_rfl)) ?_
 refine a1 7 (ZgY R (pex R R) (Zaw (by kernel_rfl)) R ?_)
 exact ae (wqm x3 trivial (su4 R R R R) (zc pz (zc pz (zc pz (zc pz (zc pz (zc pz (zc pk4 zn))))))))
 intro x4 _
 exact wqb (wqt (wcg (mv R R (wlq (Zad R R) R (asg R R (wln (ZjD (stwN l1 t1) (x4.1, x4.2.1, x4.2.2.1, x4.2.2.2.1, x4.2.2.2.2) (su4 R R R R) (zc pk5 so6))))))))
 exact wcx (wqe (wqe (wbx (wjm _ (x1l.1, x1l.2.1, x1l.2.2.1, x1l.2.2.2.1, x1l.2.2.2.2) (Sum.inl.inj (stwB l1 t1)) (su3 R R R) so7))))
 intro e1 x2 hp
 obtain rfl : e1 = y1 := hp.symm
 refine wqt (wcr (asg R R (wnt (wcs (wcr (mv R R (bdO t0 fun v6 hv6 t0 => (wlc (Zbi [box b0p [(sl v0a), iv e1.2.1, iv e1.2.2.1]] Zdu (zc pz Zz) R fun w fp hw => ZQ w fp b0p a_c0 v0a ((Zt r0) w fp hw) e1.2.1 e1.2.2.1 4 hw.ow hv6) R fun _ => (asg R R (wnt (Zjx t0 fun y1 l1 t0 => (wj (J := Int × Int × Int × Int × (List GMember) × (List Int) × (List GEntry) × (List GBooking) × Int × Int) (X := Hd × Hd × Hd × (List Value) × Hd) (fun z => y1 = z) (fun _ _ => [(0, ptr b0p 0), (2, ptr b1 0), (3, ptr b2 0)]) (fun z x => [box b0p [(sl v0a), iv z.2.2.1, iv z.2.2.2.1], box b2 [(sl x.1), (sl x.2.1), (sl x.2.2.1), (sl x.2.2.2.2), iv z.2.2.2.2.2.2.2.2.1, iv z.2.2.2.2.2.2.2.2.2], ownF (sl x.1) z.2.2.2.2.1, ownF (sl x.2.1) z.2.2.2.2.2.1, own (sl x.2.2.1) x.2.2.2.1 z.2.2.2.2.2.2.1, ownF (sl x.2.2.2.2) z.2.2.2.2.2.2.2.1, box b1 [(sl hn), (sl hn), (sl hn), (sl hn), iv 0, iv 0]]) ?_ ?_))))))))))))
 refine wcb (ZkQ (X := Hd × Hd × Hd × (List Value) × Hd) l1 (fun s2 x2l => [(0, ptr b0p 0), (2, ptr b1 0), (3, ptr b2 0), (6, iv s2.1), (7, iv s2.2.1)]) (fun s2 x2l => [box b0p [(sl v0a), iv s2.2.2.1, iv s2.2.2.2.1], box b2 [(sl x2l.1), (sl x2l.2.1), (sl x2l.2.2.1), (sl x2l.2.2.2.2), iv s2.2.2.2.2.2.2.2.2.1, iv s2.2.2.2.2.2.2.2.2.2], ownF (sl x2l.1) s2.2.2.2.2.1, ownF (sl x2l.2.1) s2.2.2.2.2.2.1, own (sl x2l.2.2.1) x2l.2.2.2.1 s2.2.2.2.2.2.2.1, ownF (sl x2l.2.2.2.2) s2.2.2.2.2.2.2.2.1, box b1 [(sl hn), (sl hn), (sl hn), (sl hn), iv 0, iv 0]]) (x2.1, x2.2.1, x2.2.2.1, x2.2.2.2.1, x2.2.2.2.2) (su5 R R R R R) so7 fun m2 s2 x2l l1 => (Ziy l1 fun _ t1 l1 => ?_))
 unfold ZdL at t1
 refine wcs (wcs (wcj (X := Unit) (fun _ => True) (fun _ => [(0, ptr b0p 0), (2, ptr b1 0), (3, ptr b2 0), (6, iv s2.1), (7, iv s2.2.1), (42, .bool ((decide (s2.2.1 > 0)) && (decide (((s2.2.2.2.2.1.length : Nat) : Int) > 0))))]) (fun _ => [box b0p [(sl v0a), iv s2.2.2.1, iv s2.2.2.2.1], box b2 [(sl x2l.1), (sl x2l.2.1), (sl x2l.2.2.1), (sl x2l.2.2.2.2), iv s2.2.2.2.2.2.2.2.2.1, iv s2.2.2.2.2.2.2.2.2.2], box b1 [(sl hn), (sl hn), (sl hn), (sl hn), iv 0, iv 0], ownF (sl x2l.1) s2.2.2.2.2.1, ownF (sl x2l.2.1) s2.2.2.2.2.2.1, own (sl x2l.2.2.1) x2l.2.2.2.1 s2.2.2.2.2.2.2.1, ownF (sl x2l.2.2.2.2) s2.2.2.2.2.2.2.2.1]) ?_ ?_))
 refine wcg (mv R R (wlq (ZaD R R) R (mv R R (Zah (t := 37) R (fun h2 => ?_) fun h2 => ?_))))
 exact wgn (j := 2) R R R (wlq (pof Zcl R) R (wgn (j := 2) R R R (wlq (v := (sl x2l.1)) (plx Zet pk1 R R) R (wgn (j := 2) R R R (wlq (pln (rgo pk2) Zan R) R (wgn (j := 2) R R R (wlq (ZaD R R) R (wlq (pit R R) R (wln (wqm () trivial (yc R (yc R (yc R (yc R (yc R (Z2 R (by rw [h2]; rfl) yn)))))) (zc pz (zc pz (zc pk4 so4)))))))))))))
 exact wgf (j := 2) R R R R R (wgf (j := 2) R R R R R (wgf (j := 2) R R R R R (wgf (j := 2) R R R R R (wlq (pif R R) R (wln (wqm () trivial (yc R (yc R (yc R (yc R (yc R (Z2 R (by rw [h2]; rfl) yn)))))) (zc pz (zc pz (zc pk4 so4)))))))))
 intro _ _
 refine wqt (wcO t1 R (fun h3 t1 => ?_) fun h3 t1 => ?_)
 refine wck (wqt (wcs (wcb (wcr (mv R R (mv R R (bdO t1 fun v7 hv7 t1 => (wlc (Zbi [box b0p [(sl v0a), iv s2.2.2.1, iv s2.2.2.2.1]] Zdu (zc pz Zz) R fun w fp hw => ZQ w fp b0p a_c0 v0a ((Zt r0) w fp hw) s2.2.2.1 s2.2.2.2.1 3 hw.ow hv7) R fun _ => (wlq (Z4 R R) R (asg R R (wnt (wcr (wlq (Zk R (ZkZ 2)) R (wle (eal (cs := [iv 0, (sl hn)]) Zav) R fun b3 => (wls (sbx (cs' := [iv 2, (sl hn)]) Zb pz R R R R R R R) (wnt (wcs (wcr (asg R R (wnt (Zr t1 fun y2 l2 t1 => (wj (J := (List GCell) × Int × Int) (X := Hd) (fun z => y2 = z) (fun _ _ => [(0, ptr b0p 0), (2, ptr b1 0), (3, ptr b2 0), (6, iv (wr (s2.1 + v7.1))), (7, iv s2.2.1), (8, ptr b3 0)]) (fun z x => [box b3 [iv 2, (sl x)], box b0p [(sl v0a), iv z.2.1, iv z.2.2], box b2 [(sl x2l.1), (sl x2l.2.1), (sl x2l.2.2.1), (sl x2l.2.2.2.2), iv s2.2.2.2.2.2.2.2.2.1, iv s2.2.2.2.2.2.2.2.2.2], box b1 [(sl hn), (sl hn), (sl hn), (sl hn), iv 0, iv 0], ownF (sl x2l.1) s2.2.2.2.2.1, ownF (sl x2l.2.1) s2.2.2.2.2.2.1, own (sl x2l.2.2.1) x2l.2.2.2.1 s2.2.2.2.2.2.2.1, ownF (sl x2l.2.2.2.2) s2.2.2.2.2.2.2.2.1, ownF (sl x) z.1]) ?_ ?_))))))))))))))))))))))
 refine wcb (wcf (X := Hd) l2 (fun k3 s3 x3l => [(0, ptr b0p 0), (2, ptr b1 0), (3, ptr b2 0), (6, iv (wr (s2.1 + v7.1))), (7, iv s2.2.1), (8, ptr b3 0), (9, iv ((k3 : Nat) : Int))]) (fun k3 s3 x3l => [box b3 [iv 2, (sl x3l)], box b0p [(sl v0a), iv s3.2.1, iv s3.2.2], box b2 [(sl x2l.1), (sl x2l.2.1), (sl x2l.2.2.1), (sl x2l.2.2.2.2), iv s2.2.2.2.2.2.2.2.2.1, iv s2.2.2.2.2.2.2.2.2.2], box b1 [(sl hn), (sl hn), (sl hn), (sl hn), iv 0, iv 0], ownF (sl x2l.1) s2.2.2.2.2.1, ownF (sl x2l.2.1) s2.2.2.2.2.2.1, own (sl x2l.2.2.1) x2l.2.2.2.1 s2.2.2.2.2.2.2.1, ownF (sl x2l.2.2.2.2) s2.2.2.2.2.2.2.2.1, ownF (sl x3l) s3.1]) hn (su7 R R R R R R R) (zc pz (zc pz (zc pz (zc pz (zc pz (zc pz (zc pz (zc pz (zc ZB zn))))))))) fun k3 s3 x3l hN3 l2 => ?_)
 by_cases hk3 : k3 < 4
 refine fos l2 hk3 fun _ t2 l2 => ?_
 unfold ZdQ at t2
 have c1 : (decide (((k3 : Nat) : Int) < 4)) = true := ddt (by omega)
 refine wcs (wcr (mv R R (wlq (pls R R) R (wnt (wft R c1 (wck (wqt (wcs (wcb (wcr (mv R R (bdO t2 fun v8 hv8 t2 => (wlc (Zbi [box b0p [(sl v0a), iv s3.2.1, iv s3.2.2]] ZxY (zc pk1 Zz) R fun w fp hw => ZpP w fp b0p a_c0 v0a ((Zt r0) w fp hw) s3.2.1 s3.2.2 hw.ow hv8) R fun _ => (wle (eal (cs := [iv 0, iv 0, iv 0]) Zbj) R fun b4 => (wls (sbx (cs' := [iv v8.1.Split, iv v8.1.A, iv v8.1.B]) Zf pz R R R R R R R) (wnt (wcg (wlq (pof Zx R) R (wlq (v := (sl x3l)) (plx ZR pk2 R R) R (wlq (v := .agg #[iv v8.1.Split, iv v8.1.A, iv v8.1.B]) (plb Zf pz R R R) R (wle (ebs R (Zk3 v8.1.Split v8.1.A v8.1.B)) R fun b5 => (gdO t2 fun g1 t2 => (wle (Zg (xs := s3.1) (ys := ([v8.1] : List GCell)) Zlo pk10 R R (Zi fun _ g => Rg.on (rgo (pbo pz (n := 1) (xs := ([v8.1] : List GCell)) R R (by unfold maxLen; omega))) g) g1) R fun x8 => ?_)))))))))))))))))))))))
 refine wlq (pof Zx R) R (wls (sbx (cs' := [iv 2, (sl x8)]) ZR pk4 R R R R R R R) (wln (wqb (wqt (wcg (mv R R (wlq (Zj R R (by omega)) R ?_)))))))
 exact asg R R (wln (Zl hk3 (stpN l2 t2) x8 (su7 R R R R R R R) (zc pz (zc pk3 (zc pk3 (zc pk3 (zc pk3 (zc pk3 (zc pk3 (zc pk3 so1))))))))))
 have c1 : (decide (((k3 : Nat) : Int) < 4)) = false := ddf (by omega)
 have en1 := foe l2 hk3
 exact wcs (wcr (mv R R (wlq (pls R R) R (wnt (wff R c1 (wcx (wqe (wqe (wbx (wjm _ x3l (Sum.inl.inj en1) (su6 R R R R R R) so9))))))))))
 intro e3 x7 hp
 obtain rfl : e3 = y2 := hp.symm
 refine wqt (bdO t1 fun v9 hv9 t1 => (gdO t1 fun g2 t1 => (bdO t1 fun v10 hv10 t1 => (wcj (X := Hd × Hd × Hd × (List Value) × Hd) (fun _ => True) (fun z => [(0, ptr b0p 0), (2, ptr b1 0), (3, ptr b2 0), (6, iv (wr (s2.1 + v7.1))), (7, iv s2.2.1)]) (fun z => [box b2 [(sl z.1), (sl z.2.1), (sl z.2.2.1), (sl z.2.2.2.2), iv v10.1.Round, iv v10.1.Year], ownF (sl z.1) v10.1.Members, ownF (sl z.2.1) v10.1.Stock, own (sl z.2.2.1) z.2.2.2.1 v10.1.Entries, ownF (sl z.2.2.2.2) v10.1.Books, box b0p [(sl v0a), iv v9.2.1, iv v9.2.2], box b1 [(sl hn), (sl hn), (sl hn), (sl hn), iv 0, iv 0]]) ?_ ?_))))
 refine wcd [box b3 [iv 2, (sl x7)], box b2 [(sl x2l.1), (sl x2l.2.1), (sl x2l.2.2.1), (sl x2l.2.2.2.2), iv s2.2.2.2.2.2.2.2.2.1, iv s2.2.2.2.2.2.2.2.2.2], box b1 [(sl hn), (sl hn), (sl hn), (sl hn), iv 0, iv 0], ownF (sl x2l.1) s2.2.2.2.2.1, ownF (sl x2l.2.1) s2.2.2.2.2.2.1, own (sl x2l.2.2.1) x2l.2.2.2.1 s2.2.2.2.2.2.2.1, ownF (sl x2l.2.2.2.2) s2.2.2.2.2.2.2.2.1, ownF (sl x7) e3.1] 17 mixed (aq (v := .agg #[(sl x2l.1), (sl x2l.2.1), (sl x2l.2.2.1), (sl x2l.2.2.2.2), iv s2.2.2.2.2.2.2.2.2.1, iv s2.2.2.2.2.2.2.2.2.2]) 0 R (plb Zc pk1 R R R) (zc pz (zc pk1 (zc pk1 (zc pk1 (zc pk1 (zc pk1 (zc pk1 (zc pk1 zn)))))))) R (aq 1 R (pof Zcl R) (zc pz (zc pk1 (zc pk1 (zc pk1 (zc pk1 (zc pk1 (zc pk1 (zc pk1 zn)))))))) R (aq (v := (sl x2l.1)) 2 R (plx Zet pk1 R R) (zc pz (zc pk1 (zc pk1 (zc pk1 (zc pk1 (zc pk1 (zc pk1 (zc pk1 zn)))))))) R (aq 3 R (pom R) (zc pz (zc pk1 (zc pk1 (zc pk1 (zc pk1 (zc pk1 (zc pk1 (zc pk1 zn)))))))) R (aq 4 R (pof Zcl R) (zc pz (zc pk1 (zc pk1 (zc pk1 (zc pk1 (zc pk1 (zc pk1 (zc pk1 zn)))))))) R (aq (v := (sl x2l.1)) 5 R (plx Zet pk1 R R) (zc pz (zc pk1 (zc pk1 (zc pk1 (zc pk1 (zc pk1 (zc pk1 (zc pk1 zn)))))))) R (aq 6 R (pln (rgo pk3) Zan R) (zc pz (zc pk1 (zc pk1 (zc pk1 (zc pk1 (zc pk1 (zc pk1 (zc pk1 zn)))))))) R (aq 11 R (pom R) (zc pz (zc pk1 (zc pk1 (zc pk1 (zc pk1 (zc pk1 (zc pk1 (zc pk1 zn)))))))) R (aq (v := .agg #[iv 2, (sl x7)]) 12 R (plb Zb pz R R R) (zc pz (zc pk1 (zc pk1 (zc pk1 (zc pk1 (zc pk1 (zc pk1 (zc pk1 zn)))))))) R (a1 7 (wsc R (Zbi [box b0p [(sl v0a), iv e3.2.1, iv e3.2.2]] Zdu (zc pk1 Zz) R fun w fp hw => ZQ w fp b0p a_c0 v0a ((Zt r0) w fp hw) e3.2.1 e3.2.2 ((s2.2.2.2.2.1.length : Nat) : Int) hw.ow hv9) (fun _ => (zt (zc pk1 (zc pk1 (zc pk1 (zc pk1 (zc pk1 (zc pk1 (zc pk1 (zc pk1 zn)))))))))) R fun _ => (aq 8 R (Z8 (rgo pk3) Zan R R g2.1 g2.2) (zc pk1 (zc pk1 (zc pk1 (zc pk1 (zc pk1 (zc pk1 (zc pk1 (zc pk1 zn)))))))) R (aq 9 R (Zak (rgo pk3) (ZK g2) Zch R) (zc pk1 (zc pk1 (zc pk1 (zc pk1 (zc pk1 (zc pk1 (zc pk1 (zc pk1 zn)))))))) R (aq (v := iv ((gx s2.2.2.2.2.1 ((v9.1).toNat)).Number)) 10 R (ZD (rgo pk3) tk_3 R (ZK g2) R) (zc pk1 (zc pk1 (zc pk1 (zc pk1 (zc pk1 (zc pk1 (zc pk1 (zc pk1 zn)))))))) R (a1 13 (wsc R (ZaM ZxO R fun w hw => ZqN w (GGuild.mk s2.2.2.2.2.1 s2.2.2.2.2.2.1 s2.2.2.2.2.2.2.1 s2.2.2.2.2.2.2.2.1 s2.2.2.2.2.2.2.2.2.1 s2.2.2.2.2.2.2.2.2.2) x2l.1 (Rg.on (rgo pk4) hw) x2l.2.1 (Rg.on (rgo pk5) hw) x2l.2.2.1 x2l.2.2.2.1 (Rg.on (rgo pk6) hw) x2l.2.2.2.2 (Rg.on (rgo pk7) hw) ((gx s2.2.2.2.2.1 ((v9.1).toNat)).Number) (wr (s2.1 + v7.1)) (GBlock.mk 2 e3.1) x7 (Rg.on (rgo pk8) hw) hv10) (fun _ => (zt (zc pk5 (zc pk5 (zc pk5 (zc pk5 (zc pk5 (zc pk5 (zc pk5 (zc pk5 zn)))))))))) R fun x9 => (aq 14 R (pom R) (zc pk5 (zc pk5 (zc pk5 (zc pk5 (zc pk5 (zc pk5 (zc pk5 (zc pk5 zn)))))))) R (aq 15 R (pex R R) (zc pk5 (zc pk5 (zc pk5 (zc pk5 (zc pk5 (zc pk5 (zc pk5 (zc pk5 zn)))))))) R (wa_2 (i := 16) (j := 17) (by kernel_rfl) ?_ ?_)))))))))))))))))))
 refine ZgY R (pex R R) (zt (zc pk5 (zc pk5 (zc pk5 (zc pk5 (zc pk5 (zc pk5 (zc pk5 (zc pk5 zn))))))))) R (a1 17 (ZU R (sbx (cs' := [(sl x9.1), (sl x9.2.1), (sl x9.2.2.1), (sl x9.2.2.2.2), iv v10.1.Round, iv v10.1.Year]) Zc pk6 R R R R R R R) (Zaw (by kernel_rfl)) ?_))
 exact ae (wqm x9 trivial (su5 R R R R R) (zc pz (zc pz (zc pz (zc pz (zc pz (zc pz (zc pk1 zn))))))))
 refine ZU R (sbx (cs' := [(sl x9.1), (sl x9.2.1), (sl x9.2.2.1), (sl x9.2.2.2.2), iv v10.1.Round, iv v10.1.Year]) Zc pk6 R R R R R R R) (Zaw (by kernel_rfl)) ?_
 refine a1 16 (ZgY R (pex R R) (Zaw (by kernel_rfl)) R ?_)
 exact ae (wqm x9 trivial (su5 R R R R R) (zc pz (zc pz (zc pz (zc pz (zc pz (zc pz (zc pk1 zn))))))))
 intro x10 _
 exact wqb (wqt (wcg (mv R R (wlq (Zad R R) R (asg R R (wln (ZjD (stwN l1 t1) (x10.1, x10.2.1, x10.2.2.1, x10.2.2.2.1, x10.2.2.2.2) (su5 R R R R R) (zc pk5 so6))))))))
 exact wcx (wqe (wqe (wbx (wjm _ (x2l.1, x2l.2.1, x2l.2.2.1, x2l.2.2.2.1, x2l.2.2.2.2) (Sum.inl.inj (stwB l1 t1)) (su3 R R R) (zc pz (zc pz (zc pk1 (zc pk1 (zc pk1 (zc pk1 so1))))))))))
 intro e2 x5 hp
 obtain rfl : e2 = y1 := hp.symm
 refine wqt (wcs (wcr (mv R R (bdO t0 fun v11 hv11 t0 => (wlc (Zbi [box b0p [(sl v0a), iv e2.2.2.1, iv e2.2.2.2.1]] Zdu (zc pz Zz) R fun w fp hw => ZQ w fp b0p a_c0 v0a ((Zt r0) w fp hw) e2.2.2.1 e2.2.2.2.1 4 hw.ow hv11) R fun _ => (asg R R (wnt (Zjx t0 fun y1 l1 t0 => (wj (J := Int × (List GMember) × (List Int) × (List GEntry) × (List GBooking) × Int × Int) (X := Hd × Hd × Hd × (List Value) × Hd) (fun z => y1 = z) (fun _ _ => [(0, ptr b0p 0), (2, ptr b1 0), (3, ptr b2 0)]) (fun z x => [box b0p [(sl v0a), iv v11.2.1, iv v11.2.2], box b2 [(sl x.1), (sl x.2.1), (sl x.2.2.1), (sl x.2.2.2.2), iv z.2.2.2.2.2.1, iv z.2.2.2.2.2.2], ownF (sl x.1) z.2.1, ownF (sl x.2.1) z.2.2.1, own (sl x.2.2.1) x.2.2.2.1 z.2.2.2.1, ownF (sl x.2.2.2.2) z.2.2.2.2.1, box b1 [(sl hn), (sl hn), (sl hn), (sl hn), iv 0, iv 0]]) ?_ ?_)))))))))
 refine wcb (ZkQ (X := Hd × Hd × Hd × (List Value) × Hd) l1 (fun s4 x4l => [(0, ptr b0p 0), (2, ptr b1 0), (3, ptr b2 0), (11, iv s4.1)]) (fun s4 x4l => [box b0p [(sl v0a), iv v11.2.1, iv v11.2.2], box b2 [(sl x4l.1), (sl x4l.2.1), (sl x4l.2.2.1), (sl x4l.2.2.2.2), iv s4.2.2.2.2.2.1, iv s4.2.2.2.2.2.2], ownF (sl x4l.1) s4.2.1, ownF (sl x4l.2.1) s4.2.2.1, own (sl x4l.2.2.1) x4l.2.2.2.1 s4.2.2.2.1, ownF (sl x4l.2.2.2.2) s4.2.2.2.2.1, box b1 [(sl hn), (sl hn), (sl hn), (sl hn), iv 0, iv 0]]) (x5.1, x5.2.1, x5.2.2.1, x5.2.2.2.1, x5.2.2.2.2) (su4 R R R R) so7 fun m4 s4 x4l l1 => (Ziy l1 fun _ t1 l1 => ?_))
 unfold ZdF at t1
 refine wcs (wcr (mv R R (wlq (ZaD R R) R (wnt (wcO t1 R (fun h4 t1 => ?_) fun h4 t1 => ?_)))))
 exact wck (wqt (wcs (wcb (wcg (wlq (v := .agg #[(sl x4l.1), (sl x4l.2.1), (sl x4l.2.2.1), (sl x4l.2.2.2.2), iv s4.2.2.2.2.2.1, iv s4.2.2.2.2.2.2]) (plb Zc pk1 R R R) R (bdO t1 fun v12 hv12 t1 => (wlc (ZaM ZxM R fun w hw => ZnW w (GGuild.mk s4.2.1 s4.2.2.1 s4.2.2.2.1 s4.2.2.2.2.1 s4.2.2.2.2.2.1 s4.2.2.2.2.2.2) x4l.1 (Rg.on (rgo pk2) hw) x4l.2.1 (Rg.on (rgo pk3) hw) x4l.2.2.1 x4l.2.2.2.1 (Rg.on (rgo pk4) hw) x4l.2.2.2.2 (Rg.on (rgo pk5) hw) hv12) R fun x12 => (mv R R (wlq (pex R R) R (wlq (pex R R) R (wls (sbx (cs' := [(sl x12.1), (sl x12.2.1), (sl x12.2.2.1), (sl x12.2.2.2.2), iv v12.1.Round, iv v12.1.Year]) Zc pk5 R R R R R R R) (wln (wqb (wqt (wcg (mv R R (wlq (Zad R R) R (asg R R (wln (ZjD (stwN l1 t1) (x12.1, x12.2.1, x12.2.2.1, x12.2.2.2.1, x12.2.2.2.2) (su4 R R R R) (zc pk5 (zc pz (zc pz (zc pz (zc pz (zc pz (zc pk4 zn)))))))))))))))))))))))))))
 exact wcx (wqe (wqe (wbx (wjm _ (x4l.1, x4l.2.1, x4l.2.2.1, x4l.2.2.2.1, x4l.2.2.2.2) (Sum.inl.inj (stwB l1 t1)) (su3 R R R) so7))))
 intro e4 x11 hp
 obtain rfl : e4 = y1 := hp.symm
 refine wqt (wcs (wcr (mv R R (bdO t0 fun v13 hv13 t0 => (wlc (Zbi [box b0p [(sl v0a), iv v11.2.1, iv v11.2.2]] Zvo (zc pz Zz) R fun w fp hw => Zk4 w fp b0p a_c0 v0a ((Zt r0) w fp hw) v11.2.1 v11.2.2 3 hw.ow hv13) R fun _ => (wnt (bdO t0 fun y1 t1 t0 => (wj (J := (List Int) × Gl01Cur) (X := Hd) (fun z => y1 = z) (fun _ _ => [(2, ptr b1 0), (3, ptr b2 0)]) (fun z x => [box b2 [(sl x11.1), (sl x), (sl x11.2.2.1), (sl x11.2.2.2.2), iv e4.2.2.2.2.2.1, iv e4.2.2.2.2.2.2], box b0p [(sl v0a), iv ((z.2).i), iv ((z.2).h)], box b1 [(sl hn), (sl hn), (sl hn), (sl hn), iv 0, iv 0], ownF (sl x11.1) e4.2.1, ownF (sl x) z.1, own (sl x11.2.2.1) x11.2.2.2.1 e4.2.2.2.1, ownF (sl x11.2.2.2.2) e4.2.2.2.2.1]) ?_ ?_))))))))
 refine wcO t1 R (fun h5 t1 => ?_) fun h5 t1 => ?_
 exact wcg (mv R R (bdO t1 fun v14 hv14 t1 => (wlc (Zvy [box b0p [(sl v0a), iv v13.2.1, iv v13.2.2]] ZxE (zc pz Zz) R fun w fp hw => ZoS w fp b0p a_c0 v0a ((Zt r0) w fp hw) v13.2.1 v13.2.2 60 hw.ow hv14) R fun x14 => (wlq (pof ZeP R) R (wls (sbx (cs' := [(sl x11.1), (sl x14), (sl x11.2.2.1), (sl x11.2.2.2.2), iv e4.2.2.2.2.2.1, iv e4.2.2.2.2.2.2]) Zeu pk2 R R R R R R R) (wln (wjm _ x14 (mtE t1) (su2 R R) (zc pz (zc pk1 (zc pk5 (zc pk1 (zc pz (zc pk1 (zc pk1 zn))))))))))))))
 exact wck (wjm _ x11.2.1 (mtE t1) (su2 R R) (zc pk1 (zc pz (zc pk4 so4))))
 intro j2 x13 hp
 obtain rfl : j2 = y1 := hp.symm
 refine wqt (wcr (wlq (v := .agg #[(sl x11.1), (sl x13), (sl x11.2.2.1), (sl x11.2.2.2.2), iv e4.2.2.2.2.2.1, iv e4.2.2.2.2.2.2]) (plb Zc pz R R R) R (wls (sbx (cs' := [(sl x11.1), (sl x13), (sl x11.2.2.1), (sl x11.2.2.2.2), iv e4.2.2.2.2.2.1, iv e4.2.2.2.2.2.2]) Zc pk2 R R R R R R R) (wnt (wct ?_)))))
 obtain rfl := oi t0
 exact wqc R Zc R pz R fun w hw => ⟨(x11.1, x13, x11.2.2.1, x11.2.2.2.1, x11.2.2.2.2), R, hw.weak (zc pk3 (zc pk3 (zc pk3 (zc pk3 (zc pk2 zn)))))⟩

theorem Zo8 (w : World) (fp : List Nat) (b0p : Nat) (a_c0 : List UInt8) (v0a : Hd) (r0 : rdF w (dm w fp) (sl v0a) a_c0) (a_c1 : Int) (a_c2 : Int) (o : Ow w [box b0p [(sl v0a), .int .i64 a_c1, .int .i64 a_c2]] fp) {r : GGuild × Int × Int} (t0 : ZfG a_c0 a_c1 a_c2 = some r) : Calls Tryz.prog 14 #[ptr b0p 0] w fun e w' => ∃ x : Hd × Hd × Hd × (List Value) × Hd, e = .returned (.agg #[(sl x.1), (sl x.2.1), (sl x.2.2.1), (sl x.2.2.2.2), .int .i64 r.1.Round, .int .i64 r.1.Year]) ∧ SH w fp [ownF (sl x.1) r.1.Members, ownF (sl x.2.1) r.1.Stock, own (sl x.2.2.1) x.2.2.2.1 r.1.Entries, ownF (sl x.2.2.2.2) r.1.Books, box b0p [(sl v0a), .int .i64 r.2.1, .int .i64 r.2.2]] w' := by
 refine ZaS (args := [_]) o Tryz.func14 R Tryz.ntmps14 R ?_
 unfold ZfG at t0
 refine wcr (wle (eal (cs := [(sl hn), (sl hn), (sl hn), (sl hn), iv 0, iv 0]) ZF) R fun b1 => (wnt (wcs (wcr (mv R R (bdO t0 fun v1 hv1 t0 => (wlc (Zbi [box b0p [(sl v0a), iv a_c1, iv a_c2]] Zvo (zc pk1 Zz) R fun w fp hw => Zk4 w fp b0p a_c0 v0a ((Zt r0) w fp hw) a_c1 a_c2 2 hw.ow hv1) R fun _ => (wnt (wcO t0 R (fun h1 t0 => ?_) fun h1 t0 => ?_)))))))))
 refine wcr (bdO t0 fun v2 hv2 t0 => (wlc (ZaM Zx1 R fun w hw => ZmD w hv2) R fun x1 => (wls (sbx (cs' := [(sl x1.1), (sl x1.2.1), (sl x1.2.2.1), (sl x1.2.2.2.2), iv v2.Round, iv v2.Year]) Zc pk5 R R R R R R R) (wnt (wct (wqr ?_))))))
 obtain rfl := oi t0
 exact wqc R Zc R pz R fun w hw => ⟨(x1.1, x1.2.1, x1.2.2.1, x1.2.2.2.1, x1.2.2.2.2), R, hw.weak (zc pk1 (zc pk1 (zc pk1 (zc pk1 (zc pk1 zn)))))⟩
 refine wck (wqt (wcr (mv R R (bdO t0 fun v3 hv3 t0 => (wlc (Zvr [box b0p [(sl v0a), iv v1.2.1, iv v1.2.2]] ZxT (zc pz Zz) R fun w fp hw => ZoO w fp b0p a_c0 v0a ((Zt r0) w fp hw) v1.2.1 v1.2.2 hw.ow hv3) R fun x2 => (wls (sbx (cs' := [(sl x2.1), (sl x2.2.1), (sl x2.2.2.1), (sl x2.2.2.2.2), iv v3.1.Round, iv v3.1.Year]) Zc pk5 R R R R R R R) (wnt (wct ?_))))))))
 obtain rfl := oi t0
 exact wqc R Zc R pz R fun w hw => ⟨(x2.1, x2.2.1, x2.2.2.1, x2.2.2.2.1, x2.2.2.2.2), R, hw.weak (zc pk1 (zc pk1 (zc pk1 (zc pk1 (zc pk1 zn)))))⟩

theorem ZqP (w : World) (fp : List Nat) (b0p : Nat) (a_c0 : List UInt8) (v0a : Hd) (r0 : rdF w (dm w fp) (sl v0a) a_c0) (a_c1 : Int) (a_c2 : Int) (o : Ow w [box b0p [(sl v0a), .int .i64 a_c1, .int .i64 a_c2]] fp) {r : GAct × Int × Int} (t0 : Zhn a_c0 a_c1 a_c2 = some r) : Calls Tryz.prog 33 #[ptr b0p 0] w fun e w' => ∃ _x : Unit, e = .returned (.agg #[.int .i64 r.1.Kind, .int .i64 r.1.A, .int .i64 r.1.B]) ∧ SH w fp [box b0p [(sl v0a), .int .i64 r.2.1, .int .i64 r.2.2]] w' := by
 refine ZaS (args := [_]) o Tryz.func33 R Tryz.ntmps33 R ?_
 unfold Zhn at t0
 refine wcr (wle (eal (cs := [iv 0, iv 0, iv 0]) Zly) R fun b1 => (wnt (wcs (wcr (mv R R (bdO t0 fun v1 hv1 t0 => (wlc (Zbi [box b0p [(sl v0a), iv a_c1, iv a_c2]] Zdu (zc pk1 Zz) R fun w fp hw => ZQ w fp b0p a_c0 v0a ((Zt r0) w fp hw) a_c1 a_c2 8 hw.ow hv1) R fun _ => (wnt (wcb (wcr (wlq (pol R R) R (asg R R (wnt (wcO t0 R (fun h1 t0 => ?_) fun h1 t0 => ?_))))))))))))))
 refine wcr (mv R R (bdO t0 fun v2 hv2 t0 => (wlc (Zbi [box b0p [(sl v0a), iv v1.2.1, iv v1.2.2]] Zdu (zc pz Zz) R fun w fp hw => ZQ w fp b0p a_c0 v0a ((Zt r0) w fp hw) v1.2.1 v1.2.2 8 hw.ow hv2) R fun _ => (wlq (Z4 R R) R (wlq (Zk R (ZmI 1 (wr (1 + v2.1)))) R (wls (sbx (cs' := [iv 1, iv (wr (1 + v2.1)), iv 0]) ZaU pk1 R R R R R R R) (wnt (wct (wbr (wqr ?_))))))))))
 obtain rfl := oi t0
 exact wqc R ZaU R pz R fun w hw => ⟨(), R, hw.weak (zc pk1 zn)⟩
 refine wcs (wcr (wlq (pol R R) R (asg R R (wnt (wcj (X := Unit) (fun _ => True) (fun _ => [(0, ptr b0p 0), (2, ptr b1 0), (4, iv v1.1), (11, .bool ((v1.1 == 1) || (v1.1 == 2)))]) (fun _ => [box b0p [(sl v0a), iv v1.2.1, iv v1.2.2], box b1 [iv 0, iv 0, iv 0]]) ?_ ?_)))))
 refine ZbI R (fun h2 => ?_) fun h2 => ?_
 exact wck (wqm () trivial (yc R (yc R (yc R (Z2 R (by rw [h2]; rfl) yn)))) so2)
 exact wcg (wlq (pol R R) R (asg R R (wln (wqm () trivial (yc R (yc R (yc R (Z2 R (by rw [h2]; rfl) yn)))) so2))))
 intro _ _
 refine wqt (wcO t0 R (fun h3 t0 => ?_) fun h3 t0 => ?_)
 refine wcr (mv R R (bdO t0 fun v3 hv3 t0 => (wlc (Zbi [box b0p [(sl v0a), iv v1.2.1, iv v1.2.2]] Zdu (zc pz Zz) R fun w fp hw => ZQ w fp b0p a_c0 v0a ((Zt r0) w fp hw) v1.2.1 v1.2.2 5 hw.ow hv3) R fun _ => (wlq (Z4 R R) R (mv R R (bdO t0 fun v4 hv4 t0 => (wlc (Zbi [box b0p [(sl v0a), iv v3.2.1, iv v3.2.2]] Zdu (zc pz Zz) R fun w fp hw => ZQ w fp b0p a_c0 v0a ((Zt r0) w fp hw) v3.2.1 v3.2.2 10 hw.ow hv4) R fun _ => (wlq (Zk R (Zsn 2 (wr (1 + v3.1)) v4.1)) R (wls (sbx (cs' := [iv 2, iv (wr (1 + v3.1)), iv v4.1]) ZaU pk1 R R R R R R R) (wnt (wct (wbr (wqr ?_)))))))))))))
 obtain rfl := oi t0
 exact wqc R ZaU R pz R fun w hw => ⟨(), R, hw.weak (zc pk1 zn)⟩
 refine wcr (wlq (pol R R) R (asg R R (wnt (wcO t0 R (fun h4 t0 => ?_) fun h4 t0 => ?_))))
 refine wcr (mv R R (bdO t0 fun v5 hv5 t0 => (wlc (Zbi [box b0p [(sl v0a), iv v1.2.1, iv v1.2.2]] Zdu (zc pz Zz) R fun w fp hw => ZQ w fp b0p a_c0 v0a ((Zt r0) w fp hw) v1.2.1 v1.2.2 4 hw.ow hv5) R fun _ => (wlq (Zk R (ZmI 3 v5.1)) R (wls (sbx (cs' := [iv 3, iv v5.1, iv 0]) ZaU pk1 R R R R R R R) (wnt (wct (wbr (wqr ?_)))))))))
 obtain rfl := oi t0
 exact wqc R ZaU R pz R fun w hw => ⟨(), R, hw.weak (zc pk1 zn)⟩
 refine wcs (wcr (wlq (pol R R) R (asg R R (wnt (wcj (X := Unit) (fun _ => True) (fun _ => [(0, ptr b0p 0), (2, ptr b1 0), (4, iv v1.1), (25, .bool ((v1.1 == 4) || (v1.1 == 5)))]) (fun _ => [box b0p [(sl v0a), iv v1.2.1, iv v1.2.2], box b1 [iv 0, iv 0, iv 0]]) ?_ ?_)))))
 refine ZbI R (fun h5 => ?_) fun h5 => ?_
 exact wck (wqm () trivial (yc R (yc R (yc R (Z2 R (by rw [h5]; rfl) yn)))) so2)
 exact wcg (wlq (pol R R) R (asg R R (wln (wqm () trivial (yc R (yc R (yc R (Z2 R (by rw [h5]; rfl) yn)))) so2))))
 intro _ _
 refine wqt (wcO t0 R (fun h6 t0 => ?_) fun h6 t0 => ?_)
 refine wcr (wlq (Zk R (ZsL 4)) R (wls (sbx (cs' := [iv 4, iv 0, iv 0]) ZaU pk1 R R R R R R R) (wnt (wct (wbr (wqr ?_))))))
 obtain rfl := oi t0
 exact wqc R ZaU R pz R fun w hw => ⟨(), R, hw.weak (zc pk1 zn)⟩
 refine wcr (wlq (pol R R) R (asg R R (wnt (wcO t0 R (fun h7 t0 => ?_) fun h7 t0 => ?_))))
 refine wcr (wlq (Zk R (ZsL 5)) R (wls (sbx (cs' := [iv 5, iv 0, iv 0]) ZaU pk1 R R R R R R R) (wnt (wct (wbr (wqr ?_))))))
 obtain rfl := oi t0
 exact wqc R ZaU R pz R fun w hw => ⟨(), R, hw.weak (zc pk1 zn)⟩
 refine wck (wqb (wqt (wcr (mv R R (bdO t0 fun v6 hv6 t0 => (wlc (Zbi [box b0p [(sl v0a), iv v1.2.1, iv v1.2.2]] Zdu (zc pz Zz) R fun w fp hw => ZQ w fp b0p a_c0 v0a ((Zt r0) w fp hw) v1.2.1 v1.2.2 4 hw.ow hv6) R fun _ => (wlq (Zk R (ZmI 6 v6.1)) R (wls (sbx (cs' := [iv 6, iv v6.1, iv 0]) ZaU pk1 R R R R R R R) (wnt (wct ?_))))))))))
 obtain rfl := oi t0
 exact wqc R ZaU R pz R fun w hw => ⟨(), R, hw.weak (zc pk1 zn)⟩

theorem Zqe (w : World) (fp : List Nat) (b0p : Nat) (a_c0 : List UInt8) (v0a : Hd) (r0 : rdF w (dm w fp) (sl v0a) a_c0) (a_c1 : Int) (a_c2 : Int) (o : Ow w [box b0p [(sl v0a), .int .i64 a_c1, .int .i64 a_c2]] fp) {r : (List GAct) × Int × Int} (t0 : ZgM a_c0 a_c1 a_c2 = some r) : Calls Tryz.prog 15 #[ptr b0p 0] w fun e w' => ∃ x : Hd, e = .returned ((sl x)) ∧ SH w fp [ownF (sl x) r.1, box b0p [(sl v0a), .int .i64 r.2.1, .int .i64 r.2.2]] w' := by
 refine ZaS (args := [_]) o Tryz.func15 R Tryz.ntmps15 R ?_
 unfold ZgM at t0
 refine wcr (asg R R (wnt (wcr (wle (ebs R ZsU) R fun b1 => (asg R R (wnt (wcr (mv R R (bdO t0 fun v1 hv1 t0 => (wlc (Zbi [box b0p [(sl v0a), iv a_c1, iv a_c2]] Zdu (zc pk1 Zz) R fun w fp hw => ZQ w fp b0p a_c0 v0a ((Zt r0) w fp hw) a_c1 a_c2 14 hw.ow hv1) R fun _ => (asg R R (wnt (wcs (wcr (asg R R (wnt (gdO t0 fun g1 t0 => (Zr t0 fun y1 l1 t0 => (wj (J := (List GAct) × Int × Int) (X := Hd) (fun z => y1 = z) (fun _ x => [(3, (sl x))]) (fun z x => [box b0p [(sl v0a), iv z.2.1, iv z.2.2], ownF (sl x) z.1]) ?_ ?_)))))))))))))))))))
 refine wcb (wcf (X := Hd) l1 (fun k1 s1 x1l => [(0, ptr b0p 0), (3, (sl x1l)), (4, iv v1.1), (5, iv ((k1 : Nat) : Int))]) (fun k1 s1 x1l => [box b0p [(sl v0a), iv s1.2.1, iv s1.2.2], ownF (sl x1l) s1.1]) (⟨some ⟨b1, 0, none⟩, 0, 0⟩ : Hd) (su4 R R R R) (zc pz (zc (pbo pz (n := 0) (xs := ([] : List GAct)) R R (by unfold maxLen; omega)) zn)) fun k1 s1 x1l hN1 l1 => ?_)
 by_cases hk1 : k1 < (v1.1).toNat
 refine fos l1 hk1 fun _ t1 l1 => ?_
 unfold Zgj at t1
 have c1 : (decide (((k1 : Nat) : Int) < v1.1)) = true := ddt (by omega)
 refine wcs (wcr (mv R R (mv R R (wlq (pls R R) R (wnt (wft R c1 (wck (wqt (wcs (wcb (wcr (mv R R (bdO t1 fun v2 hv2 t1 => (wlc (Zbi [box b0p [(sl v0a), iv s1.2.1, iv s1.2.2]] Zxn (zc pz Zz) R fun w fp hw => ZqP w fp b0p a_c0 v0a ((Zt r0) w fp hw) s1.2.1 s1.2.2 hw.ow hv2) R fun _ => (wle (eal (cs := [iv 0, iv 0, iv 0]) Zly) R fun b2 => (wls (sbx (cs' := [iv v2.1.Kind, iv v2.1.A, iv v2.1.B]) ZaU pz R R R R R R R) (wnt (wcg (mv R R (wlq (v := .agg #[iv v2.1.Kind, iv v2.1.A, iv v2.1.B]) (plb ZaU pz R R R) R (wle (ebs R (ZsE v2.1.Kind v2.1.A v2.1.B)) R fun b3 => (gdO t1 fun g2 t1 => (wle (Zg (xs := s1.1) (ys := ([v2.1] : List GAct)) ZvF pk3 R R (Zi fun _ g => Rg.on (rgo (pbo pz (n := 1) (xs := ([v2.1] : List GAct)) R R (by unfold maxLen; omega))) g) g2) R fun x2 => ?_)))))))))))))))))))))))
 refine asg R R (wln (wqb (wqt (wcg (mv R R (wlq (Zj R R (by omega)) R ?_))))))
 exact asg R R (wln (Zl hk1 (stpN l1 t1) x2 (su4 R R R R) (zc pk3 so1)))
 have c1 : (decide (((k1 : Nat) : Int) < v1.1)) = false := ddf (by omega)
 have en1 := foe l1 hk1
 exact wcs (wcr (mv R R (mv R R (wlq (pls R R) R (wnt (wff R c1 (wcx (wqe (wqe (wbx (wjm _ x1l (Sum.inl.inj en1) (su1 R) so2)))))))))))
 intro e1 x1 hp
 obtain rfl : e1 = y1 := hp.symm
 refine wqt (wcr (mv R R (asg R R (wnt (wct ?_)))))
 obtain rfl := oi t0
 exact wq1 R R fun w hw => ⟨x1, R, hw.weak (zc pk1 so1)⟩

theorem Zpv (w : World) (a_code : List UInt8) (v0a : Hd) (r0 : rdF w (dm w []) (sl v0a) a_code) {r : GGuild × (List GAct)} (t0 : ZfE a_code = some r) : Calls Tryz.prog 5 #[(sl v0a)] w fun e w' => ∃ x : Hd × Hd × Hd × (List Value) × Hd × Hd, e = .returned (.tuple #[.agg #[(sl x.1), (sl x.2.1), (sl x.2.2.1), (sl x.2.2.2.2.1), .int .i64 r.1.Round, .int .i64 r.1.Year], (sl x.2.2.2.2.2)]) ∧ SH w [] [ownF (sl x.1) r.1.Members, ownF (sl x.2.1) r.1.Stock, own (sl x.2.2.1) x.2.2.2.1 r.1.Entries, ownF (sl x.2.2.2.2.1) r.1.Books, ownF (sl x.2.2.2.2.2) r.2] w' := by
 refine cwc (args := [_]) Tryz.func5 R Tryz.ntmps5 R ?_
 unfold ZfE at t0
 refine wcr (wle (eal (cs := [(sl hn), (sl hn), (sl hn), (sl hn), iv 0, iv 0]) ZF) R fun b1 => (asg R R (wnt (wcr (mv R R (bdO t0 fun v1 hv1 t0 => (wlc (cz1 Zxm R fun w hw => ZqY w a_code v0a (ra r0 hw) hv1) R fun x1 => (asg R R (wnt (wcr (mv R R (bdO t0 fun v2 hv2 t0 => (wlc (Zvr [box x1 [(sl v0a), iv v1.1, iv v1.2]] Zxl (zc pz Zz) R fun w fp hw => Zo8 w fp x1 a_code v0a ((Zt r0) w fp hw) v1.1 v1.2 hw.ow hv2) R fun x2 => (wle (eal (cs := [(sl hn), (sl hn), (sl hn), (sl hn), iv 0, iv 0]) ZF) R fun b2 => (wls (sbx (cs' := [(sl x2.1), (sl x2.2.1), (sl x2.2.2.1), (sl x2.2.2.2.2), iv v2.1.Round, iv v2.1.Year]) Zc pz R R R R R R R) (wnt (wcs (wcd [box b2 [(sl x2.1), (sl x2.2.1), (sl x2.2.2.1), (sl x2.2.2.2.2), iv v2.1.Round, iv v2.1.Year], ownF (sl x2.1) v2.1.Members, ownF (sl x2.2.1) v2.1.Stock, own (sl x2.2.2.1) x2.2.2.2.1 v2.1.Entries, ownF (sl x2.2.2.2.2) v2.1.Books] 5 mixed (aq (v := .agg #[(sl x2.1), (sl x2.2.1), (sl x2.2.2.1), (sl x2.2.2.2.2), iv v2.1.Round, iv v2.1.Year]) 0 R (plb Zc pz R R R) so5 R (aq 1 R (pom R) so5 R (a1 2 (bdO t0 fun v3 hv3 t0 => (wsc R (Zvy [box x1 [(sl v0a), iv v2.2.1, iv v2.2.2]] Zx2 (zc pk5 Zz) R fun w fp hw => Zqe w fp x1 a_code v0a ((Zt r0) w fp hw) v2.2.1 v2.2.2 hw.ow hv3) (fun _ => (zt (zc pk2 (zc pk2 (zc pk2 (zc pk2 (zc pk2 zn))))))) R fun x3 => (a1 3 (ZU R (sbx (cs' := [(sl x2.1), (sl x2.2.1), (sl x2.2.2.1), (sl x2.2.2.2.2), iv v2.1.Round, iv v2.1.Year]) Zc pk7 R R R R R R R) (zt (zc pk3 (zc pk3 (zc pk3 (zc pk3 (zc pk3 zn)))))) (aq 4 R (Zu R) (zc pk3 (zc pk3 (zc pk3 (zc pk3 (zc pk3 zn))))) R (ae (wqt (wct ?_)))))))))))))))))))))))))))))
 obtain rfl := oi t0
 exact ZG R Zc R R pz R fun w hw => ⟨(x2.1, x2.2.1, x2.2.2.1, x2.2.2.2.1, x2.2.2.2.2, x3), R, hw.weak (zc pk4 (zc pk4 (zc pk4 (zc pk4 (zc pk1 zn)))))⟩

theorem Zo (w : World) (a_n : Int) (a_a : Int) (a_b : Int) {r : Bool} (t0 : Zq a_n a_a a_b = some r) : Calls Tryz.prog 36 #[.int .i64 a_n, .int .i64 a_a, .int .i64 a_b] w fun e w' => e = .returned (.bool r) ∧ SH w [] [] w' := by
 refine cwc (args := [_, _, _]) Tryz.func36 R Tryz.ntmps36 R ?_
 unfold Zq at t0
 refine wcr (asg R R (wnt (wcs (wcj (X := Unit) (fun _ => True) (fun _ => [(6, .bool ((decide (a_n ≥ a_a)) && (decide (a_n ≤ a_b))))]) (fun _ => []) ?_ ?_))))
 refine wcg (mv R R (mv R R (wlq (Ze1 R R) R (mv R R (Zah (t := 10) R (fun h1 => ?_) fun h1 => ?_)))))
 exact wgn (j := 3) R R R (mv R R (wgn (j := 3) R R R (mv R R (wgn (j := 3) R R R (wlq (Zdf R R) R (wlq (pit R R) R (asg R R (wln (wqm () trivial (Z2 R (by rw [h1]; rfl) yn) zn)))))))))
 exact wgf (j := 3) R R R R R (wgf (j := 3) R R R R R (wgf (j := 3) R R R R R (wlq (pif R R) R (asg R R (wln (wqm () trivial (Z2 R (by rw [h1]; rfl) yn) zn))))))
 intro _ _
 refine wqt (wct ?_)
 obtain rfl := oi t0
 exact wq1 R R fun w hw => ⟨R, hw.weak zn⟩

theorem ZmS (w : World) (a_a : GAct) {r : Bool} (t0 : ZgV a_a = some r) : Calls Tryz.prog 34 #[.agg #[.int .i64 a_a.Kind, .int .i64 a_a.A, .int .i64 a_a.B]] w fun e w' => e = .returned (.bool r) ∧ SH w [] [] w' := by
 refine cwc (args := [_]) Tryz.func34 R Tryz.ntmps34 R ?_
 unfold ZgV at t0
 refine wcr (wle (Zh R R) R fun b1 => (asg R R (wnt (wcs (wcr (wlq (pof Zjy R) R (wlq (v := iv a_a.Kind) (plx tk_3 pz R R) R (wnt (wcb (wcr (wlq (pol R R) R (asg R R (wnt (wcO t0 R (fun h1 t0 => ?_) fun h1 t0 => ?_))))))))))))))
 refine wcs (bdO t0 fun y1 t1 t0 => (wj (J := Bool) (X := Unit) (fun z => y1 = z) (fun z _ => [(2, .bool z)]) (fun _ _ => []) ?_ ?_))
 refine wcg (wlq (pof ZcZ R) R (wlq (v := iv a_a.A) (plx tk_3 pz R R) R (bdO t1 fun v1 hv1 t1 => (wlc (cz0 ZaI R fun w hw => Zo w a_a.A 1 999 hv1) R fun _ => (mv R R (wlo (t := 10) t1 R (fun h2 t1 => ?_) fun h2 t1 => ?_))))))
 exact wgn (j := 3) R R R (wlq (pof ZhO R) R (wgn (j := 3) R R R (wlq (v := iv a_a.B) (plx tk_3 pz R R) R (wgn (j := 3) R R R (wlq (pol R R) R (wlq (pit R R) R (asg R R (wln (wjm _ () (mtE t1) (su1 R) zn)))))))))
 exact wgf (j := 3) R R R R R (wgf (j := 3) R R R R R (wgf (j := 3) R R R R R (wlq (pif R R) R (asg R R (wln (wjm _ () (mtE t1) (su1 R) zn))))))
 intro j1 _ hp
 obtain rfl : j1 = y1 := hp.symm
 refine wqt (wct (wbr (wqr ?_)))
 obtain rfl := oi t0
 exact wq1 R R fun w hw => ⟨R, hw.weak zn⟩
 refine wcr (wlq (pol R R) R (asg R R (wnt (wcO t0 R (fun h3 t0 => ?_) fun h3 t0 => ?_))))
 refine wcs (bdO t0 fun y1 t1 t0 => (wj (J := Bool) (X := Unit) (fun z => y1 = z) (fun z _ => [(2, .bool z)]) (fun _ _ => []) ?_ ?_))
 refine wcg (wlq (pof ZcZ R) R (wlq (v := iv a_a.A) (plx tk_3 pz R R) R (bdO t1 fun v2 hv2 t1 => (wlc (cz0 ZaI R fun w hw => Zo w a_a.A 1 999 hv2) R fun _ => (mv R R (wlo (t := 20) t1 R (fun h4 t1 => ?_) fun h4 t1 => ?_))))))
 exact wgn (j := 3) R R R (wlq (pof ZhO R) R (wgn (j := 3) R R R (wlq (v := iv a_a.B) (plx tk_3 pz R R) R (bdO t1 fun v3 hv3 t1 => (wgn (j := 3) R R R (wlc (cz0 ZaI R fun w hw => Zo w a_a.B 0 9 hv3) R (fun _ => (wlq (pit R R) R (asg R R (wln (wjm _ () (mtE t1) (su1 R) zn)))))))))))
 exact wgf (j := 3) R R R R R (wgf (j := 3) R R R R R (wgf (j := 3) R R R R R (wlq (pif R R) R (asg R R (wln (wjm _ () (mtE t1) (su1 R) zn))))))
 intro j2 _ hp
 obtain rfl : j2 = y1 := hp.symm
 refine wqt (wct (wbr (wqr ?_)))
 obtain rfl := oi t0
 exact wq1 R R fun w hw => ⟨R, hw.weak zn⟩
 refine wcs (wcr (wlq (pol R R) R (asg R R (wnt (wcj (X := Unit) (fun _ => True) (fun _ => [(1, ptr b1 0), (25, .bool ((a_a.Kind == 3) || (a_a.Kind == 6)))]) (fun _ => [box b1 [iv a_a.Kind, iv a_a.A, iv a_a.B]]) ?_ ?_)))))
 refine ZbI R (fun h5 => ?_) fun h5 => ?_
 exact wck (wqm () trivial (yc R (Z2 R (by rw [h5]; rfl) yn)) so1)
 exact wcg (wlq (pol R R) R (asg R R (wln (wqm () trivial (yc R (Z2 R (by rw [h5]; rfl) yn)) so1))))
 intro _ _
 refine wqt (wcO t0 R (fun h6 t0 => ?_) fun h6 t0 => ?_)
 refine wcs (bdO t0 fun y1 t1 t0 => (wj (J := Bool) (X := Unit) (fun z => y1 = z) (fun z _ => [(2, .bool z)]) (fun _ _ => []) ?_ ?_))
 refine wcg (wlq (pof ZcZ R) R (wlq (v := iv a_a.A) (plx tk_3 pz R R) R (bdO t1 fun v4 hv4 t1 => (wlc (cz0 ZaI R fun w hw => Zo w a_a.A 0 9 hv4) R fun _ => (mv R R (wlo (t := 31) t1 R (fun h7 t1 => ?_) fun h7 t1 => ?_))))))
 exact wgn (j := 3) R R R (wlq (pof ZhO R) R (wgn (j := 3) R R R (wlq (v := iv a_a.B) (plx tk_3 pz R R) R (wgn (j := 3) R R R (wlq (pol R R) R (wlq (pit R R) R (asg R R (wln (wjm _ () (mtE t1) (su1 R) zn)))))))))
 exact wgf (j := 3) R R R R R (wgf (j := 3) R R R R R (wgf (j := 3) R R R R R (wlq (pif R R) R (asg R R (wln (wjm _ () (mtE t1) (su1 R) zn))))))
 intro j4 _ hp
 obtain rfl : j4 = y1 := hp.symm
 refine wqt (wct (wbr (wqr ?_)))
 obtain rfl := oi t0
 exact wq1 R R fun w hw => ⟨R, hw.weak zn⟩
 refine wck (wqb (wqt (wcs (wcj (X := Unit) (fun _ => True) (fun _ => [(2, .bool (bif (a_a.Kind == 4) then ((a_a.A == 0) && (a_a.B == 0)) else ((a_a.Kind == 5) && ((a_a.A == 0) && (a_a.B == 0)))))]) (fun _ => []) ?_ ?_))))
 refine wcg (wlq (pof Zjy R) R (wlq (v := iv a_a.Kind) (plx tk_3 pz R R) R (wlq (pol R R) R (mv R R (Zah (t := 39) R (fun h8 => ?_) fun h8 => ?_)))))
 refine wgf (j := 3) R R R R R (wgf (j := 3) R R R R R (wgf (j := 3) R R R R R (wlq (pit R R) R (mv R R (wgn (j := 8) R R R (wlq (pof ZcZ R) R (wgn (j := 8) R R R (wlq (v := iv a_a.A) (plx tk_3 pz R R) R (wgn (j := 8) R R R (wlq (pol R R) R (wlq (pit R R) R (mv R R (Zah (t := 49) R (fun h9 => ?_) fun h9 => ?_)))))))))))))
 exact wgn (j := 13) R R R (wlq (pof ZhO R) R (wgn (j := 13) R R R (wlq (v := iv a_a.B) (plx tk_3 pz R R) R (wgn (j := 13) R R R (wlq (pol R R) R (wlq (pit R R) R (asg R R (wln (wqm () trivial (Z2 R (by rw [h8, h9]; rfl) yn) zn)))))))))
 exact wgf (j := 13) R R R R R (wgf (j := 13) R R R R R (wgf (j := 13) R R R R R (wlq (pif R R) R (asg R R (wln (wqm () trivial (Z2 R (by rw [h8, h9]; rfl) yn) zn))))))
 refine wgn (j := 3) R R R (wlq (pof Zjy R) R (wgn (j := 3) R R R (wlq (v := iv a_a.Kind) (plx tk_3 pz R R) R (wgn (j := 3) R R R (wlq (pol R R) R (wlq (pif R R) R (mv R R (Zah (t := 44) R (fun h10 => ?_) fun h10 => ?_))))))))
 refine wgn (j := 8) R R R (wlq (pof ZcZ R) R (wgn (j := 8) R R R (wlq (v := iv a_a.A) (plx tk_3 pz R R) R (wgn (j := 8) R R R (wlq (pol R R) R (wlq (pit R R) R (mv R R (Zah (t := 49) R (fun h11 => ?_) fun h11 => ?_))))))))
 exact wgn (j := 13) R R R (wlq (pof ZhO R) R (wgn (j := 13) R R R (wlq (v := iv a_a.B) (plx tk_3 pz R R) R (wgn (j := 13) R R R (wlq (pol R R) R (wlq (pit R R) R (asg R R (wln (wqm () trivial (Z2 R (by rw [h8, h10, h11]; rfl) yn) zn)))))))))
 exact wgf (j := 13) R R R R R (wgf (j := 13) R R R R R (wgf (j := 13) R R R R R (wlq (pif R R) R (asg R R (wln (wqm () trivial (Z2 R (by rw [h8, h10, h11]; rfl) yn) zn))))))
 exact wgf (j := 8) R R R R R (wgf (j := 8) R R R R R (wgf (j := 8) R R R R R (wlq (pif R R) R (mv R R (wgf (j := 13) R R R R R (wgf (j := 13) R R R R R (wgf (j := 13) R R R R R (wlq (pif R R) R (asg R R (wln (wqm () trivial (Z2 R (by rw [h8, h10]; rfl) yn) zn)))))))))))
 intro _ _
 refine wqt (wct ?_)
 obtain rfl := oi t0
 exact wq1 R R fun w hw => ⟨R, hw.weak zn⟩



theorem ZhL (w : World) (a_n : Int) {r : Str} (t0 : ZcA a_n = some r) : Calls Tryz.prog 10 #[.int .i64 a_n] w fun e w' => e = .returned (bs r) ∧ SH w [] [] w' := by
 refine cwc (args := [_]) Tryz.func10 R Tryz.ntmps10 R ?_
 unfold ZcA at t0
 refine wcr (asg R R (wnt (wcr (mv R R (bdO t0 fun v1 hv1 t0 => (wlc (cz0 ZvC R fun w hw => Zqc w a_n hv1) R fun _ => (asg R R (wnt (wct ?_)))))))))
 obtain rfl := oi t0
 exact wq1 R R fun w hw => ⟨R, hw.weak zn⟩

theorem Zag (w : World) (ht : Tb w) (a_n : Int) {r : Str} (t0 : Zae a_n = some r) : Calls Tryz.prog 10 #[.int .i64 a_n] w fun e w' => e = .returned (bs r) ∧ SH w [] [] w' := by
 refine cwc (args := [_]) Tryz.func10 R Tryz.ntmps10 R ?_
 unfold Zae at t0
 refine wcr (asg R R (wnt (wcr (mv R R (bdO t0 fun v1 hv1 t0 => (wlc (cz0 ZvC R fun w hw => Zn1 w (hw.tab ht) a_n hv1) R fun _ => (asg R R (wnt (wct ?_)))))))))
 obtain rfl := oi t0
 exact wq1 R R fun w hw => ⟨R, hw.weak zn⟩


theorem Zbs (w : World) (ht : Tb w) (a_word : Str) (a_list : List Int) (v0a : Hd) (r0 : rdF w (dm w []) (sl v0a) a_list) {r : Str} (t0 : ZbM a_word a_list = some r) : Calls Tryz.prog 26 #[bs a_word, (sl v0a)] w fun e w' => e = .returned (bs r) ∧ SH w [] [] w' := by
 refine cwc (args := [_, _]) Tryz.func26 R Tryz.ntmps26 R ?_
 unfold ZbM at t0
 refine wcr (asg R R (wnt (wcr (mv R R (wle (ebs R (Zg9 a_word)) R fun b1 => (asg R R (wnt (wcs (wcr (mv R R (wlq (pln (rga r0) ZH R) R (mv R R (wnt (gdO t0 fun g1 t0 => (Zr t0 fun y1 l1 t0 => (wj (J := List Str) (X := Hd) (fun z => y1 = z) (fun _ x => [(5, (sl x))]) (fun z x => [ownF (sl x) z]) ?_ ?_))))))))))))))))
 refine wcb (wcf (X := Hd) l1 (fun k1 s1 x1l => [(5, (sl x1l)), (10, (sl v0a)), (11, iv ((a_list.length : Nat) : Int)), (12, iv ((k1 : Nat) : Int))]) (fun k1 s1 x1l => [ownF (sl x1l) s1]) (⟨some ⟨b1, 0, none⟩, 1, 1⟩ : Hd) (su4 R R R R) (zc (pbo pz (n := 1) (xs := ([a_word] : List Str)) R R (by unfold maxLen; omega)) zn) fun k1 s1 x1l hN1 l1 => ?_)
 by_cases hk1 : k1 < a_list.length
 refine fos l1 hk1 fun _ t1 l1 => ?_
 unfold Zg3 at t1
 have c1 : (decide (((k1 : Nat) : Int) < ((a_list.length : Nat) : Int))) = true := ddt (by omega)
 refine wcr (wlq (pls R R) R (wnt (wcs (wft R c1 (wck (wqt (wcs (wcb (wcr (wlq (Zv (k := k1) (rga r0) ZH R R hk1) R (wlq (v := iv (gx a_list k1)) (ZD (rga r0) tk_3 R hk1 R) R (asg R R (wnt (wcg (mv R R (mv R R (bdO t1 fun v1 hv1 t1 => (wlc (cz0 Zff R fun w hw => Zag w (hw.tab ht) (gx a_list k1) hv1) R fun _ => (wle (ebs R (Zg9 v1)) R fun b2 => (gdO t1 fun g2 t1 => (wle (Zg (xs := s1) (ys := ([v1] : List Str)) Zgv pk1 R R (Zi fun _ g => Rg.on (rgo (pbo pz (n := 1) (xs := ([v1] : List Str)) R R (by unfold maxLen; omega))) g) g2) R fun x2 => ?_)))))))))))))))))))))
 refine asg R R (wln (wqb (wqt (wcg (wlq (Zj R R (by omega)) R ?_)))))
 exact mv R R (wln (Zl hk1 (stpN l1 t1) x2 (su4 R R R R) so1))
 have c1 : (decide (((k1 : Nat) : Int) < ((a_list.length : Nat) : Int))) = false := ddf (by omega)
 have en1 := foe l1 hk1
 exact wcr (wlq (pls R R) R (wnt (wcs (wff R c1 (wcx (wqe (wqe (wbx (wjm _ x1l (Sum.inl.inj en1) (su1 R) so1)))))))))
 intro e1 x1 hp
 obtain rfl : e1 = y1 := hp.symm
 refine wqt (wcr (mv R R (bdO t0 fun v2 hv2 t0 => (wlc (cz0 Zrf R fun w hw => Zha w e1 x1 (Rg.on (rgo pz) hw) (⟨[32]⟩ : Str) hv2) R fun _ => (asg R R (wnt (wct ?_)))))))
 obtain rfl := oi t0
 exact wq1 R R fun w hw => ⟨R, hw.weak zn⟩

theorem ZjJ (w : World) (ht : Tb w) (a_a : GAct) {r : Str × Bool} (t0 : ZcC a_a = some r) : Calls Tryz.prog 16 #[.agg #[.int .i64 a_a.Kind, .int .i64 a_a.A, .int .i64 a_a.B]] w fun e w' => e = .returned (.tuple #[bs r.1, .bool r.2]) ∧ SH w [] [] w' := by
 refine cwc (args := [_]) Tryz.func16 R Tryz.ntmps16 R ?_
 unfold ZcC at t0
 refine wcr (wle (Zh R R) R fun b1 => (asg R R (asg R R (wnt (wcs (wcr (wlq (v := .agg #[iv a_a.Kind, iv a_a.A, iv a_a.B]) (plb ZaU pz R R R) R (bdO t0 fun v1 hv1 t0 => (wlc (cz0 Zvz R fun w hw => ZmS w a_a hv1) R fun _ => (wlq (Zd R) R (wnt (wcO t0 R (fun h1 t0 => ?_) fun h1 t0 => ?_))))))))))))
 refine wcr (asg R R (asg R R (wnt (wct (wqr ?_)))))
 obtain rfl := oi t0
 exact Z0 R R R fun w hw => ⟨R, hw.weak zn⟩
 refine wck (wqt (wcs (wcr (wlq (pof Zjy R) R (wlq (v := iv a_a.Kind) (plx tk_3 pz R R) R (wnt (wcb (wcr (wlq (pol R R) R (asg R R (wnt (wcO t0 R (fun h2 t0 => ?_) fun h2 t0 => ?_))))))))))))
 refine wcr (wlq (pof ZcZ R) R (wlq (v := iv a_a.A) (plx tk_3 pz R R) R (wle (ebs R (ZaZ a_a.A)) R fun b2 => (bdO t0 fun v2 hv2 t0 => (wlc (cz0 ZiK R fun w hw => Zbs w (hw.tab ht) (⟨[97, 100, 109, 105, 116]⟩ : Str) ([a_a.A] : List Int) (⟨some ⟨b2, 0, none⟩, 1, 1⟩ : Hd) (Rg.on (rgo (pbo pz (n := 1) (xs := ([a_a.A] : List Int)) R R (by unfold maxLen; omega))) hw) hv2) R fun _ => ?_)))))
 refine asg R R (asg R R (wnt (wct (wbr (wqr ?_)))))
 obtain rfl := oi t0
 exact Z0 R R R fun w hw => ⟨R, hw.weak zn⟩
 refine wcr (wlq (pol R R) R (asg R R (wnt (wcO t0 R (fun h3 t0 => ?_) fun h3 t0 => ?_))))
 refine wcr (wlq (pof ZcZ R) R (wlq (v := iv a_a.A) (plx tk_3 pz R R) R (wlq (pof ZhO R) R (wlq (v := iv a_a.B) (plx tk_3 pz R R) R (wle (ebs R (ZsF a_a.A a_a.B)) R fun b3 => (bdO t0 fun v3 hv3 t0 => (wlc (cz0 ZiK R fun w hw => Zbs w (hw.tab ht) (⟨[115, 117, 98, 109, 105, 116]⟩ : Str) ([a_a.A, a_a.B] : List Int) (⟨some ⟨b3, 0, none⟩, 2, 2⟩ : Hd) (Rg.on (rgo (pbo pz (n := 2) (xs := ([a_a.A, a_a.B] : List Int)) R R (by unfold maxLen; omega))) hw) hv3) R fun _ => ?_)))))))
 refine asg R R (asg R R (wnt (wct (wbr (wqr ?_)))))
 obtain rfl := oi t0
 exact Z0 R R R fun w hw => ⟨R, hw.weak zn⟩
 refine wcr (wlq (pol R R) R (asg R R (wnt (wcO t0 R (fun h4 t0 => ?_) fun h4 t0 => ?_))))
 refine wcr (wlq (pof ZcZ R) R (wlq (v := iv a_a.A) (plx tk_3 pz R R) R (wle (ebs R (ZaZ a_a.A)) R fun b4 => (bdO t0 fun v4 hv4 t0 => (wlc (cz0 ZiK R fun w hw => Zbs w (hw.tab ht) (⟨[115, 101, 119]⟩ : Str) ([a_a.A] : List Int) (⟨some ⟨b4, 0, none⟩, 1, 1⟩ : Hd) (Rg.on (rgo (pbo pz (n := 1) (xs := ([a_a.A] : List Int)) R R (by unfold maxLen; omega))) hw) hv4) R fun _ => ?_)))))
 refine asg R R (asg R R (wnt (wct (wbr (wqr ?_)))))
 obtain rfl := oi t0
 exact Z0 R R R fun w hw => ⟨R, hw.weak zn⟩
 refine wcr (wlq (pol R R) R (asg R R (wnt (wcO t0 R (fun h5 t0 => ?_) fun h5 t0 => ?_))))
 refine wcr (wlq (pof ZcZ R) R (wlq (v := iv a_a.A) (plx tk_3 pz R R) R (wle (ebs R (ZaZ a_a.A)) R fun b5 => (bdO t0 fun v5 hv5 t0 => (wlc (cz0 ZiK R fun w hw => Zbs w (hw.tab ht) (⟨[108, 97, 99, 107]⟩ : Str) ([a_a.A] : List Int) (⟨some ⟨b5, 0, none⟩, 1, 1⟩ : Hd) (Rg.on (rgo (pbo pz (n := 1) (xs := ([a_a.A] : List Int)) R R (by unfold maxLen; omega))) hw) hv5) R fun _ => ?_)))))
 refine asg R R (asg R R (wnt (wct (wbr (wqr ?_)))))
 obtain rfl := oi t0
 exact Z0 R R R fun w hw => ⟨R, hw.weak zn⟩
 refine wcr (wlq (pol R R) R (asg R R (wnt (wcO t0 R (fun h6 t0 => ?_) fun h6 t0 => ?_))))
 refine wcr (asg R R (asg R R (wnt (wct (wbr (wqr ?_))))))
 obtain rfl := oi t0
 exact Z0 R R R fun w hw => ⟨R, hw.weak zn⟩
 refine wck (wqb (wqt (wcr (asg R R (asg R R (wnt (wct ?_)))))))
 obtain rfl := oi t0
 exact Z0 R R R fun w hw => ⟨R, hw.weak zn⟩

theorem Znm (w : World) (ht : Tb w) (a_acts : List GAct) (v0a : Hd) (r0 : rdF w (dm w []) (sl v0a) a_acts) {r : Str × Bool} (t0 : Zee a_acts = some r) : Calls Tryz.prog 6 #[(sl v0a)] w fun e w' => e = .returned (.tuple #[bs r.1, .bool r.2]) ∧ SH w [] [] w' := by
 refine cwc (args := [_]) Tryz.func6 R Tryz.ntmps6 R ?_
 unfold Zee at t0
 refine wcr (asg R R (asg R R (wnt (wcs (wcr (mv R R (wlq (pln (rga r0) Zlg R) R (wlq (ZaD R R) R (wnt (wcO t0 R (fun h1 t0 => ?_) fun h1 t0 => ?_))))))))))
 refine wcr (asg R R (asg R R (wnt (wct (wqr ?_)))))
 obtain rfl := oi t0
 exact Z0 R R R fun w hw => ⟨R, hw.weak zn⟩
 refine wck (wqt (wcr (asg R R (wnt (wcs (wcr (mv R R (wlq (pln (rga r0) Zlg R) R (mv R R (wnt (gdO t0 fun g1 t0 => (sqO t0 fun y1 l1 t0 => (wj (J := Str) (X := Unit) (fun z => y1 = .inl z) (fun z _ => [(4, bs z)]) (fun _ _ => []) ?_ ?_)))))))))))))
 refine wcb (wcf (X := Unit) l1 (fun k1 s1 x1l => [(4, bs s1), (12, (sl v0a)), (13, iv ((a_acts.length : Nat) : Int)), (14, iv ((k1 : Nat) : Int))]) (fun k1 s1 x1l => []) () (su4 R R R R) zn fun k1 s1 x1l hN1 l1 => ?_)
 by_cases hk1 : k1 < a_acts.length
 refine fos l1 hk1 fun _ t1 l1 => ?_
 unfold Zel at t1
 have c1 : (decide (((k1 : Nat) : Int) < ((a_acts.length : Nat) : Int))) = true := ddt (by omega)
 refine wcr (wlq (pls R R) R (wnt (wcs (wft R c1 (wck (wqt (wcs (wcb (wcr (wlq (Zv (k := k1) (rga r0) Zlg R R hk1) R (wlq (v := .agg #[iv ((gx a_acts k1).Kind), iv ((gx a_acts k1).A), iv ((gx a_acts k1).B)]) (ZaB (rga r0) ZaU R hk1 R R R) R (wle (eal (cs := [iv 0, iv 0, iv 0]) Zly) R fun b1 => (wls (sbx (cs' := [iv ((gx a_acts k1).Kind), iv ((gx a_acts k1).A), iv ((gx a_acts k1).B)]) ZaU pz R R R R R R R) (wnt (wcr (wlq (v := .agg #[iv ((gx a_acts k1).Kind), iv ((gx a_acts k1).A), iv ((gx a_acts k1).B)]) (plb ZaU pz R R R) R (bdO t1 fun v1 hv1 t1 => (wlc (cz0 ZvB R fun w hw => ZjJ w (hw.tab ht) (gx a_acts k1) hv1) R fun _ => (mv R R (wlq (pex R R) R (wlq (pex R R) R (asg R R (asg R R (wnt (wcs (wcr (mv R R (wlq (Zd R) R (wnt (wcO t1 R (fun h2 t1 => ?_) fun h2 t1 => ?_))))))))))))))))))))))))))))))
 refine wcr (asg R R (asg R R (wnt (wct (wqr (wbr (wqr (wqr (wbr (wqr (wqr ?_)))))))))))
 replace t0 := lpR t0 l1 t1
 obtain rfl := oi t0
 exact Z0 R R R fun w hw => ⟨R, hw.weak zn⟩
 refine wck (wqt (wcg (mv R R (mv R R (gdO t1 fun g2 t1 => (wlq (ZaK R R g2) R (gdO t1 fun g3 t1 => (wlq (ZaK R R g3) R (asg R R (wln (wqb (wqt (wcg (wlq (Zj R R (by omega)) R ?_))))))))))))))
 exact mv R R (wln (Zl hk1 (stpN l1 t1) () (su4 R R R R) zn))
 have c1 : (decide (((k1 : Nat) : Int) < ((a_acts.length : Nat) : Int))) = false := ddf (by omega)
 have en1 := foe l1 hk1
 exact wcr (wlq (pls R R) R (wnt (wcs (wff R c1 (wcx (wqe (wqe (wbx (wjm _ () en1 (su1 R) zn)))))))))
 intro e1 _ hp
 replace t0 := sqE (j := e1) t0 hp
 refine wqt (wcr (mv R R (asg R R (asg R R (wnt (wct ?_))))))
 obtain rfl := oi t0
 exact Z0 R R R fun w hw => ⟨R, hw.weak zn⟩


theorem Zi1 (w : World) (a_line : Str) {r : (List Str) × Bool} (t0 : ZcE a_line = some r) : Calls Tryz.prog 18 #[bs a_line] w fun e w' => ∃ x : Hd, e = .returned (.tuple #[(sl x), .bool r.2]) ∧ SH w [] [ownF (sl x) r.1] w' := by
 refine cwc (args := [_]) Tryz.func18 R Tryz.ntmps18 R ?_
 unfold ZcE at t0
 refine wcr (asg R R (asg R R (wnt (wcs (wcr (mv R R (wlq (Zm3 Zf5 R) R (wlq (ZaD R R) R (wnt (wcO t0 R (fun h1 t0 => ?_) fun h1 t0 => ?_))))))))))
 refine wcr (asg R R (asg R R (wnt (wct (wqr ?_)))))
 obtain rfl := oi t0
 exact Z0 R R R fun w hw => ⟨hn, R, hw.weak (zc ZB zn)⟩
 refine wck (wqt (wcr (wle (ebs R ZkJ) R fun b1 => (asg R R (asg R R (wnt (wcs (wcr (mv R R (wlq (Zm3 Zf5 R) R (mv R R (wnt (gdO t0 fun g1 t0 => (sqO t0 fun y1 l1 t0 => (wj (J := (List Str) × Int) (X := Hd) (fun z => y1 = .inl z) (fun z x => [(0, bs a_line), (4, (sl x)), (5, iv z.2)]) (fun z x => [ownF (sl x) z.1]) ?_ ?_)))))))))))))))
 refine wcb (wcf (X := Hd) l1 (fun k1 s1 x1l => [(0, bs a_line), (4, (sl x1l)), (5, iv s1.2), (12, iv ((a_line.b.length : Nat) : Int)), (13, iv ((k1 : Nat) : Int))]) (fun k1 s1 x1l => [ownF (sl x1l) s1.1]) (⟨some ⟨b1, 0, none⟩, 0, 0⟩ : Hd) (su5 R R R R R) (zc (pbo pz (n := 0) (xs := ([] : List Str)) R R (by unfold maxLen; omega)) zn) fun k1 s1 x1l hN1 l1 => ?_)
 by_cases hk1 : k1 < a_line.b.length
 refine fos l1 hk1 fun _ t1 l1 => ?_
 unfold ZbJ at t1
 have c1 : (decide (((k1 : Nat) : Int) < ((a_line.b.length : Nat) : Int))) = true := ddt (by omega)
 refine wcr (wlq (pls R R) R (wnt (wcs (wft R c1 (wck (wqt (wcs (wcb (wcr (mv R R (asg R R (wnt (wcs (wcs (wcj (X := Unit) (fun _ => True) (fun _ => [(0, bs a_line), (4, (sl x1l)), (5, iv s1.2), (6, iv ((k1 : Nat) : Int)), (12, iv ((a_line.b.length : Nat) : Int)), (13, iv ((k1 : Nat) : Int)), (25, .bool ((decide ((((sat_ a_line k1)).toNat : Int) < 32)) || (decide ((((sat_ a_line k1)).toNat : Int) > 126))))]) (fun _ => [ownF (sl x1l) s1.1]) ?_ ?_)))))))))))))))
 refine wcg (mv R R (mv R R (wlq (Zp5 (k := k1) Zf5 R R hk1) R (wlq (pls R R) R (mv R R (Zah (t := 20) R (fun h2 => ?_) fun h2 => ?_))))))
 exact wgf (j := 4) R R R R R (wgf (j := 4) R R R R R (wgf (j := 4) R R R R R (wgf (j := 4) R R R R R (wlq (pit R R) R (wln (wqm () trivial (yc R (yc R (yc R (yc R (yc R (yc R (Z2 R (by rw [h2]; rfl) yn))))))) so1))))))
 exact wgn (j := 4) R R R (mv R R (wgn (j := 4) R R R (mv R R (wgn (j := 4) R R R (wlq (Zp5 (k := k1) Zf5 R R hk1) R (wgn (j := 4) R R R (wlq (ZaD R R) R (wlq (pif R R) R (wln (wqm () trivial (yc R (yc R (yc R (yc R (yc R (yc R (Z2 R (by rw [h2]; rfl) yn))))))) so1))))))))))
 intro _ _
 refine wqt (wcO t1 R (fun h3 t1 => ?_) fun h3 t1 => ?_)
 refine wcr (asg R R (asg R R (wnt (wct (wqr (wbr (wqr (wqr (wbr (wqr (wqr ?_)))))))))))
 replace t0 := lpR t0 l1 t1
 obtain rfl := oi t0
 exact Z0 R R R fun w hw => ⟨hn, R, hw.weak (zc ZB zn)⟩
 refine wck (wqt (wcr (mv R R (mv R R (wlq (Zp5 (k := k1) Zf5 R R hk1) R (wlq (pol R R) R (wnt (bdO t1 fun y2 t2 t1 => (wj (J := (List Str) × Int) (X := Hd) (fun z => y2 = z) (fun z x => [(0, bs a_line), (4, (sl x)), (5, iv z.2), (12, iv ((a_line.b.length : Nat) : Int)), (13, iv ((k1 : Nat) : Int))]) (fun z x => [ownF (sl x) z.1]) ?_ ?_)))))))))
 refine wcO t2 R (fun h4 t2 => ?_) fun h4 t2 => ?_
 refine wcs (wcr (mv R R (wlq (Ze1 R R) R (wnt (bdO t2 fun y3 t3 t2 => (wj (J := List Str) (X := Hd) (fun z => y3 = z) (fun _ x => [(0, bs a_line), (4, (sl x)), (12, iv ((a_line.b.length : Nat) : Int)), (13, iv ((k1 : Nat) : Int))]) (fun z x => [ownF (sl x) z]) ?_ ?_))))))
 refine wcO t3 R (fun h5 t3 => ?_) fun h5 t3 => ?_
 refine wcg (mv R R (mv R R (mv R R (mv R R (gdO t3 fun g2 t3 => (wlq (ZsK (l := (s1.2).toNat) (h := k1) Zf5 R (.inr ⟨_, R, ixn g2.1⟩) (.inr ⟨_, R, R⟩) g2.2.1 g2.2.2) R (wle (ebs R (Zg9 (ssub a_line ((s1.2).toNat) k1))) R fun b2 => (gdO t3 fun g3 t3 => (wle (Zg (xs := s1.1) (ys := ([(ssub a_line ((s1.2).toNat) k1)] : List Str)) Zgv pk1 R R (Zi fun _ g => Rg.on (rgo (pbo pz (n := 1) (xs := ([(ssub a_line ((s1.2).toNat) k1)] : List Str)) R R (by unfold maxLen; omega))) g) g3) R fun x5 => ?_)))))))))
 exact asg R R (wln (wjm _ x5 (mtE t3) (su4 R R R R) so1))
 exact wck (wjm _ x1l (mtE t3) (su4 R R R R) so1)
 intro j3 x4 hp
 obtain rfl : j3 = y3 := hp.symm
 exact wqt (wcg (asg R R (wln (wjm _ x4 (mtE t2) (su5 R R R R R) so1))))
 refine wcr (mv R R (wlq (pls R R) R (wnt (wcO t2 R (fun h6 t2 => ?_) fun h6 t2 => ?_))))
 exact wcg (mv R R (asg R R (wln (wjm _ x1l (mtE t2) (su5 R R R R R) so1))))
 exact wck (wjm _ x1l (mtE t2) (su5 R R R R R) so1)
 intro j2 x3 hp
 obtain rfl : j2 = y2 := hp.symm
 refine wqb (wqt (wcg (wlq (Zj R R (by omega)) R ?_)))
 exact mv R R (wln (Zl hk1 (stpN l1 t1) x3 (su5 R R R R R) so1))
 have c1 : (decide (((k1 : Nat) : Int) < ((a_line.b.length : Nat) : Int))) = false := ddf (by omega)
 have en1 := foe l1 hk1
 exact wcr (wlq (pls R R) R (wnt (wcs (wff R c1 (wcx (wqe (wqe (wbx (wjm _ x1l en1 (su3 R R R) so1)))))))))
 intro e1 x1 hp
 replace t0 := sqE (j := e1) t0 hp
 refine wqt (wcs (wcr (mv R R (wlq (Ze1 R R) R (wnt (bdO t0 fun y1 t1 t0 => (wj (J := List Str) (X := Hd) (fun z => y1 = z) (fun _ x => [(4, (sl x))]) (fun z x => [ownF (sl x) z]) ?_ ?_)))))))
 refine wcO t1 R (fun h7 t1 => ?_) fun h7 t1 => ?_
 refine wcg (mv R R (mv R R (mv R R (gdO t1 fun g4 t1 => (wlq (ZsK (l := (e1.2).toNat) (h := a_line.b.length) Zf5 R (.inr ⟨_, R, ixn g4.1⟩) (.inl ⟨R, R⟩) g4.2.1 g4.2.2) R (wle (ebs R (Zg9 (ssub a_line ((e1.2).toNat) a_line.b.length))) R fun b3 => (gdO t1 fun g5 t1 => (wle (Zg (xs := e1.1) (ys := ([(ssub a_line ((e1.2).toNat) a_line.b.length)] : List Str)) Zgv pk1 R R (Zi fun _ g => Rg.on (rgo (pbo pz (n := 1) (xs := ([(ssub a_line ((e1.2).toNat) a_line.b.length)] : List Str)) R R (by unfold maxLen; omega))) g) g5) R fun x7 => ?_))))))))
 exact asg R R (wln (wjm _ x7 (mtE t1) (su1 R) so1))
 exact wck (wjm _ x1 (mtE t1) (su1 R) so1)
 intro j4 x6 hp
 obtain rfl : j4 = y1 := hp.symm
 refine wqt (wcs (wcr (mv R R (wlq (pln (rgo pz) Zd5 R) R (wlq (ZaD R R) R (wnt (wcO t0 R (fun h8 t0 => ?_) fun h8 t0 => ?_)))))))
 refine wcr (asg R R (asg R R (wnt (wct (wqr ?_)))))
 obtain rfl := oi t0
 exact Z0 R R R fun w hw => ⟨hn, R, hw.weak (zc ZB zn)⟩
 refine wck (wqt (wcr (mv R R (asg R R (asg R R (wnt (wct ?_)))))))
 obtain rfl := oi t0
 exact Z0 R R R fun w hw => ⟨x6, R, hw.weak so1⟩


theorem Zn6 (w : World) (ht : Tb w) (a_s : Str) {r : Int × Bool} (t0 : ZbT a_s = some r) : Calls Tryz.prog 37 #[bs a_s] w fun e w' => e = .returned (.tuple #[.int .i64 r.1, .bool r.2]) ∧ SH w [] [] w' := by
 refine cwc (args := [_]) Tryz.func37 R Tryz.ntmps37 R ?_
 unfold ZbT at t0
 refine wcr (asg R R (asg R R (wnt (wcs (wcr (mv R R (wlq (Zm3 Zf5 R) R (wlq (ZaD R R) R (wnt (wcO t0 R (fun h1 t0 => ?_) fun h1 t0 => ?_))))))))))
 refine wcr (asg R R (asg R R (wnt (wct (wqr ?_)))))
 obtain rfl := oi t0
 exact Z0 R R R fun w hw => ⟨R, hw.weak zn⟩
 refine wck (wqt (wcr (mv R R (bdO t0 fun v1 hv1 t0 => (wlc (ZwB Zxu R fun w hw => Zp3 w (hw.tab ht) a_s hv1) R fun x1 => (mv R R (wlq (pex R R) R (wlq (pex R R) R (asg R R (asg R R (wnt (wcs (wcs (bdO t0 fun y1 t1 t0 => (wj (J := Bool) (X := Unit) (fun z => y1 = z) (fun z _ => [(4, iv v1.1), (26, .bool z)]) (fun _ _ => []) ?_ ?_)))))))))))))))
 refine wcg (mv R R (wlq (ZtR Zxh R) R (mv R R (wlo (t := 16) t1 R (fun h2 t1 => ?_) fun h2 t1 => ?_))))
 exact wgf (j := 2) R R R R R (wgf (j := 2) R R R R R (wgf (j := 2) R R R R R (wlq (pit R R) R (mv R R (wgf (j := 7) R R R R R (wgf (j := 7) R R R R R (wgf (j := 7) R R R R R (wgf (j := 7) R R R R R (wlq (pit R R) R (wln (wjm _ () (mtE t1) (su2 R R) zn)))))))))))
 refine wgn (j := 2) R R R (mv R R (bdO t1 fun v2 hv2 t1 => (wgn (j := 2) R R R (wlc (cz0 ZaI R fun w hw => Zo w v1.1 0 1000000000 hv2) R (fun _ => (wgn (j := 2) R R R (wlq (Zd R) R (wlq (pif R R) R (mv R R (wlo (t := 21) t1 R (fun h3 t1 => ?_) fun h3 t1 => ?_))))))))))
 exact wgf (j := 7) R R R R R (wgf (j := 7) R R R R R (wgf (j := 7) R R R R R (wgf (j := 7) R R R R R (wlq (pit R R) R (wln (wjm _ () (mtE t1) (su2 R R) zn))))))
 exact wgn (j := 7) R R R (mv R R (bdO t1 fun v3 hv3 t1 => (wgn (j := 7) R R R (wlc (cz0 Zff R fun w hw => Zag w (hw.tab ht) v1.1 hv3) R (fun _ => (wgn (j := 7) R R R (mv R R (wgn (j := 7) R R R (wlq (ZpO R R) R (wlq (pif R R) R (wln (wjm _ () (mtE t1) (su2 R R) zn))))))))))))
 intro j1 _ hp
 obtain rfl : j1 = y1 := hp.symm
 refine wqt (wcO t0 R (fun h4 t0 => ?_) fun h4 t0 => ?_)
 refine wcr (asg R R (asg R R (wnt (wct (wqr ?_)))))
 obtain rfl := oi t0
 exact Z0 R R R fun w hw => ⟨R, hw.weak zn⟩
 refine wck (wqt (wcr (mv R R (asg R R (asg R R (wnt (wct ?_)))))))
 obtain rfl := oi t0
 exact Z0 R R R fun w hw => ⟨R, hw.weak zn⟩

theorem ZpH (w : World) (ht : Tb w) (a_line : Str) {r : GAct × Bool} (t0 : Zco a_line = some r) : Calls Tryz.prog 19 #[bs a_line] w fun e w' => e = .returned (.tuple #[.agg #[.int .i64 r.1.Kind, .int .i64 r.1.A, .int .i64 r.1.B], .bool r.2]) ∧ SH w [] [] w' := by
 refine cwc (args := [_]) Tryz.func19 R Tryz.ntmps19 R ?_
 unfold Zco at t0
 refine wcr (wle (eal (cs := [iv 0, iv 0, iv 0]) Zly) R fun b1 => (asg R R (wnt (wcr (mv R R (bdO t0 fun v1 hv1 t0 => (wlc (cz1 Zvw R fun w hw => Zi1 w a_line hv1) R fun x1 => (mv R R (wlq (pex R R) R (wlq (pex R R) R (asg R R (asg R R (wnt (wcs (wcs (bdO t0 fun y1 t1 t0 => (wj (J := Bool) (X := Unit) (fun z => y1 = z) (fun z _ => [(2, ptr b1 0), (4, (sl x1)), (28, .bool z)]) (fun _ _ => [box b1 [iv 0, iv 0, iv 0], ownF (sl x1) v1.1]) ?_ ?_)))))))))))))))))
 refine wcg (mv R R (wlq (Zd R) R (mv R R (wlo (t := 23) t1 R (fun h1 t1 => ?_) fun h1 t1 => ?_))))
 exact wgf (j := 2) R R R R R (wgf (j := 2) R R R R R (wgf (j := 2) R R R R R (wgf (j := 2) R R R R R (wlq (pit R R) R (wln (wjm _ () (mtE t1) (su3 R R R) (zc pk1 so1)))))))
 exact wgn (j := 2) R R R (mv R R (wgn (j := 2) R R R (wlq (pln (rgo pz) Zd5 R) R (bdO t1 fun v2 hv2 t1 => (wgn (j := 2) R R R (wlc (cz0 ZaI R fun w hw => Zo w ((v1.1.length : Nat) : Int) 1 3 hv2) R (fun _ => (wgn (j := 2) R R R (wlq (Zd R) R (wlq (pif R R) R (wln (wjm _ () (mtE t1) (su3 R R R) (zc pk1 so1)))))))))))))
 intro j1 _ hp
 obtain rfl : j1 = y1 := hp.symm
 refine wqt (wcO t0 R (fun h2 t0 => ?_) fun h2 t0 => ?_)
 refine wcr (wlq (Zk R Zra) R (wls (sbx (cs' := [iv 0, iv 0, iv 0]) ZaU pz R R R R R R R) (asg R R (wnt (wct (wqr ?_))))))
 obtain rfl := oi t0
 exact ZG R ZaU R R pz R fun w hw => ⟨R, hw.weak zn⟩
 refine wck (wqt (wcr (wle (ebs (qs := [(0, bs (⟨[]⟩ : Str)), (1, bs (⟨[97, 100, 109, 105, 116]⟩ : Str)), (2, bs (⟨[115, 117, 98, 109, 105, 116]⟩ : Str)), (3, bs (⟨[115, 101, 119]⟩ : Str)), (4, bs (⟨[114, 111, 117, 110, 100]⟩ : Str)), (5, bs (⟨[121, 101, 97, 114]⟩ : Str)), (6, bs (⟨[108, 97, 99, 107]⟩ : Str))]) R (Zwb (⟨[]⟩ : Str) (⟨[97, 100, 109, 105, 116]⟩ : Str) (⟨[115, 117, 98, 109, 105, 116]⟩ : Str) (⟨[115, 101, 119]⟩ : Str) (⟨[114, 111, 117, 110, 100]⟩ : Str) (⟨[121, 101, 97, 114]⟩ : Str) (⟨[108, 97, 99, 107]⟩ : Str))) R fun b2 => (asg R R (wnt (wcr (wlq (Zk R Zra) R (wle (eal (cs := [iv 0, iv 0, iv 0]) Zly) R fun b3 => (wls (sbx (cs' := [iv 0, iv 0, iv 0]) ZaU pz R R R R R R R) (wnt (wcs (wcr (mv R R (wlq (pln (rgo (pbo pk1 (n := 7) (xs := ([(⟨[]⟩ : Str), (⟨[97, 100, 109, 105, 116]⟩ : Str), (⟨[115, 117, 98, 109, 105, 116]⟩ : Str), (⟨[115, 101, 119]⟩ : Str), (⟨[114, 111, 117, 110, 100]⟩ : Str), (⟨[121, 101, 97, 114]⟩ : Str), (⟨[108, 97, 99, 107]⟩ : Str)] : List Str)) R R (by unfold maxLen; omega))) Zd5 R) R ?_))))))))))))))
 refine mv R R (wnt (gdO t0 fun g1 t0 => (Zr t0 fun y1 l1 t0 => (wj (J := Int) (X := Unit) (fun z => y1 = z) (fun _ _ => [(2, ptr b1 0), (4, (sl x1)), (7, ptr b3 0)]) (fun z _ => [box b3 [iv z, iv 0, iv 0], box b1 [iv 0, iv 0, iv 0], ownF (sl x1) v1.1]) ?_ ?_))))
 refine wcb (wcf (X := Unit) l1 (fun k1 s1 x1l => [(2, ptr b1 0), (4, (sl x1)), (7, ptr b3 0), (32, (sl (⟨some ⟨b2, 0, none⟩, 7, 7⟩ : Hd))), (33, iv ((([(⟨[]⟩ : Str), (⟨[97, 100, 109, 105, 116]⟩ : Str), (⟨[115, 117, 98, 109, 105, 116]⟩ : Str), (⟨[115, 101, 119]⟩ : Str), (⟨[114, 111, 117, 110, 100]⟩ : Str), (⟨[121, 101, 97, 114]⟩ : Str), (⟨[108, 97, 99, 107]⟩ : Str)] : List Str).length : Nat) : Int)), (34, iv ((k1 : Nat) : Int))]) (fun k1 s1 x1l => [box b3 [iv s1, iv 0, iv 0], box b2 [bs (⟨[]⟩ : Str), bs (⟨[97, 100, 109, 105, 116]⟩ : Str), bs (⟨[115, 117, 98, 109, 105, 116]⟩ : Str), bs (⟨[115, 101, 119]⟩ : Str), bs (⟨[114, 111, 117, 110, 100]⟩ : Str), bs (⟨[121, 101, 97, 114]⟩ : Str), bs (⟨[108, 97, 99, 107]⟩ : Str)], box b1 [iv 0, iv 0, iv 0], ownF (sl x1) v1.1]) () (su6 R R R R R R) so4 fun k1 s1 x1l hN1 l1 => ?_)
 by_cases hk1 : k1 < ([(⟨[]⟩ : Str), (⟨[97, 100, 109, 105, 116]⟩ : Str), (⟨[115, 117, 98, 109, 105, 116]⟩ : Str), (⟨[115, 101, 119]⟩ : Str), (⟨[114, 111, 117, 110, 100]⟩ : Str), (⟨[121, 101, 97, 114]⟩ : Str), (⟨[108, 97, 99, 107]⟩ : Str)] : List Str).length
 refine fos l1 hk1 fun _ t1 l1 => ?_
 unfold ZdM at t1
 have c1 : (decide (((k1 : Nat) : Int) < ((([(⟨[]⟩ : Str), (⟨[97, 100, 109, 105, 116]⟩ : Str), (⟨[115, 117, 98, 109, 105, 116]⟩ : Str), (⟨[115, 101, 119]⟩ : Str), (⟨[114, 111, 117, 110, 100]⟩ : Str), (⟨[121, 101, 97, 114]⟩ : Str), (⟨[108, 97, 99, 107]⟩ : Str)] : List Str).length : Nat) : Int))) = true := ddt (by omega)
 refine wcr (wlq (pls R R) R (wnt (wcs (wft R c1 (wck (wqt (wcs (wcb (wcr (mv R R (wlq (Zv (k := k1) (rgo (pbo pk1 (n := 7) (xs := ([(⟨[]⟩ : Str), (⟨[97, 100, 109, 105, 116]⟩ : Str), (⟨[115, 117, 98, 109, 105, 116]⟩ : Str), (⟨[115, 101, 119]⟩ : Str), (⟨[114, 111, 117, 110, 100]⟩ : Str), (⟨[121, 101, 97, 114]⟩ : Str), (⟨[108, 97, 99, 107]⟩ : Str)] : List Str)) R R (by unfold maxLen; omega))) Zd5 R R hk1) R ?_)))))))))))
 refine wlq (v := bs (gx ([(⟨[]⟩ : Str), (⟨[97, 100, 109, 105, 116]⟩ : Str), (⟨[115, 117, 98, 109, 105, 116]⟩ : Str), (⟨[115, 101, 119]⟩ : Str), (⟨[114, 111, 117, 110, 100]⟩ : Str), (⟨[121, 101, 97, 114]⟩ : Str), (⟨[108, 97, 99, 107]⟩ : Str)] : List Str) k1)) (ZD (rgo (pbo pk1 (n := 7) (xs := ([(⟨[]⟩ : Str), (⟨[97, 100, 109, 105, 116]⟩ : Str), (⟨[115, 117, 98, 109, 105, 116]⟩ : Str), (⟨[115, 101, 119]⟩ : Str), (⟨[114, 111, 117, 110, 100]⟩ : Str), (⟨[121, 101, 97, 114]⟩ : Str), (⟨[108, 97, 99, 107]⟩ : Str)] : List Str)) R R (by unfold maxLen; omega))) tk_9 R hk1 R) R ?_
 refine asg R R (asg R R (wnt (wcr (mv R R (mv R R (gdO t1 fun g2 t1 => (wlq (Zv (k := 0) (rgo pk3) Zd5 R R g2) R (wlq (v := bs (gx v1.1 0)) (ZD (rgo pk3) tk_9 R g2 R) R (wlq (ZsJ R R) R (wnt (wcj (X := Unit) (fun _ => True) (fun _ => [(2, ptr b1 0), (4, (sl x1)), (7, ptr b3 0), (32, (sl (⟨some ⟨b2, 0, none⟩, 7, 7⟩ : Hd))), (33, iv ((([(⟨[]⟩ : Str), (⟨[97, 100, 109, 105, 116]⟩ : Str), (⟨[115, 117, 98, 109, 105, 116]⟩ : Str), (⟨[115, 101, 119]⟩ : Str), (⟨[114, 111, 117, 110, 100]⟩ : Str), (⟨[121, 101, 97, 114]⟩ : Str), (⟨[108, 97, 99, 107]⟩ : Str)] : List Str).length : Nat) : Int)), (34, iv ((k1 : Nat) : Int))]) (fun _ => [box b3 [iv (bif (seq (gx ([(⟨[]⟩ : Str), (⟨[97, 100, 109, 105, 116]⟩ : Str), (⟨[115, 117, 98, 109, 105, 116]⟩ : Str), (⟨[115, 101, 119]⟩ : Str), (⟨[114, 111, 117, 110, 100]⟩ : Str), (⟨[121, 101, 97, 114]⟩ : Str), (⟨[108, 97, 99, 107]⟩ : Str)] : List Str) k1) (gx v1.1 0)) then ((k1 : Nat) : Int) else s1), iv 0, iv 0], box b1 [iv 0, iv 0, iv 0], box b2 [bs (⟨[]⟩ : Str), bs (⟨[97, 100, 109, 105, 116]⟩ : Str), bs (⟨[115, 117, 98, 109, 105, 116]⟩ : Str), bs (⟨[115, 101, 119]⟩ : Str), bs (⟨[114, 111, 117, 110, 100]⟩ : Str), bs (⟨[121, 101, 97, 114]⟩ : Str), bs (⟨[108, 97, 99, 107]⟩ : Str)], ownF (sl x1) v1.1]) ?_ ?_)))))))))))
 refine ZbI R (fun h3 => ?_) fun h3 => ?_
 exact wcg (mv R R (wlq (pof Zjy R) R (wls (sbx (cs' := [iv ((k1 : Nat) : Int), iv 0, iv 0]) tk_3 pz R R R R R R R) (wln (wqm () trivial (su6 R R R R R R) (zc (by simp only [h3, cond_true]; exact pz) (zc pk1 so2)))))))
 exact wck (wqm () trivial (su6 R R R R R R) (zc (by simp only [h3, cond_false]; exact pz) (zc pk1 so2)))
 intro _ _
 refine wqb (wqt (wcg (wlq (Zj R R (by omega)) R ?_)))
 exact mv R R (wln (Zl hk1 (stpN l1 t1) () (su6 R R R R R R) (zc pz (zc pk1 so2))))
 have c1 : (decide (((k1 : Nat) : Int) < ((([(⟨[]⟩ : Str), (⟨[97, 100, 109, 105, 116]⟩ : Str), (⟨[115, 117, 98, 109, 105, 116]⟩ : Str), (⟨[115, 101, 119]⟩ : Str), (⟨[114, 111, 117, 110, 100]⟩ : Str), (⟨[121, 101, 97, 114]⟩ : Str), (⟨[108, 97, 99, 107]⟩ : Str)] : List Str).length : Nat) : Int))) = false := ddf (by omega)
 have en1 := foe l1 hk1
 exact wcr (wlq (pls R R) R (wnt (wcs (wff R c1 (wcx (wqe (wqe (wbx (wjm _ () (Sum.inl.inj en1) (su3 R R R) (zc pz (zc pk1 (zc pk1 zn))))))))))))
 intro e1 _ hp
 obtain rfl : e1 = y1 := hp.symm
 refine wqt (wcs (wcr (mv R R (gdO t0 fun g3 t0 => (wlq (Ziz (l := 1) (h := v1.1.length) (rgo pk2) Zd5 R (.inr ⟨_, R, R⟩) (.inl ⟨R, R⟩) g3.1 g3.2) R (wlq (pln (ZgN (rgo pk2) g3.1 g3.2) Zd5 R) R (mv R R (wnt (gdO t0 fun g4 t0 => (sqO t0 fun y1 l1 t0 => (wj (J := Int × Int × Int) (X := Unit) (fun z => y1 = .inl z) (fun _ _ => [(2, ptr b1 0), (4, (sl x1)), (7, ptr b3 0)]) (fun z _ => [box b3 [iv z.1, iv z.2.1, iv z.2.2], box b1 [iv 0, iv 0, iv 0], ownF (sl x1) v1.1]) ?_ ?_)))))))))))
 refine wcb (wcf (X := Unit) l1 (fun k2 s2 x2l => [(2, ptr b1 0), (4, (sl x1)), (7, ptr b3 0), (48, (sl (slh x1 1 v1.1.length (Rep.sz Str)))), (49, iv ((((v1.1.drop 1).take (v1.1.length - 1)).length : Nat) : Int)), (50, iv ((k2 : Nat) : Int))]) (fun k2 s2 x2l => [box b3 [iv s2.1, iv s2.2.1, iv s2.2.2], box b1 [iv 0, iv 0, iv 0], ownF (sl x1) v1.1]) () (su6 R R R R R R) so3 fun k2 s2 x2l hN2 l1 => ?_)
 by_cases hk2 : k2 < ((v1.1.drop 1).take (v1.1.length - 1)).length
 refine fos l1 hk2 fun _ t1 l1 => ?_
 unfold Zar at t1
 have c2 : (decide (((k2 : Nat) : Int) < ((((v1.1.drop 1).take (v1.1.length - 1)).length : Nat) : Int))) = true := ddt (by omega)
 refine wcr (wlq (pls R R) R (wnt (wcs (wft R c2 (wck (wqt (wcs (wcb (wcr (mv R R (wlq (Zv (k := k2) (ZgN (rgo pk2) g3.1 g3.2) Zd5 R R hk2) R (wlq (v := bs (gx ((v1.1.drop 1).take (v1.1.length - 1)) k2)) (ZD (ZgN (rgo pk2) g3.1 g3.2) tk_9 R hk2 R) R (asg R R (asg R R (wnt (wcr (mv R R (bdO t1 fun v3 hv3 t1 => (wlc (cz0 ZxD R fun w hw => Zn6 w (hw.tab ht) (gx ((v1.1.drop 1).take (v1.1.length - 1)) k2) hv3) R fun _ => (mv R R (wlq (pex R R) R (wlq (pex R R) R (asg R R (asg R R (wnt (wcs (wcr (mv R R (wlq (Zd R) R (wnt (wcO t1 R (fun h4 t1 => ?_) fun h4 t1 => ?_)))))))))))))))))))))))))))))))
 refine wcr (wlq (Zk R Zra) R (wls (sbx (cs' := [iv 0, iv 0, iv 0]) ZaU pk1 R R R R R R R) (asg R R (wnt (wct (wqr (wbr (wqr (wqr (wbr (wqr (wqr ?_))))))))))))
 replace t0 := lpR t0 l1 t1
 obtain rfl := oi t0
 exact ZG R ZaU R R pz R fun w hw => ⟨R, hw.weak zn⟩
 refine wck (wqt (wcr (mv R R (wlq (pol R R) R (wnt (wcj (X := Unit) (fun _ => True) (fun _ => [(2, ptr b1 0), (4, (sl x1)), (7, ptr b3 0), (48, (sl (slh x1 1 v1.1.length (Rep.sz Str)))), (49, iv ((((v1.1.drop 1).take (v1.1.length - 1)).length : Nat) : Int)), (50, iv ((k2 : Nat) : Int))]) (fun _ => [box b3 [iv ((bif (((k2 : Nat) : Int) == 0) then (GAct.mk s2.1 v3.1 s2.2.2) else (GAct.mk s2.1 s2.2.1 v3.1)).Kind), iv ((bif (((k2 : Nat) : Int) == 0) then (GAct.mk s2.1 v3.1 s2.2.2) else (GAct.mk s2.1 s2.2.1 v3.1)).A), iv ((bif (((k2 : Nat) : Int) == 0) then (GAct.mk s2.1 v3.1 s2.2.2) else (GAct.mk s2.1 s2.2.1 v3.1)).B)], box b1 [iv 0, iv 0, iv 0], ownF (sl x1) v1.1]) ?_ ?_))))))
 refine ZbI R (fun h5 => ?_) fun h5 => ?_
 exact wcg (mv R R (wlq (pof ZcZ R) R (wls (sbx (cs' := [iv s2.1, iv v3.1, iv s2.2.2]) tk_3 pz R R R R R R R) (wln (wqm () trivial (su6 R R R R R R) (zc (by simp only [h5, cond_true]; exact pz) so2))))))
 exact wcg (mv R R (wlq (pof ZhO R) R (wls (sbx (cs' := [iv s2.1, iv s2.2.1, iv v3.1]) tk_3 pz R R R R R R R) (wln (wqm () trivial (su6 R R R R R R) (zc (by simp only [h5, cond_false]; exact pz) so2))))))
 intro _ _
 refine wqb (wqt (wcg (wlq (Zj R R (by omega)) R ?_)))
 exact mv R R (wln (Zl hk2 (stpN l1 t1) () (su6 R R R R R R) so3))
 have c2 : (decide (((k2 : Nat) : Int) < ((((v1.1.drop 1).take (v1.1.length - 1)).length : Nat) : Int))) = false := ddf (by omega)
 have en2 := foe l1 hk2
 exact wcr (wlq (pls R R) R (wnt (wcs (wff R c2 (wcx (wqe (wqe (wbx (wjm _ () en2 (su3 R R R) so3)))))))))
 intro e2 _ hp
 replace t0 := sqE (j := e2) t0 hp
 refine wqt (wcs (wcr (wlq (v := .agg #[iv e2.1, iv e2.2.1, iv e2.2.2]) (plb ZaU pz R R R) R (bdO t0 fun v4 hv4 t0 => (wlc (cz0 ZvB R fun w hw => ZjJ w (hw.tab ht) (GAct.mk e2.1 e2.2.1 e2.2.2) hv4) R fun _ => (mv R R (wlq (pex R R) R (wlq (pex R R) R (asg R R (asg R R (wnt (wcs (bdO t0 fun y1 t1 t0 => (wj (J := Bool) (X := Unit) (fun z => y1 = z) (fun z _ => [(2, ptr b1 0), (7, ptr b3 0), (82, .bool z)]) (fun _ _ => [box b3 [iv e2.1, iv e2.2.1, iv e2.2.2], box b1 [iv 0, iv 0, iv 0]]) ?_ ?_))))))))))))))
 refine wcg (mv R R (wlq (Zd R) R (mv R R (wlo (t := 77) t1 R (fun h6 t1 => ?_) fun h6 t1 => ?_))))
 exact wgf (j := 2) R R R R R (wgf (j := 2) R R R R R (wgf (j := 2) R R R R R (wgf (j := 2) R R R R R (wlq (pit R R) R (wln (wjm _ () (mtE t1) (su3 R R R) so2))))))
 exact wgn (j := 2) R R R (mv R R (wgn (j := 2) R R R (mv R R (bdO t1 fun v5 hv5 t1 => (wgn (j := 2) R R R (wlc (cz0 Zrf R fun w hw => Zha w v1.1 x1 (Rg.on (rgo pk2) hw) (⟨[32]⟩ : Str) hv5) R (fun _ => (wgn (j := 2) R R R (wlq (ZpO R R) R (wlq (pif R R) R (wln (wjm _ () (mtE t1) (su3 R R R) so2))))))))))))
 intro j4 _ hp
 obtain rfl : j4 = y1 := hp.symm
 refine wqt (wcO t0 R (fun h7 t0 => ?_) fun h7 t0 => ?_)
 refine wcr (wlq (Zk R Zra) R (wls (sbx (cs' := [iv 0, iv 0, iv 0]) ZaU pk1 R R R R R R R) (asg R R (wnt (wct (wqr ?_))))))
 obtain rfl := oi t0
 exact ZG R ZaU R R pz R fun w hw => ⟨R, hw.weak zn⟩
 refine wck (wqt (wcr (wlq (v := .agg #[iv e2.1, iv e2.2.1, iv e2.2.2]) (plb ZaU pz R R R) R (wls (sbx (cs' := [iv e2.1, iv e2.2.1, iv e2.2.2]) ZaU pk1 R R R R R R R) (asg R R (wnt (wct ?_)))))))
 obtain rfl := oi t0
 exact ZG R ZaU R R pz R fun w hw => ⟨R, hw.weak zn⟩

theorem ZcF (w : World) (a_list : List GMember) (v0a : Hd) (r0 : rdF w (dm w []) (sl v0a) a_list) {r : Bool} (t0 : Zbd a_list = some r) : Calls Tryz.prog 42 #[(sl v0a)] w fun e w' => e = .returned (.bool r) ∧ SH w [] [] w' := by
 refine cwc (args := [_]) Tryz.func42 R Tryz.ntmps42 R ?_
 unfold Zbd at t0
 refine wcr (asg R R (wnt (wcs (wcr (mv R R (wlq (pln (rga r0) Zan R) R (mv R R (wnt (gdO t0 fun g1 t0 => (sqO t0 fun y1 l1 t0 => (wj (J := Unit) (X := Unit) (fun z => y1 = .inl z) (fun _ _ => [(0, (sl v0a))]) (fun _ _ => []) ?_ ?_)))))))))))
 refine wcb (wcf (X := Unit) l1 (fun k1 s1 x1l => [(0, (sl v0a)), (5, (sl v0a)), (6, iv ((a_list.length : Nat) : Int)), (7, iv ((k1 : Nat) : Int))]) (fun k1 s1 x1l => []) () (su4 R R R R) zn fun k1 s1 x1l hN1 l1 => ?_)
 by_cases hk1 : k1 < a_list.length
 refine fos l1 hk1 fun _ t1 l1 => ?_
 unfold Zes at t1
 have c1 : (decide (((k1 : Nat) : Int) < ((a_list.length : Nat) : Int))) = true := ddt (by omega)
 refine wcr (wlq (pls R R) R (wnt (wcs (wft R c1 (wck (wqt (wcs (wcb (wcr (mv R R (wlq (Zv (k := k1) (rga r0) Zan R R hk1) R (wlq (v := .agg #[iv ((gx a_list k1).Number), iv ((gx a_list k1).Since), iv ((gx a_list k1).Paid)]) (ZaB (rga r0) ZiP R hk1 R R R) R (wle (eal (cs := [iv 0, iv 0, iv 0]) ZoQ) R fun b1 => (asg R R (wls (sbx (cs' := [iv ((gx a_list k1).Number), iv ((gx a_list k1).Since), iv ((gx a_list k1).Paid)]) ZiP pz R R R R R R R) (wnt (wcs (bdO t1 fun y2 t2 t1 => (wj (J := Bool) (X := Unit) (fun z => y2 = z) (fun z _ => [(0, (sl v0a)), (5, (sl v0a)), (6, iv ((a_list.length : Nat) : Int)), (7, iv ((k1 : Nat) : Int)), (45, .bool z)]) (fun _ _ => []) ?_ ?_)))))))))))))))))))
 refine wcd [box b1 [iv ((gx a_list k1).Number), iv ((gx a_list k1).Since), iv ((gx a_list k1).Paid)]] 34 mixed (aq 0 R (pof Zch R) so1 R (aq (v := iv ((gx a_list k1).Number)) 1 R (plx tk_3 pz R R) so1 R (a1 2 (bdO t2 fun v1 hv1 t2 => (wsc R (cz0 ZaI R fun w hw => Zo w ((gx a_list k1).Number) 1 999 hv1) (fun _ => (zt so1)) R fun _ => (aq 3 R (Zd R) so1 R (aq 4 R (pom R) so1 R (waO_ (t := 16) t2 R (fun h1 t2 => ?_) fun h1 t2 => ?_))))))))
 exact af 5 4 R R R R R so1 R (af 6 4 R R R R R so1 R (af 7 4 R R R R R so1 R (au 8 7 R R R R so1 R (au 9 7 R R R R so1 R (au 10 7 R R R R so1 R (au 11 7 R R R R so1 R (au 12 7 R R R R so1 R (au 13 7 R R R R so1 R (au 14 7 R R R R so1 R (au 15 7 R R R R so1 R (au 16 7 R R R R so1 R (af 17 4 R R R R R so1 R (aq 18 R (pit R R) so1 R (aq 19 R (pom R) so1 R (af 20 19 R R R R R so1 R (af 21 19 R R R R R so1 R (af 22 19 R R R R R so1 R (af 23 19 R R R R R so1 R (aq 24 R (pit R R) so1 R (aq 25 R (pom R) so1 R (af 26 25 R R R R R so1 R (af 27 25 R R R R R so1 R (af 28 25 R R R R R so1 R (af 29 25 R R R R R so1 R (af 30 25 R R R R R so1 R (af 31 25 R R R R R so1 R (af 32 25 R R R R R so1 R (aq 33 R (pit R R) so1 R (ae (wjm _ () (mtE t2) (su5 R R R R R) zn))))))))))))))))))))))))))))))
 refine an 5 4 R R R R (pom R) so1 R (an 6 4 R R R R (ZaD R R) so1 R (an 7 4 R R R R (pom R) so1 R (waO_ (t := 19) t2 R (fun h2 t2 => ?_) fun h2 t2 => ?_)))
 refine an 8 7 R R R R (pof Zch R) so1 R (an (v := iv ((gx a_list k1).Number)) 9 7 R R R R (plx tk_3 pz R R) so1 R (an 10 7 R R R R (pom R) so1 R (an 11 7 R R R R (pom R) so1 R (an 12 7 R R R R (Zad R R) so1 R (gdO t2 fun g2 t2 => (an 13 7 R R R R (Z8 (rga r0) Zan R R g2.1 g2.2) so1 R (an 14 7 R R R R (Zak (rga r0) (ZK g2) Zch R) so1 R (an (v := iv ((gx a_list (((wr (((k1 : Nat) : Int) - 1))).toNat)).Number)) 15 7 R R R R (ZD (rga r0) tk_3 R (ZK g2) R) so1 R (an 16 7 R R R R (Zdf R R) so1 R (an 17 4 R R R R (pit R R) so1 R (aq 18 R (pif R R) so1 R (aq 19 R (pom R) so1 R (waO_ (t := 31) t2 R (fun h3 t2 => ?_) fun h3 t2 => ?_)))))))))))))
 exact af 20 19 R R R R R so1 R (af 21 19 R R R R R so1 R (af 22 19 R R R R R so1 R (af 23 19 R R R R R so1 R (aq 24 R (pit R R) so1 R (aq 25 R (pom R) so1 R (af 26 25 R R R R R so1 R (af 27 25 R R R R R so1 R (af 28 25 R R R R R so1 R (af 29 25 R R R R R so1 R (af 30 25 R R R R R so1 R (af 31 25 R R R R R so1 R (af 32 25 R R R R R so1 R (aq 33 R (pit R R) so1 R (ae (wjm _ () (mtE t2) (su5 R R R R R) zn)))))))))))))))
 refine an 20 19 R R R R (pof ZjB R) so1 R (an (v := iv ((gx a_list k1).Since)) 21 19 R R R R (plx tk_3 pz R R) so1 R (a1 22 (bdO t2 fun v2 hv2 t2 => (ZW (j := 19) R R R R (cz0 ZaI R fun w hw => Zo w ((gx a_list k1).Since) 1900 2999 hv2) (fun _ => (zt so1)) R fun _ => (an 23 19 R R R R (Zd R) so1 R (aq 24 R (pif R R) so1 R (aq 25 R (pom R) so1 R (waO_ (t := 37) t2 R (fun h4 t2 => ?_) fun h4 t2 => ?_))))))))
 exact af 26 25 R R R R R so1 R (af 27 25 R R R R R so1 R (af 28 25 R R R R R so1 R (af 29 25 R R R R R so1 R (af 30 25 R R R R R so1 R (af 31 25 R R R R R so1 R (af 32 25 R R R R R so1 R (aq 33 R (pit R R) so1 R (ae (wjm _ () (mtE t2) (su5 R R R R R) zn)))))))))
 exact an 26 25 R R R R (pof Zg6 R) so1 R (an (v := iv ((gx a_list k1).Paid)) 27 25 R R R R (plx tk_3 pz R R) so1 R (an 28 25 R R R R (pof ZjB R) so1 R (an (v := iv ((gx a_list k1).Since)) 29 25 R R R R (plx tk_3 pz R R) so1 R (an 30 25 R R R R (Zad R R) so1 R (a1 31 (bdO t2 fun v3 hv3 t2 => (ZW (j := 25) R R R R (cz0 ZaI R fun w hw => Zo w ((gx a_list k1).Paid) (wr ((gx a_list k1).Since - 1)) 2999 hv3) (fun _ => (zt so1)) R fun _ => (an 32 25 R R R R (Zd R) so1 R (aq 33 R (pif R R) so1 R (ae (wjm _ () (mtE t2) (su5 R R R R R) zn)))))))))))
 refine af 8 7 R R R R R so1 R (af 9 7 R R R R R so1 R (af 10 7 R R R R R so1 R (af 11 7 R R R R R so1 R (af 12 7 R R R R R so1 R (af 13 7 R R R R R so1 R (af 14 7 R R R R R so1 R (af 15 7 R R R R R so1 R (af 16 7 R R R R R so1 R (an 17 4 R R R R (pif R R) so1 R (aq 18 R (pif R R) so1 R (aq 19 R (pom R) so1 R (an 20 19 R R R R (pof ZjB R) so1 R (an (v := iv ((gx a_list k1).Since)) 21 19 R R R R (plx tk_3 pz R R) so1 R (a1 22 (bdO t2 fun v4 hv4 t2 => (ZW (j := 19) R R R R (cz0 ZaI R fun w hw => Zo w ((gx a_list k1).Since) 1900 2999 hv4) (fun _ => (zt so1)) R fun _ => (an 23 19 R R R R (Zd R) so1 R (aq 24 R (pif R R) so1 R (aq 25 R (pom R) so1 R (waO_ (t := 37) t2 R (fun h5 t2 => ?_) fun h5 t2 => ?_))))))))))))))))))))
 exact af 26 25 R R R R R so1 R (af 27 25 R R R R R so1 R (af 28 25 R R R R R so1 R (af 29 25 R R R R R so1 R (af 30 25 R R R R R so1 R (af 31 25 R R R R R so1 R (af 32 25 R R R R R so1 R (aq 33 R (pit R R) so1 R (ae (wjm _ () (mtE t2) (su5 R R R R R) zn)))))))))
 exact an 26 25 R R R R (pof Zg6 R) so1 R (an (v := iv ((gx a_list k1).Paid)) 27 25 R R R R (plx tk_3 pz R R) so1 R (an 28 25 R R R R (pof ZjB R) so1 R (an (v := iv ((gx a_list k1).Since)) 29 25 R R R R (plx tk_3 pz R R) so1 R (an 30 25 R R R R (Zad R R) so1 R (a1 31 (bdO t2 fun v5 hv5 t2 => (ZW (j := 25) R R R R (cz0 ZaI R fun w hw => Zo w ((gx a_list k1).Paid) (wr ((gx a_list k1).Since - 1)) 2999 hv5) (fun _ => (zt so1)) R fun _ => (an 32 25 R R R R (Zd R) so1 R (aq 33 R (pif R R) so1 R (ae (wjm _ () (mtE t2) (su5 R R R R R) zn)))))))))))
 intro j1 _ hp
 obtain rfl : j1 = y2 := hp.symm
 refine wqt (wcO t1 R (fun h6 t1 => ?_) fun h6 t1 => ?_)
 refine wcr (asg R R (wnt (wct (wbr (wqr (wqr (wbr (wqr (wqr ?_)))))))))
 replace t0 := lpR t0 l1 t1
 obtain rfl := oi t0
 exact wq1 R R fun w hw => ⟨R, hw.weak zn⟩
 refine wck (wqb (wqt (wcg (wlq (Zj R R (by omega)) R ?_))))
 exact mv R R (wln (Zl hk1 (stpN l1 t1) () (su4 R R R R) zn))
 have c1 : (decide (((k1 : Nat) : Int) < ((a_list.length : Nat) : Int))) = false := ddf (by omega)
 have en1 := foe l1 hk1
 exact wcr (wlq (pls R R) R (wnt (wcs (wff R c1 (wcx (wqe (wqe (wbx (wjm _ () en1 (su1 R) zn)))))))))
 intro e1 _ hp
 replace t0 := sqE (j := e1) t0 hp
 refine wqt (wcr (mv R R (wlq (pln (rga r0) Zan R) R (wlq (Zdf R R) R (asg R R (wnt (wct ?_)))))))
 obtain rfl := oi t0
 exact wq1 R R fun w hw => ⟨R, hw.weak zn⟩

theorem ZhI (w : World) (a_list : List Int) (v0a : Hd) (r0 : rdF w (dm w []) (sl v0a) a_list) (a_a : Int) (a_b : Int) {r : Bool} (t0 : Zby a_list a_a a_b = some r) : Calls Tryz.prog 76 #[(sl v0a), .int .i64 a_a, .int .i64 a_b] w fun e w' => e = .returned (.bool r) ∧ SH w [] [] w' := by
 refine cwc (args := [_, _, _]) Tryz.func76 R Tryz.ntmps76 R ?_
 unfold Zby at t0
 refine wcr (asg R R (wnt (wcs (wcr (mv R R (wlq (pln (rga r0) ZH R) R (mv R R (wnt (gdO t0 fun g1 t0 => (sqO t0 fun y1 l1 t0 => (wj (J := Unit) (X := Unit) (fun z => y1 = .inl z) (fun _ _ => []) (fun _ _ => []) ?_ ?_)))))))))))
 refine wcb (wcf (X := Unit) l1 (fun k1 s1 x1l => [(1, iv a_a), (2, iv a_b), (9, (sl v0a)), (10, iv ((a_list.length : Nat) : Int)), (11, iv ((k1 : Nat) : Int))]) (fun k1 s1 x1l => []) () (su5 R R R R R) zn fun k1 s1 x1l hN1 l1 => ?_)
 by_cases hk1 : k1 < a_list.length
 refine fos l1 hk1 fun _ t1 l1 => ?_
 unfold Zcn at t1
 have c1 : (decide (((k1 : Nat) : Int) < ((a_list.length : Nat) : Int))) = true := ddt (by omega)
 refine wcr (wlq (pls R R) R (wnt (wcs (wft R c1 (wck (wqt (wcs (wcb (wcr (wlq (Zv (k := k1) (rga r0) ZH R R hk1) R (wlq (v := iv (gx a_list k1)) (ZD (rga r0) tk_3 R hk1 R) R (asg R R (wnt (wcr (mv R R (mv R R (mv R R (bdO t1 fun v1 hv1 t1 => (wlc (cz0 ZaI R fun w hw => Zo w (gx a_list k1) a_a a_b hv1) R fun _ => (wlq (Zd R) R (wnt (wcO t1 R (fun h1 t1 => ?_) fun h1 t1 => ?_))))))))))))))))))))))
 refine wcr (asg R R (wnt (wct (wbr (wqr (wqr (wbr (wqr (wqr ?_)))))))))
 replace t0 := lpR t0 l1 t1
 obtain rfl := oi t0
 exact wq1 R R fun w hw => ⟨R, hw.weak zn⟩
 refine wck (wqb (wqt (wcg (wlq (Zj R R (by omega)) R ?_))))
 exact mv R R (wln (Zl hk1 (stpN l1 t1) () (su5 R R R R R) zn))
 have c1 : (decide (((k1 : Nat) : Int) < ((a_list.length : Nat) : Int))) = false := ddf (by omega)
 have en1 := foe l1 hk1
 exact wcr (wlq (pls R R) R (wnt (wcs (wff R c1 (wcx (wqe (wqe (wbx (wjm _ () en1 yn zn)))))))))
 intro e1 _ hp
 replace t0 := sqE (j := e1) t0 hp
 refine wqt (wcr (asg R R (wnt (wct ?_))))
 obtain rfl := oi t0
 exact wq1 R R fun w hw => ⟨R, hw.weak zn⟩

theorem Zg4 (w : World) (a_stock : List Int) (v0a : Hd) (r0 : rdF w (dm w []) (sl v0a) a_stock) {r : Bool} (t0 : ZcT a_stock = some r) : Calls Tryz.prog 43 #[(sl v0a)] w fun e w' => e = .returned (.bool r) ∧ SH w [] [] w' := by
 refine cwc (args := [_]) Tryz.func43 R Tryz.ntmps43 R ?_
 unfold ZcT at t0
 refine wcr (asg R R (wnt (wcs (bdO t0 fun y1 t1 t0 => (wj (J := Bool) (X := Unit) (fun z => y1 = z) (fun z _ => [(2, .bool z)]) (fun _ _ => []) ?_ ?_)))))
 refine wcg (mv R R (wlq (pln (rga r0) ZH R) R (wlq (pol R R) R (mv R R (wlo (t := 6) t1 R (fun h1 t1 => ?_) fun h1 t1 => ?_)))))
 exact wgn (j := 3) R R R (mv R R (bdO t1 fun v1 hv1 t1 => (wgn (j := 3) R R R (wlc (cz0 Ztw R fun w hw => ZhI w a_stock v0a (ra r0 hw) 0 1000000 hv1) R (fun _ => (wlq (pit R R) R (asg R R (wln (wjm _ () (mtE t1) (su1 R) zn)))))))))
 exact wgf (j := 3) R R R R R (wgf (j := 3) R R R R R (wlq (pif R R) R (asg R R (wln (wjm _ () (mtE t1) (su1 R) zn)))))
 intro j1 _ hp
 obtain rfl : j1 = y1 := hp.symm
 refine wqt (wct ?_)
 obtain rfl := oi t0
 exact wq1 R R fun w hw => ⟨R, hw.weak zn⟩

theorem Zh5 (w : World) (a_list : List GBooking) (v0a : Hd) (r0 : rdF w (dm w []) (sl v0a) a_list) {r : Bool} (t0 : Zc8 a_list = some r) : Calls Tryz.prog 44 #[(sl v0a)] w fun e w' => e = .returned (.bool r) ∧ SH w [] [] w' := by
 refine cwc (args := [_]) Tryz.func44 R Tryz.ntmps44 R ?_
 unfold Zc8 at t0
 refine wcr (asg R R (wnt (wcs (wcr (mv R R (wlq (pln (rga r0) Zge R) R (mv R R (wnt (gdO t0 fun g1 t0 => (sqO t0 fun y1 l1 t0 => (wj (J := Unit) (X := Unit) (fun z => y1 = .inl z) (fun _ _ => [(0, (sl v0a))]) (fun _ _ => []) ?_ ?_)))))))))))
 refine wcb (wcf (X := Unit) l1 (fun k1 s1 x1l => [(0, (sl v0a)), (5, (sl v0a)), (6, iv ((a_list.length : Nat) : Int)), (7, iv ((k1 : Nat) : Int))]) (fun k1 s1 x1l => []) () (su4 R R R R) zn fun k1 s1 x1l hN1 l1 => ?_)
 by_cases hk1 : k1 < a_list.length
 refine fos l1 hk1 fun _ t1 l1 => ?_
 unfold Zfu at t1
 have c1 : (decide (((k1 : Nat) : Int) < ((a_list.length : Nat) : Int))) = true := ddt (by omega)
 refine wcr (wlq (pls R R) R (wnt (wcs (wft R c1 (wck (wqt (wcs (wcb (wcr (mv R R (wlq (Zv (k := k1) (rga r0) Zge R R hk1) R (wlq (v := .agg #[iv ((gx a_list k1).Day), iv ((gx a_list k1).From), iv ((gx a_list k1).To), iv ((gx a_list k1).Sum)]) (ZaB (rga r0) Zm7 R hk1 R R R) R (wle (eal (cs := [iv 0, iv 0, iv 0, iv 0]) ZvE) R fun b1 => (asg R R (wls (sbx (cs' := [iv ((gx a_list k1).Day), iv ((gx a_list k1).From), iv ((gx a_list k1).To), iv ((gx a_list k1).Sum)]) Zm7 pz R R R R R R R) (wnt (wcs (bdO t1 fun y2 t2 t1 => (wj (J := Bool) (X := Unit) (fun z => y2 = z) (fun z _ => [(0, (sl v0a)), (5, (sl v0a)), (6, iv ((a_list.length : Nat) : Int)), (7, iv ((k1 : Nat) : Int)), (55, .bool z)]) (fun _ _ => []) ?_ ?_)))))))))))))))))))
 refine wcd [box b1 [iv ((gx a_list k1).Day), iv ((gx a_list k1).From), iv ((gx a_list k1).To), iv ((gx a_list k1).Sum)]] 44 mixed (aq 0 R (pof ZhU R) so1 R (aq (v := iv ((gx a_list k1).Day)) 1 R (plx tk_3 pz R R) so1 R (a1 2 (bdO t2 fun v1 hv1 t2 => (wsc R (cz0 ZaI R fun w hw => Zo w ((gx a_list k1).Day) 0 9999 hv1) (fun _ => (zt so1)) R fun _ => (aq 3 R (Zd R) so1 R (aq 4 R (pom R) so1 R (waO_ (t := 16) t2 R (fun h1 t2 => ?_) fun h1 t2 => ?_))))))))
 refine af 5 4 R R R R R so1 R (af 6 4 R R R R R so1 R (af 7 4 R R R R R so1 R (au 8 7 R R R R so1 R (au 9 7 R R R R so1 R (au 10 7 R R R R so1 R (au 11 7 R R R R so1 R (au 12 7 R R R R so1 R (au 13 7 R R R R so1 R (au 14 7 R R R R so1 R (au 15 7 R R R R so1 R (au 16 7 R R R R so1 R (af 17 4 R R R R R so1 R (aq 18 R (pit R R) so1 R (aq 19 R (pom R) so1 R (af 20 19 R R R R R so1 R (af 21 19 R R R R R so1 R (af 22 19 R R R R R so1 R (af 23 19 R R R R R so1 R (aq 24 R (pit R R) so1 R (aq 25 R (pom R) so1 R (af 26 25 R R R R R so1 R (af 27 25 R R R R R so1 R (af 28 25 R R R R R so1 R (af 29 25 R R R R R so1 R (aq 30 R (pit R R) so1 R (aq 31 R (pom R) so1 R (af 32 31 R R R R R so1 R (af 33 31 R R R R R so1 R (af 34 31 R R R R R so1 R (af 35 31 R R R R R so1 R (af 36 31 R R R R R so1 R (aq 37 R (pit R R) so1 R (aq 38 R (pom R) so1 R (af 39 38 R R R R R so1 R (af 40 38 R R R R R so1 R (af 41 38 R R R R R so1 R (af 42 38 R R R R R so1 R (aq 43 R (pit R R) so1 R (ae ?_)))))))))))))))))))))))))))))))))))))))
 exact wjm _ () (mtE t2) (su5 R R R R R) zn
 refine an 5 4 R R R R (pom R) so1 R (an 6 4 R R R R (ZaD R R) so1 R (an 7 4 R R R R (pom R) so1 R (waO_ (t := 19) t2 R (fun h2 t2 => ?_) fun h2 t2 => ?_)))
 refine an 8 7 R R R R (pof ZhU R) so1 R (an (v := iv ((gx a_list k1).Day)) 9 7 R R R R (plx tk_3 pz R R) so1 R (an 10 7 R R R R (pom R) so1 R (an 11 7 R R R R (pom R) so1 R (an 12 7 R R R R (Zad R R) so1 R (gdO t2 fun g2 t2 => (an 13 7 R R R R (Z8 (rga r0) Zge R R g2.1 g2.2) so1 R (an 14 7 R R R R (Zak (rga r0) (ZK g2) ZhU R) so1 R (an (v := iv ((gx a_list (((wr (((k1 : Nat) : Int) - 1))).toNat)).Day)) 15 7 R R R R (ZD (rga r0) tk_3 R (ZK g2) R) so1 R (an 16 7 R R R R (pls R R) so1 R (an 17 4 R R R R (pit R R) so1 R (aq 18 R (pif R R) so1 R (aq 19 R (pom R) so1 R (waO_ (t := 31) t2 R (fun h3 t2 => ?_) fun h3 t2 => ?_)))))))))))))
 exact af 20 19 R R R R R so1 R (af 21 19 R R R R R so1 R (af 22 19 R R R R R so1 R (af 23 19 R R R R R so1 R (aq 24 R (pit R R) so1 R (aq 25 R (pom R) so1 R (af 26 25 R R R R R so1 R (af 27 25 R R R R R so1 R (af 28 25 R R R R R so1 R (af 29 25 R R R R R so1 R (aq 30 R (pit R R) so1 R (aq 31 R (pom R) so1 R (af 32 31 R R R R R so1 R (af 33 31 R R R R R so1 R (af 34 31 R R R R R so1 R (af 35 31 R R R R R so1 R (af 36 31 R R R R R so1 R (aq 37 R (pit R R) so1 R (aq 38 R (pom R) so1 R (af 39 38 R R R R R so1 R (af 40 38 R R R R R so1 R (af 41 38 R R R R R so1 R (af 42 38 R R R R R so1 R (aq 43 R (pit R R) so1 R (ae (wjm _ () (mtE t2) (su5 R R R R R) zn)))))))))))))))))))))))))
 refine an 20 19 R R R R (pof ZjE R) so1 R (an (v := iv ((gx a_list k1).From)) 21 19 R R R R (plx tk_3 pz R R) so1 R (a1 22 (bdO t2 fun v2 hv2 t2 => (ZW (j := 19) R R R R (cz0 ZaI R fun w hw => Zo w ((gx a_list k1).From) 0 4 hv2) (fun _ => (zt so1)) R fun _ => (an 23 19 R R R R (Zd R) so1 R (aq 24 R (pif R R) so1 R (aq 25 R (pom R) so1 R (waO_ (t := 37) t2 R (fun h4 t2 => ?_) fun h4 t2 => ?_))))))))
 exact af 26 25 R R R R R so1 R (af 27 25 R R R R R so1 R (af 28 25 R R R R R so1 R (af 29 25 R R R R R so1 R (aq 30 R (pit R R) so1 R (aq 31 R (pom R) so1 R (af 32 31 R R R R R so1 R (af 33 31 R R R R R so1 R (af 34 31 R R R R R so1 R (af 35 31 R R R R R so1 R (af 36 31 R R R R R so1 R (aq 37 R (pit R R) so1 R (aq 38 R (pom R) so1 R (af 39 38 R R R R R so1 R (af 40 38 R R R R R so1 R (af 41 38 R R R R R so1 R (af 42 38 R R R R R so1 R (aq 43 R (pit R R) so1 R (ae (wjm _ () (mtE t2) (su5 R R R R R) zn)))))))))))))))))))
 refine an 26 25 R R R R (pof Zjv R) so1 R (an (v := iv ((gx a_list k1).To)) 27 25 R R R R (plx tk_3 pz R R) so1 R (a1 28 (bdO t2 fun v3 hv3 t2 => (ZW (j := 25) R R R R (cz0 ZaI R fun w hw => Zo w ((gx a_list k1).To) 0 4 hv3) (fun _ => (zt so1)) R fun _ => (an 29 25 R R R R (Zd R) so1 R (aq 30 R (pif R R) so1 R (aq 31 R (pom R) so1 R (waO_ (t := 43) t2 R (fun h5 t2 => ?_) fun h5 t2 => ?_))))))))
 exact af 32 31 R R R R R so1 R (af 33 31 R R R R R so1 R (af 34 31 R R R R R so1 R (af 35 31 R R R R R so1 R (af 36 31 R R R R R so1 R (aq 37 R (pit R R) so1 R (aq 38 R (pom R) so1 R (af 39 38 R R R R R so1 R (af 40 38 R R R R R so1 R (af 41 38 R R R R R so1 R (af 42 38 R R R R R so1 R (aq 43 R (pit R R) so1 R (ae (wjm _ () (mtE t2) (su5 R R R R R) zn)))))))))))))
 refine an 32 31 R R R R (pof ZjE R) so1 R (an (v := iv ((gx a_list k1).From)) 33 31 R R R R (plx tk_3 pz R R) so1 R (an 34 31 R R R R (pof Zjv R) so1 R (an (v := iv ((gx a_list k1).To)) 35 31 R R R R (plx tk_3 pz R R) so1 R (an 36 31 R R R R (pol R R) so1 R (aq 37 R (pif R R) so1 R (aq 38 R (pom R) so1 R (waO_ (t := 50) t2 R (fun h6 t2 => ?_) fun h6 t2 => ?_)))))))
 exact af 39 38 R R R R R so1 R (af 40 38 R R R R R so1 R (af 41 38 R R R R R so1 R (af 42 38 R R R R R so1 R (aq 43 R (pit R R) so1 R (ae (wjm _ () (mtE t2) (su5 R R R R R) zn))))))
 exact an 39 38 R R R R (pof Zqo R) so1 R (an (v := iv ((gx a_list k1).Sum)) 40 38 R R R R (plx tk_3 pz R R) so1 R (a1 41 (bdO t2 fun v4 hv4 t2 => (ZW (j := 38) R R R R (cz0 ZaI R fun w hw => Zo w ((gx a_list k1).Sum) 1 100000 hv4) (fun _ => (zt so1)) R fun _ => (an 42 38 R R R R (Zd R) so1 R (aq 43 R (pif R R) so1 R (ae (wjm _ () (mtE t2) (su5 R R R R R) zn))))))))
 refine af 8 7 R R R R R so1 R (af 9 7 R R R R R so1 R (af 10 7 R R R R R so1 R (af 11 7 R R R R R so1 R (af 12 7 R R R R R so1 R (af 13 7 R R R R R so1 R (af 14 7 R R R R R so1 R (af 15 7 R R R R R so1 R (af 16 7 R R R R R so1 R (an 17 4 R R R R (pif R R) so1 R (aq 18 R (pif R R) so1 R (aq 19 R (pom R) so1 R (an 20 19 R R R R (pof ZjE R) so1 R (an (v := iv ((gx a_list k1).From)) 21 19 R R R R (plx tk_3 pz R R) so1 R (a1 22 (bdO t2 fun v5 hv5 t2 => (ZW (j := 19) R R R R (cz0 ZaI R fun w hw => Zo w ((gx a_list k1).From) 0 4 hv5) (fun _ => (zt so1)) R fun _ => (an 23 19 R R R R (Zd R) so1 R (aq 24 R (pif R R) so1 R (aq 25 R (pom R) so1 R (waO_ (t := 37) t2 R (fun h7 t2 => ?_) fun h7 t2 => ?_))))))))))))))))))))
 exact af 26 25 R R R R R so1 R (af 27 25 R R R R R so1 R (af 28 25 R R R R R so1 R (af 29 25 R R R R R so1 R (aq 30 R (pit R R) so1 R (aq 31 R (pom R) so1 R (af 32 31 R R R R R so1 R (af 33 31 R R R R R so1 R (af 34 31 R R R R R so1 R (af 35 31 R R R R R so1 R (af 36 31 R R R R R so1 R (aq 37 R (pit R R) so1 R (aq 38 R (pom R) so1 R (af 39 38 R R R R R so1 R (af 40 38 R R R R R so1 R (af 41 38 R R R R R so1 R (af 42 38 R R R R R so1 R (aq 43 R (pit R R) so1 R (ae (wjm _ () (mtE t2) (su5 R R R R R) zn)))))))))))))))))))
 refine an 26 25 R R R R (pof Zjv R) so1 R (an (v := iv ((gx a_list k1).To)) 27 25 R R R R (plx tk_3 pz R R) so1 R (a1 28 (bdO t2 fun v6 hv6 t2 => (ZW (j := 25) R R R R (cz0 ZaI R fun w hw => Zo w ((gx a_list k1).To) 0 4 hv6) (fun _ => (zt so1)) R fun _ => (an 29 25 R R R R (Zd R) so1 R (aq 30 R (pif R R) so1 R (aq 31 R (pom R) so1 R (waO_ (t := 43) t2 R (fun h8 t2 => ?_) fun h8 t2 => ?_))))))))
 exact af 32 31 R R R R R so1 R (af 33 31 R R R R R so1 R (af 34 31 R R R R R so1 R (af 35 31 R R R R R so1 R (af 36 31 R R R R R so1 R (aq 37 R (pit R R) so1 R (aq 38 R (pom R) so1 R (af 39 38 R R R R R so1 R (af 40 38 R R R R R so1 R (af 41 38 R R R R R so1 R (af 42 38 R R R R R so1 R (aq 43 R (pit R R) so1 R (ae (wjm _ () (mtE t2) (su5 R R R R R) zn)))))))))))))
 refine an 32 31 R R R R (pof ZjE R) so1 R (an (v := iv ((gx a_list k1).From)) 33 31 R R R R (plx tk_3 pz R R) so1 R (an 34 31 R R R R (pof Zjv R) so1 R (an (v := iv ((gx a_list k1).To)) 35 31 R R R R (plx tk_3 pz R R) so1 R (an 36 31 R R R R (pol R R) so1 R (aq 37 R (pif R R) so1 R (aq 38 R (pom R) so1 R (waO_ (t := 50) t2 R (fun h9 t2 => ?_) fun h9 t2 => ?_)))))))
 exact af 39 38 R R R R R so1 R (af 40 38 R R R R R so1 R (af 41 38 R R R R R so1 R (af 42 38 R R R R R so1 R (aq 43 R (pit R R) so1 R (ae (wjm _ () (mtE t2) (su5 R R R R R) zn))))))
 exact an 39 38 R R R R (pof Zqo R) so1 R (an (v := iv ((gx a_list k1).Sum)) 40 38 R R R R (plx tk_3 pz R R) so1 R (a1 41 (bdO t2 fun v7 hv7 t2 => (ZW (j := 38) R R R R (cz0 ZaI R fun w hw => Zo w ((gx a_list k1).Sum) 1 100000 hv7) (fun _ => (zt so1)) R fun _ => (an 42 38 R R R R (Zd R) so1 R (aq 43 R (pif R R) so1 R (ae (wjm _ () (mtE t2) (su5 R R R R R) zn))))))))
 intro j1 _ hp
 obtain rfl : j1 = y2 := hp.symm
 refine wqt (wcO t1 R (fun h10 t1 => ?_) fun h10 t1 => ?_)
 refine wcr (asg R R (wnt (wct (wbr (wqr (wqr (wbr (wqr (wqr ?_)))))))))
 replace t0 := lpR t0 l1 t1
 obtain rfl := oi t0
 exact wq1 R R fun w hw => ⟨R, hw.weak zn⟩
 refine wck (wqb (wqt (wcg (wlq (Zj R R (by omega)) R ?_))))
 exact mv R R (wln (Zl hk1 (stpN l1 t1) () (su4 R R R R) zn))
 have c1 : (decide (((k1 : Nat) : Int) < ((a_list.length : Nat) : Int))) = false := ddf (by omega)
 have en1 := foe l1 hk1
 exact wcr (wlq (pls R R) R (wnt (wcs (wff R c1 (wcx (wqe (wqe (wbx (wjm _ () en1 (su1 R) zn)))))))))
 intro e1 _ hp
 replace t0 := sqE (j := e1) t0 hp
 refine wqt (wcr (mv R R (wlq (pln (rga r0) Zge R) R (wlq (Zdf R R) R (asg R R (wnt (wct ?_)))))))
 obtain rfl := oi t0
 exact wq1 R R fun w hw => ⟨R, hw.weak zn⟩

theorem ZgQ (w : World) (a_a : Int) {r : Bool} (t0 : ZdN a_a = some r) : Calls Tryz.prog 106 #[.int .i64 a_a] w fun e w' => e = .returned (.bool r) ∧ SH w [] [] w' := by
 refine cwc (args := [_]) Tryz.func106 R Tryz.ntmps106 R ?_
 unfold ZdN at t0
 refine wcr (asg R R (wnt (wcr (mv R R (bdO t0 fun v1 hv1 t0 => (wlc (cz0 ZaI R fun w hw => Zo w a_a 0 5 hv1) R fun _ => (asg R R (wnt (wct ?_)))))))))
 obtain rfl := oi t0
 exact wq1 R R fun w hw => ⟨R, hw.weak zn⟩

theorem Za9 (w : World) (a_c : GCell) {r : Bool} (t0 : ZaV a_c = some r) : Calls Tryz.prog 87 #[.agg #[.int .i64 a_c.Split, .int .i64 a_c.A, .int .i64 a_c.B]] w fun e w' => e = .returned (.bool r) ∧ SH w [] [] w' := by
 refine cwc (args := [_]) Tryz.func87 R Tryz.ntmps87 R ?_
 unfold ZaV at t0
 refine wcr (wle (Zh R R) R fun b1 => (asg R R (wnt (wcs (bdO t0 fun y1 t1 t0 => (wj (J := Bool) (X := Unit) (fun z => y1 = z) (fun z _ => [(2, .bool z)]) (fun _ _ => []) ?_ ?_))))))
 refine wcg (wlq (pof ZaX R) R (wlq (v := iv a_c.Split) (plx tk_3 pz R R) R (bdO t1 fun v1 hv1 t1 => (wlc (cz0 ZaI R fun w hw => Zo w a_c.Split 0 2 hv1) R fun _ => (mv R R (wlo (t := 6) t1 R (fun h1 t1 => ?_) fun h1 t1 => ?_))))))
 refine wgn (j := 3) R R R (wlq (pof ZaF R) R (wgn (j := 3) R R R (wlq (v := iv a_c.A) (plx tk_3 pz R R) R (bdO t1 fun v2 hv2 t1 => (wgn (j := 3) R R R (wlc (cz0 Zpg R fun w hw => ZgQ w a_c.A hv2) R (fun _ => (wlq (pit R R) R (mv R R (wlo (t := 11) t1 R (fun h2 t1 => ?_) fun h2 t1 => ?_))))))))))
 refine wgn (j := 8) R R R (wlq (pof ZaY R) R (wgn (j := 8) R R R (wlq (v := iv a_c.B) (plx tk_3 pz R R) R (bdO t1 fun v3 hv3 t1 => (wgn (j := 8) R R R (wlc (cz0 Zpg R fun w hw => ZgQ w a_c.B hv3) R (fun _ => (wlq (pit R R) R (mv R R (wlo (t := 16) t1 R (fun h3 t1 => ?_) fun h3 t1 => ?_))))))))))
 exact wgn (j := 13) R R R (wlq (pof ZaX R) R (wgn (j := 13) R R R (wlq (v := iv a_c.Split) (plx tk_3 pz R R) R (wgn (j := 13) R R R (wlq (pol R R) R (wgn (j := 13) R R R (wlq (pof ZaF R) R (wgn (j := 13) R R R (wlq (v := iv a_c.A) (plx tk_3 pz R R) R (wgn (j := 13) R R R (wlq (pof ZaY R) R (wgn (j := 13) R R R (wlq (v := iv a_c.B) (plx tk_3 pz R R) R (wgn (j := 13) R R R (wlq (pol R R) R (wgn (j := 13) R R R (wlq (ZnT ub_4 R R) R (wlq (pit R R) R (asg R R (wln (wjm _ () (mtE t1) (su1 R) zn)))))))))))))))))))))
 exact wgf (j := 13) R R R R R (wgf (j := 13) R R R R R (wgf (j := 13) R R R R R (wgf (j := 13) R R R R R (wgf (j := 13) R R R R R (wgf (j := 13) R R R R R (wgf (j := 13) R R R R R (wgf (j := 13) R R R R R (wgf (j := 13) R R R R R (wlq (pif R R) R (asg R R (wln (wjm _ () (mtE t1) (su1 R) zn))))))))))))
 exact wgf (j := 8) R R R R R (wgf (j := 8) R R R R R (wgf (j := 8) R R R R R (wlq (pif R R) R (mv R R (wgf (j := 13) R R R R R (wgf (j := 13) R R R R R (wgf (j := 13) R R R R R (wgf (j := 13) R R R R R (wgf (j := 13) R R R R R (wgf (j := 13) R R R R R (wgf (j := 13) R R R R R (wgf (j := 13) R R R R R (wgf (j := 13) R R R R R (wlq (pif R R) R (asg R R (wln (wjm _ () (mtE t1) (su1 R) zn)))))))))))))))))
 exact wgf (j := 3) R R R R R (wgf (j := 3) R R R R R (wgf (j := 3) R R R R R (wlq (pif R R) R (mv R R (wgf (j := 8) R R R R R (wgf (j := 8) R R R R R (wgf (j := 8) R R R R R (wlq (pif R R) R (mv R R (wgf (j := 13) R R R R R (wgf (j := 13) R R R R R (wgf (j := 13) R R R R R (wgf (j := 13) R R R R R (wgf (j := 13) R R R R R (wgf (j := 13) R R R R R (wgf (j := 13) R R R R R (wgf (j := 13) R R R R R (wgf (j := 13) R R R R R (wlq (pif R R) R (asg R R (wln (wjm _ () (mtE t1) (su1 R) zn))))))))))))))))))))))
 intro j1 _ hp
 obtain rfl : j1 = y1 := hp.symm
 refine wqt (wct ?_)
 obtain rfl := oi t0
 exact wq1 R R fun w hw => ⟨R, hw.weak zn⟩

theorem ZZ (w : World) (a_b : GBlock) (v0a : Hd) (r0 : rdF w (dm w []) (sl v0a) a_b.Cells) {r : Bool} (t0 : ZY a_b = some r) : Calls Tryz.prog 58 #[.agg #[.int .i64 a_b.Size, (sl v0a)]] w fun e w' => e = .returned (.bool r) ∧ SH w [] [] w' := by
 refine cwc (args := [_]) Tryz.func58 R Tryz.ntmps58 R ?_
 unfold ZY at t0
 refine wcr (wle (Zh R R) R fun b1 => (asg R R (wnt (wcs (wcs (bdO t0 fun y1 t1 t0 => (wj (J := Bool) (X := Unit) (fun z => y1 = z) (fun z _ => [(1, ptr b1 0), (19, .bool z)]) (fun _ _ => [box b1 [iv a_b.Size, (sl v0a)]]) ?_ ?_)))))))
 refine wcg (wlq (pof ZL R) R (wlq (v := iv a_b.Size) (plx tk_3 pz R R) R (bdO t1 fun v1 hv1 t1 => (wlc (cz0 ZaI R fun w hw => Zo w a_b.Size 1 4 hv1) R fun _ => (wlq (Zd R) R (mv R R (wlo (t := 9) t1 R (fun h1 t1 => ?_) fun h1 t1 => ?_)))))))
 exact wgf (j := 4) R R R R R (wgf (j := 4) R R R R R (wgf (j := 4) R R R R R (wgf (j := 4) R R R R R (wgf (j := 4) R R R R R (wgf (j := 4) R R R R R (wgf (j := 4) R R R R R (wgf (j := 4) R R R R R (wgf (j := 4) R R R R R (wlq (pit R R) R (wln (wjm _ () (mtE t1) (su2 R R) so1)))))))))))
 exact wgn (j := 4) R R R (wlq (pof Zx R) R (wgn (j := 4) R R R (wlq (v := (sl v0a)) (plx ZR pz R R) R (wgn (j := 4) R R R (wlq (pln (rga r0) Z7 R) R (wgn (j := 4) R R R (wlq (pof ZL R) R (wgn (j := 4) R R R (wlq (v := iv a_b.Size) (plx tk_3 pz R R) R (wgn (j := 4) R R R (wlq (pof ZL R) R (wgn (j := 4) R R R (wlq (v := iv a_b.Size) (plx tk_3 pz R R) R (wgn (j := 4) R R R (wlq (Zcu R R) R (wgn (j := 4) R R R (wlq (Zeh R R) R (wlq (pif R R) R (wln (wjm _ () (mtE t1) (su2 R R) so1))))))))))))))))))))
 intro j1 _ hp
 obtain rfl : j1 = y1 := hp.symm
 refine wqt (wcO t0 R (fun h2 t0 => ?_) fun h2 t0 => ?_)
 refine wcr (asg R R (wnt (wct (wqr ?_))))
 obtain rfl := oi t0
 exact wq1 R R fun w hw => ⟨R, hw.weak zn⟩
 refine wck (wqt (wcs (wcr (wlq (pof Zx R) R (wlq (v := (sl v0a)) (plx ZR pz R R) R (wlq (pln (rga r0) Z7 R) R (mv R R (wnt (gdO t0 fun g1 t0 => (sqO t0 fun y1 l1 t0 => (wj (J := Unit) (X := Unit) (fun z => y1 = .inl z) (fun _ _ => []) (fun _ _ => []) ?_ ?_)))))))))))
 refine wcb (wcf (X := Unit) l1 (fun k1 s1 x1l => [(21, (sl v0a)), (22, iv ((a_b.Cells.length : Nat) : Int)), (23, iv ((k1 : Nat) : Int))]) (fun k1 s1 x1l => []) () (su3 R R R) zn fun k1 s1 x1l hN1 l1 => ?_)
 by_cases hk1 : k1 < a_b.Cells.length
 refine fos l1 hk1 fun _ t1 l1 => ?_
 unfold Zgm at t1
 have c1 : (decide (((k1 : Nat) : Int) < ((a_b.Cells.length : Nat) : Int))) = true := ddt (by omega)
 refine wcr (wlq (pls R R) R (wnt (wcs (wft R c1 (wck (wqt (wcs (wcb (wcr (wlq (Zv (k := k1) (rga r0) Z7 R R hk1) R (wlq (v := .agg #[iv ((gx a_b.Cells k1).Split), iv ((gx a_b.Cells k1).A), iv ((gx a_b.Cells k1).B)]) (ZaB (rga r0) Zf R hk1 R R R) R (wle (eal (cs := [iv 0, iv 0, iv 0]) Zbj) R fun b2 => (wls (sbx (cs' := [iv ((gx a_b.Cells k1).Split), iv ((gx a_b.Cells k1).A), iv ((gx a_b.Cells k1).B)]) Zf pz R R R R R R R) (wnt (wcr (wlq (v := .agg #[iv ((gx a_b.Cells k1).Split), iv ((gx a_b.Cells k1).A), iv ((gx a_b.Cells k1).B)]) (plb Zf pz R R R) R (bdO t1 fun v2 hv2 t1 => (wlc (cz0 Zib R fun w hw => Za9 w (gx a_b.Cells k1) hv2) R fun _ => (wlq (Zd R) R (wnt (wcO t1 R (fun h3 t1 => ?_) fun h3 t1 => ?_)))))))))))))))))))))
 refine wcr (asg R R (wnt (wct (wbr (wqr (wqr (wbr (wqr (wqr ?_)))))))))
 replace t0 := lpR t0 l1 t1
 obtain rfl := oi t0
 exact wq1 R R fun w hw => ⟨R, hw.weak zn⟩
 refine wck (wqb (wqt (wcg (wlq (Zj R R (by omega)) R ?_))))
 exact mv R R (wln (Zl hk1 (stpN l1 t1) () (su3 R R R) zn))
 have c1 : (decide (((k1 : Nat) : Int) < ((a_b.Cells.length : Nat) : Int))) = false := ddf (by omega)
 have en1 := foe l1 hk1
 exact wcr (wlq (pls R R) R (wnt (wcs (wff R c1 (wcx (wqe (wqe (wbx (wjm _ () en1 yn zn)))))))))
 intro e1 _ hp
 replace t0 := sqE (j := e1) t0 hp
 refine wqt (wcr (asg R R (wnt (wct ?_))))
 obtain rfl := oi t0
 exact wq1 R R fun w hw => ⟨R, hw.weak zn⟩

end Go.Proofs.YtjfjbgihojiijabGreatDoor
