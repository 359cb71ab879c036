/-
 Each Go function computes its Lean function (part 2).
-/
import Derived.Test.YtjfjbgihojiijabGreatDoorWalks1
namespace Go.Proofs.YtjfjbgihojiijabGreatDoor
open Go Go.RowKit Go.Proofs
set_option maxRecDepth 100000

theorem Zqi (w : World) (a_list : List GBooking) (v0a : Hd) (r0 : rdF w (dm w []) (sl v0a) a_list) (a_b : GBooking) {r : (List GBooking) × Bool} (t0 : Zgx a_list a_b = some r) : Calls Tryz.prog 93 #[(sl v0a), .agg #[.int .i64 a_b.Day, .int .i64 a_b.From, .int .i64 a_b.To, .int .i64 a_b.Sum]] w fun e w' => ∃ x : Hd, e = .returned (.tuple #[(sl x), .bool r.2]) ∧ SH w [] [ownF (sl x) r.1] w' := by
 refine cwc (args := [_, _]) Tryz.func93 R Tryz.ntmps93 R ?_
 unfold Zgx at t0
 refine wcr (wle (Zh R R) R fun b1 => (asg R R (asg R R (wnt (wcs (gdO t0 fun g1 t0 => (gdO t0 fun g2 t0 => (wcj (X := Hd) (fun _ => True) (fun z => [(0, (sl v0a)), (6, (sl z))]) (fun z => [ownF (sl z) ((([] : List GBooking) ++ a_list) ++ [a_b])]) ?_ ?_))))))))
 refine wcd [box b1 [iv a_b.Day, iv a_b.From, iv a_b.To, iv a_b.Sum]] 7 mixed (aq 1 R (pom R) so1 R (aq (v := .agg #[iv a_b.Day, iv a_b.From, iv a_b.To, iv a_b.Sum]) 3 R (plb Zm7 pz R R R) so1 R (wa_2 (i := 0) (j := 4) (by kernel_rfl) ?_ ?_)))
 refine wse R (ebs R ZaJ) (fun _ => (zt (zc pk1 zn))) R fun b2 => wa_2 (i := 2) (j := 4) (by kernel_rfl) ?_ ?_
 refine wse R (Zg (xs := ([] : List GBooking)) (ys := a_list) Zd3 (pbo pz (n := 0) (xs := ([] : List GBooking)) R R (by unfold maxLen; omega)) R R (Zi fun _ g => Rg.on (rga r0) g) g1) (fun _ => (zt (zc pk1 zn))) R fun x1 => ?_
 refine a1 4 (wse R (ebs R (Zjw a_b.Day a_b.From a_b.To a_b.Sum)) (fun _ => (zt (zc pk2 zn))) R fun b3 => (a1 5 (wse R (Zg (xs := (([] : List GBooking) ++ a_list)) (ys := ([a_b] : List GBooking)) Zd3 pk1 R R (Zi fun _ g => Rg.on (rgo (pbo pz (n := 1) (xs := ([a_b] : List GBooking)) R R (by unfold maxLen; omega))) g) g2) (fun _ => (zt (zc pk2 zn))) R fun x2 => ?_)))
 exact aq 6 R (Zu R) (zc pk2 zn) R (ae (wqm x2 trivial (su2 R R) so1))
 refine wse R (ebs R (Zjw a_b.Day a_b.From a_b.To a_b.Sum)) (fun _ => (zt (zc pk2 zn))) R fun b4 => a1 2 (wse R (Zg (xs := ([] : List GBooking)) (ys := a_list) Zd3 (pbo pk1 (n := 0) (xs := ([] : List GBooking)) R R (by unfold maxLen; omega)) R R (Zi fun _ g => Rg.on (rga r0) g) g1) (fun _ => (zt (zc pk2 zn))) R fun x3 => ?_)
 refine a1 5 (wse R (Zg (xs := (([] : List GBooking) ++ a_list)) (ys := ([a_b] : List GBooking)) Zd3 pz R R (Zi fun _ g => Rg.on (rgo (pbo pk1 (n := 1) (xs := ([a_b] : List GBooking)) R R (by unfold maxLen; omega))) g) g2) (fun _ => (zt (zc pk2 zn))) R fun x4 => ?_)
 exact aq 6 R (Zu R) (zc pk2 zn) R (ae (wqm x4 trivial (su2 R R) so1))
 refine wse R (ebs R (Zjw a_b.Day a_b.From a_b.To a_b.Sum)) (fun _ => (zt (zc pk1 zn))) R fun b5 => a1 0 (wse R (ebs R ZaJ) (fun _ => (zt (zc pk2 zn))) R fun b6 => (a1 2 (wse R (Zg (xs := ([] : List GBooking)) (ys := a_list) Zd3 (pbo pz (n := 0) (xs := ([] : List GBooking)) R R (by unfold maxLen; omega)) R R (Zi fun _ g => Rg.on (rga r0) g) g1) (fun _ => (zt (zc pk2 zn))) R fun x5 => ?_)))
 refine a1 5 (wse R (Zg (xs := (([] : List GBooking) ++ a_list)) (ys := ([a_b] : List GBooking)) Zd3 pz R R (Zi fun _ g => Rg.on (rgo (pbo pk1 (n := 1) (xs := ([a_b] : List GBooking)) R R (by unfold maxLen; omega))) g) g2) (fun _ => (zt (zc pk2 zn))) R fun x6 => ?_)
 exact aq 6 R (Zu R) (zc pk2 zn) R (ae (wqm x6 trivial (su2 R R) so1))
 intro x7 _
 refine wqt (wcs (wcs (bdO t0 fun y1 t1 t0 => (wj (J := Bool) (X := Unit) (fun z => y1 = z) (fun z _ => [(0, (sl v0a)), (6, (sl x7)), (20, .bool z)]) (fun _ _ => [ownF (sl x7) ((([] : List GBooking) ++ a_list) ++ [a_b])]) ?_ ?_))))
 refine wcg (mv R R (bdO t1 fun v1 hv1 t1 => (wlc (cz0 ZrS R fun w hw => Zh7 w a_list v0a (ra r0 hw) hv1) R fun _ => (wlq (Zd R) R (mv R R (wlo (t := 16) t1 R (fun h1 t1 => ?_) fun h1 t1 => ?_))))))
 exact wgf (j := 3) R R R R R (wgf (j := 3) R R R R R (wgf (j := 3) R R R R R (wlq (pit R R) R (wln (wjm _ () (mtE t1) (su3 R R R) so1)))))
 exact wgn (j := 3) R R R (mv R R (bdO t1 fun v2 hv2 t1 => (wgn (j := 3) R R R (wlc (cz0 ZrS R fun w hw => Zh7 w ((([] : List GBooking) ++ a_list) ++ [a_b]) x7 (Rg.on (rgo pz) hw) hv2) R (fun _ => (wgn (j := 3) R R R (wlq (Zd R) R (wlq (pif R R) R (wln (wjm _ () (mtE t1) (su3 R R R) so1))))))))))
 intro j1 _ hp
 obtain rfl : j1 = y1 := hp.symm
 refine wqt (wcO t0 R (fun h2 t0 => ?_) fun h2 t0 => ?_)
 refine wcr (wle (ebs R ZaJ) R fun b7 => (mv R R (wle (Zg (xs := ([] : List GBooking)) (ys := a_list) Zd3 (pbo pz (n := 0) (xs := ([] : List GBooking)) R R (by unfold maxLen; omega)) R R (Zi fun _ g => Rg.on (rga r0) g) g1) R fun x9 => ?_)))
 refine asg R R (asg R R (wnt (wct (wqr ?_))))
 obtain rfl := oi t0
 exact Z0 R R R fun w hw => ⟨x9, R, hw.weak so1⟩
 refine wck (wqt (wcr (mv R R (asg R R (asg R R (wnt (wct ?_)))))))
 obtain rfl := oi t0
 exact Z0 R R R fun w hw => ⟨x7, R, hw.weak so1⟩

theorem Zmy (w : World) (a_g : GGuild) (v0a : Hd) (r0 : rdF w (dm w []) (sl v0a) a_g.Members) (v1a : Hd) (r1 : rdF w (dm w []) (sl v1a) a_g.Stock) (v2a : Hd) (u2a : List Value) (r2 : RdL w (dm w []) (sl v2a) u2a a_g.Entries) (v3a : Hd) (r3 : rdF w (dm w []) (sl v3a) a_g.Books) (a_number : Int) {r : GGuild × Bool} (t0 : ZcO a_g a_number = some r) : Calls Tryz.prog 63 #[.agg #[(sl v0a), (sl v1a), (sl v2a), (sl v3a), .int .i64 a_g.Round, .int .i64 a_g.Year], .int .i64 a_number] w fun e w' => ∃ x : Hd × Hd × Hd × (List Value) × Hd, e = .returned (.tuple #[.agg #[(sl x.1), (sl x.2.1), (sl x.2.2.1), (sl x.2.2.2.2), .int .i64 r.1.Round, .int .i64 r.1.Year], .bool r.2]) ∧ SH w [] [ownF (sl x.1) r.1.Members, ownF (sl x.2.1) r.1.Stock, own (sl x.2.2.1) x.2.2.2.1 r.1.Entries, ownF (sl x.2.2.2.2) r.1.Books] w' := by
 refine cwc (args := [_, _]) Tryz.func63 R Tryz.ntmps63 R ?_
 unfold ZcO at t0
 refine wcr (wle (Zh R R) R fun b1 => (wle (eal (cs := [(sl hn), (sl hn), (sl hn), (sl hn), iv 0, iv 0]) ZF) R fun b2 => (asg R R (wnt (wcr (wlq (v := .agg #[(sl v0a), (sl v1a), (sl v2a), (sl v3a), iv a_g.Round, iv a_g.Year]) (plb Zc pk1 R R R) R (bdO t0 fun v1 hv1 t0 => (wlc (ZaM Zne R fun w hw => ZdC w a_g v0a (ra r0 hw) v1a (ra r1 hw) v2a u2a (ra r2 hw) v3a (ra r3 hw) hv1) R fun x1 => (wle (eal (cs := [(sl hn), (sl hn), (sl hn), (sl hn), iv 0, iv 0]) ZF) R fun b3 => (wls (sbx (cs' := [(sl x1.1), (sl x1.2.1), (sl x1.2.2.1), (sl x1.2.2.2.2), iv v1.Round, iv v1.Year]) Zc pz R R R R R R R) (wnt (wcs (wcs (bdO t0 fun y1 t1 t0 => (wj (J := Bool) (X := Unit) (fun z => y1 = z) (fun z _ => [(1, iv a_number), (2, ptr b1 0), (4, ptr b2 0), (6, ptr b3 0), (24, .bool z)]) (fun _ _ => [box b3 [(sl x1.1), (sl x1.2.1), (sl x1.2.2.1), (sl x1.2.2.2.2), iv v1.Round, iv v1.Year], box b2 [(sl hn), (sl hn), (sl hn), (sl hn), iv 0, iv 0], box b1 [(sl v0a), (sl v1a), (sl v2a), (sl v3a), iv a_g.Round, iv a_g.Year], ownF (sl x1.1) v1.Members, ownF (sl x1.2.1) v1.Stock, own (sl x1.2.2.1) x1.2.2.2.1 v1.Entries, ownF (sl x1.2.2.2.2) v1.Books]) ?_ ?_)))))))))))))))
 refine wcg (wlq (v := .agg #[(sl v0a), (sl v1a), (sl v2a), (sl v3a), iv a_g.Round, iv a_g.Year]) (plb Zc pk6 R R R) R (bdO t1 fun v2 hv2 t1 => (wlc (cz0 Zlz R fun w hw => ZcH w a_g v0a (ra r0 hw) v1a (ra r1 hw) v2a u2a (ra r2 hw) v3a (ra r3 hw) hv2) R fun _ => (wlq (Zd R) R (mv R R (wlo (t := 20) t1 R (fun h1 t1 => ?_) fun h1 t1 => ?_))))))
 exact wgf (j := 3) R R R R R (wgf (j := 3) R R R R R (wgf (j := 3) R R R R R (wlq (pit R R) R (wln (wjm _ () (mtE t1) (su5 R R R R R) (zc pz (zc pk4 (zc pk4 so4))))))))
 exact wgn (j := 3) R R R (wlq (pof Zdz R) R (wgn (j := 3) R R R (wlq (v := iv a_g.Round) (plx tk_3 pk6 R R) R (wgn (j := 3) R R R (wlq (Zeh R R) R (wlq (pif R R) R (wln (wjm _ () (mtE t1) (su5 R R R R R) (zc pz (zc pk4 (zc pk4 so4)))))))))))
 intro j1 _ hp
 obtain rfl : j1 = y1 := hp.symm
 refine wqt (wcO t0 R (fun h2 t0 => ?_) fun h2 t0 => ?_)
 refine wcr (wlq (v := .agg #[(sl x1.1), (sl x1.2.1), (sl x1.2.2.1), (sl x1.2.2.2.2), iv v1.Round, iv v1.Year]) (plb Zc pz R R R) R (wls (sbx (cs' := [(sl x1.1), (sl x1.2.1), (sl x1.2.2.1), (sl x1.2.2.2.2), iv v1.Round, iv v1.Year]) Zc pk1 R R R R R R R) (asg R R (wnt (wct (wqr ?_))))))
 obtain rfl := oi t0
 exact ZG R Zc R R pz R fun w hw => ⟨(x1.1, x1.2.1, x1.2.2.1, x1.2.2.2.1, x1.2.2.2.2), R, hw.weak (zc pk3 (zc pk3 (zc pk3 (zc pk3 zn))))⟩
 refine wck (wqt (wcr (asg R R (wnt (wcs (wcr (wlq (pof ZdB R) R (wlq (v := (sl v3a)) (plx Zg5 pk2 R R) R (wlq (pln (rga r3) Zge R) R (wlq (ZaD R R) R (wnt (bdO t0 fun y1 t1 t0 => (wj (J := Int) (X := Unit) (fun z => y1 = z) (fun z _ => [(1, iv a_number), (2, ptr b1 0), (4, ptr b2 0), (6, ptr b3 0), (7, iv z)]) (fun _ _ => [box b3 [(sl x1.1), (sl x1.2.1), (sl x1.2.2.1), (sl x1.2.2.2.2), iv v1.Round, iv v1.Year], box b2 [(sl hn), (sl hn), (sl hn), (sl hn), iv 0, iv 0], box b1 [(sl v0a), (sl v1a), (sl v2a), (sl v3a), iv a_g.Round, iv a_g.Year], ownF (sl x1.1) v1.Members, ownF (sl x1.2.1) v1.Stock, own (sl x1.2.2.1) x1.2.2.2.1 v1.Entries, ownF (sl x1.2.2.2.2) v1.Books]) ?_ ?_)))))))))))))
 refine wcO t1 R (fun h3 t1 => ?_) fun h3 t1 => ?_
 exact wcg (wlq (pof ZdB R) R (wlq (v := (sl v3a)) (plx Zg5 pk2 R R) R (wlq (pof ZdB R) R (wlq (v := (sl v3a)) (plx Zg5 pk2 R R) R (wlq (pln (rga r3) Zge R) R (wlq (Zad R R) R (gdO t1 fun g1 t1 => (wlq (Z8 (rga r3) Zge R R g1.1 g1.2) R (wlq (Zak (rga r3) (ZK g1) ZhU R) R (wlq (v := iv ((gx a_g.Books (((wr (((a_g.Books.length : Nat) : Int) - 1))).toNat)).Day)) (ZD (rga r3) tk_3 R (ZK g1) R) R (asg R R (wln (wjm _ () (mtE t1) (su5 R R R R R) so7)))))))))))))
 exact wck (wjm _ () (mtE t1) (su5 R R R R R) so7)
 intro j2 _ hp
 obtain rfl : j2 = y1 := hp.symm
 refine wqt (wcr (wlq (pof Zcl R) R (wlq (v := (sl v0a)) (plx Zet pk2 R R) R (mv R R (wlq (pof ZeK R) R (wlq (v := iv a_g.Year) (plx tk_3 pk2 R R) R (bdO t0 fun v3 hv3 t0 => (wlc (cz1 ZxR R fun w hw => ZoG w a_g.Members v0a (ra r0 hw) a_number a_g.Year hv3) R fun x4 => (mv R R (wlq (pex R R) R (wlq (pex R R) R (asg R R (asg R R (wnt (wcr (mv R R (mv R R (bdO t0 fun v4 hv4 t0 => (wlc (cz1 Zx6 R fun w hw => ZpR w v3.1 x4 (Rg.on (rgo pz) hw) a_number 1 hv4) R fun x5 => (mv R R (wlq (pex R R) R (wlq (pex R R) R (asg R R (asg R R (wnt (wcr (wlq (pof ZdB R) R (wlq (v := (sl v3a)) (plx Zg5 pk4 R R) R (mv R R (wlq (Zk R (ZlX j2 0 1 20)) R (bdO t0 fun v5 hv5 t0 => (wlc (cz1 ZxV R fun w hw => Zqi w a_g.Books v3a (ra r3 hw) (GBooking.mk j2 0 1 20) hv5) R fun x6 => (mv R R (wlq (pex R R) R (wlq (pex R R) R (asg R R (asg R R (wnt (wcs ?_)))))))))))))))))))))))))))))))))))))))
 refine wcs (wcj (X := Unit) (fun _ => True) (fun _ => [(2, ptr b1 0), (4, ptr b2 0), (6, ptr b3 0), (10, (sl x5)), (12, (sl x6)), (71, .bool ((!v3.2) || ((!v4.2) || (!v5.2))))]) (fun _ => [box b3 [(sl x1.1), (sl x1.2.1), (sl x1.2.2.1), (sl x1.2.2.2.2), iv v1.Round, iv v1.Year], box b2 [(sl hn), (sl hn), (sl hn), (sl hn), iv 0, iv 0], box b1 [(sl v0a), (sl v1a), (sl v2a), (sl v3a), iv a_g.Round, iv a_g.Year], ownF (sl x5) v4.1, ownF (sl x6) v5.1, ownF (sl x1.1) v1.Members, ownF (sl x1.2.1) v1.Stock, own (sl x1.2.2.1) x1.2.2.2.1 v1.Entries, ownF (sl x1.2.2.2.2) v1.Books]) ?_ ?_)
 refine wcg (mv R R (wlq (Zd R) R (mv R R (Zah (t := 64) R (fun h4 => ?_) fun h4 => ?_))))
 exact wgf (j := 2) R R R R R (wgf (j := 2) R R R R R (wlq (pit R R) R (mv R R (wgf (j := 6) R R R R R (wgf (j := 6) R R R R R (wlq (pit R R) R (wln (wqm () trivial (yc R (yc R (yc R (yc R (yc R (Z2 R (by rw [h4]; rfl) yn)))))) (zc pk3 (zc pk3 (zc pk3 (zc pk1 (zc pz (zc pk1 (zc pk1 (zc pk1 (zc pk1 zn)))))))))))))))))
 refine wgn (j := 2) R R R (mv R R (wgn (j := 2) R R R (wlq (Zd R) R (wlq (pif R R) R (mv R R (Zah (t := 68) R (fun h5 => ?_) fun h5 => ?_))))))
 exact wgf (j := 6) R R R R R (wgf (j := 6) R R R R R (wlq (pit R R) R (wln (wqm () trivial (yc R (yc R (yc R (yc R (yc R (Z2 R (by rw [h4, h5]; rfl) yn)))))) (zc pk3 (zc pk3 (zc pk3 (zc pk1 (zc pz (zc pk1 (zc pk1 (zc pk1 (zc pk1 zn)))))))))))))
 exact wgn (j := 6) R R R (mv R R (wgn (j := 6) R R R (wlq (Zd R) R (wlq (pif R R) R (wln (wqm () trivial (yc R (yc R (yc R (yc R (yc R (Z2 R (by rw [h4, h5]; rfl) yn)))))) (zc pk3 (zc pk3 (zc pk3 (zc pk1 (zc pz (zc pk1 (zc pk1 (zc pk1 (zc pk1 zn)))))))))))))))
 intro _ _
 refine wqt (wcO t0 R (fun h6 t0 => ?_) fun h6 t0 => ?_)
 refine wcr (wlq (v := .agg #[(sl x1.1), (sl x1.2.1), (sl x1.2.2.1), (sl x1.2.2.2.2), iv v1.Round, iv v1.Year]) (plb Zc pz R R R) R (wls (sbx (cs' := [(sl x1.1), (sl x1.2.1), (sl x1.2.2.1), (sl x1.2.2.2.2), iv v1.Round, iv v1.Year]) Zc pk1 R R R R R R R) (asg R R (wnt (wct (wqr ?_))))))
 obtain rfl := oi t0
 exact ZG R Zc R R pz R fun w hw => ⟨(x1.1, x1.2.1, x1.2.2.1, x1.2.2.2.1, x1.2.2.2.2), R, hw.weak (zc pk5 (zc pk5 (zc pk5 (zc pk5 zn))))⟩
 refine wck (wqt (wcr (wlq (v := .agg #[(sl v0a), (sl v1a), (sl v2a), (sl v3a), iv a_g.Round, iv a_g.Year]) (plb Zc pk2 R R R) R (bdO t0 fun v6 hv6 t0 => (wlc (ZaM Zne R fun w hw => ZdC w a_g v0a (ra r0 hw) v1a (ra r1 hw) v2a u2a (ra r2 hw) v3a (ra r3 hw) hv6) R fun x8 => (wle (eal (cs := [(sl hn), (sl hn), (sl hn), (sl hn), iv 0, iv 0]) ZF) R fun b4 => (wls (sbx (cs' := [(sl x8.1), (sl x8.2.1), (sl x8.2.2.1), (sl x8.2.2.2.2), iv v6.Round, iv v6.Year]) Zc pz R R R R R R R) (wnt (wcr (mv R R (wlq (pof Zcl R) R (wls (sbx (cs' := [(sl x5), (sl x8.2.1), (sl x8.2.2.1), (sl x8.2.2.2.2), iv v6.Round, iv v6.Year]) Zet pz R R R R R R R) (wnt (wcr (mv R R (wlq (pof ZdB R) R (wls (sbx (cs' := [(sl x5), (sl x8.2.1), (sl x8.2.2.1), (sl x6), iv v6.Round, iv v6.Year]) Zg5 pz R R R R R R R) (wnt (wcs (wcr (wlq (v := .agg #[(sl x5), (sl x8.2.1), (sl x8.2.2.1), (sl x6), iv v6.Round, iv v6.Year]) (plb Zc pz R R R) R (bdO t0 fun v7 hv7 t0 => (wlc (cz0 Zlz R fun w hw => ZcH w (GGuild.mk v4.1 v6.Stock v6.Entries v5.1 v6.Round v6.Year) x5 (Rg.on (rgo pk8) hw) x8.2.1 (Rg.on (rgo pk2) hw) x8.2.2.1 x8.2.2.2.1 (Rg.on (rgo pk3) hw) x6 (Rg.on (rgo pk9) hw) hv7) R fun _ => (wlq (Zd R) R (wnt (wcO t0 R (fun h7 t0 => ?_) fun h7 t0 => ?_))))))))))))))))))))))))))
 refine wcr (wlq (v := .agg #[(sl x1.1), (sl x1.2.1), (sl x1.2.2.1), (sl x1.2.2.2.2), iv v1.Round, iv v1.Year]) (plb Zc pk5 R R R) R (wls (sbx (cs' := [(sl x1.1), (sl x1.2.1), (sl x1.2.2.1), (sl x1.2.2.2.2), iv v1.Round, iv v1.Year]) Zc pk6 R R R R R R R) (asg R R (wnt (wct (wqr ?_))))))
 obtain rfl := oi t0
 exact ZG R Zc R R pz R fun w hw => ⟨(x1.1, x1.2.1, x1.2.2.1, x1.2.2.2.1, x1.2.2.2.2), R, hw.weak (zc pk10 (zc pk10 (zc pk10 (zc pk10 zn))))⟩
 refine wck (wqt (wcr (wlq (v := .agg #[(sl x5), (sl x8.2.1), (sl x8.2.2.1), (sl x6), iv v6.Round, iv v6.Year]) (plb Zc pz R R R) R (wls (sbx (cs' := [(sl x5), (sl x8.2.1), (sl x8.2.2.1), (sl x6), iv v6.Round, iv v6.Year]) Zc pk6 R R R R R R R) (asg R R (wnt (wct ?_)))))))
 obtain rfl := oi t0
 exact ZG R Zc R R pz R fun w hw => ⟨(x5, x8.2.1, x8.2.2.1, x8.2.2.2.1, x6), R, hw.weak (zc pk8 (zc pk3 (zc pk3 (zc pk6 zn))))⟩

theorem ZmD (w : World)  {r : GGuild} (t0 : ZbQ = some r) : Calls Tryz.prog 30 #[] w fun e w' => ∃ x : Hd × Hd × Hd × (List Value) × Hd, e = .returned (.agg #[(sl x.1), (sl x.2.1), (sl x.2.2.1), (sl x.2.2.2.2), .int .i64 r.Round, .int .i64 r.Year]) ∧ SH w [] [ownF (sl x.1) r.Members, ownF (sl x.2.1) r.Stock, own (sl x.2.2.1) x.2.2.2.1 r.Entries, ownF (sl x.2.2.2.2) r.Books] w' := by
 refine cwc (args := []) Tryz.func30 R Tryz.ntmps30 R ?_
 unfold ZbQ at t0
 refine wcr (wle (eal (cs := [(sl hn), (sl hn), (sl hn), (sl hn), iv 0, iv 0]) ZF) R fun b1 => (wnt (wcr (bdO t0 fun v1 hv1 t0 => (wlc (ZaM Zvu R fun w hw => Zkn w 2020 hv1) R fun x1 => (mv R R (wlq (pex R R) R (wlq (pex R R) R (wle (eal (cs := [(sl hn), (sl hn), (sl hn), (sl hn), iv 0, iv 0]) ZF) R fun b2 => (wls (sbx (cs' := [(sl x1.1), (sl x1.2.1), (sl x1.2.2.1), (sl x1.2.2.2.2), iv v1.1.Round, iv v1.1.Year]) Zc pz R R R R R R R) (asg R R (wnt (wcs (wcr (asg R R (wnt (Zr t0 fun y1 l1 t0 => (wj (J := (List GMember) × (List Int) × (List GEntry) × (List GBooking) × Int × Int) (X := Hd × Hd × Hd × (List Value) × Hd) (fun z => y1 = z) (fun _ _ => [(0, ptr b1 0), (1, ptr b2 0)]) (fun z x => [box b2 [(sl x.1), (sl x.2.1), (sl x.2.2.1), (sl x.2.2.2.2), iv z.2.2.2.2.1, iv z.2.2.2.2.2], ownF (sl x.1) z.1, ownF (sl x.2.1) z.2.1, own (sl x.2.2.1) x.2.2.2.1 z.2.2.1, ownF (sl x.2.2.2.2) z.2.2.2.1, box b1 [(sl hn), (sl hn), (sl hn), (sl hn), iv 0, iv 0]]) ?_ ?_))))))))))))))))))
 refine wcb (wcf (X := Hd × Hd × Hd × (List Value) × Hd) l1 (fun k1 s1 x1l => [(0, ptr b1 0), (1, ptr b2 0), (3, iv (((k1 + 1) : Nat) : Int))]) (fun k1 s1 x1l => [box b2 [(sl x1l.1), (sl x1l.2.1), (sl x1l.2.2.1), (sl x1l.2.2.2.2), iv s1.2.2.2.2.1, iv s1.2.2.2.2.2], ownF (sl x1l.1) s1.1, ownF (sl x1l.2.1) s1.2.1, own (sl x1l.2.2.1) x1l.2.2.2.1 s1.2.2.1, ownF (sl x1l.2.2.2.2) s1.2.2.2.1, box b1 [(sl hn), (sl hn), (sl hn), (sl hn), iv 0, iv 0]]) (x1.1, x1.2.1, x1.2.2.1, x1.2.2.2.1, x1.2.2.2.2) (su3 R R R) so6 fun k1 s1 x1l hN1 l1 => ?_)
 by_cases hk1 : k1 < 3
 refine fos l1 hk1 fun _ t1 l1 => ?_
 unfold Zcw at t1
 have c1 : (decide ((((k1 + 1) : Nat) : Int) ≤ 3)) = true := ddt (by omega)
 refine wcs (wcr (mv R R (wlq (Zdf R R) R (wnt (wft R c1 (wck (wqt (wcs (wcb (wcg (wlq (v := .agg #[(sl x1l.1), (sl x1l.2.1), (sl x1l.2.2.1), (sl x1l.2.2.2.2), iv s1.2.2.2.2.1, iv s1.2.2.2.2.2]) (plb Zc pz R R R) R (mv R R (bdO t1 fun v2 hv2 t1 => (wlc (ZaM Zvx R fun w hw => Zmy w (GGuild.mk s1.1 s1.2.1 s1.2.2.1 s1.2.2.2.1 s1.2.2.2.2.1 s1.2.2.2.2.2) x1l.1 (Rg.on (rgo pk1) hw) x1l.2.1 (Rg.on (rgo pk2) hw) x1l.2.2.1 x1l.2.2.2.1 (Rg.on (rgo pk3) hw) x1l.2.2.2.2 (Rg.on (rgo pk4) hw) (((k1 + 1) : Nat) : Int) hv2) R fun x3 => (mv R R (wlq (pex R R) R (wlq (pex R R) R (wls (sbx (cs' := [(sl x3.1), (sl x3.2.1), (sl x3.2.2.1), (sl x3.2.2.2.2), iv v2.1.Round, iv v2.1.Year]) Zc pk4 R R R R R R R) (wln (wqb (wqt (wcg (mv R R (wlq (Zj R R (by omega)) R ?_))))))))))))))))))))))))
 exact asg R R (wln (Zl hk1 (stpN l1 t1) (x3.1, x3.2.1, x3.2.2.1, x3.2.2.2.1, x3.2.2.2.2) (su3 R R R) (zc pz (zc pz (zc pz (zc pz (zc pz (zc pk4 zn))))))))
 have c1 : (decide ((((k1 + 1) : Nat) : Int) ≤ 3)) = false := ddf (by omega)
 have en1 := foe l1 hk1
 exact wcs (wcr (mv R R (wlq (Zdf R R) R (wnt (wff R c1 (wcx (wqe (wqe (wbx (wjm _ (x1l.1, x1l.2.1, x1l.2.2.1, x1l.2.2.2.1, x1l.2.2.2.2) (Sum.inl.inj en1) (su2 R R) so6))))))))))
 intro e1 x2 hp
 obtain rfl : e1 = y1 := hp.symm
 refine wqt (wcr (wlq (v := .agg #[(sl x2.1), (sl x2.2.1), (sl x2.2.2.1), (sl x2.2.2.2.2), iv e1.2.2.2.2.1, iv e1.2.2.2.2.2]) (plb Zc pz R R R) R (wls (sbx (cs' := [(sl x2.1), (sl x2.2.1), (sl x2.2.2.1), (sl x2.2.2.2.2), iv e1.2.2.2.2.1, iv e1.2.2.2.2.2]) Zc pk5 R R R R R R R) (wnt (wct ?_)))))
 obtain rfl := oi t0
 exact wqc R Zc R pz R fun w hw => ⟨(x2.1, x2.2.1, x2.2.2.1, x2.2.2.2.1, x2.2.2.2.2), R, hw.weak (zc pk2 (zc pk2 (zc pk2 (zc pk2 zn))))⟩

theorem Zoc (w : World) (a_a : Int) {r : GCell} (t0 : ZcM a_a = some r) : Calls Tryz.prog 119 #[.int .i64 a_a] w fun e w' => e = .returned (.agg #[.int .i64 r.Split, .int .i64 r.A, .int .i64 r.B]) ∧ SH w [] [] w' := by
 refine cwc (args := [_]) Tryz.func119 R Tryz.ntmps119 R ?_
 unfold ZcM at t0
 refine wcr (wle (eal (cs := [iv 0, iv 0, iv 0]) Zbj) R fun b1 => (wnt (wcs (wcr (mv R R (bdO t0 fun v1 hv1 t0 => (wlc (cz0 Zbo R fun w hw => ZT w a_a 0 5 hv1) R fun _ => (wlq (Zd R) R (wnt (wcO t0 R (fun h1 t0 => ?_) fun h1 t0 => ?_))))))))))
 refine wcr (wlq (Zk R ZgH) R (wls (sbx (cs' := [iv 0, iv 0, iv 0]) Zf pz R R R R R R R) (wnt (wct (wqr ?_)))))
 obtain rfl := oi t0
 exact wqc R Zf R pz R fun w hw => ⟨R, hw.weak zn⟩
 refine wck (wqt (wcr (mv R R (mv R R (wlq (Zk R (ZpJ a_a a_a)) R (wls (sbx (cs' := [iv 0, iv a_a, iv a_a]) Zf pz R R R R R R R) (wnt (wct ?_))))))))
 obtain rfl := oi t0
 exact wqc R Zf R pz R fun w hw => ⟨R, hw.weak zn⟩

theorem Zj1 (w : World) (a_split : Int) (a_a : Int) (a_b : Int) {r : GCell} (t0 : ZcG a_split a_a a_b = some r) : Calls Tryz.prog 94 #[.int .i64 a_split, .int .i64 a_a, .int .i64 a_b] w fun e w' => e = .returned (.agg #[.int .i64 r.Split, .int .i64 r.A, .int .i64 r.B]) ∧ SH w [] [] w' := by
 refine cwc (args := [_, _, _]) Tryz.func94 R Tryz.ntmps94 R ?_
 unfold ZcG at t0
 refine wcr (wle (eal (cs := [iv 0, iv 0, iv 0]) Zbj) R fun b1 => (wnt (wcs (wcr (mv R R (mv R R (wlq (pol R R) R (wnt (wcO t0 R (fun h1 t0 => ?_) fun h1 t0 => ?_)))))))))
 refine wcr (mv R R (bdO t0 fun v1 hv1 t0 => (wlc (cz0 Zxi R fun w hw => Zoc w a_a hv1) R fun _ => (wls (sbx (cs' := [iv v1.Split, iv v1.A, iv v1.B]) Zf pz R R R R R R R) (wnt (wct (wqr ?_)))))))
 obtain rfl := oi t0
 exact wqc R Zf R pz R fun w hw => ⟨R, hw.weak zn⟩
 refine wck (wqt (wcr (mv R R (mv R R (mv R R (wlq (Zk R (ZcV a_split a_a a_b)) R (wle (eal (cs := [iv 0, iv 0, iv 0]) Zbj) R fun b2 => (wls (sbx (cs' := [iv a_split, iv a_a, iv a_b]) Zf pz R R R R R R R) (wnt (wcs (wcr (wlq (v := .agg #[iv a_split, iv a_a, iv a_b]) (plb Zf pz R R R) R (bdO t0 fun v2 hv2 t0 => (wlc (cz0 ZjL R fun w hw => Zc7 w (GCell.mk a_split a_a a_b) hv2) R fun _ => (wlq (Zd R) R (wnt (wcO t0 R (fun h2 t0 => ?_) fun h2 t0 => ?_)))))))))))))))))
 refine wcr (wlq (Zk R ZgH) R (wls (sbx (cs' := [iv 0, iv 0, iv 0]) Zf pk1 R R R R R R R) (wnt (wct (wqr ?_)))))
 obtain rfl := oi t0
 exact wqc R Zf R pz R fun w hw => ⟨R, hw.weak zn⟩
 refine wck (wqt (wcr (wlq (v := .agg #[iv a_split, iv a_a, iv a_b]) (plb Zf pz R R R) R (wls (sbx (cs' := [iv a_split, iv a_a, iv a_b]) Zf pk1 R R R R R R R) (wnt (wct ?_))))))
 obtain rfl := oi t0
 exact wqc R Zf R pz R fun w hw => ⟨R, hw.weak zn⟩

theorem ZpP (w : World) (fp : List Nat) (b0p : Nat) (a_c0 : List UInt8) (v0a : Hd) (r0 : rdF w (dm w fp) (sl v0a) a_c0) (a_c1 : Int) (a_c2 : Int) (o : Ow w [box b0p [(sl v0a), .int .i64 a_c1, .int .i64 a_c2]] fp) {r : GCell × Int × Int} (t0 : ZgB a_c0 a_c1 a_c2 = some r) : Calls Tryz.prog 64 #[ptr b0p 0] w fun e w' => ∃ _x : Unit, e = .returned (.agg #[.int .i64 r.1.Split, .int .i64 r.1.A, .int .i64 r.1.B]) ∧ SH w fp [box b0p [(sl v0a), .int .i64 r.2.1, .int .i64 r.2.2]] w' := by
 refine ZaS (args := [_]) o Tryz.func64 R Tryz.ntmps64 R ?_
 unfold ZgB at t0
 refine wcr (wle (eal (cs := [iv 0, iv 0, iv 0]) Zbj) R fun b1 => (wnt (wcr (mv R R (bdO t0 fun v1 hv1 t0 => (wlc (Zbi [box b0p [(sl v0a), iv a_c1, iv a_c2]] Zdu (zc pk1 Zz) R fun w fp hw => ZQ w fp b0p a_c0 v0a ((Zt r0) w fp hw) a_c1 a_c2 3 hw.ow hv1) R fun _ => (mv R R (bdO t0 fun v2 hv2 t0 => (wlc (Zbi [box b0p [(sl v0a), iv v1.2.1, iv v1.2.2]] Zdu (zc pz Zz) R fun w fp hw => ZQ w fp b0p a_c0 v0a ((Zt r0) w fp hw) v1.2.1 v1.2.2 3 hw.ow hv2) R fun _ => (mv R R (bdO t0 fun v3 hv3 t0 => (wlc (Zbi [box b0p [(sl v0a), iv v2.2.1, iv v2.2.2]] Zdu (zc pz Zz) R fun w fp hw => ZQ w fp b0p a_c0 v0a ((Zt r0) w fp hw) v2.2.1 v2.2.2 3 hw.ow hv3) R fun _ => (bdO t0 fun v4 hv4 t0 => (wlc (cz0 Zvl R fun w hw => Zj1 w v1.1 v2.1 v3.1 hv4) R fun _ => (wls (sbx (cs' := [iv v4.Split, iv v4.A, iv v4.B]) Zf pk1 R R R R R R R) (wnt (wct ?_)))))))))))))))))
 obtain rfl := oi t0
 exact wqc R Zf R pz R fun w hw => ⟨(), R, hw.weak (zc pk1 zn)⟩

theorem Zku (w : World) (a_b : GBlock) (v0a : Hd) (r0 : rdF w (dm w []) (sl v0a) a_b.Cells) {r : List Int} (t0 : ZfH a_b = some r) : Calls Tryz.prog 189 #[.agg #[.int .i64 a_b.Size, (sl v0a)]] w fun e w' => ∃ x : Hd, e = .returned ((sl x)) ∧ SH w [] [ownF (sl x) r] w' := by
 refine cwc (args := [_]) Tryz.func189 R Tryz.ntmps189 R ?_
 unfold ZfH at t0
 refine wcr (wle (Zh R R) R fun b1 => (asg R R (wnt (wcs (wcr (wlq (v := .agg #[iv a_b.Size, (sl v0a)]) (plb Zb pz R R R) R (bdO t0 fun v1 hv1 t0 => (wlc (cz0 ZeR R fun w hw => Zaz w a_b v0a (ra r0 hw) hv1) R fun _ => (wlq (Zd R) R (wnt (wcO t0 R (fun h1 t0 => ?_) fun h1 t0 => ?_)))))))))))
 refine wcr (wle (ebs R Zao) R fun b2 => (asg R R (wnt (wct (wqr ?_)))))
 obtain rfl := oi t0
 exact wq1 R R fun w hw => ⟨(⟨some ⟨b2, 0, none⟩, 0, 0⟩ : Hd), R, hw.weak (zc (pbo pz (n := 0) (xs := ([] : List Int)) R R (by unfold maxLen; omega)) zn)⟩
 refine wck (wqt (wcr (wle (ebs R Zao) R fun b3 => (asg R R (wnt (wcs (wcr (asg R R (wnt (Zr t0 fun y1 l1 t0 => (wj (J := List Int) (X := Hd) (fun z => y1 = z) (fun _ x => [(1, ptr b1 0), (3, (sl x))]) (fun z x => [box b1 [iv a_b.Size, (sl v0a)], ownF (sl x) z]) ?_ ?_)))))))))))
 refine wcb (wcf (X := Hd) l1 (fun k1 s1 x1l => [(1, ptr b1 0), (3, (sl x1l)), (4, iv ((k1 : Nat) : Int))]) (fun k1 s1 x1l => [box b1 [iv a_b.Size, (sl v0a)], ownF (sl x1l) s1]) (⟨some ⟨b3, 0, none⟩, 0, 0⟩ : Hd) (su3 R R R) (zc pk1 (zc (pbo pz (n := 0) (xs := ([] : List Int)) R R (by unfold maxLen; omega)) zn)) fun k1 s1 x1l hN1 l1 => ?_)
 by_cases hk1 : k1 < 6
 refine fos l1 hk1 fun _ t1 l1 => ?_
 unfold ZhJ at t1
 have c1 : (decide (((k1 : Nat) : Int) < 6)) = true := ddt (by omega)
 refine wcs (wcr (mv R R (wlq (pls R R) R (wnt (wft R c1 (wck (wqt (wcs (wcb (wcg (mv R R (wle (ebs R (ZaZ (-1))) R fun b4 => (gdO t1 fun g1 t1 => (wle (Zg (xs := s1) (ys := ([(-1)] : List Int)) Zb1 pk2 R R (Zi fun _ g => Rg.on (rgo (pbo pz (n := 1) (xs := ([(-1)] : List Int)) R R (by unfold maxLen; omega))) g) g1) R fun x2 => ?_))))))))))))))
 refine asg R R (wln (wqb (wqt (wcg (mv R R (wlq (Zj R R (by omega)) R ?_))))))
 exact asg R R (wln (Zl hk1 (stpN l1 t1) x2 (su3 R R R) (zc pk2 so1)))
 have c1 : (decide (((k1 : Nat) : Int) < 6)) = false := ddf (by omega)
 have en1 := foe l1 hk1
 exact wcs (wcr (mv R R (wlq (pls R R) R (wnt (wff R c1 (wcx (wqe (wqe (wbx (wjm _ x1l (Sum.inl.inj en1) (su2 R R) so2))))))))))
 intro e1 x1 hp
 obtain rfl : e1 = y1 := hp.symm
 refine wqt (wcr (asg R R (wnt (wcs (wcr (asg R R (wnt (gdO t0 fun g2 t0 => (Zr t0 fun y1 l1 t0 => (wj (J := (List Int) × Int) (X := Unit) (fun z => y1 = z) (fun z _ => [(3, (sl x1)), (5, iv z.2)]) (fun z _ => [ownF (sl x1) z.1]) ?_ ?_))))))))))
 refine wcb (wcf (X := Unit) l1 (fun k2 s2 x2l => [(1, ptr b1 0), (3, (sl x1)), (5, iv s2.2), (6, iv ((k2 : Nat) : Int))]) (fun k2 s2 x2l => [box b1 [iv a_b.Size, (sl v0a)], ownF (sl x1) s2.1]) () (su4 R R R R) so2 fun k2 s2 x2l hN2 l1 => ?_)
 by_cases hk2 : k2 < ((wr (2 * ((a_b.Cells.length : Nat) : Int)))).toNat
 refine fos l1 hk2 fun _ t1 l1 => ?_
 unfold Zfr at t1
 have c2 : (decide (((k2 : Nat) : Int) < (wr (2 * ((a_b.Cells.length : Nat) : Int))))) = true := ddt (by omega)
 refine wcs (wcr (mv R R (wlq (pof Zx R) R (wlq (v := (sl v0a)) (plx ZR pz R R) R (wlq (pln (rga r0) Z7 R) R (wlq (Zcu R R) R (wlq (pls R R) R (wnt (wft R c2 (wck (wqt (wcs (wcb (wcr (wlq (pof Zx R) R (wlq (v := (sl v0a)) (plx ZR pz R R) R (mv R R (wlq (Zk1 R R (by decide)) R ?_))))))))))))))))))
 refine gdO t1 fun g3 t1 => wlq (Z8 (rga r0) Z7 R R g3.1 g3.2) R (wlq (Zak (rga r0) (ZK g3) ZaF R) R (wlq (v := iv ((gx a_b.Cells (((wr (((k2 : Nat) : Int).tdiv 2))).toNat)).A)) (ZD (rga r0) tk_3 R (ZK g3) R) R (asg R R (wnt (wcs (wcr (mv R R (wlq (Zia R R (by decide)) R ?_))))))))
 refine wlq (pol R R) R (wnt (wcj (X := Unit) (fun _ => True) (fun _ => [(1, ptr b1 0), (3, (sl x1)), (5, iv s2.2), (6, iv ((k2 : Nat) : Int)), (7, iv (bif ((((k2 : Nat) : Int).tmod 2) == 1) then (gx a_b.Cells (((wr (((k2 : Nat) : Int).tdiv 2))).toNat)).B else (gx a_b.Cells (((wr (((k2 : Nat) : Int).tdiv 2))).toNat)).A))]) (fun _ => [box b1 [iv a_b.Size, (sl v0a)], ownF (sl x1) s2.1]) ?_ ?_))
 refine ZbI R (fun h2 => ?_) fun h2 => ?_
 refine wcg (wlq (pof Zx R) R (wlq (v := (sl v0a)) (plx ZR pz R R) R (mv R R (wlq (Zk1 R R (by decide)) R ?_))))
 exact wlq (Z8 (rga r0) Z7 R R g3.1 g3.2) R (wlq (Zak (rga r0) (ZK g3) ZaY R) R (wlq (v := iv ((gx a_b.Cells (((wr (((k2 : Nat) : Int).tdiv 2))).toNat)).B)) (ZD (rga r0) tk_3 R (ZK g3) R) R (asg R R (wln (wqm () trivial (yc R (yc R (yc R (yc R (Zgf R (by simp only [h2, cond_true]) yn))))) so2)))))
 exact wck (wqm () trivial (yc R (yc R (yc R (yc R (Zgf R (by simp only [h2, cond_false]) yn))))) so2)
 intro _ _
 refine wqt (wcr (mv R R (mv R R (gdO t1 fun g4 t1 => (wlq (Z8 (rgo pk1) ZH R R g4.1 g4.2) R (wlq (v := iv (gx s2.1 (((bif ((((k2 : Nat) : Int).tmod 2) == 1) then (gx a_b.Cells (((wr (((k2 : Nat) : Int).tdiv 2))).toNat)).B else (gx a_b.Cells (((wr (((k2 : Nat) : Int).tdiv 2))).toNat)).A)).toNat))) (ZD (rgo pk1) tk_3 R (ZK g4) R) R (wlq (pls R R) R (wnt (wcj (X := Unit) (fun _ => True) (fun _ => [(1, ptr b1 0), (3, (sl x1)), (5, iv (bif (decide ((gx s2.1 (((bif ((((k2 : Nat) : Int).tmod 2) == 1) then (gx a_b.Cells (((wr (((k2 : Nat) : Int).tdiv 2))).toNat)).B else (gx a_b.Cells (((wr (((k2 : Nat) : Int).tdiv 2))).toNat)).A)).toNat)) < 0)) then (wr (s2.2 + 1)) else s2.2)), (6, iv ((k2 : Nat) : Int))]) (fun _ => [box b1 [iv a_b.Size, (sl v0a)], ownF (sl x1) (bif (decide ((gx s2.1 (((bif ((((k2 : Nat) : Int).tmod 2) == 1) then (gx a_b.Cells (((wr (((k2 : Nat) : Int).tdiv 2))).toNat)).B else (gx a_b.Cells (((wr (((k2 : Nat) : Int).tdiv 2))).toNat)).A)).toNat)) < 0)) then (s2.1.set (((bif ((((k2 : Nat) : Int).tmod 2) == 1) then (gx a_b.Cells (((wr (((k2 : Nat) : Int).tdiv 2))).toNat)).B else (gx a_b.Cells (((wr (((k2 : Nat) : Int).tdiv 2))).toNat)).A)).toNat) s2.2) else s2.1)]) ?_ ?_)))))))))
 refine ZbI R (fun h3 => ?_) fun h3 => ?_
 exact wcr (mv R R (mv R R (mv R R (wlq (Z8 (rgo pk1) ZH R R g4.1 g4.2) R (wls (ZiY (x' := s2.2) tk_3 pk1 R R R R R R (ZK g4) R) (wnt (wcg (mv R R (wlq (Z4 R R) R (asg R R (wln (wqm () trivial (yc R (yc R (Zgf R (by simp only [h3, cond_true]) (su1 R)))) (zc pk1 (zc (by simp only [h3, cond_true]; exact pz) zn))))))))))))))
 exact wck (wqm () trivial (yc R (yc R (Zgf R (by simp only [h3, cond_false]) (su1 R)))) (zc pz (zc (by simp only [h3, cond_false]; exact pz) zn)))
 intro _ _
 refine wqb (wqt (wcg (mv R R (wlq (Zj R R (by omega)) R ?_))))
 exact asg R R (wln (Zl hk2 (stpN l1 t1) () (su4 R R R R) so2))
 have c2 : (decide (((k2 : Nat) : Int) < (wr (2 * ((a_b.Cells.length : Nat) : Int))))) = false := ddf (by omega)
 have en2 := foe l1 hk2
 exact wcs (wcr (mv R R (wlq (pof Zx R) R (wlq (v := (sl v0a)) (plx ZR pz R R) R (wlq (pln (rga r0) Z7 R) R (wlq (Zcu R R) R (wlq (pls R R) R (wnt (wff R c2 (wcx (wqe (wqe (wbx (wjm _ () (Sum.inl.inj en2) (su2 R R) (zc pk1 zn)))))))))))))))
 intro e2 _ hp
 obtain rfl : e2 = y1 := hp.symm
 refine wqt (wcs (wcr (asg R R (wnt (Zr t0 fun y1 l1 t0 => (wj (J := (List Int) × Int) (X := Unit) (fun z => y1 = z) (fun _ _ => [(3, (sl x1))]) (fun z _ => [ownF (sl x1) z.1]) ?_ ?_))))))
 refine wcb (wcf (X := Unit) l1 (fun k3 s3 x3l => [(3, (sl x1)), (5, iv s3.2), (8, iv ((k3 : Nat) : Int))]) (fun k3 s3 x3l => [ownF (sl x1) s3.1]) () (su3 R R R) so1 fun k3 s3 x3l hN3 l1 => ?_)
 by_cases hk3 : k3 < 6
 refine fos l1 hk3 fun _ t1 l1 => ?_
 unfold Zfv at t1
 have c3 : (decide (((k3 : Nat) : Int) < 6)) = true := ddt (by omega)
 refine wcs (wcr (mv R R (wlq (pls R R) R (wnt (wft R c3 (wck (wqt (wcs (wcb (wcr (mv R R (mv R R (gdO t1 fun g5 t1 => (wlq (Zv (k := k3) (rgo pz) ZH R R g5) R (wlq (v := iv (gx s3.1 k3)) (ZD (rgo pz) tk_3 R g5 R) R (wlq (pls R R) R (wnt (wcj (X := Unit) (fun _ => True) (fun _ => [(3, (sl x1)), (5, iv (bif (decide ((gx s3.1 k3) < 0)) then (wr (s3.2 + 1)) else s3.2)), (8, iv ((k3 : Nat) : Int))]) (fun _ => [ownF (sl x1) (bif (decide ((gx s3.1 k3) < 0)) then (s3.1.set k3 s3.2) else s3.1)]) ?_ ?_))))))))))))))))))
 refine ZbI R (fun h4 => ?_) fun h4 => ?_
 exact wcr (mv R R (mv R R (mv R R (wlq (Zv (k := k3) (rgo pz) ZH R R g5) R (wls (ZiY (x' := s3.2) tk_3 pz R R R R R R g5 R) (wnt (wcg (mv R R (wlq (Z4 R R) R (asg R R (wln (wqm () trivial (yc R (Zgf R (by simp only [h4, cond_true]) (su1 R))) (zc (by simp only [h4, cond_true]; exact pz) zn)))))))))))))
 exact wck (wqm () trivial (yc R (Zgf R (by simp only [h4, cond_false]) (su1 R))) (zc (by simp only [h4, cond_false]; exact pz) zn))
 intro _ _
 refine wqb (wqt (wcg (mv R R (wlq (Zj R R (by omega)) R ?_))))
 exact asg R R (wln (Zl hk3 (stpN l1 t1) () (su3 R R R) so1))
 have c3 : (decide (((k3 : Nat) : Int) < 6)) = false := ddf (by omega)
 have en3 := foe l1 hk3
 exact wcs (wcr (mv R R (wlq (pls R R) R (wnt (wff R c3 (wcx (wqe (wqe (wbx (wjm _ () (Sum.inl.inj en3) (su1 R) so1))))))))))
 intro e3 _ hp
 obtain rfl : e3 = y1 := hp.symm
 refine wqt (wcr (mv R R (asg R R (wnt (wct ?_)))))
 obtain rfl := oi t0
 exact wq1 R R fun w hw => ⟨x1, R, hw.weak so1⟩

theorem Zl5 (w : World) (a_l : List Int) (v0a : Hd) (r0 : rdF w (dm w []) (sl v0a) a_l) {r : Bool} (t0 : ZfV a_l = some r) : Calls Tryz.prog 198 #[(sl v0a)] w fun e w' => e = .returned (.bool r) ∧ SH w [] [] w' := by
 refine cwc (args := [_]) Tryz.func198 R Tryz.ntmps198 R ?_
 unfold ZfV at t0
 refine wcr (asg R R (wnt (wcs (wcr (asg R R (wnt (gdO t0 fun g1 t0 => (sqO t0 fun y1 l1 t0 => (wj (J := Unit) (X := Unit) (fun z => y1 = .inl z) (fun _ _ => [(0, (sl v0a))]) (fun _ _ => []) ?_ ?_)))))))))
 refine wcb (wcf (X := Unit) l1 (fun k1 s1 x1l => [(0, (sl v0a)), (3, iv ((k1 : Nat) : Int))]) (fun k1 s1 x1l => []) () (su2 R R) zn fun k1 s1 x1l hN1 l1 => ?_)
 by_cases hk1 : k1 < a_l.length
 refine fos l1 hk1 fun _ t1 l1 => ?_
 unfold Zhd at t1
 have c1 : (decide (((k1 : Nat) : Int) < ((a_l.length : Nat) : Int))) = true := ddt (by omega)
 refine wcs (wcr (mv R R (mv R R (wlq (pln (rga r0) ZH R) R (wlq (pls R R) R (wnt (wft R c1 (wck (wqt (wcs (wcb (wcr (mv R R (mv R R (wlq (Zv (k := k1) (rga r0) ZH R R hk1) R (wlq (v := iv (gx a_l k1)) (ZD (rga r0) tk_3 R hk1 R) R (bdO t1 fun v1 hv1 t1 => (wlc (cz0 Zbo R fun w hw => ZT w (gx a_l k1) 0 5 hv1) R fun _ => (wlq (Zd R) R (wnt (wcO t1 R (fun h1 t1 => ?_) fun h1 t1 => ?_)))))))))))))))))))))
 refine wcr (asg R R (wnt (wct (wbr (wqr (wqr (wbr (wqr (wqr ?_)))))))))
 replace t0 := lpR t0 l1 t1
 obtain rfl := oi t0
 exact wq1 R R fun w hw => ⟨R, hw.weak zn⟩
 refine wck (wqb (wqt (wcg (mv R R (wlq (Zj R R (by omega)) R ?_)))))
 exact asg R R (wln (Zl hk1 (stpN l1 t1) () (su2 R R) zn))
 have c1 : (decide (((k1 : Nat) : Int) < ((a_l.length : Nat) : Int))) = false := ddf (by omega)
 have en1 := foe l1 hk1
 exact wcs (wcr (mv R R (mv R R (wlq (pln (rga r0) ZH R) R (wlq (pls R R) R (wnt (wff R c1 (wcx (wqe (wqe (wbx (wjm _ () en1 (su1 R) zn))))))))))))
 intro e1 _ hp
 replace t0 := sqE (j := e1) t0 hp
 refine wqt (wcr (mv R R (wlq (pln (rga r0) ZH R) R (wlq (pol R R) R (asg R R (wnt (wct ?_)))))))
 obtain rfl := oi t0
 exact wq1 R R fun w hw => ⟨R, hw.weak zn⟩

theorem Zmf (w : World) (a_c : GCell) (a_l : List Int) (v0a : Hd) (r0 : rdF w (dm w []) (sl v0a) a_l) {r : GCell} (t0 : Zdg a_c a_l = some r) : Calls Tryz.prog 199 #[.agg #[.int .i64 a_c.Split, .int .i64 a_c.A, .int .i64 a_c.B], (sl v0a)] w fun e w' => e = .returned (.agg #[.int .i64 r.Split, .int .i64 r.A, .int .i64 r.B]) ∧ SH w [] [] w' := by
 refine cwc (args := [_, _]) Tryz.func199 R Tryz.ntmps199 R ?_
 unfold Zdg at t0
 refine wcr (wle (Zh R R) R fun b1 => (wle (eal (cs := [iv 0, iv 0, iv 0]) Zbj) R fun b2 => (wnt (wcs (wcs (bdO t0 fun y1 t1 t0 => (wj (J := Bool) (X := Unit) (fun z => y1 = z) (fun z _ => [(1, (sl v0a)), (2, ptr b1 0), (4, ptr b2 0), (12, .bool z)]) (fun _ _ => [box b2 [iv 0, iv 0, iv 0], box b1 [iv a_c.Split, iv a_c.A, iv a_c.B]]) ?_ ?_)))))))
 refine wcg (wlq (v := .agg #[iv a_c.Split, iv a_c.A, iv a_c.B]) (plb Zf pk1 R R R) R (bdO t1 fun v1 hv1 t1 => (wlc (cz0 ZjL R fun w hw => Zc7 w a_c hv1) R fun _ => (wlq (Zd R) R (mv R R (wlo (t := 8) t1 R (fun h1 t1 => ?_) fun h1 t1 => ?_))))))
 exact wgf (j := 3) R R R R R (wgf (j := 3) R R R R R (wgf (j := 3) R R R R R (wlq (pit R R) R (wln (wjm _ () (mtE t1) (su4 R R R R) so2)))))
 exact wgn (j := 3) R R R (mv R R (bdO t1 fun v2 hv2 t1 => (wgn (j := 3) R R R (wlc (cz0 ZtQ R fun w hw => Zl5 w a_l v0a (ra r0 hw) hv2) R (fun _ => (wgn (j := 3) R R R (wlq (Zd R) R (wlq (pif R R) R (wln (wjm _ () (mtE t1) (su4 R R R R) so2))))))))))
 intro j1 _ hp
 obtain rfl : j1 = y1 := hp.symm
 refine wqt (wcO t0 R (fun h2 t0 => ?_) fun h2 t0 => ?_)
 refine wcr (wlq (Zk R ZgH) R (wls (sbx (cs' := [iv 0, iv 0, iv 0]) Zf pz R R R R R R R) (wnt (wct (wqr ?_)))))
 obtain rfl := oi t0
 exact wqc R Zf R pz R fun w hw => ⟨R, hw.weak zn⟩
 refine wck (wqt (wcs (wcd [box b2 [iv 0, iv 0, iv 0], box b1 [iv a_c.Split, iv a_c.A, iv a_c.B]] 13 mixed (aq 0 R (pof ZaX R) so2 R (aq (v := iv a_c.Split) 1 R (plx tk_3 pk1 R R) so2 R (aq 2 R (pom R) so2 R (aq 3 R (pof ZaF R) so2 R (aq (v := iv a_c.A) 4 R (plx tk_3 pk1 R R) so2 R (gdO t0 fun g1 t0 => (aq 5 R (Z8 (rga r0) ZH R R g1.1 g1.2) so2 R (aq (v := iv (gx a_l ((a_c.A).toNat))) 6 R (ZD (rga r0) tk_3 R (ZK g1) R) so2 R (aq 7 R (pom R) so2 R (aq 8 R (pof ZaY R) so2 R (aq (v := iv a_c.B) 9 R (plx tk_3 pk1 R R) so2 R (gdO t0 fun g2 t0 => (aq 10 R (Z8 (rga r0) ZH R R g2.1 g2.2) so2 R (aq (v := iv (gx a_l ((a_c.B).toNat))) 11 R (ZD (rga r0) tk_3 R (ZK g2) R) so2 R (a1 12 (bdO t0 fun v3 hv3 t0 => (wsc R (cz0 Zvl R fun w hw => Zj1 w a_c.Split (gx a_l ((a_c.A).toNat)) (gx a_l ((a_c.B).toNat)) hv3) (fun _ => (zt so2)) R fun _ => (a1 13 (ZU R (sbx (cs' := [iv v3.Split, iv v3.A, iv v3.B]) Zf pz R R R R R R R) (Zaw (by kernel_rfl)) ?_))))))))))))))))))))))
 refine ae (wqt (wct ?_))
 obtain rfl := oi t0
 exact wqc R Zf R pz R fun w hw => ⟨R, hw.weak zn⟩

theorem Zfx (w : World) (a_b : GBlock) (v0a : Hd) (r0 : rdF w (dm w []) (sl v0a) a_b.Cells) (a_l : List Int) (v1a : Hd) (r1 : rdF w (dm w []) (sl v1a) a_l) {r : GBlock × Bool} (t0 : ZcU a_b a_l = some r) : Calls Tryz.prog 188 #[.agg #[.int .i64 a_b.Size, (sl v0a)], (sl v1a)] w fun e w' => ∃ x : Hd, e = .returned (.tuple #[.agg #[.int .i64 r.1.Size, (sl x)], .bool r.2]) ∧ SH w [] [ownF (sl x) r.1.Cells] w' := by
 refine cwc (args := [_, _]) Tryz.func188 R Tryz.ntmps188 R ?_
 unfold ZcU at t0
 refine wcr (wle (Zh R R) R fun b1 => (wle (eal (cs := [iv 0, (sl hn)]) Zav) R fun b2 => (asg R R (wnt (wcs (wcs (bdO t0 fun y1 t1 t0 => (wj (J := Bool) (X := Unit) (fun z => y1 = z) (fun z _ => [(1, (sl v1a)), (2, ptr b1 0), (4, ptr b2 0), (15, .bool z)]) (fun _ _ => [box b2 [iv 0, (sl hn)], box b1 [iv a_b.Size, (sl v0a)]]) ?_ ?_))))))))
 refine wcg (wlq (v := .agg #[iv a_b.Size, (sl v0a)]) (plb Zb pk1 R R R) R (bdO t1 fun v1 hv1 t1 => (wlc (cz0 ZeR R fun w hw => Zaz w a_b v0a (ra r0 hw) hv1) R fun _ => (wlq (Zd R) R (mv R R (wlo (t := 11) t1 R (fun h1 t1 => ?_) fun h1 t1 => ?_))))))
 exact wgf (j := 3) R R R R R (wgf (j := 3) R R R R R (wgf (j := 3) R R R R R (wlq (pit R R) R (wln (wjm _ () (mtE t1) (su4 R R R R) so2)))))
 exact wgn (j := 3) R R R (mv R R (bdO t1 fun v2 hv2 t1 => (wgn (j := 3) R R R (wlc (cz0 ZtQ R fun w hw => Zl5 w a_l v1a (ra r1 hw) hv2) R (fun _ => (wgn (j := 3) R R R (wlq (Zd R) R (wlq (pif R R) R (wln (wjm _ () (mtE t1) (su4 R R R R) so2))))))))))
 intro j1 _ hp
 obtain rfl : j1 = y1 := hp.symm
 refine wqt (wcO t0 R (fun h2 t0 => ?_) fun h2 t0 => ?_)
 refine wcr (wlq (v := .agg #[iv a_b.Size, (sl v0a)]) (plb Zb pk1 R R R) R (bdO t0 fun v3 hv3 t0 => (wlc (cz1 Zq9 R fun w hw => Zg2 w a_b v0a (ra r0 hw) hv3) R fun x2 => (wls (sbx (cs' := [iv v3.Size, (sl x2)]) Zb pk1 R R R R R R R) (asg R R (wnt (wct (wqr ?_))))))))
 obtain rfl := oi t0
 exact ZG R Zb R R pz R fun w hw => ⟨x2, R, hw.weak (zc pk1 zn)⟩
 refine wck (wqt (wcr (wlq (pof ZL R) R (wlq (v := iv a_b.Size) (plx tk_3 pk1 R R) R (wlq (Zk R (ZkZ a_b.Size)) R (wle (eal (cs := [iv 0, (sl hn)]) Zav) R fun b3 => (wls (sbx (cs' := [iv a_b.Size, (sl hn)]) Zb pz R R R R R R R) (wnt (wcs (wcr (asg R R (wnt (gdO t0 fun g1 t0 => (Zr t0 fun y1 l1 t0 => (wj (J := List GCell) (X := Hd) (fun z => y1 = z) (fun _ _ => [(4, ptr b2 0), (6, ptr b3 0)]) (fun z x => [box b3 [iv a_b.Size, (sl x)], box b2 [iv 0, (sl hn)], ownF (sl x) z]) ?_ ?_)))))))))))))))
 refine wcb (wcf (X := Hd) l1 (fun k1 s1 x1l => [(1, (sl v1a)), (2, ptr b1 0), (4, ptr b2 0), (6, ptr b3 0), (7, iv ((k1 : Nat) : Int))]) (fun k1 s1 x1l => [box b3 [iv a_b.Size, (sl x1l)], box b2 [iv 0, (sl hn)], box b1 [iv a_b.Size, (sl v0a)], ownF (sl x1l) s1]) hn (su5 R R R R R) (zc pz (zc pz (zc pz (zc ZB zn)))) fun k1 s1 x1l hN1 l1 => ?_)
 by_cases hk1 : k1 < a_b.Cells.length
 refine fos l1 hk1 fun _ t1 l1 => ?_
 unfold ZcY at t1
 have c1 : (decide (((k1 : Nat) : Int) < ((a_b.Cells.length : Nat) : Int))) = true := ddt (by omega)
 refine wcs (wcr (mv R R (wlq (pof Zx R) R (wlq (v := (sl v0a)) (plx ZR pk2 R R) R (wlq (pln (rga r0) Z7 R) R (wlq (pls R R) R (wnt (wft R c1 (wck (wqt (wcs (wcb (wcd [box b3 [iv a_b.Size, (sl x1l)], box b2 [iv 0, (sl hn)], box b1 [iv a_b.Size, (sl v0a)]] 12 mixed (aq 0 R (pof Zx R) so3 R (aq (v := (sl x1l)) 1 R (plx ZR pz R R) so3 R (aq 2 R (pof Zx R) so3 R (aq (v := (sl v0a)) 3 R (plx ZR pk2 R R) so3 R (aq 4 R (pom R) so3 R (aq 5 R (Zv (k := k1) (rga r0) Z7 R R hk1) so3 R (aq (v := .agg #[iv ((gx a_b.Cells k1).Split), iv ((gx a_b.Cells k1).A), iv ((gx a_b.Cells k1).B)]) 6 R (ZaB (rga r0) Zf R hk1 R R R) so3 R (aq 7 R (pom R) so3 R (a1 8 (bdO t1 fun v4 hv4 t1 => (wsc R (cz0 ZwJ R fun w hw => Zmf w (gx a_b.Cells k1) a_l v1a (ra r1 hw) hv4) (fun _ => (zt so3)) R fun _ => (a1 9 (wse R (ebs R (Zk3 v4.Split v4.A v4.B)) (fun _ => (zt (zc pk1 (zc pk1 (zc pk1 zn))))) R fun b4 => (a1 10 (gdO t1 fun g2 t1 => (wse R (Zg (xs := s1) (ys := ([v4] : List GCell)) Zlo pk4 R R (Zi fun _ g => Rg.on (rgo (pbo pz (n := 1) (xs := ([v4] : List GCell)) R R (by unfold maxLen; omega))) g) g2) (fun _ => (zt (zc pk2 (zc pk2 (zc pk2 zn))))) R fun x4 => ?_)))))))))))))))))))))))))))))
 refine aq 11 R (pof Zx R) (zc pk2 (zc pk2 (zc pk2 zn))) R (a1 12 (ZU R (sbx (cs' := [iv a_b.Size, (sl x4)]) ZR pk2 R R R R R R R) (Zaw (by kernel_rfl)) ?_))
 refine ae (wqb (wqt (wcg (mv R R (wlq (Zj R R (by omega)) R ?_)))))
 exact asg R R (wln (Zl hk1 (stpN l1 t1) x4 (su5 R R R R R) (zc pz (zc pk2 (zc pk2 so1)))))
 have c1 : (decide (((k1 : Nat) : Int) < ((a_b.Cells.length : Nat) : Int))) = false := ddf (by omega)
 have en1 := foe l1 hk1
 exact wcs (wcr (mv R R (wlq (pof Zx R) R (wlq (v := (sl v0a)) (plx ZR pk2 R R) R (wlq (pln (rga r0) Z7 R) R (wlq (pls R R) R (wnt (wff R c1 (wcx (wqe (wqe (wbx (wjm _ x1l (Sum.inl.inj en1) (su2 R R) (zc pz (zc pz (zc pk1 zn))))))))))))))))
 intro e1 x3 hp
 obtain rfl : e1 = y1 := hp.symm
 refine wqt (wcr (wlq (v := .agg #[iv a_b.Size, (sl x3)]) (plb Zb pz R R R) R (wls (sbx (cs' := [iv a_b.Size, (sl x3)]) Zb pk1 R R R R R R R) (asg R R (wnt (wct ?_))))))
 obtain rfl := oi t0
 exact ZG R Zb R R pz R fun w hw => ⟨x3, R, hw.weak (zc pk2 zn)⟩

theorem Zkv (w : World) (a_b : GBlock) (v0a : Hd) (r0 : rdF w (dm w []) (sl v0a) a_b.Cells) {r : GBlock} (t0 : Zd6 a_b = some r) : Calls Tryz.prog 176 #[.agg #[.int .i64 a_b.Size, (sl v0a)]] w fun e w' => ∃ x : Hd, e = .returned (.agg #[.int .i64 r.Size, (sl x)]) ∧ SH w [] [ownF (sl x) r.Cells] w' := by
 refine cwc (args := [_]) Tryz.func176 R Tryz.ntmps176 R ?_
 unfold Zd6 at t0
 refine wcr (wle (Zh R R) R fun b1 => (wle (eal (cs := [iv 0, (sl hn)]) Zav) R fun b2 => (wnt (wcs (bdO t0 fun v1 hv1 t0 => (bdO t0 fun v2 hv2 t0 => (wcj (X := Nat × Hd) (fun _ => True) (fun z => [(2, ptr b2 0), (3, ptr z.1 0)]) (fun z => [box z.1 [iv v2.1.Size, (sl z.2)], ownF (sl z.2) v2.1.Cells, box b2 [iv 0, (sl hn)]]) ?_ ?_)))))))
 refine wcd [box b2 [iv 0, (sl hn)], box b1 [iv a_b.Size, (sl v0a)]] 10 mixed (aq (v := .agg #[iv a_b.Size, (sl v0a)]) 0 R (plb Zb pk1 R R R) so2 R (aq (v := .agg #[iv a_b.Size, (sl v0a)]) 1 R (plb Zb pk1 R R R) so2 R (wa_2 (i := 2) (j := 7) (by kernel_rfl) ?_ ?_)))
 refine wsc R (cz1 Zum R fun w hw => Zku w a_b v0a (ra r0 hw) hv1) (fun _ => (zt (zc pk1 (zc pk1 zn)))) R fun x1 => wa_2 (i := 3) (j := 7) (by kernel_rfl) ?_ ?_
 exact wsc R (cz1 Zrz R fun w hw => Zfx w a_b v0a (ra r0 hw) v1 x1 (Rg.on (rgo pz) hw) hv2) (fun _ => (zt (zc pk2 (zc pk2 zn)))) R fun x2 => aq 4 R (pom R) (zc pk2 (zc pk2 zn)) R (aq 5 R (pex R R) (zc pk2 (zc pk2 zn)) R (aq 6 R (pex R R) (zc pk2 (zc pk2 zn)) R (a1 7 (wse R (eal (cs := [iv 0, (sl hn)]) Zav) (fun _ => (zt (zc pk3 (zc pk3 zn)))) R fun b3 => (a1 8 (ZU R (sbx (cs' := [iv v2.1.Size, (sl x2)]) Zb pz R R R R R R R) (zt (zc pk3 (zc pk3 zn))) (aq 9 R (Zu R) (zc pk3 (zc pk3 zn)) R (ae (wqm (b3, x2) trivial (su2 R R) (zc pz (zc pz (zc pk1 zn))))))))))))
 exact wse R (eal (cs := [iv 0, (sl hn)]) Zav) (fun _ => (zt (zc pk2 (zc pk2 zn)))) R fun b4 => a1 3 (wsc R (cz1 Zrz R fun w hw => Zfx w a_b v0a (ra r0 hw) v1 x1 (Rg.on (rgo pk1) hw) hv2) (fun _ => (zt (zc pk3 (zc pk3 zn)))) R fun x3 => (aq 4 R (pom R) (zc pk3 (zc pk3 zn)) R (aq 5 R (pex R R) (zc pk3 (zc pk3 zn)) R (aq 6 R (pex R R) (zc pk3 (zc pk3 zn)) R (a1 8 (ZU R (sbx (cs' := [iv v2.1.Size, (sl x3)]) Zb pk1 R R R R R R R) (zt (zc pk3 (zc pk3 zn))) (aq 9 R (Zu R) (zc pk3 (zc pk3 zn)) R (ae (wqm (b4, x3) trivial (su2 R R) (zc pz (zc pz (zc pk1 zn))))))))))))
 exact wse R (eal (cs := [iv 0, (sl hn)]) Zav) (fun _ => (zt (zc pk1 (zc pk1 zn)))) R fun b5 => a1 2 (wsc R (cz1 Zum R fun w hw => Zku w a_b v0a (ra r0 hw) hv1) (fun _ => (zt (zc pk2 (zc pk2 zn)))) R fun x4 => (a1 3 (wsc R (cz1 Zrz R fun w hw => Zfx w a_b v0a (ra r0 hw) v1 x4 (Rg.on (rgo pz) hw) hv2) (fun _ => (zt (zc pk3 (zc pk3 zn)))) R fun x5 => (aq 4 R (pom R) (zc pk3 (zc pk3 zn)) R (aq 5 R (pex R R) (zc pk3 (zc pk3 zn)) R (aq 6 R (pex R R) (zc pk3 (zc pk3 zn)) R (a1 8 (ZU R (sbx (cs' := [iv v2.1.Size, (sl x5)]) Zb pk2 R R R R R R R) (zt (zc pk3 (zc pk3 zn))) (aq 9 R (Zu R) (zc pk3 (zc pk3 zn)) R (ae (wqm (b5, x5) trivial (su2 R R) (zc pz (zc pz (zc pk1 zn))))))))))))))
 intro x6 _
 refine wqt (wcr (wlq (v := .agg #[iv v2.1.Size, (sl x6.2)]) (plb Zb pz R R R) R (wls (sbx (cs' := [iv v2.1.Size, (sl x6.2)]) Zb pk2 R R R R R R R) (wnt (wct ?_)))))
 obtain rfl := oi t0
 exact wqc R Zb R pz R fun w hw => ⟨x6.2, R, hw.weak (zc pk2 zn)⟩

theorem Zny (w : World) (a_c : GCell) {r : GCell} (t0 : Zef a_c = some r) : Calls Tryz.prog 191 #[.agg #[.int .i64 a_c.Split, .int .i64 a_c.A, .int .i64 a_c.B]] w fun e w' => e = .returned (.agg #[.int .i64 r.Split, .int .i64 r.A, .int .i64 r.B]) ∧ SH w [] [] w' := by
 refine cwc (args := [_]) Tryz.func191 R Tryz.ntmps191 R ?_
 unfold Zef at t0
 refine wcr (wle (Zh R R) R fun b1 => (wle (eal (cs := [iv 0, iv 0, iv 0]) Zbj) R fun b2 => (wnt (wcs (wcr (wlq (v := .agg #[iv a_c.Split, iv a_c.A, iv a_c.B]) (plb Zf pk1 R R R) R (bdO t0 fun v1 hv1 t0 => (wlc (cz0 ZjL R fun w hw => Zc7 w a_c hv1) R fun _ => (wlq (Zd R) R (wnt (wcO t0 R (fun h1 t0 => ?_) fun h1 t0 => ?_)))))))))))
 refine wcr (wlq (Zk R ZgH) R (wls (sbx (cs' := [iv 0, iv 0, iv 0]) Zf pz R R R R R R R) (wnt (wct (wqr ?_)))))
 obtain rfl := oi t0
 exact wqc R Zf R pz R fun w hw => ⟨R, hw.weak zn⟩
 refine wck (wqt (wcs (wcr (wlq (pof ZaX R) R (wlq (v := iv a_c.Split) (plx tk_3 pk1 R R) R (wlq (pol R R) R (wnt (wcO t0 R (fun h2 t0 => ?_) fun h2 t0 => ?_))))))))
 refine wcr (wlq (v := .agg #[iv a_c.Split, iv a_c.A, iv a_c.B]) (plb Zf pk1 R R R) R (wls (sbx (cs' := [iv a_c.Split, iv a_c.A, iv a_c.B]) Zf pz R R R R R R R) (wnt (wct (wqr ?_)))))
 obtain rfl := oi t0
 exact wqc R Zf R pz R fun w hw => ⟨R, hw.weak zn⟩
 refine wck (wqt (wcr (wlq (pof ZaX R) R (wlq (v := iv a_c.Split) (plx tk_3 pk1 R R) R (wlq (Zad R R) R (wlq (pof ZaY R) R (wlq (v := iv a_c.B) (plx tk_3 pk1 R R) R (wlq (pof ZaF R) R (wlq (v := iv a_c.A) (plx tk_3 pk1 R R) R (wlq (Zk R (ZcV (wr (3 - a_c.Split)) a_c.B a_c.A)) R (wls (sbx (cs' := [iv (wr (3 - a_c.Split)), iv a_c.B, iv a_c.A]) Zf pz R R R R R R R) (wnt (wct ?_)))))))))))))
 obtain rfl := oi t0
 exact wqc R Zf R pz R fun w hw => ⟨R, hw.weak zn⟩

theorem Zmu (w : World) (a_b : GBlock) (v0a : Hd) (r0 : rdF w (dm w []) (sl v0a) a_b.Cells) {r : GBlock} (t0 : ZdS a_b = some r) : Calls Tryz.prog 179 #[.agg #[.int .i64 a_b.Size, (sl v0a)]] w fun e w' => ∃ x : Hd, e = .returned (.agg #[.int .i64 r.Size, (sl x)]) ∧ SH w [] [ownF (sl x) r.Cells] w' := by
 refine cwc (args := [_]) Tryz.func179 R Tryz.ntmps179 R ?_
 unfold ZdS at t0
 refine wcr (wle (Zh R R) R fun b1 => (wle (eal (cs := [iv 0, (sl hn)]) Zav) R fun b2 => (wnt (wcs (wcr (wlq (v := .agg #[iv a_b.Size, (sl v0a)]) (plb Zb pk1 R R R) R (bdO t0 fun v1 hv1 t0 => (wlc (cz0 ZeR R fun w hw => Zaz w a_b v0a (ra r0 hw) hv1) R fun _ => (wlq (Zd R) R (wnt (wcO t0 R (fun h1 t0 => ?_) fun h1 t0 => ?_)))))))))))
 refine wcr (wlq (Zk R ZiJ) R (wls (sbx (cs' := [iv 0, (sl hn)]) Zb pz R R R R R R R) (wnt (wct (wqr ?_)))))
 obtain rfl := oi t0
 exact wqc R Zb R pz R fun w hw => ⟨hn, R, hw.weak (zc ZB zn)⟩
 refine wck (wqt (wcr (wlq (pof ZL R) R (wlq (v := iv a_b.Size) (plx tk_3 pk1 R R) R (wlq (Zk R (ZkZ a_b.Size)) R (wle (eal (cs := [iv 0, (sl hn)]) Zav) R fun b3 => (wls (sbx (cs' := [iv a_b.Size, (sl hn)]) Zb pz R R R R R R R) (wnt (wcs (wcr (asg R R (wnt (gdO t0 fun g1 t0 => (Zr t0 fun y1 l1 t0 => (wj (J := List GCell) (X := Hd) (fun z => y1 = z) (fun _ _ => [(2, ptr b2 0), (3, ptr b3 0)]) (fun z x => [box b3 [iv a_b.Size, (sl x)], box b2 [iv 0, (sl hn)], ownF (sl x) z]) ?_ ?_)))))))))))))))
 refine wcb (wcf (X := Hd) l1 (fun k1 s1 x1l => [(1, ptr b1 0), (2, ptr b2 0), (3, ptr b3 0), (4, iv ((k1 : Nat) : Int))]) (fun k1 s1 x1l => [box b3 [iv a_b.Size, (sl x1l)], box b2 [iv 0, (sl hn)], box b1 [iv a_b.Size, (sl v0a)], ownF (sl x1l) s1]) hn (su4 R R R R) (zc pz (zc pz (zc pz (zc ZB zn)))) fun k1 s1 x1l hN1 l1 => ?_)
 by_cases hk1 : k1 < (a_b.Size).toNat
 refine fos l1 hk1 fun _ t1 l1 => ?_
 unfold ZdV at t1
 have c1 : (decide (((k1 : Nat) : Int) < a_b.Size)) = true := ddt (by omega)
 refine wcs (wcr (mv R R (wlq (pof ZL R) R (wlq (v := iv a_b.Size) (plx tk_3 pk2 R R) R (wlq (pls R R) R (wnt (wft R c1 (wck (wqt (wcs (wcb (wcr (asg R R (wnt (Zr t1 fun y2 l2 t1 => (wj (J := List GCell) (X := Hd) (fun z => y2 = z) (fun _ _ => [(1, ptr b1 0), (2, ptr b2 0), (3, ptr b3 0), (4, iv ((k1 : Nat) : Int))]) (fun z x => [box b3 [iv a_b.Size, (sl x)], box b2 [iv 0, (sl hn)], box b1 [iv a_b.Size, (sl v0a)], ownF (sl x) z]) ?_ ?_))))))))))))))))
 refine wcb (wcf (X := Hd) l2 (fun k2 s2 x2l => [(1, ptr b1 0), (2, ptr b2 0), (3, ptr b3 0), (4, iv ((k1 : Nat) : Int)), (5, iv ((k2 : Nat) : Int))]) (fun k2 s2 x2l => [box b3 [iv a_b.Size, (sl x2l)], box b2 [iv 0, (sl hn)], box b1 [iv a_b.Size, (sl v0a)], ownF (sl x2l) s2]) x1l (su5 R R R R R) so4 fun k2 s2 x2l hN2 l2 => ?_)
 by_cases hk2 : k2 < (a_b.Size).toNat
 refine fos l2 hk2 fun _ t2 l2 => ?_
 unfold Zd0 at t2
 have c2 : (decide (((k2 : Nat) : Int) < a_b.Size)) = true := ddt (by omega)
 refine wcs (wcr (mv R R (wlq (pof ZL R) R (wlq (v := iv a_b.Size) (plx tk_3 pk2 R R) R (wlq (pls R R) R (wnt (wft R c2 (wck (wqt (wcs (wcb (wcd [box b3 [iv a_b.Size, (sl x2l)], box b2 [iv 0, (sl hn)], box b1 [iv a_b.Size, (sl v0a)]] 20 mixed (aq 0 R (pof Zx R) so3 R (aq (v := (sl x2l)) 1 R (plx ZR pz R R) so3 R (aq 2 R (pof Zx R) so3 R (aq (v := (sl v0a)) 3 R (plx ZR pk2 R R) so3 R (aq 4 R (pom R) so3 R (aq 5 R (pof ZL R) so3 R (aq (v := iv a_b.Size) 6 R (plx tk_3 pk2 R R) so3 R (aq 7 R (Zcu R R) so3 R (aq 8 R (pof ZL R) so3 R (aq (v := iv a_b.Size) 9 R (plx tk_3 pk2 R R) so3 R (aq 10 R (Z4 R R) so3 R (aq 11 R (Zad R R) so3 R (aq 12 R (pom R) so3 R (aq 13 R (Zad R R) so3 R (gdO t2 fun g2 t2 => (aq 14 R (Z8 (rga r0) Z7 R R g2.1 g2.2) so3 R (aq (v := .agg #[iv ((gx a_b.Cells (((wr ((wr ((wr ((wr (((k1 : Nat) : Int) * a_b.Size)) + a_b.Size)) - 1)) - ((k2 : Nat) : Int)))).toNat)).Split), iv ((gx a_b.Cells (((wr ((wr ((wr ((wr (((k1 : Nat) : Int) * a_b.Size)) + a_b.Size)) - 1)) - ((k2 : Nat) : Int)))).toNat)).A), iv ((gx a_b.Cells (((wr ((wr ((wr ((wr (((k1 : Nat) : Int) * a_b.Size)) + a_b.Size)) - 1)) - ((k2 : Nat) : Int)))).toNat)).B)]) 15 R (ZaB (rga r0) Zf R (ZK g2) R R R) so3 R (a1 16 (bdO t2 fun v2 hv2 t2 => (wsc R (cz0 Zxc R fun w hw => Zny w (gx a_b.Cells (((wr ((wr ((wr ((wr (((k1 : Nat) : Int) * a_b.Size)) + a_b.Size)) - 1)) - ((k2 : Nat) : Int)))).toNat)) hv2) (fun _ => (zt so3)) R fun _ => (a1 17 (wse R (ebs R (Zk3 v2.Split v2.A v2.B)) (fun _ => (zt (zc pk1 (zc pk1 (zc pk1 zn))))) R fun b4 => (a1 18 (gdO t2 fun g3 t2 => (wse R (Zg (xs := s2) (ys := ([v2] : List GCell)) Zlo pk4 R R (Zi fun _ g => Rg.on (rgo (pbo pz (n := 1) (xs := ([v2] : List GCell)) R R (by unfold maxLen; omega))) g) g3) (fun _ => (zt (zc pk2 (zc pk2 (zc pk2 zn))))) R fun x3 => ?_)))))))))))))))))))))))))))))))))))))
 refine aq 19 R (pof Zx R) (zc pk2 (zc pk2 (zc pk2 zn))) R (a1 20 (ZU R (sbx (cs' := [iv a_b.Size, (sl x3)]) ZR pk2 R R R R R R R) (Zaw (by kernel_rfl)) ?_))
 refine ae (wqb (wqt (wcg (mv R R (wlq (Zj R R (by omega)) R ?_)))))
 exact asg R R (wln (Zl hk2 (stpN l2 t2) x3 (su5 R R R R R) (zc pz (zc pk2 (zc pk2 so1)))))
 have c2 : (decide (((k2 : Nat) : Int) < a_b.Size)) = false := ddf (by omega)
 have en1 := foe l2 hk2
 exact wcs (wcr (mv R R (wlq (pof ZL R) R (wlq (v := iv a_b.Size) (plx tk_3 pk2 R R) R (wlq (pls R R) R (wnt (wff R c2 (wcx (wqe (wqe (wbx (wjm _ x2l (Sum.inl.inj en1) (su4 R R R R) so4))))))))))))
 intro e2 x2 hp
 obtain rfl : e2 = y2 := hp.symm
 refine wqb (wqt (wcg (mv R R (wlq (Zj R R (by omega)) R ?_))))
 exact asg R R (wln (Zl hk1 (stpN l1 t1) x2 (su4 R R R R) so4))
 have c1 : (decide (((k1 : Nat) : Int) < a_b.Size)) = false := ddf (by omega)
 have en2 := foe l1 hk1
 exact wcs (wcr (mv R R (wlq (pof ZL R) R (wlq (v := iv a_b.Size) (plx tk_3 pk2 R R) R (wlq (pls R R) R (wnt (wff R c1 (wcx (wqe (wqe (wbx (wjm _ x1l (Sum.inl.inj en2) (su2 R R) (zc pz (zc pz (zc pk1 zn)))))))))))))))
 intro e1 x1 hp
 obtain rfl : e1 = y1 := hp.symm
 refine wqt (wcr (wlq (v := .agg #[iv a_b.Size, (sl x1)]) (plb Zb pz R R R) R (wls (sbx (cs' := [iv a_b.Size, (sl x1)]) Zb pk1 R R R R R R R) (wnt (wct ?_)))))
 obtain rfl := oi t0
 exact wqc R Zb R pz R fun w hw => ⟨x1, R, hw.weak (zc pk2 zn)⟩

theorem ZpC (w : World) (a_c : GCell) {r : GCell} (t0 : ZfN a_c = some r) : Calls Tryz.prog 192 #[.agg #[.int .i64 a_c.Split, .int .i64 a_c.A, .int .i64 a_c.B]] w fun e w' => e = .returned (.agg #[.int .i64 r.Split, .int .i64 r.A, .int .i64 r.B]) ∧ SH w [] [] w' := by
 refine cwc (args := [_]) Tryz.func192 R Tryz.ntmps192 R ?_
 unfold ZfN at t0
 refine wcr (wle (Zh R R) R fun b1 => (wle (eal (cs := [iv 0, iv 0, iv 0]) Zbj) R fun b2 => (wnt (wcs (wcr (wlq (v := .agg #[iv a_c.Split, iv a_c.A, iv a_c.B]) (plb Zf pk1 R R R) R (bdO t0 fun v1 hv1 t0 => (wlc (cz0 ZjL R fun w hw => Zc7 w a_c hv1) R fun _ => (wlq (Zd R) R (wnt (wcO t0 R (fun h1 t0 => ?_) fun h1 t0 => ?_)))))))))))
 refine wcr (wlq (Zk R ZgH) R (wls (sbx (cs' := [iv 0, iv 0, iv 0]) Zf pz R R R R R R R) (wnt (wct (wqr ?_)))))
 obtain rfl := oi t0
 exact wqc R Zf R pz R fun w hw => ⟨R, hw.weak zn⟩
 refine wck (wqt (wcs (wcr (wlq (pof ZaX R) R (wlq (v := iv a_c.Split) (plx tk_3 pk1 R R) R (wnt (wcb (wcr (wlq (pol R R) R (asg R R (wnt (wcO t0 R (fun h2 t0 => ?_) fun h2 t0 => ?_))))))))))))
 refine wcr (wlq (pof ZaY R) R (wlq (v := iv a_c.B) (plx tk_3 pk1 R R) R (wlq (pof ZaF R) R (wlq (v := iv a_c.A) (plx tk_3 pk1 R R) R (wlq (Zk R (ZcV 2 a_c.B a_c.A)) R (wls (sbx (cs' := [iv 2, iv a_c.B, iv a_c.A]) Zf pz R R R R R R R) (wnt (wct (wbr (wqr ?_))))))))))
 obtain rfl := oi t0
 exact wqc R Zf R pz R fun w hw => ⟨R, hw.weak zn⟩
 refine wcr (wlq (pol R R) R (asg R R (wnt (wcO t0 R (fun h3 t0 => ?_) fun h3 t0 => ?_))))
 refine wcr (wlq (pof ZaF R) R (wlq (v := iv a_c.A) (plx tk_3 pk1 R R) R (wlq (pof ZaY R) R (wlq (v := iv a_c.B) (plx tk_3 pk1 R R) R (wlq (Zk R (ZcV 1 a_c.A a_c.B)) R (wls (sbx (cs' := [iv 1, iv a_c.A, iv a_c.B]) Zf pz R R R R R R R) (wnt (wct (wbr (wqr ?_))))))))))
 obtain rfl := oi t0
 exact wqc R Zf R pz R fun w hw => ⟨R, hw.weak zn⟩
 refine wck (wqb (wqt (wcr (wlq (v := .agg #[iv a_c.Split, iv a_c.A, iv a_c.B]) (plb Zf pk1 R R R) R (wls (sbx (cs' := [iv a_c.Split, iv a_c.A, iv a_c.B]) Zf pz R R R R R R R) (wnt (wct ?_)))))))
 obtain rfl := oi t0
 exact wqc R Zf R pz R fun w hw => ⟨R, hw.weak zn⟩

theorem Zor (w : World) (a_b : GBlock) (v0a : Hd) (r0 : rdF w (dm w []) (sl v0a) a_b.Cells) {r : GBlock} (t0 : ZeT a_b = some r) : Calls Tryz.prog 180 #[.agg #[.int .i64 a_b.Size, (sl v0a)]] w fun e w' => ∃ x : Hd, e = .returned (.agg #[.int .i64 r.Size, (sl x)]) ∧ SH w [] [ownF (sl x) r.Cells] w' := by
 refine cwc (args := [_]) Tryz.func180 R Tryz.ntmps180 R ?_
 unfold ZeT at t0
 refine wcr (wle (Zh R R) R fun b1 => (wle (eal (cs := [iv 0, (sl hn)]) Zav) R fun b2 => (wnt (wcs (wcr (wlq (v := .agg #[iv a_b.Size, (sl v0a)]) (plb Zb pk1 R R R) R (bdO t0 fun v1 hv1 t0 => (wlc (cz0 ZeR R fun w hw => Zaz w a_b v0a (ra r0 hw) hv1) R fun _ => (wlq (Zd R) R (wnt (wcO t0 R (fun h1 t0 => ?_) fun h1 t0 => ?_)))))))))))
 refine wcr (wlq (Zk R ZiJ) R (wls (sbx (cs' := [iv 0, (sl hn)]) Zb pz R R R R R R R) (wnt (wct (wqr ?_)))))
 obtain rfl := oi t0
 exact wqc R Zb R pz R fun w hw => ⟨hn, R, hw.weak (zc ZB zn)⟩
 refine wck (wqt (wcr (wlq (pof ZL R) R (wlq (v := iv a_b.Size) (plx tk_3 pk1 R R) R (wlq (Zk R (ZkZ a_b.Size)) R (wle (eal (cs := [iv 0, (sl hn)]) Zav) R fun b3 => (wls (sbx (cs' := [iv a_b.Size, (sl hn)]) Zb pz R R R R R R R) (wnt (wcs (wcr (asg R R (wnt (gdO t0 fun g1 t0 => (Zr t0 fun y1 l1 t0 => (wj (J := List GCell) (X := Hd) (fun z => y1 = z) (fun _ _ => [(2, ptr b2 0), (3, ptr b3 0)]) (fun z x => [box b3 [iv a_b.Size, (sl x)], box b2 [iv 0, (sl hn)], ownF (sl x) z]) ?_ ?_)))))))))))))))
 refine wcb (wcf (X := Hd) l1 (fun k1 s1 x1l => [(1, ptr b1 0), (2, ptr b2 0), (3, ptr b3 0), (4, iv ((k1 : Nat) : Int))]) (fun k1 s1 x1l => [box b3 [iv a_b.Size, (sl x1l)], box b2 [iv 0, (sl hn)], box b1 [iv a_b.Size, (sl v0a)], ownF (sl x1l) s1]) hn (su4 R R R R) (zc pz (zc pz (zc pz (zc ZB zn)))) fun k1 s1 x1l hN1 l1 => ?_)
 by_cases hk1 : k1 < (a_b.Size).toNat
 refine fos l1 hk1 fun _ t1 l1 => ?_
 unfold Zer at t1
 have c1 : (decide (((k1 : Nat) : Int) < a_b.Size)) = true := ddt (by omega)
 refine wcs (wcr (mv R R (wlq (pof ZL R) R (wlq (v := iv a_b.Size) (plx tk_3 pk2 R R) R (wlq (pls R R) R (wnt (wft R c1 (wck (wqt (wcs (wcb (wcr (asg R R (wnt (Zr t1 fun y2 l2 t1 => (wj (J := List GCell) (X := Hd) (fun z => y2 = z) (fun _ _ => [(1, ptr b1 0), (2, ptr b2 0), (3, ptr b3 0), (4, iv ((k1 : Nat) : Int))]) (fun z x => [box b3 [iv a_b.Size, (sl x)], box b2 [iv 0, (sl hn)], box b1 [iv a_b.Size, (sl v0a)], ownF (sl x) z]) ?_ ?_))))))))))))))))
 refine wcb (wcf (X := Hd) l2 (fun k2 s2 x2l => [(1, ptr b1 0), (2, ptr b2 0), (3, ptr b3 0), (4, iv ((k1 : Nat) : Int)), (5, iv ((k2 : Nat) : Int))]) (fun k2 s2 x2l => [box b3 [iv a_b.Size, (sl x2l)], box b2 [iv 0, (sl hn)], box b1 [iv a_b.Size, (sl v0a)], ownF (sl x2l) s2]) x1l (su5 R R R R R) so4 fun k2 s2 x2l hN2 l2 => ?_)
 by_cases hk2 : k2 < (a_b.Size).toNat
 refine fos l2 hk2 fun _ t2 l2 => ?_
 unfold ZeE at t2
 have c2 : (decide (((k2 : Nat) : Int) < a_b.Size)) = true := ddt (by omega)
 refine wcs (wcr (mv R R (wlq (pof ZL R) R (wlq (v := iv a_b.Size) (plx tk_3 pk2 R R) R (wlq (pls R R) R (wnt (wft R c2 (wck (wqt (wcs (wcb (wcd [box b3 [iv a_b.Size, (sl x2l)], box b2 [iv 0, (sl hn)], box b1 [iv a_b.Size, (sl v0a)]] 20 mixed (aq 0 R (pof Zx R) so3 R (aq (v := (sl x2l)) 1 R (plx ZR pz R R) so3 R (aq 2 R (pof Zx R) so3 R (aq (v := (sl v0a)) 3 R (plx ZR pk2 R R) so3 R (aq 4 R (pof ZL R) so3 R (aq (v := iv a_b.Size) 5 R (plx tk_3 pk2 R R) so3 R (aq 6 R (Zad R R) so3 R (aq 7 R (pom R) so3 R (aq 8 R (Zad R R) so3 R (aq 9 R (pof ZL R) so3 R (aq (v := iv a_b.Size) 10 R (plx tk_3 pk2 R R) so3 R (aq 11 R (Zcu R R) so3 R (aq 12 R (pom R) so3 R (aq 13 R (Z4 R R) so3 R (gdO t2 fun g2 t2 => (aq 14 R (Z8 (rga r0) Z7 R R g2.1 g2.2) so3 R (aq (v := .agg #[iv ((gx a_b.Cells (((wr ((wr ((wr ((wr (a_b.Size - 1)) - ((k2 : Nat) : Int))) * a_b.Size)) + ((k1 : Nat) : Int)))).toNat)).Split), iv ((gx a_b.Cells (((wr ((wr ((wr ((wr (a_b.Size - 1)) - ((k2 : Nat) : Int))) * a_b.Size)) + ((k1 : Nat) : Int)))).toNat)).A), iv ((gx a_b.Cells (((wr ((wr ((wr ((wr (a_b.Size - 1)) - ((k2 : Nat) : Int))) * a_b.Size)) + ((k1 : Nat) : Int)))).toNat)).B)]) 15 R (ZaB (rga r0) Zf R (ZK g2) R R R) so3 R (a1 16 (bdO t2 fun v2 hv2 t2 => (wsc R (cz0 Zwh R fun w hw => ZpC w (gx a_b.Cells (((wr ((wr ((wr ((wr (a_b.Size - 1)) - ((k2 : Nat) : Int))) * a_b.Size)) + ((k1 : Nat) : Int)))).toNat)) hv2) (fun _ => (zt so3)) R fun _ => (a1 17 (wse R (ebs R (Zk3 v2.Split v2.A v2.B)) (fun _ => (zt (zc pk1 (zc pk1 (zc pk1 zn))))) R fun b4 => (a1 18 (gdO t2 fun g3 t2 => (wse R (Zg (xs := s2) (ys := ([v2] : List GCell)) Zlo pk4 R R (Zi fun _ g => Rg.on (rgo (pbo pz (n := 1) (xs := ([v2] : List GCell)) R R (by unfold maxLen; omega))) g) g3) (fun _ => (zt (zc pk2 (zc pk2 (zc pk2 zn))))) R fun x3 => ?_)))))))))))))))))))))))))))))))))))))
 refine aq 19 R (pof Zx R) (zc pk2 (zc pk2 (zc pk2 zn))) R (a1 20 (ZU R (sbx (cs' := [iv a_b.Size, (sl x3)]) ZR pk2 R R R R R R R) (Zaw (by kernel_rfl)) ?_))
 refine ae (wqb (wqt (wcg (mv R R (wlq (Zj R R (by omega)) R ?_)))))
 exact asg R R (wln (Zl hk2 (stpN l2 t2) x3 (su5 R R R R R) (zc pz (zc pk2 (zc pk2 so1)))))
 have c2 : (decide (((k2 : Nat) : Int) < a_b.Size)) = false := ddf (by omega)
 have en1 := foe l2 hk2
 exact wcs (wcr (mv R R (wlq (pof ZL R) R (wlq (v := iv a_b.Size) (plx tk_3 pk2 R R) R (wlq (pls R R) R (wnt (wff R c2 (wcx (wqe (wqe (wbx (wjm _ x2l (Sum.inl.inj en1) (su4 R R R R) so4))))))))))))
 intro e2 x2 hp
 obtain rfl : e2 = y2 := hp.symm
 refine wqb (wqt (wcg (mv R R (wlq (Zj R R (by omega)) R ?_))))
 exact asg R R (wln (Zl hk1 (stpN l1 t1) x2 (su4 R R R R) so4))
 have c1 : (decide (((k1 : Nat) : Int) < a_b.Size)) = false := ddf (by omega)
 have en2 := foe l1 hk1
 exact wcs (wcr (mv R R (wlq (pof ZL R) R (wlq (v := iv a_b.Size) (plx tk_3 pk2 R R) R (wlq (pls R R) R (wnt (wff R c1 (wcx (wqe (wqe (wbx (wjm _ x1l (Sum.inl.inj en2) (su2 R R) (zc pz (zc pz (zc pk1 zn)))))))))))))))
 intro e1 x1 hp
 obtain rfl : e1 = y1 := hp.symm
 refine wqt (wcr (wlq (v := .agg #[iv a_b.Size, (sl x1)]) (plb Zb pz R R R) R (wls (sbx (cs' := [iv a_b.Size, (sl x1)]) Zb pk1 R R R R R R R) (wnt (wct ?_)))))
 obtain rfl := oi t0
 exact wqc R Zb R pz R fun w hw => ⟨x1, R, hw.weak (zc pk2 zn)⟩

theorem Zks (w : World) (a_b : GBlock) (v0a : Hd) (r0 : rdF w (dm w []) (sl v0a) a_b.Cells) (a_k : Int) {r : GBlock} (t0 : Zd8 a_b a_k = some r) : Calls Tryz.prog 166 #[.agg #[.int .i64 a_b.Size, (sl v0a)], .int .i64 a_k] w fun e w' => ∃ x : Hd, e = .returned (.agg #[.int .i64 r.Size, (sl x)]) ∧ SH w [] [ownF (sl x) r.Cells] w' := by
 refine cwc (args := [_, _]) Tryz.func166 R Tryz.ntmps166 R ?_
 unfold Zd8 at t0
 refine wcr (wle (Zh R R) R fun b1 => (wle (eal (cs := [iv 0, (sl hn)]) Zav) R fun b2 => (wnt (wcs (wcs (bdO t0 fun y1 t1 t0 => (wj (J := Bool) (X := Unit) (fun z => y1 = z) (fun z _ => [(1, iv a_k), (2, ptr b1 0), (4, ptr b2 0), (14, .bool z)]) (fun _ _ => [box b2 [iv 0, (sl hn)], box b1 [iv a_b.Size, (sl v0a)]]) ?_ ?_)))))))
 refine wcg (wlq (v := .agg #[iv a_b.Size, (sl v0a)]) (plb Zb pk1 R R R) R (bdO t1 fun v1 hv1 t1 => (wlc (cz0 ZeR R fun w hw => Zaz w a_b v0a (ra r0 hw) hv1) R fun _ => (wlq (Zd R) R (mv R R (wlo (t := 10) t1 R (fun h1 t1 => ?_) fun h1 t1 => ?_))))))
 exact wgf (j := 3) R R R R R (wgf (j := 3) R R R R R (wgf (j := 3) R R R R R (wlq (pit R R) R (wln (wjm _ () (mtE t1) (su4 R R R R) so2)))))
 exact wgn (j := 3) R R R (mv R R (bdO t1 fun v2 hv2 t1 => (wgn (j := 3) R R R (wlc (cz0 Zbo R fun w hw => ZT w a_k 0 7 hv2) R (fun _ => (wgn (j := 3) R R R (wlq (Zd R) R (wlq (pif R R) R (wln (wjm _ () (mtE t1) (su4 R R R R) so2))))))))))
 intro j1 _ hp
 obtain rfl : j1 = y1 := hp.symm
 refine wqt (wcO t0 R (fun h2 t0 => ?_) fun h2 t0 => ?_)
 refine wcr (wlq (Zk R ZiJ) R (wls (sbx (cs' := [iv 0, (sl hn)]) Zb pz R R R R R R R) (wnt (wct (wqr ?_)))))
 obtain rfl := oi t0
 exact wqc R Zb R pz R fun w hw => ⟨hn, R, hw.weak (zc ZB zn)⟩
 refine wck (wqt (wcr (wlq (v := .agg #[iv a_b.Size, (sl v0a)]) (plb Zb pk1 R R R) R (bdO t0 fun v3 hv3 t0 => (wlc (cz1 Zq9 R fun w hw => Zg2 w a_b v0a (ra r0 hw) hv3) R fun x2 => (wle (eal (cs := [iv 0, (sl hn)]) Zav) R fun b3 => (wls (sbx (cs' := [iv v3.Size, (sl x2)]) Zb pz R R R R R R R) (wnt (wcs (wcr (mv R R (wlq (Ze1 R R) R (wnt (bdO t0 fun y1 t1 t0 => (wj (J := GBlock) (X := Hd) (fun z => y1 = z) (fun _ _ => [(1, iv a_k), (4, ptr b2 0), (5, ptr b3 0)]) (fun z x => [box b3 [iv ((z).Size), (sl x)], box b2 [iv 0, (sl hn)], ownF (sl x) ((z).Cells)]) ?_ ?_)))))))))))))))
 refine wcO t1 R (fun h3 t1 => ?_) fun h3 t1 => ?_
 exact wcg (wlq (v := .agg #[iv a_b.Size, (sl v0a)]) (plb Zb pk3 R R R) R (bdO t1 fun v4 hv4 t1 => (wlc (cz1 Zxb R fun w hw => Zmu w a_b v0a (ra r0 hw) hv4) R fun x4 => (wls (sbx (cs' := [iv v4.Size, (sl x4)]) Zb pk1 R R R R R R R) (wln (wjm _ x4 (mtE t1) (su3 R R R) (zc pz (zc pk2 so1))))))))
 exact wck (wjm _ x2 (mtE t1) (su3 R R R) (zc pz (zc pk1 so1)))
 intro j2 x3 hp
 obtain rfl : j2 = y1 := hp.symm
 refine wqt (wcs (wcr (asg R R (wnt (gdO t0 fun g1 t0 => (Zr t0 fun y1 l1 t0 => (wj (J := Int × (List GCell)) (X := Hd) (fun z => y1 = z) (fun _ _ => [(4, ptr b2 0), (5, ptr b3 0)]) (fun z x => [box b3 [iv z.1, (sl x)], box b2 [iv 0, (sl hn)], ownF (sl x) z.2]) ?_ ?_)))))))
 refine wcb (wcf (X := Hd) l1 (fun k1 s1 x1l => [(1, iv a_k), (4, ptr b2 0), (5, ptr b3 0), (6, iv ((k1 : Nat) : Int))]) (fun k1 s1 x1l => [box b3 [iv s1.1, (sl x1l)], box b2 [iv 0, (sl hn)], ownF (sl x1l) s1.2]) x3 (su4 R R R R) so3 fun k1 s1 x1l hN1 l1 => ?_)
 by_cases hk1 : k1 < ((a_k.tmod 4)).toNat
 refine fos l1 hk1 fun _ t1 l1 => ?_
 unfold Zfo at t1
 have c1 : (decide (((k1 : Nat) : Int) < (a_k.tmod 4))) = true := ddt (by omega)
 refine wcs (wcr (mv R R (mv R R (wlq (Zia R R (by decide)) R ?_))))
 refine wlq (pls R R) R (wnt (wft R c1 (wck (wqt (wcs (wcb (wcg (wlq (v := .agg #[iv s1.1, (sl x1l)]) (plb Zb pz R R R) R (bdO t1 fun v5 hv5 t1 => (wlc (cz1 ZwX R fun w hw => Zor w (GBlock.mk s1.1 s1.2) x1l (Rg.on (rgo pk2) hw) hv5) R fun x6 => (wls (sbx (cs' := [iv v5.Size, (sl x6)]) Zb pk1 R R R R R R R) (wln (wqb (wqt (wcg (mv R R (wlq (Zj R R (by omega)) R ?_)))))))))))))))))
 exact asg R R (wln (Zl hk1 (stpN l1 t1) x6 (su4 R R R R) (zc pz (zc pk1 so1))))
 have c1 : (decide (((k1 : Nat) : Int) < (a_k.tmod 4))) = false := ddf (by omega)
 have en1 := foe l1 hk1
 refine wcs (wcr (mv R R (mv R R (wlq (Zia R R (by decide)) R ?_))))
 exact wlq (pls R R) R (wnt (wff R c1 (wcx (wqe (wqe (wbx (wjm _ x1l (Sum.inl.inj en1) (su2 R R) so3)))))))
 intro e1 x5 hp
 obtain rfl : e1 = y1 := hp.symm
 refine wqt (wcr (wlq (v := .agg #[iv e1.1, (sl x5)]) (plb Zb pz R R R) R (wls (sbx (cs' := [iv e1.1, (sl x5)]) Zb pk1 R R R R R R R) (wnt (wct ?_)))))
 obtain rfl := oi t0
 exact wqc R Zb R pz R fun w hw => ⟨x5, R, hw.weak (zc pk2 zn)⟩

theorem Zoq (w : World) (a_x : Int) {r : UInt8} (t0 : Ze3 a_x = some r) : Calls Tryz.prog 206 #[.int .i64 a_x] w fun e w' => e = .returned (.int .u8 (r.toNat : Int)) ∧ SH w [] [] w' := by
 refine cwc (args := [_]) Tryz.func206 R Tryz.ntmps206 R ?_
 unfold Ze3 at t0
 refine wcr (asg R R (wnt (wcs (wcr (mv R R (wlq (pls R R) R (wnt (wcO t0 R (fun h1 t0 => ?_) fun h1 t0 => ?_))))))))
 refine wcr (mv R R (wlq (Z4 R R) R (wlq (Zr0 Zm9 Zo2 R) R (asg R R (wnt (wct (wqr ?_)))))))
 obtain rfl := oi t0
 exact wq1 R R fun w hw => ⟨R, hw.weak zn⟩
 refine wck (wqt (wcr (mv R R (wlq (Z4 R R) R (wlq (Zad R R) R (wlq (Zr0 Zm9 Zo2 R) R (asg R R (wnt (wct ?_)))))))))
 obtain rfl := oi t0
 exact wq1 R R fun w hw => ⟨R, hw.weak zn⟩

theorem ZdH (w : World) (a_n : Int) {r : Str} (t0 : ZJ a_n = some r) : Calls Tryz.prog 200 #[.int .i64 a_n] w fun e w' => e = .returned (bs r) ∧ SH w [] [] w' := by
 refine cwc (args := [_]) Tryz.func200 R Tryz.ntmps200 R ?_
 unfold ZJ at t0
 refine wcr (asg R R (wnt (wcs (wcr (mv R R (wlq (pol R R) R (wnt (wcO t0 R (fun h1 t0 => ?_) fun h1 t0 => ?_))))))))
 refine wcr (asg R R (wnt (wct (wqr ?_))))
 obtain rfl := oi t0
 exact wq1 R R fun w hw => ⟨R, hw.weak zn⟩
 refine wck (wqt (wcr (mv R R (wlq (pls R R) R (asg R R (wnt (wcr (asg R R (wnt (wcs (Zjx t0 fun y1 l1 t0 => (wj (J := Int × Str) (X := Unit) (fun z => y1 = z) (fun z _ => [(3, .bool (decide (a_n < 0))), (4, bs z.2)]) (fun _ _ => []) ?_ ?_))))))))))))
 refine wcb (ZkQ (X := Unit) l1 (fun s1 x1l => [(0, iv s1.1), (3, .bool (decide (a_n < 0))), (4, bs s1.2)]) (fun s1 x1l => []) () (su3 R R R) zn fun m1 s1 x1l l1 => (Ziy l1 fun _ t1 l1 => ?_))
 unfold Za1 at t1
 refine wcs (wcr (mv R R (wlq (Zeh R R) R (wnt (wcO t1 R (fun h2 t1 => ?_) fun h2 t1 => ?_)))))
 refine wck (wqt (wcb (wcr (mv R R (wlq (Zia R R (by decide)) R ?_)))))
 refine asg R R (wnt (wcs (wcr (mv R R (wlq (pls R R) R (wnt (wcj (X := Unit) (fun _ => True) (fun _ => [(0, iv s1.1), (3, .bool (decide (a_n < 0))), (4, bs s1.2), (5, iv (bif (decide ((s1.1.tmod 10) < 0)) then (wr (0 - (s1.1.tmod 10))) else (s1.1.tmod 10)))]) (fun _ => []) ?_ ?_)))))))
 refine ZbI R (fun h3 => ?_) fun h3 => ?_
 exact wcg (mv R R (wlq (Zwl R) R (asg R R (wln (wqm () trivial (yc R (yc R (yc R (Zgf R (by simp only [h3, cond_true]) yn)))) zn)))))
 exact wck (wqm () trivial (yc R (yc R (yc R (Zgf R (by simp only [h3, cond_false]) yn)))) zn)
 intro _ _
 refine wqt (wcr (mv R R (bdO t1 fun v1 hv1 t1 => (wlc (cz0 Zwq R fun w hw => Zoq w (bif (decide ((s1.1.tmod 10) < 0)) then (wr (0 - (s1.1.tmod 10))) else (s1.1.tmod 10)) hv1) R fun _ => (wle (ebs R (ZvX v1)) R fun b1 => (wlq (ZwM (rgo (pbo pz (n := 1) (xs := ([v1] : List UInt8)) R R (by unfold maxLen; omega))) Ztc Zf5 R) R ?_))))))
 refine mv R R (gdO t1 fun g1 t1 => (wlq (ZaK R R g1) R (asg R R (wnt (wcg (mv R R (wlq (Zk1 R R (by decide)) R ?_)))))))
 exact asg R R (wln (wqb (ZjD (stwN l1 t1) () (su3 R R R) zn)))
 exact wcx (wqe (wqe (wbx (wjm _ () (Sum.inl.inj (stwB l1 t1)) (su2 R R) zn))))
 intro e1 _ hp
 obtain rfl : e1 = y1 := hp.symm
 refine wqt (wcs (wcr (mv R R (wnt (wcO t0 R (fun h4 t0 => ?_) fun h4 t0 => ?_)))))
 refine wcr (mv R R (gdO t0 fun g2 t0 => (wlq (ZaK R R g2) R (asg R R (wnt (wct (wqr ?_)))))))
 obtain rfl := oi t0
 exact wq1 R R fun w hw => ⟨R, hw.weak zn⟩
 refine wck (wqt (wcr (mv R R (asg R R (wnt (wct ?_))))))
 obtain rfl := oi t0
 exact wq1 R R fun w hw => ⟨R, hw.weak zn⟩

theorem Zpk (w : World) (a_c : GCell) {r : Str} (t0 : Zea a_c = some r) : Calls Tryz.prog 190 #[.agg #[.int .i64 a_c.Split, .int .i64 a_c.A, .int .i64 a_c.B]] w fun e w' => e = .returned (bs r) ∧ SH w [] [] w' := by
 refine cwc (args := [_]) Tryz.func190 R Tryz.ntmps190 R ?_
 unfold Zea at t0
 refine wcr (wle (Zh R R) R fun b1 => (asg R R (wnt (wcs (wcr (wlq (v := .agg #[iv a_c.Split, iv a_c.A, iv a_c.B]) (plb Zf pz R R R) R (bdO t0 fun v1 hv1 t0 => (wlc (cz0 ZjL R fun w hw => Zc7 w a_c hv1) R fun _ => (wlq (Zd R) R (wnt (wcO t0 R (fun h1 t0 => ?_) fun h1 t0 => ?_)))))))))))
 refine wcr (asg R R (wnt (wct (wqr ?_))))
 obtain rfl := oi t0
 exact wq1 R R fun w hw => ⟨R, hw.weak zn⟩
 refine wck (wqt (wcs (wcr (wlq (pof ZaX R) R (wlq (v := iv a_c.Split) (plx tk_3 pz R R) R (wnt (wcb (wcr (wlq (pol R R) R (asg R R (wnt (wcO t0 R (fun h2 t0 => ?_) fun h2 t0 => ?_))))))))))))
 refine wcs (wcd [box b1 [iv a_c.Split, iv a_c.A, iv a_c.B]] 9 mixed (aq 0 R (pof ZaF R) so1 R (aq (v := iv a_c.A) 1 R (plx tk_3 pz R R) so1 R (aq 4 R (pof ZaY R) so1 R (aq (v := iv a_c.B) 5 R (plx tk_3 pz R R) so1 R (a1 2 (bdO t0 fun v2 hv2 t0 => (wsc R (cz0 ZmC R fun w hw => ZdH w a_c.A hv2) (fun _ => (zt so1)) R fun _ => (gdO t0 fun g1 t0 => (aq 3 R (ZaK R R g1) so1 R (a1 6 (bdO t0 fun v3 hv3 t0 => (wsc R (cz0 ZmC R fun w hw => ZdH w a_c.B hv3) (fun _ => (zt so1)) R fun _ => (gdO t0 fun g2 t0 => (aq 7 R (ZaK R R g2) so1 R (aq 8 R (Zu R) so1 R (ae (wqt (wct (wbr (wqr ?_)))))))))))))))))))))
 obtain rfl := oi t0
 exact wq1 R R fun w hw => ⟨R, hw.weak zn⟩
 refine wcr (wlq (pol R R) R (asg R R (wnt (wcO t0 R (fun h3 t0 => ?_) fun h3 t0 => ?_))))
 refine wcs (wcd [box b1 [iv a_c.Split, iv a_c.A, iv a_c.B]] 9 mixed (aq 0 R (pof ZaF R) so1 R (aq (v := iv a_c.A) 1 R (plx tk_3 pz R R) so1 R (aq 4 R (pof ZaY R) so1 R (aq (v := iv a_c.B) 5 R (plx tk_3 pz R R) so1 R (a1 2 (bdO t0 fun v4 hv4 t0 => (wsc R (cz0 ZmC R fun w hw => ZdH w a_c.A hv4) (fun _ => (zt so1)) R fun _ => (gdO t0 fun g3 t0 => (aq 3 R (ZaK R R g3) so1 R (a1 6 (bdO t0 fun v5 hv5 t0 => (wsc R (cz0 ZmC R fun w hw => ZdH w a_c.B hv5) (fun _ => (zt so1)) R fun _ => (gdO t0 fun g4 t0 => (aq 7 R (ZaK R R g4) so1 R (aq 8 R (Zu R) so1 R (ae (wqt (wct (wbr (wqr ?_)))))))))))))))))))))
 obtain rfl := oi t0
 exact wq1 R R fun w hw => ⟨R, hw.weak zn⟩
 refine wck (wqb (wqt (wcr (wlq (pof ZaF R) R (wlq (v := iv a_c.A) (plx tk_3 pz R R) R (bdO t0 fun v6 hv6 t0 => (wlc (cz0 ZmC R fun w hw => ZdH w a_c.A hv6) R fun _ => (asg R R (wnt (wct ?_))))))))))
 obtain rfl := oi t0
 exact wq1 R R fun w hw => ⟨R, hw.weak zn⟩

theorem ZlS (w : World) (a_b : GBlock) (v0a : Hd) (r0 : rdF w (dm w []) (sl v0a) a_b.Cells) {r : Str} (t0 : Zep a_b = some r) : Calls Tryz.prog 177 #[.agg #[.int .i64 a_b.Size, (sl v0a)]] w fun e w' => e = .returned (bs r) ∧ SH w [] [] w' := by
 refine cwc (args := [_]) Tryz.func177 R Tryz.ntmps177 R ?_
 unfold Zep at t0
 refine wcr (wle (Zh R R) R fun b1 => (asg R R (wnt (wcr (asg R R (wnt (wcs (wcr (asg R R (wnt (gdO t0 fun g1 t0 => (Zr t0 fun y1 l1 t0 => (wj (J := Str) (X := Unit) (fun z => y1 = z) (fun z _ => [(3, bs z)]) (fun _ _ => []) ?_ ?_)))))))))))))
 refine wcb (wcf (X := Unit) l1 (fun k1 s1 x1l => [(1, ptr b1 0), (3, bs s1), (4, iv ((k1 : Nat) : Int))]) (fun k1 s1 x1l => [box b1 [iv a_b.Size, (sl v0a)]]) () (su3 R R R) so1 fun k1 s1 x1l hN1 l1 => ?_)
 by_cases hk1 : k1 < a_b.Cells.length
 refine fos l1 hk1 fun _ t1 l1 => ?_
 unfold ZgZ at t1
 have c1 : (decide (((k1 : Nat) : Int) < ((a_b.Cells.length : Nat) : Int))) = true := ddt (by omega)
 refine wcs (wcr (mv R R (wlq (pof Zx R) R (wlq (v := (sl v0a)) (plx ZR pz R R) R (wlq (pln (rga r0) Z7 R) R (wlq (pls R R) R (mv R R (ZhW (t := 10) R c1 (wgn (j := 5) R R R (wlq (v := .agg #[iv a_b.Size, (sl v0a)]) (plb Zb pz R R R) R (bdO t1 fun v1 hv1 t1 => (wgn (j := 5) R R R (wlc (cz0 ZeR R fun w hw => Zaz w a_b v0a (ra r0 hw) hv1) R (fun _ => (wlq (pit R R) R (wnt (wcO t1 R (fun h1 t1 => ?_) fun h1 t1 => ?_)))))))))))))))))
 refine wck (wqt (wcs (wcb (wcg (mv R R (wlq (pof Zx R) R (wlq (v := (sl v0a)) (plx ZR pz R R) R (mv R R (wlq (Zv (k := k1) (rga r0) Z7 R R hk1) R (wlq (v := .agg #[iv ((gx a_b.Cells k1).Split), iv ((gx a_b.Cells k1).A), iv ((gx a_b.Cells k1).B)]) (ZaB (rga r0) Zf R hk1 R R R) R (bdO t1 fun v2 hv2 t1 => (wlc (cz0 Zwo R fun w hw => Zpk w (gx a_b.Cells k1) hv2) R fun _ => (gdO t1 fun g2 t1 => (wlq (ZaK R R g2) R (gdO t1 fun g3 t1 => (wlq (ZaK R R g3) R (asg R R (wln (wqb (wqt (wcg (mv R R (wlq (Zj R R (by omega)) R ?_)))))))))))))))))))))))
 exact asg R R (wln (Zl hk1 (stpN l1 t1) () (su3 R R R) so1))
 exact wcx (wqe (wqe (wbx (wjm _ () (Sum.inl.inj (stpB l1 t1)) (su1 R) zn))))
 have c1 : (decide (((k1 : Nat) : Int) < ((a_b.Cells.length : Nat) : Int))) = false := ddf (by omega)
 have en1 := foe l1 hk1
 exact wcs (wcr (mv R R (wlq (pof Zx R) R (wlq (v := (sl v0a)) (plx ZR pz R R) R (wlq (pln (rga r0) Z7 R) R (wlq (pls R R) R (mv R R (ZhW (t := 10) R c1 (wgf (j := 5) R R R R R (wgf (j := 5) R R R R R (wlq (pif R R) R (wnt (wff R R (wcx (wqe (wqe (wbx (wjm _ () (Sum.inl.inj en1) (su1 R) zn))))))))))))))))))
 intro e1 _ hp
 obtain rfl : e1 = y1 := hp.symm
 refine wqt (wcr (mv R R (asg R R (wnt (wct ?_)))))
 obtain rfl := oi t0
 exact wq1 R R fun w hw => ⟨R, hw.weak zn⟩

theorem Zim (w : World) (a_b : GBlock) (v0a : Hd) (r0 : rdF w (dm w []) (sl v0a) a_b.Cells) {r : GBlock} (t0 : Zcm a_b = some r) : Calls Tryz.prog 161 #[.agg #[.int .i64 a_b.Size, (sl v0a)]] w fun e w' => ∃ x : Hd, e = .returned (.agg #[.int .i64 r.Size, (sl x)]) ∧ SH w [] [ownF (sl x) r.Cells] w' := by
 refine cwc (args := [_]) Tryz.func161 R Tryz.ntmps161 R ?_
 unfold Zcm at t0
 refine wcr (wle (Zh R R) R fun b1 => (wle (eal (cs := [iv 0, (sl hn)]) Zav) R fun b2 => (wnt (wcs (wcr (wlq (v := .agg #[iv a_b.Size, (sl v0a)]) (plb Zb pk1 R R R) R (bdO t0 fun v1 hv1 t0 => (wlc (cz0 ZeR R fun w hw => Zaz w a_b v0a (ra r0 hw) hv1) R fun _ => (wlq (Zd R) R (wnt (wcO t0 R (fun h1 t0 => ?_) fun h1 t0 => ?_)))))))))))
 refine wcr (wlq (Zk R ZiJ) R (wls (sbx (cs' := [iv 0, (sl hn)]) Zb pz R R R R R R R) (wnt (wct (wqr ?_)))))
 obtain rfl := oi t0
 exact wqc R Zb R pz R fun w hw => ⟨hn, R, hw.weak (zc ZB zn)⟩
 refine wck (wqt (wcr (wlq (v := .agg #[iv a_b.Size, (sl v0a)]) (plb Zb pk1 R R R) R (bdO t0 fun v2 hv2 t0 => (wlc (cz1 Zuo R fun w hw => Zkv w a_b v0a (ra r0 hw) hv2) R fun x1 => (wle (eal (cs := [iv 0, (sl hn)]) Zav) R fun b3 => (wls (sbx (cs' := [iv v2.Size, (sl x1)]) Zb pz R R R R R R R) (wnt (wcs (wcr (asg R R (wnt (Zr t0 fun y1 l1 t0 => (wj (J := Int × (List GCell)) (X := Hd) (fun z => y1 = z) (fun _ _ => [(2, ptr b2 0), (3, ptr b3 0)]) (fun z x => [box b3 [iv z.1, (sl x)], ownF (sl x) z.2, box b2 [iv 0, (sl hn)]]) ?_ ?_))))))))))))))
 refine wcb (wcf (X := Hd) l1 (fun k1 s1 x1l => [(1, ptr b1 0), (2, ptr b2 0), (3, ptr b3 0), (4, iv (((k1 + 1) : Nat) : Int))]) (fun k1 s1 x1l => [box b3 [iv s1.1, (sl x1l)], ownF (sl x1l) s1.2, box b2 [iv 0, (sl hn)], box b1 [iv a_b.Size, (sl v0a)]]) x1 (su4 R R R R) so4 fun k1 s1 x1l hN1 l1 => ?_)
 by_cases hk1 : k1 < 7
 refine fos l1 hk1 fun _ t1 l1 => ?_
 unfold Zdt at t1
 have c1 : (decide ((((k1 + 1) : Nat) : Int) < 8)) = true := ddt (by omega)
 refine wcs (wcr (mv R R (wlq (pls R R) R (wnt (wft R c1 (wck (wqt (wcs (wcb (wcr (wlq (v := .agg #[iv a_b.Size, (sl v0a)]) (plb Zb pk3 R R R) R (mv R R (bdO t1 fun v3 hv3 t1 => (wlc (cz1 ZtK R fun w hw => Zks w a_b v0a (ra r0 hw) (((k1 + 1) : Nat) : Int) hv3) R fun x3 => (bdO t1 fun v4 hv4 t1 => (wlc (cz1 Zuo R fun w hw => Zkv w v3 x3 (Rg.on (rgo pz) hw) hv4) R fun x4 => (wle (eal (cs := [iv 0, (sl hn)]) Zav) R fun b4 => (wls (sbx (cs' := [iv v4.Size, (sl x4)]) Zb pz R R R R R R R) (wnt (wcs (wcd [box b4 [iv v4.Size, (sl x4)], ownF (sl x4) v4.Cells, ownF (sl x3) v3.Cells, box b3 [iv s1.1, (sl x1l)], ownF (sl x1l) s1.2, box b2 [iv 0, (sl hn)], box b1 [iv a_b.Size, (sl v0a)]] 5 mixed (aq (v := .agg #[iv v4.Size, (sl x4)]) 0 R (plb Zb pz R R R) so7 R (aq (v := .agg #[iv s1.1, (sl x1l)]) 2 R (plb Zb pk3 R R R) so7 R (a1 1 (bdO t1 fun v5 hv5 t1 => (wsc R (cz0 ZtI R fun w hw => ZlS w v4 x4 (Rg.on (rgo pk1) hw) hv5) (fun _ => (zt so7)) R fun _ => (a1 3 (bdO t1 fun v6 hv6 t1 => (wsc R (cz0 ZtI R fun w hw => ZlS w (GBlock.mk s1.1 s1.2) x1l (Rg.on (rgo pk4) hw) hv6) (fun _ => (zt so7)) R fun _ => (aq 4 R (Zs6 R R) so7 R (ae (wqt (wcj (X := Hd) (fun _ => True) (fun z => [(1, ptr b1 0), (2, ptr b2 0), (3, ptr b3 0), (4, iv (((k1 + 1) : Nat) : Int))]) (fun z => [box b3 [iv ((bif (slt v5 v6) then v4 else (GBlock.mk s1.1 s1.2)).Size), (sl z)], box b2 [iv 0, (sl hn)], box b1 [iv a_b.Size, (sl v0a)], ownF (sl z) ((bif (slt v5 v6) then v4 else (GBlock.mk s1.1 s1.2)).Cells)]) ?_ ?_)))))))))))))))))))))))))))))))))
 refine ZbI R (fun h2 => ?_) fun h2 => ?_
 exact wcg (wlq (v := .agg #[iv v4.Size, (sl x4)]) (plb Zb pz R R R) R (wls (sbx (cs' := [iv v4.Size, (sl x4)]) Zb pk3 R R R R R R R) (wln (wqm x4 trivial (su4 R R R R) (zc (by simp only [h2, cond_true]; exact pz) (zc pk4 (zc pk4 (zc (by simp only [h2, cond_true]; exact pk1) zn))))))))
 exact wck (wqm x1l trivial (su4 R R R R) (zc (by simp only [h2, cond_false]; exact pk3) (zc pk4 (zc pk4 (zc (by simp only [h2, cond_false]; exact pk3) zn)))))
 intro x5 _
 refine wqb (wqt (wcg (mv R R (wlq (Zj R R (by omega)) R ?_))))
 exact asg R R (wln (Zl hk1 (stpN l1 t1) x5 (su4 R R R R) (zc pz (zc pk2 so2))))
 have c1 : (decide ((((k1 + 1) : Nat) : Int) < 8)) = false := ddf (by omega)
 have en1 := foe l1 hk1
 exact wcs (wcr (mv R R (wlq (pls R R) R (wnt (wff R c1 (wcx (wqe (wqe (wbx (wjm _ x1l (Sum.inl.inj en1) (su2 R R) so3))))))))))
 intro e1 x2 hp
 obtain rfl : e1 = y1 := hp.symm
 refine wqt (wcr (wlq (v := .agg #[iv e1.1, (sl x2)]) (plb Zb pz R R R) R (wls (sbx (cs' := [iv e1.1, (sl x2)]) Zb pk2 R R R R R R R) (wnt (wct ?_)))))
 obtain rfl := oi t0
 exact wqc R Zb R pz R fun w hw => ⟨x2, R, hw.weak (zc pk2 zn)⟩

theorem Zoa (w : World) (a_b : GBlock) (v0a : Hd) (r0 : rdF w (dm w []) (sl v0a) a_b.Cells) (a_d : GBlock) (v1a : Hd) (r1 : rdF w (dm w []) (sl v1a) a_d.Cells) {r : Bool} (t0 : ZeG a_b a_d = some r) : Calls Tryz.prog 160 #[.agg #[.int .i64 a_b.Size, (sl v0a)], .agg #[.int .i64 a_d.Size, (sl v1a)]] w fun e w' => e = .returned (.bool r) ∧ SH w [] [] w' := by
 refine cwc (args := [_, _]) Tryz.func160 R Tryz.ntmps160 R ?_
 unfold ZeG at t0
 refine wcr (wle (Zh R R) R fun b1 => (wle (Zh R R) R fun b2 => (asg R R (wnt (wcs (wcs (wcj (X := Unit) (fun _ => True) (fun _ => [(2, ptr b1 0), (3, ptr b2 0), (19, .bool ((a_b.Size != a_d.Size) || (((a_b.Cells.length : Nat) : Int) != ((a_d.Cells.length : Nat) : Int))))]) (fun _ => [box b2 [iv a_d.Size, (sl v1a)], box b1 [iv a_b.Size, (sl v0a)]]) ?_ ?_)))))))
 refine wcg (wlq (pof ZL R) R (wlq (v := iv a_b.Size) (plx tk_3 pk1 R R) R (wlq (pof ZL R) R (wlq (v := iv a_d.Size) (plx tk_3 pz R R) R (wlq (Zeh R R) R (mv R R (Zah (t := 11) R (fun h1 => ?_) fun h1 => ?_)))))))
 exact wgf (j := 5) R R R R R (wgf (j := 5) R R R R R (wgf (j := 5) R R R R R (wgf (j := 5) R R R R R (wgf (j := 5) R R R R R (wgf (j := 5) R R R R R (wgf (j := 5) R R R R R (wlq (pit R R) R (wln (wqm () trivial (yc R (yc R (Z2 R (by rw [h1]; rfl) yn))) so2)))))))))
 exact wgn (j := 5) R R R (wlq (pof Zx R) R (wgn (j := 5) R R R (wlq (v := (sl v0a)) (plx ZR pk1 R R) R (wgn (j := 5) R R R (wlq (pln (rga r0) Z7 R) R (wgn (j := 5) R R R (wlq (pof Zx R) R (wgn (j := 5) R R R (wlq (v := (sl v1a)) (plx ZR pz R R) R (wgn (j := 5) R R R (wlq (pln (rga r1) Z7 R) R (wgn (j := 5) R R R (wlq (Zeh R R) R (wlq (pif R R) R (wln (wqm () trivial (yc R (yc R (Z2 R (by rw [h1]; rfl) yn))) so2))))))))))))))))
 intro _ _
 refine wqt (wcO t0 R (fun h2 t0 => ?_) fun h2 t0 => ?_)
 refine wcr (asg R R (wnt (wct (wqr ?_))))
 obtain rfl := oi t0
 exact wq1 R R fun w hw => ⟨R, hw.weak zn⟩
 refine wck (wqt (wcs (wcr (asg R R (wnt (gdO t0 fun g1 t0 => (sqO t0 fun y1 l1 t0 => (wj (J := Unit) (X := Unit) (fun z => y1 = .inl z) (fun _ _ => []) (fun _ _ => []) ?_ ?_))))))))
 refine wcb (wcf (X := Unit) l1 (fun k1 s1 x1l => [(2, ptr b1 0), (3, ptr b2 0), (5, iv ((k1 : Nat) : Int))]) (fun k1 s1 x1l => [box b2 [iv a_d.Size, (sl v1a)], box b1 [iv a_b.Size, (sl v0a)]]) () (su3 R R R) so2 fun k1 s1 x1l hN1 l1 => ?_)
 by_cases hk1 : k1 < a_b.Cells.length
 refine fos l1 hk1 fun _ t1 l1 => ?_
 unfold Zev at t1
 have c1 : (decide (((k1 : Nat) : Int) < ((a_b.Cells.length : Nat) : Int))) = true := ddt (by omega)
 refine wcs (wcr (mv R R (wlq (pof Zx R) R (wlq (v := (sl v0a)) (plx ZR pk1 R R) R (wlq (pln (rga r0) Z7 R) R (wlq (pls R R) R (wnt (wft R c1 (wck (wqt (wcs (wcb (wcs (wcd [box b2 [iv a_d.Size, (sl v1a)], box b1 [iv a_b.Size, (sl v0a)]] 11 mixed (aq 0 R (pof Zx R) so2 R (aq (v := (sl v0a)) 1 R (plx ZR pk1 R R) so2 R (aq 2 R (pom R) so2 R (aq 3 R (Zv (k := k1) (rga r0) Z7 R R hk1) so2 R (aq (v := .agg #[iv ((gx a_b.Cells k1).Split), iv ((gx a_b.Cells k1).A), iv ((gx a_b.Cells k1).B)]) 4 R (ZaB (rga r0) Zf R hk1 R R R) so2 R (aq 5 R (pof Zx R) so2 R (aq (v := (sl v1a)) 6 R (plx ZR pz R R) so2 R (aq 7 R (pom R) so2 R (gdO t1 fun g2 t1 => (aq 8 R (Zv (k := k1) (rga r1) Z7 R R g2) so2 R (aq (v := .agg #[iv ((gx a_d.Cells k1).Split), iv ((gx a_d.Cells k1).A), iv ((gx a_d.Cells k1).B)]) 9 R (ZaB (rga r1) Zf R g2 R R R) so2 R (aq 10 R (Zl3 (ps := [(gx a_b.Cells k1).Split, (gx a_b.Cells k1).A, (gx a_b.Cells k1).B]) (qs := [(gx a_d.Cells k1).Split, (gx a_d.Cells k1).A, (gx a_d.Cells k1).B]) Zux R R R R) so2 R (ae (wqt (wcO t1 R (fun h3 t1 => ?_) fun h3 t1 => ?_)))))))))))))))))))))))))))))
 refine wcr (asg R R (wnt (wct (wbr (wqr (wqr (wbr (wqr (wqr ?_)))))))))
 replace t0 := lpR t0 l1 t1
 obtain rfl := oi t0
 exact wq1 R R fun w hw => ⟨R, hw.weak zn⟩
 refine wck (wqb (wqt (wcg (mv R R (wlq (Zj R R (by omega)) R ?_)))))
 exact asg R R (wln (Zl hk1 (stpN l1 t1) () (su3 R R R) so2))
 have c1 : (decide (((k1 : Nat) : Int) < ((a_b.Cells.length : Nat) : Int))) = false := ddf (by omega)
 have en1 := foe l1 hk1
 exact wcs (wcr (mv R R (wlq (pof Zx R) R (wlq (v := (sl v0a)) (plx ZR pk1 R R) R (wlq (pln (rga r0) Z7 R) R (wlq (pls R R) R (wnt (wff R c1 (wcx (wqe (wqe (wbx (wjm _ () en1 yn zn)))))))))))))
 intro e1 _ hp
 replace t0 := sqE (j := e1) t0 hp
 refine wqt (wcr (asg R R (wnt (wct ?_))))
 obtain rfl := oi t0
 exact wq1 R R fun w hw => ⟨R, hw.weak zn⟩

theorem ZkE (w : World) (a_b : GBlock) (v0a : Hd) (r0 : rdF w (dm w []) (sl v0a) a_b.Cells) (a_d : GBlock) (v1a : Hd) (r1 : rdF w (dm w []) (sl v1a) a_d.Cells) {r : Bool} (t0 : Zcd a_b a_d = some r) : Calls Tryz.prog 144 #[.agg #[.int .i64 a_b.Size, (sl v0a)], .agg #[.int .i64 a_d.Size, (sl v1a)]] w fun e w' => e = .returned (.bool r) ∧ SH w [] [] w' := by
 refine cwc (args := [_, _]) Tryz.func144 R Tryz.ntmps144 R ?_
 unfold Zcd at t0
 refine wcr (wle (Zh R R) R fun b1 => (wle (Zh R R) R fun b2 => (asg R R (wnt (wcs (bdO t0 fun y1 t1 t0 => (wj (J := Bool) (X := Unit) (fun z => y1 = z) (fun z _ => [(4, .bool z)]) (fun _ _ => []) ?_ ?_)))))))
 refine wcd [box b2 [iv a_d.Size, (sl v1a)], box b1 [iv a_b.Size, (sl v0a)]] 14 mixed (aq (v := .agg #[iv a_b.Size, (sl v0a)]) 0 R (plb Zb pk1 R R R) so2 R (a1 1 (bdO t1 fun v1 hv1 t1 => (wsc R (cz0 ZeR R fun w hw => Zaz w a_b v0a (ra r0 hw) hv1) (fun _ => (zt so2)) R fun _ => (aq 2 R (pom R) so2 R (waO_ (t := 7) t1 R (fun h1 t1 => ?_) fun h1 t1 => ?_))))))
 refine an (v := .agg #[iv a_d.Size, (sl v1a)]) 3 2 R R R R (plb Zb pz R R R) so2 R (a1 4 (bdO t1 fun v2 hv2 t1 => (ZW (j := 2) R R R R (cz0 ZeR R fun w hw => Zaz w a_d v1a (ra r1 hw) hv2) (fun _ => (zt so2)) R fun _ => (aq 5 R (pit R R) so2 R (aq 6 R (pom R) so2 R (waO_ (t := 11) t1 R (fun h2 t1 => ?_) fun h2 t1 => ?_))))))
 exact an (v := .agg #[iv a_b.Size, (sl v0a)]) 7 6 R R R R (plb Zb pk1 R R R) so2 R (an (v := .agg #[iv a_d.Size, (sl v1a)]) 9 6 R R R R (plb Zb pz R R R) so2 R (a1 8 (bdO t1 fun v3 hv3 t1 => (ZW (j := 6) R R R R (cz1 ZtF R fun w hw => Zim w a_b v0a (ra r0 hw) hv3) (fun _ => (zt (zc pk1 (zc pk1 zn)))) R fun x2 => (a1 10 (bdO t1 fun v4 hv4 t1 => (ZW (j := 6) R R R R (cz1 ZtF R fun w hw => Zim w a_d v1a (ra r1 hw) hv4) (fun _ => (zt (zc pk2 (zc pk2 zn)))) R fun x3 => (a1 11 (bdO t1 fun v5 hv5 t1 => (ZW (j := 6) R R R R (cz0 Zw1 R fun w hw => Zoa w v3 x2 (Rg.on (rgo pk1) hw) v4 x3 (Rg.on (rgo pz) hw) hv5) (fun _ => (zt (zc pk2 (zc pk2 zn)))) R fun _ => (aq 12 R (pit R R) (zc pk2 (zc pk2 zn)) R (aq 13 R (Zu R) (zc pk2 (zc pk2 zn)) R (ae (wjm _ () (mtE t1) (su1 R) zn))))))))))))))
 exact af 7 6 R R R R R so2 R (af 8 6 R R R R R so2 R (af 9 6 R R R R R so2 R (af 10 6 R R R R R so2 R (af 11 6 R R R R R so2 R (aq 12 R (pif R R) so2 R (aq 13 R (Zu R) so2 R (ae (wjm _ () (mtE t1) (su1 R) zn))))))))
 exact af 3 2 R R R R R so2 R (af 4 2 R R R R R so2 R (aq 5 R (pif R R) so2 R (aq 6 R (pom R) so2 R (af 7 6 R R R R R so2 R (af 8 6 R R R R R so2 R (af 9 6 R R R R R so2 R (af 10 6 R R R R R so2 R (af 11 6 R R R R R so2 R (aq 12 R (pif R R) so2 R (aq 13 R (Zu R) so2 R (ae (wjm _ () (mtE t1) (su1 R) zn))))))))))))
 intro j1 _ hp
 obtain rfl : j1 = y1 := hp.symm
 refine wqt (wct ?_)
 obtain rfl := oi t0
 exact wq1 R R fun w hw => ⟨R, hw.weak zn⟩

theorem ZoW (w : World) (a_b : GBlock) (v0a : Hd) (r0 : rdF w (dm w []) (sl v0a) a_b.Cells) {r : List Int} (t0 : ZfJ a_b = some r) : Calls Tryz.prog 162 #[.agg #[.int .i64 a_b.Size, (sl v0a)]] w fun e w' => ∃ x : Hd, e = .returned ((sl x)) ∧ SH w [] [ownF (sl x) r] w' := by
 refine cwc (args := [_]) Tryz.func162 R Tryz.ntmps162 R ?_
 unfold ZfJ at t0
 refine wcr (wle (Zh R R) R fun b1 => (asg R R (wnt (wcr (wle (ebs R Zao) R fun b2 => (asg R R (wnt (wcs (wcr (wlq (v := .agg #[iv a_b.Size, (sl v0a)]) (plb Zb pk1 R R R) R (bdO t0 fun v1 hv1 t0 => (wlc (cz0 ZeR R fun w hw => Zaz w a_b v0a (ra r0 hw) hv1) R fun _ => (wlq (Zd R) R (wnt (wcO t0 R (fun h1 t0 => ?_) fun h1 t0 => ?_)))))))))))))))
 refine wcr (mv R R (asg R R (wnt (wct (wqr ?_)))))
 obtain rfl := oi t0
 exact wq1 R R fun w hw => ⟨(⟨some ⟨b2, 0, none⟩, 0, 0⟩ : Hd), R, hw.weak (zc (pbo pz (n := 0) (xs := ([] : List Int)) R R (by unfold maxLen; omega)) zn)⟩
 refine wck (wqt (wcs (wcr (asg R R (wnt (Zr t0 fun y1 l1 t0 => (wj (J := List Int) (X := Hd) (fun z => y1 = z) (fun _ x => [(3, (sl x))]) (fun z x => [ownF (sl x) z]) ?_ ?_)))))))
 refine wcb (wcf (X := Hd) l1 (fun k1 s1 x1l => [(1, ptr b1 0), (3, (sl x1l)), (4, iv ((k1 : Nat) : Int))]) (fun k1 s1 x1l => [box b1 [iv a_b.Size, (sl v0a)], ownF (sl x1l) s1]) (⟨some ⟨b2, 0, none⟩, 0, 0⟩ : Hd) (su3 R R R) (zc pk1 (zc (pbo pz (n := 0) (xs := ([] : List Int)) R R (by unfold maxLen; omega)) zn)) fun k1 s1 x1l hN1 l1 => ?_)
 by_cases hk1 : k1 < 6
 refine fos l1 hk1 fun _ t1 l1 => ?_
 unfold Zfj at t1
 have c1 : (decide (((k1 : Nat) : Int) < 6)) = true := ddt (by omega)
 refine wcs (wcr (mv R R (wlq (pls R R) R (wnt (wft R c1 (wck (wqt (wcs (wcb (wcr (asg R R (wnt (wcs (wcr (asg R R (wnt (gdO t1 fun g1 t1 => (Zr t1 fun y2 l2 t1 => (wj (J := Bool) (X := Unit) (fun z => y2 = z) (fun z _ => [(1, ptr b1 0), (3, (sl x1l)), (4, iv ((k1 : Nat) : Int)), (5, .bool z)]) (fun _ _ => [box b1 [iv a_b.Size, (sl v0a)], ownF (sl x1l) s1]) ?_ ?_)))))))))))))))))))
 refine wcb (wcf (X := Unit) l2 (fun k2 s2 x2l => [(1, ptr b1 0), (3, (sl x1l)), (4, iv ((k1 : Nat) : Int)), (5, .bool s2), (6, iv ((k2 : Nat) : Int))]) (fun k2 s2 x2l => [box b1 [iv a_b.Size, (sl v0a)], ownF (sl x1l) s1]) () (su5 R R R R R) so2 fun k2 s2 x2l hN2 l2 => ?_)
 by_cases hk2 : k2 < a_b.Cells.length
 refine fos l2 hk2 fun _ t2 l2 => ?_
 unfold Ze9 at t2
 have c2 : (decide (((k2 : Nat) : Int) < ((a_b.Cells.length : Nat) : Int))) = true := ddt (by omega)
 refine wcs (wcr (mv R R (wlq (pof Zx R) R (wlq (v := (sl v0a)) (plx ZR pz R R) R (wlq (pln (rga r0) Z7 R) R (wlq (pls R R) R (wnt (wft R c2 (wck (wqt (wcs (wcb (wcj (X := Unit) (fun _ => True) (fun _ => [(1, ptr b1 0), (3, (sl x1l)), (4, iv ((k1 : Nat) : Int)), (5, .bool (s2 || (((gx a_b.Cells k2).A == ((k1 : Nat) : Int)) || ((gx a_b.Cells k2).B == ((k1 : Nat) : Int))))), (6, iv ((k2 : Nat) : Int))]) (fun _ => [box b1 [iv a_b.Size, (sl v0a)], ownF (sl x1l) s1]) ?_ ?_)))))))))))))
 refine wcg (mv R R (mv R R (Zah (t := 24) R (fun h2 => ?_) fun h2 => ?_)))
 exact wgf (j := 1) R R R R R (wgf (j := 1) R R R R R (wgf (j := 1) R R R R R (wgf (j := 1) R R R R R (wgf (j := 1) R R R R R (wgf (j := 1) R R R R R (wgf (j := 1) R R R R R (wgf (j := 1) R R R R R (wlq (pit R R) R (mv R R (wgf (j := 11) R R R R R (wgf (j := 11) R R R R R (wgf (j := 11) R R R R R (wgf (j := 11) R R R R R (wgf (j := 11) R R R R R (wgf (j := 11) R R R R R (wgf (j := 11) R R R R R (wgf (j := 11) R R R R R (wlq (pit R R) R (asg R R (wln (wqm () trivial (yc R (yc R (yc R (Z2 R (by rw [h2]; rfl) (su1 R))))) so2)))))))))))))))))))))
 refine wgn (j := 1) R R R (wlq (pof Zx R) R (wgn (j := 1) R R R (wlq (v := (sl v0a)) (plx ZR pz R R) R (wgn (j := 1) R R R (mv R R (wgn (j := 1) R R R (wlq (Zv (k := k2) (rga r0) Z7 R R hk2) R (wgn (j := 1) R R R (wlq (Zak (rga r0) hk2 ZaF R) R (wgn (j := 1) R R R (wlq (v := iv ((gx a_b.Cells k2).A)) (ZD (rga r0) tk_3 R hk2 R) R (wgn (j := 1) R R R (mv R R (wgn (j := 1) R R R (wlq (pol R R) R (wlq (pif R R) R (mv R R (Zah (t := 34) R (fun h3 => ?_) fun h3 => ?_))))))))))))))))))
 exact wgf (j := 11) R R R R R (wgf (j := 11) R R R R R (wgf (j := 11) R R R R R (wgf (j := 11) R R R R R (wgf (j := 11) R R R R R (wgf (j := 11) R R R R R (wgf (j := 11) R R R R R (wgf (j := 11) R R R R R (wlq (pit R R) R (asg R R (wln (wqm () trivial (yc R (yc R (yc R (Z2 R (by rw [h2, h3]; rfl) (su1 R))))) so2)))))))))))
 exact wgn (j := 11) R R R (wlq (pof Zx R) R (wgn (j := 11) R R R (wlq (v := (sl v0a)) (plx ZR pz R R) R (wgn (j := 11) R R R (mv R R (wgn (j := 11) R R R (wlq (Zv (k := k2) (rga r0) Z7 R R hk2) R (wgn (j := 11) R R R (wlq (Zak (rga r0) hk2 ZaY R) R (wgn (j := 11) R R R (wlq (v := iv ((gx a_b.Cells k2).B)) (ZD (rga r0) tk_3 R hk2 R) R (wgn (j := 11) R R R (mv R R (wgn (j := 11) R R R (wlq (pol R R) R (wlq (pif R R) R (asg R R (wln (wqm () trivial (yc R (yc R (yc R (Z2 R (by rw [h2, h3]; rfl) (su1 R))))) so2)))))))))))))))))))
 intro _ _
 refine wqb (wqt (wcg (mv R R (wlq (Zj R R (by omega)) R ?_))))
 exact asg R R (wln (Zl hk2 (stpN l2 t2) () (su5 R R R R R) so2))
 have c2 : (decide (((k2 : Nat) : Int) < ((a_b.Cells.length : Nat) : Int))) = false := ddf (by omega)
 have en1 := foe l2 hk2
 exact wcs (wcr (mv R R (wlq (pof Zx R) R (wlq (v := (sl v0a)) (plx ZR pz R R) R (wlq (pln (rga r0) Z7 R) R (wlq (pls R R) R (wnt (wff R c2 (wcx (wqe (wqe (wbx (wjm _ () (Sum.inl.inj en1) (su4 R R R R) so2)))))))))))))
 intro e2 _ hp
 obtain rfl : e2 = y2 := hp.symm
 refine wqt (wcr (mv R R (wnt (bdO t1 fun y2 t2 t1 => (wj (J := List Int) (X := Hd) (fun z => y2 = z) (fun _ x => [(1, ptr b1 0), (3, (sl x)), (4, iv ((k1 : Nat) : Int))]) (fun z x => [box b1 [iv a_b.Size, (sl v0a)], ownF (sl x) z]) ?_ ?_)))))
 refine wcO t2 R (fun h4 t2 => ?_) fun h4 t2 => ?_
 refine wcg (mv R R (mv R R (wle (ebs R (ZaZ ((k1 : Nat) : Int))) R fun b3 => (gdO t2 fun g2 t2 => (wle (Zg (xs := s1) (ys := ([((k1 : Nat) : Int)] : List Int)) Zb1 pk2 R R (Zi fun _ g => Rg.on (rgo (pbo pz (n := 1) (xs := ([((k1 : Nat) : Int)] : List Int)) R R (by unfold maxLen; omega))) g) g2) R fun x5 => ?_)))))
 exact asg R R (wln (wjm _ x5 (mtE t2) (su3 R R R) (zc pk2 so1)))
 exact wck (wjm _ x1l (mtE t2) (su3 R R R) so2)
 intro j2 x4 hp
 obtain rfl : j2 = y2 := hp.symm
 refine wqb (wqt (wcg (mv R R (wlq (Zj R R (by omega)) R ?_))))
 exact asg R R (wln (Zl hk1 (stpN l1 t1) x4 (su3 R R R) so2))
 have c1 : (decide (((k1 : Nat) : Int) < 6)) = false := ddf (by omega)
 have en2 := foe l1 hk1
 exact wcs (wcr (mv R R (wlq (pls R R) R (wnt (wff R c1 (wcx (wqe (wqe (wbx (wjm _ x1l (Sum.inl.inj en2) (su1 R) (zc pk1 zn)))))))))))
 intro e1 x1 hp
 obtain rfl : e1 = y1 := hp.symm
 refine wqt (wcr (mv R R (asg R R (wnt (wct ?_)))))
 obtain rfl := oi t0
 exact wq1 R R fun w hw => ⟨x1, R, hw.weak so1⟩

theorem Zri (w : World) (a_b : GBlock) (v0a : Hd) (r0 : rdF w (dm w []) (sl v0a) a_b.Cells) (a_d : GBlock) (v1a : Hd) (r1 : rdF w (dm w []) (sl v1a) a_d.Cells) {r : Bool} (t0 : Zij a_b a_d = some r) : Calls Tryz.prog 163 #[.agg #[.int .i64 a_b.Size, (sl v0a)], .agg #[.int .i64 a_d.Size, (sl v1a)]] w fun e w' => e = .returned (.bool r) ∧ SH w [] [] w' := by
 refine cwc (args := [_, _]) Tryz.func163 R Tryz.ntmps163 R ?_
 unfold Zij at t0
 refine wcr (wle (Zh R R) R fun b1 => (wle (Zh R R) R fun b2 => (asg R R (wnt (wcs (bdO t0 fun y1 t1 t0 => (wj (J := Bool) (X := Unit) (fun z => y1 = z) (fun z _ => [(4, .bool z)]) (fun _ _ => []) ?_ ?_)))))))
 refine wcg (wlq (v := .agg #[iv a_b.Size, (sl v0a)]) (plb Zb pk1 R R R) R (bdO t1 fun v1 hv1 t1 => (wlc (cz0 ZeR R fun w hw => Zaz w a_b v0a (ra r0 hw) hv1) R fun _ => (mv R R (wlo (t := 7) t1 R (fun h1 t1 => ?_) fun h1 t1 => ?_)))))
 refine wgn (j := 2) R R R (wlq (v := .agg #[iv a_d.Size, (sl v1a)]) (plb Zb pz R R R) R (bdO t1 fun v2 hv2 t1 => (wgn (j := 2) R R R (wlc (cz0 ZeR R fun w hw => Zaz w a_d v1a (ra r1 hw) hv2) R (fun _ => (wlq (pit R R) R (mv R R (wlo (t := 11) t1 R (fun h2 t1 => ?_) fun h2 t1 => ?_))))))))
 exact wgn (j := 6) R R R (wlq (pof ZL R) R (wgn (j := 6) R R R (wlq (v := iv a_b.Size) (plx tk_3 pk1 R R) R (wgn (j := 6) R R R (wlq (pof ZL R) R (wgn (j := 6) R R R (wlq (v := iv a_d.Size) (plx tk_3 pz R R) R (wgn (j := 6) R R R (wlq (pol R R) R (wlq (pit R R) R (asg R R (wln (wjm _ () (mtE t1) (su1 R) zn)))))))))))))
 exact wgf (j := 6) R R R R R (wgf (j := 6) R R R R R (wgf (j := 6) R R R R R (wgf (j := 6) R R R R R (wgf (j := 6) R R R R R (wlq (pif R R) R (asg R R (wln (wjm _ () (mtE t1) (su1 R) zn))))))))
 exact wgf (j := 2) R R R R R (wgf (j := 2) R R R R R (wlq (pif R R) R (mv R R (wgf (j := 6) R R R R R (wgf (j := 6) R R R R R (wgf (j := 6) R R R R R (wgf (j := 6) R R R R R (wgf (j := 6) R R R R R (wlq (pif R R) R (asg R R (wln (wjm _ () (mtE t1) (su1 R) zn))))))))))))
 intro j1 _ hp
 obtain rfl : j1 = y1 := hp.symm
 refine wqt (wct ?_)
 obtain rfl := oi t0
 exact wq1 R R fun w hw => ⟨R, hw.weak zn⟩

theorem Zlb (w : World) (a_c : GCell) (a_side : Int) {r : Int} (t0 : ZeI a_c a_side = some r) : Calls Tryz.prog 178 #[.agg #[.int .i64 a_c.Split, .int .i64 a_c.A, .int .i64 a_c.B], .int .i64 a_side] w fun e w' => e = .returned (.int .i64 r) ∧ SH w [] [] w' := by
 refine cwc (args := [_, _]) Tryz.func178 R Tryz.ntmps178 R ?_
 unfold ZeI at t0
 refine wcr (wle (Zh R R) R fun b1 => (asg R R (wnt (wcs (wcs (bdO t0 fun y1 t1 t0 => (wj (J := Bool) (X := Unit) (fun z => y1 = z) (fun z _ => [(1, iv a_side), (2, ptr b1 0), (12, .bool z)]) (fun _ _ => [box b1 [iv a_c.Split, iv a_c.A, iv a_c.B]]) ?_ ?_)))))))
 refine wcg (wlq (v := .agg #[iv a_c.Split, iv a_c.A, iv a_c.B]) (plb Zf pz R R R) R (bdO t1 fun v1 hv1 t1 => (wlc (cz0 ZjL R fun w hw => Zc7 w a_c hv1) R fun _ => (wlq (Zd R) R (mv R R (wlo (t := 8) t1 R (fun h1 t1 => ?_) fun h1 t1 => ?_))))))
 exact wgf (j := 3) R R R R R (wgf (j := 3) R R R R R (wgf (j := 3) R R R R R (wlq (pit R R) R (wln (wjm _ () (mtE t1) (su3 R R R) so1)))))
 exact wgn (j := 3) R R R (mv R R (bdO t1 fun v2 hv2 t1 => (wgn (j := 3) R R R (wlc (cz0 Zbo R fun w hw => ZT w a_side 0 3 hv2) R (fun _ => (wgn (j := 3) R R R (wlq (Zd R) R (wlq (pif R R) R (wln (wjm _ () (mtE t1) (su3 R R R) so1))))))))))
 intro j1 _ hp
 obtain rfl : j1 = y1 := hp.symm
 refine wqt (wcO t0 R (fun h2 t0 => ?_) fun h2 t0 => ?_)
 refine wcr (asg R R (wnt (wct (wqr ?_))))
 obtain rfl := oi t0
 exact wq1 R R fun w hw => ⟨R, hw.weak zn⟩
 refine wck (wqt (wcs (wcs (wcj (X := Unit) (fun _ => True) (fun _ => [(2, ptr b1 0), (32, .bool ((a_side == 0) || (bif (a_side == 1) then ((a_c.Split == 1) || ((a_side == 3) && (a_c.Split == 2))) else ((a_side == 3) && (a_c.Split == 2)))))]) (fun _ => [box b1 [iv a_c.Split, iv a_c.A, iv a_c.B]]) ?_ ?_))))
 refine wcg (mv R R (wlq (pol R R) R (mv R R (Zah (t := 15) R (fun h3 => ?_) fun h3 => ?_))))
 exact wgf (j := 2) R R R R R (wgf (j := 2) R R R R R (wgf (j := 2) R R R R R (Zai (j := 5) R R R R (Zai (j := 5) R R R R (Zai (j := 5) R R R R (wgf (j := 2) R R R R R (wlq (pit R R) R (mv R R (wgf (j := 11) R R R R R (wgf (j := 11) R R R R R (wgf (j := 11) R R R R R (Zai (j := 14) R R R R (Zai (j := 14) R R R R (Zai (j := 14) R R R R (wgf (j := 11) R R R R R (wlq (pit R R) R (wln (wqm () trivial (yc R (Z2 R (by rw [h3]; rfl) yn)) so1))))))))))))))))))
 refine wgn (j := 2) R R R (mv R R (wgn (j := 2) R R R (wlq (pol R R) R (wgn (j := 2) R R R (mv R R (Zah (t := 18) R (fun h4 => ?_) fun h4 => ?_))))))
 refine wgn (j := 5) R R R (wlq (pof ZaX R) R (wgn (j := 5) R R R (wlq (v := iv a_c.Split) (plx tk_3 pz R R) R (wgn (j := 5) R R R (wlq (pol R R) R (wgn (j := 2) R R R (wlq (pit R R) R (wlq (pif R R) R (mv R R (Zah (t := 24) R (fun h5 => ?_) fun h5 => ?_))))))))))
 exact wgf (j := 11) R R R R R (wgf (j := 11) R R R R R (wgf (j := 11) R R R R R (Zai (j := 14) R R R R (Zai (j := 14) R R R R (Zai (j := 14) R R R R (wgf (j := 11) R R R R R (wlq (pit R R) R (wln (wqm () trivial (yc R (Z2 R (by rw [h3, h4, h5]; rfl) yn)) so1)))))))))
 refine wgn (j := 11) R R R (mv R R (wgn (j := 11) R R R (wlq (pol R R) R (wgn (j := 11) R R R (mv R R (Zah (t := 27) R (fun h6 => ?_) fun h6 => ?_))))))
 exact wgn (j := 14) R R R (wlq (pof ZaX R) R (wgn (j := 14) R R R (wlq (v := iv a_c.Split) (plx tk_3 pz R R) R (wgn (j := 14) R R R (wlq (pol R R) R (wgn (j := 11) R R R (wlq (pit R R) R (wlq (pif R R) R (wln (wqm () trivial (yc R (Z2 R (by rw [h3, h4, h5, h6]; rfl) yn)) so1))))))))))
 exact wgf (j := 14) R R R R R (wgf (j := 14) R R R R R (wgf (j := 14) R R R R R (wgn (j := 11) R R R (wlq (pif R R) R (wlq (pif R R) R (wln (wqm () trivial (yc R (Z2 R (by rw [h3, h4, h5, h6]; rfl) yn)) so1)))))))
 refine wgf (j := 5) R R R R R (wgf (j := 5) R R R R R (wgf (j := 5) R R R R R (wgn (j := 2) R R R (wlq (pif R R) R (wlq (pif R R) R (mv R R (wgn (j := 11) R R R (mv R R (wgn (j := 11) R R R (wlq (pol R R) R (wgn (j := 11) R R R (mv R R (Zah (t := 27) R (fun h7 => ?_) fun h7 => ?_)))))))))))))
 exact wgn (j := 14) R R R (wlq (pof ZaX R) R (wgn (j := 14) R R R (wlq (v := iv a_c.Split) (plx tk_3 pz R R) R (wgn (j := 14) R R R (wlq (pol R R) R (wgn (j := 11) R R R (wlq (pit R R) R (wlq (pif R R) R (wln (wqm () trivial (yc R (Z2 R (by rw [h3, h4, h7]; rfl) yn)) so1))))))))))
 exact wgf (j := 14) R R R R R (wgf (j := 14) R R R R R (wgf (j := 14) R R R R R (wgn (j := 11) R R R (wlq (pif R R) R (wlq (pif R R) R (wln (wqm () trivial (yc R (Z2 R (by rw [h3, h4, h7]; rfl) yn)) so1)))))))
 intro _ _
 refine wqt (wcO t0 R (fun h8 t0 => ?_) fun h8 t0 => ?_)
 refine wcr (wlq (pof ZaF R) R (wlq (v := iv a_c.A) (plx tk_3 pz R R) R (asg R R (wnt (wct (wqr ?_))))))
 obtain rfl := oi t0
 exact wq1 R R fun w hw => ⟨R, hw.weak zn⟩
 refine wck (wqt (wcr (wlq (pof ZaY R) R (wlq (v := iv a_c.B) (plx tk_3 pz R R) R (asg R R (wnt (wct ?_)))))))
 obtain rfl := oi t0
 exact wq1 R R fun w hw => ⟨R, hw.weak zn⟩

theorem Zo4 (w : World) (a_b : GBlock) (v0a : Hd) (r0 : rdF w (dm w []) (sl v0a) a_b.Cells) (a_d : GBlock) (v1a : Hd) (r1 : rdF w (dm w []) (sl v1a) a_d.Cells) {r : List (List Int)} (t0 : ZfD a_b a_d = some r) : Calls Tryz.prog 165 #[.agg #[.int .i64 a_b.Size, (sl v0a)], .agg #[.int .i64 a_d.Size, (sl v1a)]] w fun e w' => ∃ x : Hd × (List Value), e = .returned ((sl x.1)) ∧ SH w [] [own (sl x.1) x.2 r] w' := by
 refine cwc (args := [_, _]) Tryz.func165 R Tryz.ntmps165 R ?_
 unfold ZfD at t0
 refine wcr (wle (Zh R R) R fun b1 => (wle (Zh R R) R fun b2 => (asg R R (wnt (wcr (wle (ebs R Zva) R fun b3 => (asg R R (wnt (wcs (wcr (asg R R (wnt (Zr t0 fun y1 l1 t0 => (wj (J := List (List Int)) (X := Hd × (List Value)) (fun z => y1 = z) (fun _ x => [(2, ptr b1 0), (3, ptr b2 0), (5, (sl x.1))]) (fun z x => [box b2 [iv a_d.Size, (sl v1a)], box b1 [iv a_b.Size, (sl v0a)], own (sl x.1) x.2 z]) ?_ ?_))))))))))))))
 refine wcb (wcf (X := Hd × (List Value)) l1 (fun k1 s1 x1l => [(2, ptr b1 0), (3, ptr b2 0), (5, (sl x1l.1)), (6, iv ((k1 : Nat) : Int))]) (fun k1 s1 x1l => [box b2 [iv a_d.Size, (sl v1a)], box b1 [iv a_b.Size, (sl v0a)], own (sl x1l.1) x1l.2 s1]) ((⟨some ⟨b3, 0, none⟩, 0, 0⟩ : Hd), []) (su4 R R R R) (zc pk1 (zc pk1 (zc (ZjK pz) zn))) fun k1 s1 x1l hN1 l1 => ?_)
 by_cases hk1 : k1 < 6
 refine fos l1 hk1 fun _ t1 l1 => ?_
 unfold ZhF at t1
 have c1 : (decide (((k1 : Nat) : Int) < 6)) = true := ddt (by omega)
 refine wcs (wcr (mv R R (wlq (pls R R) R (wnt (wft R c1 (wck (wqt (wcs (wcb (wcg (mv R R (wle (Zle (n := 6) (0 : Int) Zq8 R R R (by omega) R) R fun x2 => ?_))))))))))))
 refine wle (ebs R (Zu8 x2)) R fun b4 => gdO t1 fun g1 t1 => wle (Zc3 (us := x1l.2) (xs := s1) Zwp pk4 (ZtX pk1) pz R R R g1) R fun x3 => asg R R (wln (wqb (wqt (wcg (mv R R (wlq (Zj R R (by omega)) R ?_))))))
 exact asg R R (wln (Zl hk1 (stpN l1 t1) (x3, (x1l.2 ++ [(sl x2)])) (su4 R R R R) (zc pk2 (zc pk2 so1))))
 have c1 : (decide (((k1 : Nat) : Int) < 6)) = false := ddf (by omega)
 have en1 := foe l1 hk1
 exact wcs (wcr (mv R R (wlq (pls R R) R (wnt (wff R c1 (wcx (wqe (wqe (wbx (wjm _ (x1l.1, x1l.2) (Sum.inl.inj en1) (su3 R R R) so3))))))))))
 intro e1 x1 hp
 obtain rfl : e1 = y1 := hp.symm
 refine wqt (wcs (wcr (asg R R (wnt (gdO t0 fun g2 t0 => (Zr t0 fun y1 l1 t0 => (wj (J := List (List Int)) (X := List Value) (fun z => y1 = z) (fun _ _ => [(5, (sl x1.1))]) (fun z x => [own (sl x1.1) x z]) ?_ ?_)))))))
 refine wcb (wcf (X := List Value) l1 (fun k2 s2 x2l => [(2, ptr b1 0), (3, ptr b2 0), (5, (sl x1.1)), (7, iv ((k2 : Nat) : Int))]) (fun k2 s2 x2l => [box b2 [iv a_d.Size, (sl v1a)], box b1 [iv a_b.Size, (sl v0a)], own (sl x1.1) x2l s2]) x1.2 (su4 R R R R) so3 fun k2 s2 x2l hN2 l1 => ?_)
 by_cases hk2 : k2 < a_b.Cells.length
 refine fos l1 hk2 fun _ t1 l1 => ?_
 unfold Zfm at t1
 have c2 : (decide (((k2 : Nat) : Int) < ((a_b.Cells.length : Nat) : Int))) = true := ddt (by omega)
 refine wcs (wcr (mv R R (wlq (pof Zx R) R (wlq (v := (sl v0a)) (plx ZR pk1 R R) R (wlq (pln (rga r0) Z7 R) R (wlq (pls R R) R (wnt (wft R c2 (wck (wqt (wcs (wcb (wcr (asg R R (wnt (Zr t1 fun y2 l2 t1 => (wj (J := List (List Int)) (X := List Value) (fun z => y2 = z) (fun _ _ => [(2, ptr b1 0), (3, ptr b2 0), (5, (sl x1.1)), (7, iv ((k2 : Nat) : Int))]) (fun z x => [box b2 [iv a_d.Size, (sl v1a)], box b1 [iv a_b.Size, (sl v0a)], own (sl x1.1) x z]) ?_ ?_)))))))))))))))))
 refine wcb (wcf (X := List Value) l2 (fun k3 s3 x3l => [(2, ptr b1 0), (3, ptr b2 0), (5, (sl x1.1)), (7, iv ((k2 : Nat) : Int)), (8, iv ((k3 : Nat) : Int))]) (fun k3 s3 x3l => [box b2 [iv a_d.Size, (sl v1a)], box b1 [iv a_b.Size, (sl v0a)], own (sl x1.1) x3l s3]) x2l (su5 R R R R R) so3 fun k3 s3 x3l hN3 l2 => ?_)
 by_cases hk3 : k3 < 4
 refine fos l2 hk3 fun _ t2 l2 => ?_
 unfold Zfy at t2
 have c3 : (decide (((k3 : Nat) : Int) < 4)) = true := ddt (by omega)
 refine wcs (wcr (mv R R (wlq (pls R R) R (wnt (wft R c3 (wck (wqt (wcs (wcb (wcr (wlq (pof Zx R) R (wlq (v := (sl v1a)) (plx ZR pz R R) R (mv R R (gdO t2 fun g3 t2 => (wlq (Zv (k := k2) (rga r1) Z7 R R g3) R (wlq (v := .agg #[iv ((gx a_d.Cells k2).Split), iv ((gx a_d.Cells k2).A), iv ((gx a_d.Cells k2).B)]) (ZaB (rga r1) Zf R g3 R R R) R (mv R R (bdO t2 fun v1 hv1 t2 => (wlc (cz0 ZtU R fun w hw => Zlb w (gx a_d.Cells k2) ((k3 : Nat) : Int) hv1) R fun _ => (asg R R (wnt (wcr (wlq (pof Zx R) R (wlq (v := (sl v0a)) (plx ZR pk1 R R) R (mv R R (wlq (Zv (k := k2) (rga r0) Z7 R R hk2) R (wlq (v := .agg #[iv ((gx a_b.Cells k2).Split), iv ((gx a_b.Cells k2).A), iv ((gx a_b.Cells k2).B)]) (ZaB (rga r0) Zf R hk2 R R R) R (mv R R (bdO t2 fun v2 hv2 t2 => (wlc (cz0 ZtU R fun w hw => Zlb w (gx a_b.Cells k2) ((k3 : Nat) : Int) hv2) R fun _ => (asg R R (wnt (wcd [box b2 [iv a_d.Size, (sl v1a)], box b1 [iv a_b.Size, (sl v0a)], own (sl x1.1) x3l s3] 14 mixed (aq 0 R (pom R) so3 R (aq 1 R (pom R) so3 R (gdO t2 fun g4 t2 => (aq 2 R (Z8 (rgo pk2) Zry R R g4.1 g4.2) so3 R (Zju (rgo pk2) (ZK g4) ?_))))))))))))))))))))))))))))))))))))))
 rintro ⟨_, _, he1⟩
 obtain ⟨w1, hc1, _⟩ := Zs9.1 he1
 refine aq (v := (sl w1)) 3 R (ZkY (rgo pk2) Zeu R hc1 R) so3 R (aq 4 R (pom R) so3 R (aq 5 R (pom R) so3 R (aq 6 R (pom R) so3 R (aq 7 R (Z8 (rgo pk2) Zry R R g4.1 g4.2) so3 R (aq (v := (sl w1)) 8 R (ZkY (rgo pk2) Zeu R hc1 R) so3 R (aq 9 R (pom R) so3 R (gdO t2 fun g5 t2 => (aq 10 R (Z8 (Zpo hc1 (rgo pk2) (ZK g4)) ZH R R g5.1 g5.2) so3 R (aq (v := iv (gx (gx s3 ((v1).toNat)) ((v2).toNat))) 11 R (ZD (Zpo hc1 (rgo pk2) (ZK g4)) tk_3 R (ZK g5) R) so3 R (aq 12 R (Z4 R R) so3 R (aq 13 R (Z8 (Zpo hc1 (rgo pk2) (ZK g4)) ZH R R g5.1 g5.2) so3 R (a1 14 (Zwt (Ent.trans ZxQ (Zqr pk2 (ZK g4) hc1)) (ZU R (ZiY (x' := (wr ((gx (gx s3 ((v1).toNat)) ((v2).toNat)) + 1))) tk_3 pz R R R R R R (ZK g5) R) (Zaw (by kernel_rfl)) ?_))))))))))))))
 refine Zxf (Zvg pk1 (ZtX pz) (ZK g4) hc1) ?_
 refine ae (wqb (wqt (wcg (mv R R (wlq (Zj R R (by omega)) R ?_)))))
 exact asg R R (wln (Zl hk3 (stpN l2 t2) x3l (su5 R R R R R) (zc pk1 (zc pk1 so1))))
 have c3 : (decide (((k3 : Nat) : Int) < 4)) = false := ddf (by omega)
 have en2 := foe l2 hk3
 exact wcs (wcr (mv R R (wlq (pls R R) R (wnt (wff R c3 (wcx (wqe (wqe (wbx (wjm _ x3l (Sum.inl.inj en2) (su4 R R R R) so3))))))))))
 intro e3 x5 hp
 obtain rfl : e3 = y2 := hp.symm
 refine wqb (wqt (wcg (mv R R (wlq (Zj R R (by omega)) R ?_))))
 exact asg R R (wln (Zl hk2 (stpN l1 t1) x5 (su4 R R R R) so3))
 have c2 : (decide (((k2 : Nat) : Int) < ((a_b.Cells.length : Nat) : Int))) = false := ddf (by omega)
 have en3 := foe l1 hk2
 exact wcs (wcr (mv R R (wlq (pof Zx R) R (wlq (v := (sl v0a)) (plx ZR pk1 R R) R (wlq (pln (rga r0) Z7 R) R (wlq (pls R R) R (wnt (wff R c2 (wcx (wqe (wqe (wbx (wjm _ x2l (Sum.inl.inj en3) (su1 R) (zc pk2 zn))))))))))))))
 intro e2 x4 hp
 obtain rfl : e2 = y1 := hp.symm
 refine wqt (wcr (mv R R (asg R R (wnt (wct ?_)))))
 obtain rfl := oi t0
 exact wq1 R R fun w hw => ⟨(x1.1, x4), R, hw.weak so1⟩

theorem Zqj : ∀ (fuel : Nat) (w : World) (a_t : List (List Int)) (v0a : Hd) (u0a : List Value) (r0 : RdL w (dm w []) (sl v0a) u0a a_t) (a_l : List Int) (v1a : Hd) (r1 : rdF w (dm w []) (sl v1a) a_l) (a_at : Int) (a_used : Int) {r : Int} (t0 : Zcb fuel a_t a_l a_at a_used = some r), Calls Tryz.prog 164 #[(sl v0a), (sl v1a), .int .i64 a_at, .int .i64 a_used] w fun e w' => e = .returned (.int .i64 r) ∧ SH w [] [] w' := by
 intro fuel
 induction fuel with
 | zero => intros; rename_i t0; exact nomatch t0
 | succ fuel ih =>
 intro w a_t v0a u0a r0 a_l v1a r1 a_at a_used r t0
 refine cwc (args := [_, _, _, _]) Tryz.func164 R Tryz.ntmps164 R ?_
 unfold Zcb at t0
 refine wcr (asg R R (wnt (wcs (wcr (mv R R (mv R R (wlq (pln (rga r1) ZH R) R (wlq (pol R R) R (wnt (wcO t0 R (fun h1 t0 => ?_) fun h1 t0 => ?_))))))))))
 refine wcr (asg R R (wnt (wct (wqr ?_))))
 obtain rfl := oi t0
 exact wq1 R R fun w hw => ⟨R, hw.weak zn⟩
 refine wck (wqt (wcr (asg R R (wnt (wcs (wcr (asg R R (wnt (Zr t0 fun y1 l1 t0 => (wj (J := Int) (X := Unit) (fun z => y1 = z) (fun z _ => [(9, iv z)]) (fun _ _ => []) ?_ ?_))))))))))
 refine wcb (wcf (X := Unit) l1 (fun k1 s1 x1l => [(0, (sl v0a)), (1, (sl v1a)), (2, iv a_at), (3, iv a_used), (9, iv s1), (10, iv ((k1 : Nat) : Int))]) (fun k1 s1 x1l => []) () (su6 R R R R R R) zn fun k1 s1 x1l hN1 l1 => ?_)
 by_cases hk1 : k1 < 6
 refine fos l1 hk1 fun _ t1 l1 => ?_
 unfold Zgn at t1
 have c1 : (decide (((k1 : Nat) : Int) < 6)) = true := ddt (by omega)
 refine wcs (wcr (mv R R (wlq (pls R R) R (wnt (wft R c1 (wck (wqt (wcs (wcb (wcr (mv R R (mv R R (gdO t1 fun g1 t1 => (wlq (ZrC R R g1) R (wlq (Zpy R R) R (wlq (pol R R) R (wnt (bdO t1 fun y2 t2 t1 => (wj (J := Int) (X := Unit) (fun z => y2 = z) (fun z _ => [(0, (sl v0a)), (1, (sl v1a)), (2, iv a_at), (3, iv a_used), (9, iv z), (10, iv ((k1 : Nat) : Int))]) (fun _ _ => []) ?_ ?_)))))))))))))))))))
 refine wcO t2 R (fun h2 t2 => ?_) fun h2 t2 => ?_
 refine wcd [] 23 mixed (aq 0 R (pom R) zn R (aq 1 R (pom R) zn R (aq 2 R (pom R) zn R (aq 3 R (pom R) zn R (gdO t2 fun g2 t2 => (aq 4 R (Z8 (rga r1) ZH R R g2.1 g2.2) zn R (aq (v := iv (gx a_l ((a_at).toNat))) 5 R (ZD (rga r1) tk_3 R (ZK g2) R) zn R (gdO t2 fun g3 t2 => (aq 6 R (Z8 (rga r0) Zry R R g3.1 g3.2) zn R (Zju (rga r0) (ZK g3) ?_))))))))))
 rintro ⟨_, _, he1⟩
 obtain ⟨w1, hc1, _⟩ := Zs9.1 he1
 exact aq (v := (sl w1)) 7 R (ZkY (rga r0) Zeu R hc1 R) zn R (aq 8 R (pom R) zn R (gdO t2 fun g4 t2 => (aq 9 R (Zv (k := k1) (Zpo hc1 (rga r0) (ZK g3)) ZH R R g4) zn R (aq (v := iv (gx (gx a_t (((gx a_l ((a_at).toNat))).toNat)) k1)) 10 R (ZD (Zpo hc1 (rga r0) (ZK g3)) tk_3 R g4 R) zn R (aq 11 R (pom R) zn R (aq 12 R (pom R) zn R (aq 13 R (pom R) zn R (aq 14 R (Z4 R R) zn R (aq 15 R (pom R) zn R (aq 16 R (pom R) zn R (aq 17 R (Zw8 R R g1) zn R (aq 18 R (Zxq R R) zn R (a1 19 (bdO t2 fun v1 hv1 t2 => (wsc R (cz0 ZtO R fun w hw => ih w a_t v0a u0a (ra r0 hw) a_l v1a (ra r1 hw) (wr (a_at + 1)) (orI a_used (shlI 1 ((k1 : Nat) : Int))) hv1) (fun _ => (zt zn)) R fun _ => (aq 20 R (Z4 R R) zn R (aq 21 R (Zmv R R) zn R (aq 22 R (Zu R) zn R (ae (wjm _ () (mtE t2) (su6 R R R R R R) zn))))))))))))))))))))
 exact wck (wjm _ () (mtE t2) (su6 R R R R R R) zn)
 intro j1 _ hp
 obtain rfl : j1 = y2 := hp.symm
 refine wqb (wqt (wcg (mv R R (wlq (Zj R R (by omega)) R ?_))))
 exact asg R R (wln (Zl hk1 (stpN l1 t1) () (su6 R R R R R R) zn))
 have c1 : (decide (((k1 : Nat) : Int) < 6)) = false := ddf (by omega)
 have en1 := foe l1 hk1
 exact wcs (wcr (mv R R (wlq (pls R R) R (wnt (wff R c1 (wcx (wqe (wqe (wbx (wjm _ () (Sum.inl.inj en1) (su1 R) zn))))))))))
 intro e1 _ hp
 obtain rfl : e1 = y1 := hp.symm
 refine wqt (wcr (mv R R (asg R R (wnt (wct ?_)))))
 obtain rfl := oi t0
 exact wq1 R R fun w hw => ⟨R, hw.weak zn⟩

theorem Zkz (w : World) (a_b : GBlock) (v0a : Hd) (r0 : rdF w (dm w []) (sl v0a) a_b.Cells) (a_d : GBlock) (v1a : Hd) (r1 : rdF w (dm w []) (sl v1a) a_d.Cells) {r : Int} (t0 : Zb3 a_b a_d = some r) : Calls Tryz.prog 145 #[.agg #[.int .i64 a_b.Size, (sl v0a)], .agg #[.int .i64 a_d.Size, (sl v1a)]] w fun e w' => e = .returned (.int .i64 r) ∧ SH w [] [] w' := by
 refine cwc (args := [_, _]) Tryz.func145 R Tryz.ntmps145 R ?_
 unfold Zb3 at t0
 refine wcr (wle (Zh R R) R fun b1 => (wle (Zh R R) R fun b2 => (asg R R (wnt (wcr (wlq (v := .agg #[iv a_d.Size, (sl v1a)]) (plb Zb pz R R R) R (bdO t0 fun v1 hv1 t0 => (wlc (cz1 ZwV R fun w hw => ZoW w a_d v1a (ra r1 hw) hv1) R fun x1 => (asg R R (wnt (wcr (asg R R (wnt (wcs (wcs (bdO t0 fun y1 t1 t0 => (wj (J := Bool) (X := Unit) (fun z => y1 = z) (fun z _ => [(2, ptr b1 0), (3, ptr b2 0), (5, (sl x1)), (6, iv 0), (18, .bool z)]) (fun _ _ => [box b2 [iv a_d.Size, (sl v1a)], box b1 [iv a_b.Size, (sl v0a)], ownF (sl x1) v1]) ?_ ?_)))))))))))))))))
 refine wcg (wlq (v := .agg #[iv a_b.Size, (sl v0a)]) (plb Zb pk2 R R R) R (wlq (v := .agg #[iv a_d.Size, (sl v1a)]) (plb Zb pk1 R R R) R (bdO t1 fun v2 hv2 t1 => (wlc (cz0 ZwQ R fun w hw => Zri w a_b v0a (ra r0 hw) a_d v1a (ra r1 hw) hv2) R fun _ => (wlq (Zd R) R (mv R R (wlo (t := 14) t1 R (fun h1 t1 => ?_) fun h1 t1 => ?_)))))))
 exact wgf (j := 4) R R R R R (wgf (j := 4) R R R R R (wgf (j := 4) R R R R R (wlq (pit R R) R (wln (wjm _ () (mtE t1) (su5 R R R R R) (zc pk1 (zc pk1 so1)))))))
 exact wgn (j := 4) R R R (mv R R (wgn (j := 4) R R R (wlq (pln (rgo pz) ZH R) R (wgn (j := 4) R R R (wlq (ZaD R R) R (wlq (pif R R) R (wln (wjm _ () (mtE t1) (su5 R R R R R) (zc pk1 (zc pk1 so1))))))))))
 intro j1 _ hp
 obtain rfl : j1 = y1 := hp.symm
 refine wqt (wcO t0 R (fun h2 t0 => ?_) fun h2 t0 => ?_)
 refine wcr (asg R R (wnt (wct (wqr ?_))))
 obtain rfl := oi t0
 exact wq1 R R fun w hw => ⟨R, hw.weak zn⟩
 refine wck (wqt (wcs (wcr (asg R R (wnt (Zr t0 fun y1 l1 t0 => (wj (J := Int) (X := Unit) (fun z => y1 = z) (fun z _ => [(6, iv z)]) (fun _ _ => []) ?_ ?_)))))))
 refine wcb (wcf (X := Unit) l1 (fun k1 s1 x1l => [(2, ptr b1 0), (3, ptr b2 0), (5, (sl x1)), (6, iv s1), (7, iv ((k1 : Nat) : Int))]) (fun k1 s1 x1l => [box b2 [iv a_d.Size, (sl v1a)], box b1 [iv a_b.Size, (sl v0a)], ownF (sl x1) v1]) () (su5 R R R R R) so3 fun k1 s1 x1l hN1 l1 => ?_)
 by_cases hk1 : k1 < 8
 refine fos l1 hk1 fun _ t1 l1 => ?_
 unfold Zcs at t1
 have c1 : (decide (((k1 : Nat) : Int) < 8)) = true := ddt (by omega)
 refine wcs (wcr (mv R R (wlq (pls R R) R (wnt (wft R c1 (wck (wqt (wcs (wcb (wcd [box b2 [iv a_d.Size, (sl v1a)], box b1 [iv a_b.Size, (sl v0a)], ownF (sl x1) v1] 10 mixed (aq 0 R (pom R) so3 R (aq (v := .agg #[iv a_b.Size, (sl v0a)]) 1 R (plb Zb pk1 R R R) so3 R (aq (v := .agg #[iv a_d.Size, (sl v1a)]) 2 R (plb Zb pz R R R) so3 R (aq 3 R (pom R) so3 R (aq 6 R (pom R) so3 R (a1 4 (bdO t1 fun v3 hv3 t1 => (wsc R (cz1 ZtK R fun w hw => Zks w a_d v1a (ra r1 hw) ((k1 : Nat) : Int) hv3) (fun _ => (zt (zc pk1 (zc pk1 (zc pk1 zn))))) R fun x4 => (a1 5 (bdO t1 fun v4 hv4 t1 => (wsc R (cz1 Zwk R fun w hw => Zo4 w a_b v0a (ra r0 hw) v3 x4 (Rg.on (rgo pz) hw) hv4) (fun _ => (zt (zc pk2 (zc pk2 (zc pk2 zn))))) R fun x5 => (a1 7 (bdO t1 fun v5 hv5 t1 => (wsc R (cz0 ZtO R fun w hw => Zqj (v1.length + 1) w v4 x5.1 x5.2 (Rg.on (rgo pz) hw) v1 x1 (Rg.on (rgo pk4) hw) 0 0 hv5) (fun _ => (zt (zc pk2 (zc pk2 (zc pk2 zn))))) R fun _ => (aq 8 R (Zmv R R) (zc pk2 (zc pk2 (zc pk2 zn))) R (aq 9 R (Zu R) (zc pk2 (zc pk2 (zc pk2 zn))) R (ae (wqb (wqt (wcg (mv R R (wlq (Zj R R (by omega)) R ?_))))))))))))))))))))))))))))))))
 exact asg R R (wln (Zl hk1 (stpN l1 t1) () (su5 R R R R R) (zc pk2 (zc pk2 (zc pk2 zn)))))
 have c1 : (decide (((k1 : Nat) : Int) < 8)) = false := ddf (by omega)
 have en1 := foe l1 hk1
 exact wcs (wcr (mv R R (wlq (pls R R) R (wnt (wff R c1 (wcx (wqe (wqe (wbx (wjm _ () (Sum.inl.inj en1) (su1 R) zn))))))))))
 intro e1 _ hp
 obtain rfl : e1 = y1 := hp.symm
 refine wqt (wcr (mv R R (asg R R (wnt (wct ?_)))))
 obtain rfl := oi t0
 exact wq1 R R fun w hw => ⟨R, hw.weak zn⟩

theorem Zol (w : World) (a_e : GEntry) (v0a : Hd) (r0 : rdF w (dm w []) (sl v0a) a_e.Block.Cells) (a_f : GEntry) (v1a : Hd) (r1 : rdF w (dm w []) (sl v1a) a_f.Block.Cells) {r : Int} (t0 : Ze2 a_e a_f = some r) : Calls Tryz.prog 121 #[.agg #[.int .i64 a_e.Owner, .int .i64 a_e.Day, .int .i64 a_e.Block.Size, (sl v0a)], .agg #[.int .i64 a_f.Owner, .int .i64 a_f.Day, .int .i64 a_f.Block.Size, (sl v1a)]] w fun e w' => e = .returned (.int .i64 r) ∧ SH w [] [] w' := by
 refine cwc (args := [_, _]) Tryz.func121 R Tryz.ntmps121 R ?_
 unfold Ze2 at t0
 refine wcr (wle (Zh R R) R fun b1 => (wle (Zh R R) R fun b2 => (asg R R (wnt (wcs (wcb (wcs (bdO t0 fun y1 t1 t0 => (wj (J := Bool) (X := Unit) (fun z => y1 = z) (fun z _ => [(2, ptr b1 0), (3, ptr b2 0), (5, .bool z)]) (fun _ _ => [box b2 [iv a_f.Owner, iv a_f.Day, iv a_f.Block.Size, (sl v1a)], box b1 [iv a_e.Owner, iv a_e.Day, iv a_e.Block.Size, (sl v0a)]]) ?_ ?_)))))))))
 refine wcg (wlq (v := .agg #[iv a_e.Owner, iv a_e.Day, iv a_e.Block.Size, (sl v0a)]) (plb Za7 pk1 R R R) R (bdO t1 fun v1 hv1 t1 => (wlc (cz0 ZrD R fun w hw => Zir w a_e v0a (ra r0 hw) hv1) R fun _ => (wlq (Zd R) R (mv R R (wlo (t := 9) t1 R (fun h1 t1 => ?_) fun h1 t1 => ?_))))))
 exact wgf (j := 3) R R R R R (wgf (j := 3) R R R R R (wgf (j := 3) R R R R R (wlq (pit R R) R (mv R R (wgf (j := 8) R R R R R (wgf (j := 8) R R R R R (wgf (j := 8) R R R R R (wgf (j := 8) R R R R R (wgf (j := 8) R R R R R (wgf (j := 8) R R R R R (wgf (j := 8) R R R R R (wlq (pit R R) R (asg R R (wln (wjm _ () (mtE t1) (su3 R R R) so2)))))))))))))))
 refine wgn (j := 3) R R R (wlq (v := .agg #[iv a_f.Owner, iv a_f.Day, iv a_f.Block.Size, (sl v1a)]) (plb Za7 pz R R R) R (bdO t1 fun v2 hv2 t1 => (wgn (j := 3) R R R (wlc (cz0 ZrD R fun w hw => Zir w a_f v1a (ra r1 hw) hv2) R (fun _ => (wgn (j := 3) R R R (wlq (Zd R) R (wlq (pif R R) R (mv R R (wlo (t := 14) t1 R (fun h2 t1 => ?_) fun h2 t1 => ?_))))))))))
 exact wgf (j := 8) R R R R R (wgf (j := 8) R R R R R (wgf (j := 8) R R R R R (wgf (j := 8) R R R R R (wgf (j := 8) R R R R R (wgf (j := 8) R R R R R (wgf (j := 8) R R R R R (wlq (pit R R) R (asg R R (wln (wjm _ () (mtE t1) (su3 R R R) so2))))))))))
 exact wgn (j := 8) R R R (wlq (pof Za4 R) R (wgn (j := 8) R R R (wlq (pof ZL R) R (wgn (j := 8) R R R (wlq (v := iv a_e.Block.Size) (plx tk_3 pk1 R R) R (wgn (j := 8) R R R (wlq (pof Za4 R) R (wgn (j := 8) R R R (wlq (pof ZL R) R (wgn (j := 8) R R R (wlq (v := iv a_f.Block.Size) (plx tk_3 pz R R) R (wgn (j := 8) R R R (wlq (Zeh R R) R (wlq (pif R R) R (asg R R (wln (wjm _ () (mtE t1) (su3 R R R) so2)))))))))))))))))
 intro j1 _ hp
 obtain rfl : j1 = y1 := hp.symm
 refine wqt (wcO t0 R (fun h3 t0 => ?_) fun h3 t0 => ?_)
 refine wcr (asg R R (wnt (wct (wbr (wqr ?_)))))
 obtain rfl := oi t0
 exact wq1 R R fun w hw => ⟨R, hw.weak zn⟩
 refine wcr (wlq (pof Za4 R) R (wlq (v := .agg #[iv a_e.Block.Size, (sl v0a)]) (plb Zb pk1 R R R) R (wlq (pof Za4 R) R (wlq (v := .agg #[iv a_f.Block.Size, (sl v1a)]) (plb Zb pz R R R) R (bdO t0 fun v3 hv3 t0 => (wlc (cz0 ZwA R fun w hw => ZkE w a_e.Block v0a (ra r0 hw) a_f.Block v1a (ra r1 hw) hv3) R fun _ => (asg R R (wnt (wcO t0 R (fun h4 t0 => ?_) fun h4 t0 => ?_)))))))))
 refine wcr (asg R R (wnt (wct (wbr (wqr ?_)))))
 obtain rfl := oi t0
 exact wq1 R R fun w hw => ⟨R, hw.weak zn⟩
 refine wcs (wcd [box b2 [iv a_f.Owner, iv a_f.Day, iv a_f.Block.Size, (sl v1a)], box b1 [iv a_e.Owner, iv a_e.Day, iv a_e.Block.Size, (sl v0a)]] 13 mixed (aq 0 R (pof Za4 R) so2 R (aq (v := .agg #[iv a_e.Block.Size, (sl v0a)]) 1 R (plb Zb pk1 R R R) so2 R (aq 2 R (pof Za4 R) so2 R (aq (v := .agg #[iv a_f.Block.Size, (sl v1a)]) 3 R (plb Zb pz R R R) so2 R (aq 6 R (pof Za4 R) so2 R (aq 7 R (pof Zx R) so2 R (aq (v := (sl v0a)) 8 R (plx ZR pk1 R R) so2 R (aq 9 R (pln (rga r0) Z7 R) so2 R (aq 10 R (Zcu R R) so2 R (a1 4 (bdO t0 fun v4 hv4 t0 => (wsc R (cz0 ZwY R fun w hw => Zkz w a_e.Block v0a (ra r0 hw) a_f.Block v1a (ra r1 hw) hv4) (fun _ => (zt so2)) R fun _ => (aq 5 R (Zcu R R) so2 R (aq 11 R (Ze1 R R) so2 R (aq 12 R (Zu R) so2 R (ae (wqt (wcO t0 R (fun h5 t0 => ?_) fun h5 t0 => ?_)))))))))))))))))))
 refine wcr (asg R R (wnt (wct (wbr (wqr ?_)))))
 obtain rfl := oi t0
 exact wq1 R R fun w hw => ⟨R, hw.weak zn⟩
 refine wck (wqb (wqt (wcr (asg R R (wnt (wct ?_))))))
 obtain rfl := oi t0
 exact wq1 R R fun w hw => ⟨R, hw.weak zn⟩

theorem ZqZ (w : World) (a_e : GEntry) (v0a : Hd) (r0 : rdF w (dm w []) (sl v0a) a_e.Block.Cells) (a_f : GEntry) (v1a : Hd) (r1 : rdF w (dm w []) (sl v1a) a_f.Block.Cells) {r : Bool} (t0 : Zhs a_e a_f = some r) : Calls Tryz.prog 96 #[.agg #[.int .i64 a_e.Owner, .int .i64 a_e.Day, .int .i64 a_e.Block.Size, (sl v0a)], .agg #[.int .i64 a_f.Owner, .int .i64 a_f.Day, .int .i64 a_f.Block.Size, (sl v1a)]] w fun e w' => e = .returned (.bool r) ∧ SH w [] [] w' := by
 refine cwc (args := [_, _]) Tryz.func96 R Tryz.ntmps96 R ?_
 unfold Zhs at t0
 refine wcr (wle (Zh R R) R fun b1 => (wle (Zh R R) R fun b2 => (asg R R (wnt (wcr (wlq (v := .agg #[iv a_e.Owner, iv a_e.Day, iv a_e.Block.Size, (sl v0a)]) (plb Za7 pk1 R R R) R (wlq (v := .agg #[iv a_f.Owner, iv a_f.Day, iv a_f.Block.Size, (sl v1a)]) (plb Za7 pz R R R) R (bdO t0 fun v1 hv1 t0 => (wlc (cz0 Zwi R fun w hw => Zol w a_e v0a (ra r0 hw) a_f v1a (ra r1 hw) hv1) R fun _ => (asg R R (wnt (wcs (wcj (X := Unit) (fun _ => True) (fun _ => [(4, .bool (bif (v1 == 3) then ((a_e.Owner != a_f.Owner) && (decide (a_e.Day > a_f.Day))) else ((v1 == 2) && ((a_e.Owner != a_f.Owner) && (decide (a_e.Day > a_f.Day))))))]) (fun _ => []) ?_ ?_)))))))))))))
 refine wcg (mv R R (wlq (pol R R) R (mv R R (Zah (t := 11) R (fun h1 => ?_) fun h1 => ?_))))
 refine wgf (j := 2) R R R R R (wgf (j := 2) R R R R R (wlq (pit R R) R (mv R R (wgn (j := 6) R R R (wlq (pof Zd7 R) R (wgn (j := 6) R R R (wlq (v := iv a_e.Owner) (plx tk_3 pk1 R R) R (wgn (j := 6) R R R (wlq (pof Zd7 R) R (wgn (j := 6) R R R (wlq (v := iv a_f.Owner) (plx tk_3 pz R R) R (wgn (j := 6) R R R (wlq (Zeh R R) R (wlq (pit R R) R (mv R R (Zah (t := 22) R (fun h2 => ?_) fun h2 => ?_))))))))))))))))
 exact wgn (j := 13) R R R (wlq (pof ZcD R) R (wgn (j := 13) R R R (wlq (v := iv a_e.Day) (plx tk_3 pk1 R R) R (wgn (j := 13) R R R (wlq (pof ZcD R) R (wgn (j := 13) R R R (wlq (v := iv a_f.Day) (plx tk_3 pz R R) R (wgn (j := 13) R R R (wlq (ZaD R R) R (wlq (pit R R) R (asg R R (wln (wqm () trivial (Z2 R (by rw [h1, h2]; rfl) yn) zn)))))))))))))
 exact wgf (j := 13) R R R R R (wgf (j := 13) R R R R R (wgf (j := 13) R R R R R (wgf (j := 13) R R R R R (wgf (j := 13) R R R R R (wlq (pif R R) R (asg R R (wln (wqm () trivial (Z2 R (by rw [h1, h2]; rfl) yn) zn))))))))
 refine wgn (j := 2) R R R (mv R R (wgn (j := 2) R R R (wlq (pol R R) R (wlq (pif R R) R (mv R R (Zah (t := 15) R (fun h3 => ?_) fun h3 => ?_))))))
 refine wgn (j := 6) R R R (wlq (pof Zd7 R) R (wgn (j := 6) R R R (wlq (v := iv a_e.Owner) (plx tk_3 pk1 R R) R (wgn (j := 6) R R R (wlq (pof Zd7 R) R (wgn (j := 6) R R R (wlq (v := iv a_f.Owner) (plx tk_3 pz R R) R (wgn (j := 6) R R R (wlq (Zeh R R) R (wlq (pit R R) R (mv R R (Zah (t := 22) R (fun h4 => ?_) fun h4 => ?_))))))))))))
 exact wgn (j := 13) R R R (wlq (pof ZcD R) R (wgn (j := 13) R R R (wlq (v := iv a_e.Day) (plx tk_3 pk1 R R) R (wgn (j := 13) R R R (wlq (pof ZcD R) R (wgn (j := 13) R R R (wlq (v := iv a_f.Day) (plx tk_3 pz R R) R (wgn (j := 13) R R R (wlq (ZaD R R) R (wlq (pit R R) R (asg R R (wln (wqm () trivial (Z2 R (by rw [h1, h3, h4]; rfl) yn) zn)))))))))))))
 exact wgf (j := 13) R R R R R (wgf (j := 13) R R R R R (wgf (j := 13) R R R R R (wgf (j := 13) R R R R R (wgf (j := 13) R R R R R (wlq (pif R R) R (asg R R (wln (wqm () trivial (Z2 R (by rw [h1, h3, h4]; rfl) yn) zn))))))))
 exact wgf (j := 6) R R R R R (wgf (j := 6) R R R R R (wgf (j := 6) R R R R R (wgf (j := 6) R R R R R (wgf (j := 6) R R R R R (wlq (pif R R) R (mv R R (wgf (j := 13) R R R R R (wgf (j := 13) R R R R R (wgf (j := 13) R R R R R (wgf (j := 13) R R R R R (wgf (j := 13) R R R R R (wlq (pif R R) R (asg R R (wln (wqm () trivial (Z2 R (by rw [h1, h3]; rfl) yn) zn)))))))))))))))
 intro _ _
 refine wqt (wct ?_)
 obtain rfl := oi t0
 exact wq1 R R fun w hw => ⟨R, hw.weak zn⟩

end Go.Proofs.YtjfjbgihojiijabGreatDoor
