/-
 Each Go function computes its Lean function (part 4).
-/
import Derived.Test.YtjfjbgihojiijacGreatDoorWalks3
namespace Go.Proofs.YtjfjbgihojiijacGreatDoor
open Go Go.RowKit Go.Proofs
set_option maxRecDepth 100000

theorem ZpP (w : World) (a_g : GGuild) (v0a : Hd) (r0 : rdF w (dm w []) (sl v0a) a_g.Members) (v1a : Hd) (r1 : rdF w (dm w []) (sl v1a) a_g.Stock) (v2a : Hd) (u2a : List Value) (r2 : RdL w (dm w []) (sl v2a) u2a a_g.Entries) (v3a : Hd) (r3 : rdF w (dm w []) (sl v3a) a_g.Books) (a_acts : List GAct) (v4a : Hd) (r4 : rdF w (dm w []) (sl v4a) a_acts) {r : GGuild × (List Int)} (t0 : Zgz a_g a_acts = some r) : Calls Tryz.prog 11 #[.agg #[(sl v0a), (sl v1a), (sl v2a), (sl v3a), .int .i64 a_g.Round, .int .i64 a_g.Year], (sl v4a)] w fun e w' => ∃ x : Hd × Hd × Hd × (List Value) × Hd × Hd, e = .returned (.tuple #[.agg #[(sl x.1), (sl x.2.1), (sl x.2.2.1), (sl x.2.2.2.2.1), .int .i64 r.1.Round, .int .i64 r.1.Year], (sl x.2.2.2.2.2)]) ∧ SH w [] [ownF (sl x.1) r.1.Members, ownF (sl x.2.1) r.1.Stock, own (sl x.2.2.1) x.2.2.2.1 r.1.Entries, ownF (sl x.2.2.2.2.1) r.1.Books, ownF (sl x.2.2.2.2.2) r.2] w' := by
 refine cwc (args := [_, _]) Tryz.func11 R Tryz.ntmps11 R ?_
 unfold Zgz at t0
 refine wcr (wle (Zg R R) R fun b1 => (wle (eal (cs := [(sl hn), (sl hn), (sl hn), (sl hn), iv 0, iv 0]) ZE) R fun b2 => (asg R R (wnt (wcr (wlq (v := .agg #[(sl v0a), (sl v1a), (sl v2a), (sl v3a), iv a_g.Round, iv a_g.Year]) (plb Zb pk1 R R R) R (bdO t0 fun v1 hv1 t0 => (wlc (Zan Zia R fun w hw => Za1 w a_g v0a (ra r0 hw) v1a (ra r1 hw) v2a u2a (ra r2 hw) v3a (ra r3 hw) hv1) R fun x1 => (wle (eal (cs := [(sl hn), (sl hn), (sl hn), (sl hn), iv 0, iv 0]) ZE) R fun b3 => (wls (sbx (cs' := [(sl x1.1), (sl x1.2.1), (sl x1.2.2.1), (sl x1.2.2.2.2), iv v1.Round, iv v1.Year]) Zb pz R R R R R R R) (wnt (wcr (wle (ebs R Zai) R fun b4 => (asg R R (wnt (wcs (wcs (bdO t0 fun y1 t1 t0 => (wj (J := Bool) (X := Unit) (fun z => y1 = z) (fun z _ => [(1, (sl v4a)), (4, ptr b2 0), (6, ptr b3 0), (7, (sl (⟨some ⟨b4, 0, none⟩, 0, 0⟩ : Hd))), (21, .bool z)]) (fun _ _ => [box b3 [(sl x1.1), (sl x1.2.1), (sl x1.2.2.1), (sl x1.2.2.2.2), iv v1.Round, iv v1.Year], box b2 [(sl hn), (sl hn), (sl hn), (sl hn), iv 0, iv 0], box b4 [], ownF (sl x1.1) v1.Members, ownF (sl x1.2.1) v1.Stock, own (sl x1.2.2.1) x1.2.2.2.1 v1.Entries, ownF (sl x1.2.2.2.2) v1.Books]) ?_ ?_)))))))))))))))))))
 refine wcg (wlq (v := .agg #[(sl v0a), (sl v1a), (sl v2a), (sl v3a), iv a_g.Round, iv a_g.Year]) (plb Zb pk7 R R R) R (bdO t1 fun v2 hv2 t1 => (wlc (cz0 Zhb R fun w hw => ZaB w a_g v0a (ra r0 hw) v1a (ra r1 hw) v2a u2a (ra r2 hw) v3a (ra r3 hw) hv2) R fun _ => (wlq (Zd R) R (mv R R (wlo (t := 17) t1 R (fun h1 t1 => ?_) fun h1 t1 => ?_))))))
 exact wgf (j := 3) R R R R R (wgf (j := 3) R R R R R (wgf (j := 3) R R R R R (wlq (pit R R) R (wln (wjm _ () (mtE t1) (su5 R R R R R) (zc pk1 (zc pk5 so5)))))))
 exact wgn (j := 3) R R R (mv R R (wgn (j := 3) R R R (wlq (pln (rga r4) Zjm R) R (wgn (j := 3) R R R (wlq (Zad R R) R (wlq (pif R R) R (wln (wjm _ () (mtE t1) (su5 R R R R R) (zc pk1 (zc pk5 so5))))))))))
 intro j1 _ hp
 obtain rfl : j1 = y1 := hp.symm
 refine wqt (wcO t0 R (fun h2 t0 => ?_) fun h2 t0 => ?_)
 refine wcr (wlq (v := .agg #[(sl x1.1), (sl x1.2.1), (sl x1.2.2.1), (sl x1.2.2.2.2), iv v1.Round, iv v1.Year]) (plb Zb pz R R R) R (mv R R (wls (sbx (cs' := [(sl x1.1), (sl x1.2.1), (sl x1.2.2.1), (sl x1.2.2.2.2), iv v1.Round, iv v1.Year]) Zb pk1 R R R R R R R) (asg R R (wnt (wct (wqr ?_)))))))
 obtain rfl := oi t0
 exact Zx R Zb R R pz R fun w hw => ⟨(x1.1, x1.2.1, x1.2.2.1, x1.2.2.2.1, x1.2.2.2.2, (⟨some ⟨b4, 0, none⟩, 0, 0⟩ : Hd)), R, hw.weak (zc pk3 (zc pk3 (zc pk3 (zc pk3 (zc (pbo pk2 (n := 0) (xs := ([] : List Int)) R R (by unfold maxLen; omega)) zn)))))⟩
 refine wck (wqt (wcs (wcr (asg R R (wnt (gdO t0 fun g1 t0 => (Zn t0 fun y1 l1 t0 => (wj (J := (List Int) × (List GMember) × (List Int) × (List GEntry) × (List GBooking) × Int × Int) (X := Hd × Hd × Hd × Hd × (List Value) × Hd) (fun z => y1 = z) (fun _ x => [(4, ptr b2 0), (6, ptr b3 0), (7, (sl x.1))]) (fun z x => [box b3 [(sl x.2.1), (sl x.2.2.1), (sl x.2.2.2.1), (sl x.2.2.2.2.2), iv z.2.2.2.2.2.1, iv z.2.2.2.2.2.2], box b2 [(sl hn), (sl hn), (sl hn), (sl hn), iv 0, iv 0], ownF (sl x.2.1) z.2.1, ownF (sl x.2.2.1) z.2.2.1, own (sl x.2.2.2.1) x.2.2.2.2.1 z.2.2.2.1, ownF (sl x.2.2.2.2.2) z.2.2.2.2.1, ownF (sl x.1) z.1]) ?_ ?_))))))))
 refine wcb (wcf (X := Hd × Hd × Hd × Hd × (List Value) × Hd) l1 (fun k1 s1 x1l => [(1, (sl v4a)), (4, ptr b2 0), (6, ptr b3 0), (7, (sl x1l.1)), (8, iv ((k1 : Nat) : Int))]) (fun k1 s1 x1l => [box b3 [(sl x1l.2.1), (sl x1l.2.2.1), (sl x1l.2.2.2.1), (sl x1l.2.2.2.2.2), iv s1.2.2.2.2.2.1, iv s1.2.2.2.2.2.2], box b2 [(sl hn), (sl hn), (sl hn), (sl hn), iv 0, iv 0], ownF (sl x1l.2.1) s1.2.1, ownF (sl x1l.2.2.1) s1.2.2.1, own (sl x1l.2.2.2.1) x1l.2.2.2.2.1 s1.2.2.2.1, ownF (sl x1l.2.2.2.2.2) s1.2.2.2.2.1, ownF (sl x1l.1) s1.1]) ((⟨some ⟨b4, 0, none⟩, 0, 0⟩ : Hd), x1.1, x1.2.1, x1.2.2.1, x1.2.2.2.1, x1.2.2.2.2) (su5 R R R R R) (zc pz (zc pz (zc pk1 (zc pk1 (zc pk1 (zc pk1 (zc (pbo pz (n := 0) (xs := ([] : List Int)) R R (by unfold maxLen; omega)) zn))))))) fun k1 s1 x1l hN1 l1 => ?_)
 by_cases hk1 : k1 < a_acts.length
 refine fos l1 hk1 fun _ t1 l1 => ?_
 unfold Zgr at t1
 have c1 : (decide (((k1 : Nat) : Int) < ((a_acts.length : Nat) : Int))) = true := ddt (by omega)
 refine wcs (wcr (mv R R (mv R R (wlq (pln (rga r4) Zjm R) R (wlq (pls R R) R (wnt (wft R c1 (wck (wqt (wcs (wcb (wcs (bdO t1 fun v3 hv3 t1 => (wcj (X := Nat × (Hd × Hd × Hd × (List Value) × Hd)) (fun _ => True) (fun z => [(1, (sl v4a)), (4, ptr b2 0), (6, ptr b3 0), (7, (sl x1l.1)), (8, iv ((k1 : Nat) : Int)), (9, ptr z.1 0), (10, iv v3.2)]) (fun z => [box z.1 [(sl z.2.1), (sl z.2.2.1), (sl z.2.2.2.1), (sl z.2.2.2.2.2), iv v3.1.Round, iv v3.1.Year], ownF (sl z.2.1) v3.1.Members, ownF (sl z.2.2.1) v3.1.Stock, own (sl z.2.2.2.1) z.2.2.2.2.1 v3.1.Entries, ownF (sl z.2.2.2.2.2) v3.1.Books, box b3 [(sl x1l.2.1), (sl x1l.2.2.1), (sl x1l.2.2.2.1), (sl x1l.2.2.2.2.2), iv s1.2.2.2.2.2.1, iv s1.2.2.2.2.2.2], box b2 [(sl hn), (sl hn), (sl hn), (sl hn), iv 0, iv 0], ownF (sl x1l.2.1) s1.2.1, ownF (sl x1l.2.2.1) s1.2.2.1, own (sl x1l.2.2.2.1) x1l.2.2.2.2.1 s1.2.2.2.1, ownF (sl x1l.2.2.2.2.2) s1.2.2.2.2.1, ownF (sl x1l.1) s1.1]) ?_ ?_))))))))))))))
 refine wcd [box b3 [(sl x1l.2.1), (sl x1l.2.2.1), (sl x1l.2.2.2.1), (sl x1l.2.2.2.2.2), iv s1.2.2.2.2.2.1, iv s1.2.2.2.2.2.2], box b2 [(sl hn), (sl hn), (sl hn), (sl hn), iv 0, iv 0], ownF (sl x1l.2.1) s1.2.1, ownF (sl x1l.2.2.1) s1.2.2.1, own (sl x1l.2.2.2.1) x1l.2.2.2.2.1 s1.2.2.2.1, ownF (sl x1l.2.2.2.2.2) s1.2.2.2.2.1, ownF (sl x1l.1) s1.1] 12 mixed (aq (v := .agg #[(sl x1l.2.1), (sl x1l.2.2.1), (sl x1l.2.2.2.1), (sl x1l.2.2.2.2.2), iv s1.2.2.2.2.2.1, iv s1.2.2.2.2.2.2]) 0 R (plb Zb pz R R R) so7 R (aq 1 R (pom R) so7 R (aq 2 R (pom R) so7 R (aq 3 R (Zm (k := k1) (rga r4) Zjm R R hk1) so7 R (aq (v := .agg #[iv ((gx a_acts k1).Kind), iv ((gx a_acts k1).A), iv ((gx a_acts k1).B)]) 4 R (Zaw (rga r4) Za3 R hk1 R R R) so7 R (wa_2 (i := 5) (j := 9) (by kernel_rfl) ?_ ?_))))))
 exact wsc R (Zan Zu6 R fun w hw => Zmu w (GGuild.mk s1.2.1 s1.2.2.1 s1.2.2.2.1 s1.2.2.2.2.1 s1.2.2.2.2.2.1 s1.2.2.2.2.2.2) x1l.2.1 (Rg.on (rgo pk2) hw) x1l.2.2.1 (Rg.on (rgo pk3) hw) x1l.2.2.2.1 x1l.2.2.2.2.1 (Rg.on (rgo pk4) hw) x1l.2.2.2.2.2 (Rg.on (rgo pk5) hw) (gx a_acts k1) hv3) (fun _ => (zt (zc pk4 (zc pk4 (zc pk4 (zc pk4 (zc pk4 (zc pk4 (zc pk4 zn))))))))) R fun x4 => aq 6 R (pom R) (zc pk4 (zc pk4 (zc pk4 (zc pk4 (zc pk4 (zc pk4 (zc pk4 zn))))))) R (aq 7 R (pex R R) (zc pk4 (zc pk4 (zc pk4 (zc pk4 (zc pk4 (zc pk4 (zc pk4 zn))))))) R (aq 8 R (pex R R) (zc pk4 (zc pk4 (zc pk4 (zc pk4 (zc pk4 (zc pk4 (zc pk4 zn))))))) R (a1 9 (wse R (eal (cs := [(sl hn), (sl hn), (sl hn), (sl hn), iv 0, iv 0]) ZE) (fun _ => (zt (zc pk5 (zc pk5 (zc pk5 (zc pk5 (zc pk5 (zc pk5 (zc pk5 zn))))))))) R fun b5 => (a1 10 (ZR R (sbx (cs' := [(sl x4.1), (sl x4.2.1), (sl x4.2.2.1), (sl x4.2.2.2.2), iv v3.1.Round, iv v3.1.Year]) Zb pz R R R R R R R) (zt (zc pk5 (zc pk5 (zc pk5 (zc pk5 (zc pk5 (zc pk5 (zc pk5 zn)))))))) (aq 11 R (Zp R) (zc pk5 (zc pk5 (zc pk5 (zc pk5 (zc pk5 (zc pk5 (zc pk5 zn))))))) R (ae (wqm (b5, x4) trivial (su7 R R R R R R R) so12)))))))))
 exact wse R (eal (cs := [(sl hn), (sl hn), (sl hn), (sl hn), iv 0, iv 0]) ZE) (fun _ => (zt (zc pk1 (zc pk1 (zc pk1 (zc pk1 (zc pk1 (zc pk1 (zc pk1 zn))))))))) R fun b6 => a1 5 (wsc R (Zan Zu6 R fun w hw => Zmu w (GGuild.mk s1.2.1 s1.2.2.1 s1.2.2.2.1 s1.2.2.2.2.1 s1.2.2.2.2.2.1 s1.2.2.2.2.2.2) x1l.2.1 (Rg.on (rgo pk3) hw) x1l.2.2.1 (Rg.on (rgo pk4) hw) x1l.2.2.2.1 x1l.2.2.2.2.1 (Rg.on (rgo pk5) hw) x1l.2.2.2.2.2 (Rg.on (rgo pk6) hw) (gx a_acts k1) hv3) (fun _ => (zt (zc pk5 (zc pk5 (zc pk5 (zc pk5 (zc pk5 (zc pk5 (zc pk5 zn))))))))) R fun x5 => (aq 6 R (pom R) (zc pk5 (zc pk5 (zc pk5 (zc pk5 (zc pk5 (zc pk5 (zc pk5 zn))))))) R (aq 7 R (pex R R) (zc pk5 (zc pk5 (zc pk5 (zc pk5 (zc pk5 (zc pk5 (zc pk5 zn))))))) R (aq 8 R (pex R R) (zc pk5 (zc pk5 (zc pk5 (zc pk5 (zc pk5 (zc pk5 (zc pk5 zn))))))) R (a1 10 (ZR R (sbx (cs' := [(sl x5.1), (sl x5.2.1), (sl x5.2.2.1), (sl x5.2.2.2.2), iv v3.1.Round, iv v3.1.Year]) Zb pk4 R R R R R R R) (zt (zc pk5 (zc pk5 (zc pk5 (zc pk5 (zc pk5 (zc pk5 (zc pk5 zn)))))))) (aq 11 R (Zp R) (zc pk5 (zc pk5 (zc pk5 (zc pk5 (zc pk5 (zc pk5 (zc pk5 zn))))))) R (ae (wqm (b6, x5) trivial (su7 R R R R R R R) so12)))))))))
 intro x6 _
 refine wqt (wcr (wlq (v := .agg #[(sl x6.2.1), (sl x6.2.2.1), (sl x6.2.2.2.1), (sl x6.2.2.2.2.2), iv v3.1.Round, iv v3.1.Year]) (plb Zb pz R R R) R (wls (sbx (cs' := [(sl x6.2.1), (sl x6.2.2.1), (sl x6.2.2.2.1), (sl x6.2.2.2.2.2), iv v3.1.Round, iv v3.1.Year]) Zb pk5 R R R R R R R) (wnt (wcg (mv R R (mv R R (wle (ebs R (ZaA v3.2)) R fun b7 => (gdO t1 fun g2 t1 => (wle (Zf (xs := s1.1) (ys := ([v3.2] : List Int)) Zbp pk12 R R (Zi fun _ g => Rg.on (rgo (pbo pz (n := 1) (xs := ([v3.2] : List Int)) R R (by unfold maxLen; omega))) g) g2) R fun x7 => ?_))))))))))
 refine asg R R (wln (wqb (wqt (wcg (mv R R (wlq (Zj R R (by omega)) R ?_))))))
 exact asg R R (wln (Zk hk1 (stpN l1 t1) (x7, x6.2.1, x6.2.2.1, x6.2.2.2.1, x6.2.2.2.2.1, x6.2.2.2.2.2) (su5 R R R R R) (zc pk2 (zc pk7 (zc pk3 (zc pk3 (zc pk3 (zc pk3 so1))))))))
 have c1 : (decide (((k1 : Nat) : Int) < ((a_acts.length : Nat) : Int))) = false := ddf (by omega)
 have en1 := foe l1 hk1
 exact wcs (wcr (mv R R (mv R R (wlq (pln (rga r4) Zjm R) R (wlq (pls R R) R (wnt (wff R c1 (wcx (wqe (wqe (wbx (wjm _ (x1l.1, x1l.2.1, x1l.2.2.1, x1l.2.2.2.1, x1l.2.2.2.2.1, x1l.2.2.2.2.2) (Sum.inl.inj en1) (su3 R R R) so7))))))))))))
 intro e1 x3 hp
 obtain rfl : e1 = y1 := hp.symm
 refine wqt (wcr (wlq (v := .agg #[(sl x3.2.1), (sl x3.2.2.1), (sl x3.2.2.2.1), (sl x3.2.2.2.2.2), iv e1.2.2.2.2.2.1, iv e1.2.2.2.2.2.2]) (plb Zb pz R R R) R (mv R R (wls (sbx (cs' := [(sl x3.2.1), (sl x3.2.2.1), (sl x3.2.2.2.1), (sl x3.2.2.2.2.2), iv e1.2.2.2.2.2.1, iv e1.2.2.2.2.2.2]) Zb pk1 R R R R R R R) (asg R R (wnt (wct ?_)))))))
 obtain rfl := oi t0
 exact Zx R Zb R R pz R fun w hw => ⟨(x3.2.1, x3.2.2.1, x3.2.2.2.1, x3.2.2.2.2.1, x3.2.2.2.2.2, x3.1), R, hw.weak (zc pk2 (zc pk2 (zc pk2 (zc pk2 (zc pk2 zn)))))⟩

theorem Zou (w : World) (a_b : GBlock) (v0a : Hd) (r0 : rdF w (dm w []) (sl v0a) a_b.Cells) {r : Str} (t0 : Ze5 a_b = some r) : Calls Tryz.prog 32 #[.agg #[.int .i64 a_b.Size, (sl v0a)]] w fun e w' => e = .returned (bs r) ∧ SH w [] [] w' := by
 refine cwc (args := [_]) Tryz.func32 R Tryz.ntmps32 R ?_
 unfold Ze5 at t0
 refine wcr (wle (Zg R R) R fun b1 => (asg R R (wnt (wcr (asg R R (wnt (wcs (wcr (asg R R (wnt (gdO t0 fun g1 t0 => (Zn t0 fun y1 l1 t0 => (wj (J := Str) (X := Unit) (fun z => y1 = z) (fun z _ => [(3, bs z)]) (fun _ _ => []) ?_ ?_)))))))))))))
 refine wcb (wcf (X := Unit) l1 (fun k1 s1 x1l => [(1, ptr b1 0), (3, bs s1), (4, iv ((k1 : Nat) : Int))]) (fun k1 s1 x1l => [box b1 [iv a_b.Size, (sl v0a)]]) () (su3 R R R) so1 fun k1 s1 x1l hN1 l1 => ?_)
 by_cases hk1 : k1 < a_b.Cells.length
 refine fos l1 hk1 fun _ t1 l1 => ?_
 unfold Zcp at t1
 have c1 : (decide (((k1 : Nat) : Int) < ((a_b.Cells.length : Nat) : Int))) = true := ddt (by omega)
 refine wcs (wcr (mv R R (wlq (pof Zv R) R (wlq (v := (sl v0a)) (plx ZN pz R R) R (wlq (pln (rga r0) ZU R) R (wlq (pls R R) R (mv R R (Zef (t := 10) R c1 (wgn (j := 5) R R R (wlq (v := .agg #[iv a_b.Size, (sl v0a)]) (plb Zc pz R R R) R (bdO t1 fun v1 hv1 t1 => (wgn (j := 5) R R R (wlc (cz0 ZeH R fun w hw => Zag w a_b v0a (ra r0 hw) hv1) R (fun _ => (wlq (pit R R) R (wnt (wcO t1 R (fun h1 t1 => ?_) fun h1 t1 => ?_)))))))))))))))))
 refine wck (wqt (wcs (wcb (wcs (wcs (bdO t1 fun y2 t2 t1 => (wj (J := Bool) (X := Unit) (fun z => y2 = z) (fun z _ => [(1, ptr b1 0), (3, bs s1), (4, iv ((k1 : Nat) : Int)), (11, .agg #[iv a_b.Size, (sl v0a)]), (12, .bool v1), (24, .bool z)]) (fun _ _ => [box b1 [iv a_b.Size, (sl v0a)]]) ?_ ?_)))))))
 refine wcg (mv R R (wlq (Zad R R) R (mv R R (wlo (t := 18) t2 R (fun h2 t2 => ?_) fun h2 t2 => ?_))))
 exact wgn (j := 2) R R R (mv R R (wgn (j := 2) R R R (wlq (pof ZM R) R (wgn (j := 2) R R R (wlq (v := iv a_b.Size) (plx tk_3 pz R R) R (gdO t2 fun g2 t2 => (wgn (j := 2) R R R (wlq (ZhA R R g2) R (wgn (j := 2) R R R (wlq (pol R R) R (wlq (pit R R) R (wln (wjm _ () (mtE t2) (su6 R R R R R R) so1)))))))))))))
 exact wgf (j := 2) R R R R R (wgf (j := 2) R R R R R (wgf (j := 2) R R R R R (wgf (j := 2) R R R R R (wgf (j := 2) R R R R R (wlq (pif R R) R (wln (wjm _ () (mtE t2) (su6 R R R R R R) so1)))))))
 intro j1 _ hp
 obtain rfl : j1 = y2 := hp.symm
 refine wqt (bdO t1 fun y2 t2 t1 => (wj (J := Str) (X := Unit) (fun z => y2 = z) (fun z _ => [(1, ptr b1 0), (3, bs z), (4, iv ((k1 : Nat) : Int)), (11, .agg #[iv a_b.Size, (sl v0a)]), (12, .bool v1)]) (fun _ _ => [box b1 [iv a_b.Size, (sl v0a)]]) ?_ ?_))
 refine wcO t2 R (fun h3 t2 => ?_) fun h3 t2 => ?_
 exact wcg (mv R R (gdO t2 fun g3 t2 => (wlq (ZO R R g3) R (asg R R (wln (wjm _ () (mtE t2) (su5 R R R R R) so1))))))
 refine wcr (mv R R (wlq (Zad R R) R (wnt (wcO t2 R (fun h4 t2 => ?_) fun h4 t2 => ?_))))
 exact wcg (mv R R (gdO t2 fun g4 t2 => (wlq (ZO R R g4) R (asg R R (wln (wjm _ () (mtE t2) (su5 R R R R R) so1))))))
 exact wck (wjm _ () (mtE t2) (su5 R R R R R) so1)
 intro j2 _ hp
 obtain rfl : j2 = y2 := hp.symm
 refine wqt (wcg (mv R R (wlq (pof Zv R) R (wlq (v := (sl v0a)) (plx ZN pz R R) R (mv R R (wlq (Zm (k := k1) (rga r0) ZU R R hk1) R (wlq (v := .agg #[iv ((gx a_b.Cells k1).Split), iv ((gx a_b.Cells k1).A), iv ((gx a_b.Cells k1).B)]) (Zaw (rga r0) Zh R hk1 R R R) R (bdO t1 fun v2 hv2 t1 => (wlc (cz0 ZuV R fun w hw => Zkt w (gx a_b.Cells k1) hv2) R fun _ => (gdO t1 fun g5 t1 => (wlq (ZO R R g5) R (asg R R (wln (wqb (wqt (wcg (mv R R (wlq (Zj R R (by omega)) R ?_))))))))))))))))))
 exact asg R R (wln (Zk hk1 (stpN l1 t1) () (su3 R R R) so1))
 exact wcx (wqe (wqe (wbx (wjm _ () (Sum.inl.inj (stpB l1 t1)) (su1 R) zn))))
 have c1 : (decide (((k1 : Nat) : Int) < ((a_b.Cells.length : Nat) : Int))) = false := ddf (by omega)
 have en1 := foe l1 hk1
 exact wcs (wcr (mv R R (wlq (pof Zv R) R (wlq (v := (sl v0a)) (plx ZN pz R R) R (wlq (pln (rga r0) ZU R) R (wlq (pls R R) R (mv R R (Zef (t := 10) R c1 (wgf (j := 5) R R R R R (wgf (j := 5) R R R R R (wlq (pif R R) R (wnt (wff R R (wcx (wqe (wqe (wbx (wjm _ () (Sum.inl.inj en1) (su1 R) zn))))))))))))))))))
 intro e1 _ hp
 obtain rfl : e1 = y1 := hp.symm
 refine wqt (wcr (mv R R (asg R R (wnt (wct ?_)))))
 obtain rfl := oi t0
 exact wq1 R R fun w hw => ⟨R, hw.weak zn⟩

theorem ZmB (w : World) (a_g : GGuild) (v0a : Hd) (r0 : rdF w (dm w []) (sl v0a) a_g.Members) (v1a : Hd) (r1 : rdF w (dm w []) (sl v1a) a_g.Stock) (v2a : Hd) (u2a : List Value) (r2 : RdL w (dm w []) (sl v2a) u2a a_g.Entries) (v3a : Hd) (r3 : rdF w (dm w []) (sl v3a) a_g.Books) {r : List Str} (t0 : ZcJ a_g = some r) : Calls Tryz.prog 14 #[.agg #[(sl v0a), (sl v1a), (sl v2a), (sl v3a), .int .i64 a_g.Round, .int .i64 a_g.Year]] w fun e w' => ∃ x : Hd, e = .returned ((sl x)) ∧ SH w [] [ownF (sl x) r] w' := by
 refine cwc (args := [_]) Tryz.func14 R Tryz.ntmps14 R ?_
 unfold ZcJ at t0
 refine wcr (wle (Zg R R) R fun b1 => (asg R R (wnt (wcs (wcr (wlq (v := .agg #[(sl v0a), (sl v1a), (sl v2a), (sl v3a), iv a_g.Round, iv a_g.Year]) (plb Zb pz R R R) R (bdO t0 fun v1 hv1 t0 => (wlc (cz0 Zhb R fun w hw => ZaB w a_g v0a (ra r0 hw) v1a (ra r1 hw) v2a u2a (ra r2 hw) v3a (ra r3 hw) hv1) R fun _ => (wlq (Zd R) R (wnt (wcO t0 R (fun h1 t0 => ?_) fun h1 t0 => ?_)))))))))))
 refine wcr (wle (ebs R Zga) R fun b2 => (asg R R (wnt (wct (wqr ?_)))))
 obtain rfl := oi t0
 exact wq1 R R fun w hw => ⟨(⟨some ⟨b2, 0, none⟩, 0, 0⟩ : Hd), R, hw.weak (zc (pbo pz (n := 0) (xs := ([] : List Str)) R R (by unfold maxLen; omega)) zn)⟩
 refine wck (wqt (wcr (asg R R (wnt (wcs (wcr (asg R R (wnt (gdO t0 fun g1 t0 => (Zn t0 fun y1 l1 t0 => (wj (J := Str) (X := Unit) (fun z => y1 = z) (fun z _ => [(1, ptr b1 0), (3, bs z)]) (fun _ _ => [box b1 [(sl v0a), (sl v1a), (sl v2a), (sl v3a), iv a_g.Round, iv a_g.Year]]) ?_ ?_)))))))))))
 refine wcb (wcf (X := Unit) l1 (fun k1 s1 x1l => [(1, ptr b1 0), (3, bs s1), (4, iv ((k1 : Nat) : Int))]) (fun k1 s1 x1l => [box b1 [(sl v0a), (sl v1a), (sl v2a), (sl v3a), iv a_g.Round, iv a_g.Year]]) () (su3 R R R) so1 fun k1 s1 x1l hN1 l1 => ?_)
 by_cases hk1 : k1 < a_g.Members.length
 refine fos l1 hk1 fun _ t1 l1 => ?_
 unfold Zeb at t1
 have c1 : (decide (((k1 : Nat) : Int) < ((a_g.Members.length : Nat) : Int))) = true := ddt (by omega)
 refine wcs (wcr (mv R R (wlq (pof Zct R) R (wlq (v := (sl v0a)) (plx ZeK pz R R) R (wlq (pln (rga r0) Zat R) R (wlq (pls R R) R (wnt (wft R c1 (wck (wqt (wcs (wcb (wcg (mv R R (gdO t1 fun g2 t1 => (wlq (ZO R R g2) R (wlq (pof Zct R) R (wlq (v := (sl v0a)) (plx ZeK pz R R) R (mv R R (wlq (Zm (k := k1) (rga r0) Zat R R hk1) R (wlq (Z5 (rga r0) hk1 Zcq R) R (wlq (v := iv ((gx a_g.Members k1).Number)) (Zw (rga r0) tk_3 R hk1 R) R (bdO t1 fun v2 hv2 t1 => (wlc (cz0 Zfq R fun w hw => Z4 w ((gx a_g.Members k1).Number) hv2) R fun _ => (gdO t1 fun g3 t1 => (wlq (ZO R R g3) R (asg R R (wln (wqb (wqt (wcg (mv R R (wlq (Zj R R (by omega)) R ?_)))))))))))))))))))))))))))))))))
 exact asg R R (wln (Zk hk1 (stpN l1 t1) () (su3 R R R) so1))
 have c1 : (decide (((k1 : Nat) : Int) < ((a_g.Members.length : Nat) : Int))) = false := ddf (by omega)
 have en1 := foe l1 hk1
 exact wcs (wcr (mv R R (wlq (pof Zct R) R (wlq (v := (sl v0a)) (plx ZeK pz R R) R (wlq (pln (rga r0) Zat R) R (wlq (pls R R) R (wnt (wff R c1 (wcx (wqe (wqe (wbx (wjm _ () (Sum.inl.inj en1) (su2 R R) so1)))))))))))))
 intro e1 _ hp
 obtain rfl : e1 = y1 := hp.symm
 refine wqt (wcr (asg R R (wnt (wcs (wcr (asg R R (wnt (gdO t0 fun g4 t0 => (Zn t0 fun y1 l1 t0 => (wj (J := Str) (X := Unit) (fun z => y1 = z) (fun z _ => [(1, ptr b1 0), (3, bs e1), (5, bs z)]) (fun _ _ => [box b1 [(sl v0a), (sl v1a), (sl v2a), (sl v3a), iv a_g.Round, iv a_g.Year]]) ?_ ?_))))))))))
 refine wcb (wcf (X := Unit) l1 (fun k2 s2 x2l => [(1, ptr b1 0), (3, bs e1), (5, bs s2), (6, iv ((k2 : Nat) : Int))]) (fun k2 s2 x2l => [box b1 [(sl v0a), (sl v1a), (sl v2a), (sl v3a), iv a_g.Round, iv a_g.Year]]) () (su4 R R R R) so1 fun k2 s2 x2l hN2 l1 => ?_)
 by_cases hk2 : k2 < a_g.Stock.length
 refine fos l1 hk2 fun _ t1 l1 => ?_
 unfold Zed at t1
 have c2 : (decide (((k2 : Nat) : Int) < ((a_g.Stock.length : Nat) : Int))) = true := ddt (by omega)
 refine wcs (wcr (mv R R (wlq (pof Zb1 R) R (wlq (v := (sl v1a)) (plx ZcA pz R R) R (wlq (pln (rga r1) Zy R) R (wlq (pls R R) R (wnt (wft R c2 (wck (wqt (wcs (wcb (wcg (mv R R (gdO t1 fun g5 t1 => (wlq (ZO R R g5) R (wlq (pof Zb1 R) R (wlq (v := (sl v1a)) (plx ZcA pz R R) R (mv R R (wlq (Zm (k := k2) (rga r1) Zy R R hk2) R (wlq (v := iv (gx a_g.Stock k2)) (Zw (rga r1) tk_3 R hk2 R) R (bdO t1 fun v3 hv3 t1 => (wlc (cz0 Zfq R fun w hw => Z4 w (gx a_g.Stock k2) hv3) R fun _ => (gdO t1 fun g6 t1 => (wlq (ZO R R g6) R (asg R R (wln (wqb (wqt (wcg (mv R R (wlq (Zj R R (by omega)) R ?_))))))))))))))))))))))))))))))))
 exact asg R R (wln (Zk hk2 (stpN l1 t1) () (su4 R R R R) so1))
 have c2 : (decide (((k2 : Nat) : Int) < ((a_g.Stock.length : Nat) : Int))) = false := ddf (by omega)
 have en2 := foe l1 hk2
 exact wcs (wcr (mv R R (wlq (pof Zb1 R) R (wlq (v := (sl v1a)) (plx ZcA pz R R) R (wlq (pln (rga r1) Zy R) R (wlq (pls R R) R (wnt (wff R c2 (wcx (wqe (wqe (wbx (wjm _ () (Sum.inl.inj en2) (su3 R R R) so1)))))))))))))
 intro e2 _ hp
 obtain rfl : e2 = y1 := hp.symm
 refine wqt (wcr (mv R R (mv R R (wle (ebs R (ZiE e1 e2)) R fun b3 => (asg R R (wnt (wcs (wcr (asg R R (wnt (gdO t0 fun g7 t0 => (Zn t0 fun y1 l1 t0 => (wj (J := List Str) (X := Hd) (fun z => y1 = z) (fun _ x => [(1, ptr b1 0), (7, (sl x))]) (fun z x => [box b1 [(sl v0a), (sl v1a), (sl v2a), (sl v3a), iv a_g.Round, iv a_g.Year], ownF (sl x) z]) ?_ ?_)))))))))))))
 refine wcb (wcf (X := Hd) l1 (fun k3 s3 x3l => [(1, ptr b1 0), (7, (sl x3l)), (8, iv ((k3 : Nat) : Int))]) (fun k3 s3 x3l => [box b1 [(sl v0a), (sl v1a), (sl v2a), (sl v3a), iv a_g.Round, iv a_g.Year], ownF (sl x3l) s3]) (⟨some ⟨b3, 0, none⟩, 2, 2⟩ : Hd) (su3 R R R) (zc pk1 (zc (pbo pz (n := 2) (xs := ([e1, e2] : List Str)) R R (by unfold maxLen; omega)) zn)) fun k3 s3 x3l hN3 l1 => ?_)
 by_cases hk3 : k3 < a_g.Entries.length
 refine fos l1 hk3 fun _ t1 l1 => ?_
 unfold Zd2 at t1
 have c3 : (decide (((k3 : Nat) : Int) < ((a_g.Entries.length : Nat) : Int))) = true := ddt (by omega)
 refine wcs (wcr (mv R R (wlq (pof ZQ R) R (wlq (v := (sl v2a)) (plx Zas pz R R) R (wlq (pln (rga r2) ZaC R) R (wlq (pls R R) R (wnt (wft R c3 (wck (wqt (wcs (wcb (wcr (wlq (pof ZQ R) R (wlq (v := (sl v2a)) (plx Zas pz R R) R (mv R R (wlq (Zm (k := k3) (rga r2) ZaC R R hk3) R (ZdM (rga r2) hk3 ?_))))))))))))))))))
 rintro ⟨_, _, he1⟩
 obtain ⟨w1, hc1, _⟩ := ZaX.1 he1
 refine wlq (v := .agg #[iv ((gx a_g.Entries k3).Owner), iv ((gx a_g.Entries k3).Day), iv (((gx a_g.Entries k3).Block).Size), (sl w1)]) (Zb7 (rga r2) Za0 R hc1 R R R) R (wle (eal (cs := [iv 0, iv 0, iv 0, (sl hn)]) Zgl) R fun b4 => (wls (sbx (cs' := [iv ((gx a_g.Entries k3).Owner), iv ((gx a_g.Entries k3).Day), iv (((gx a_g.Entries k3).Block).Size), (sl w1)]) Za0 pz R R R R R R R) (wnt (wcd [box b4 [iv ((gx a_g.Entries k3).Owner), iv ((gx a_g.Entries k3).Day), iv (((gx a_g.Entries k3).Block).Size), (sl w1)], box b1 [(sl v0a), (sl v1a), (sl v2a), (sl v3a), iv a_g.Round, iv a_g.Year]] 17 mixed (aq 0 R (pom R) so2 R (aq 1 R (pof ZdI R) so2 R (aq (v := iv ((gx a_g.Entries k3).Owner)) 2 R (plx tk_3 pz R R) so2 R (aq 5 R (pof Zb5 R) so2 R (aq (v := iv ((gx a_g.Entries k3).Day)) 6 R (plx tk_3 pz R R) so2 R (aq 10 R (pof ZaJ R) so2 R (aq (v := .agg #[iv (((gx a_g.Entries k3).Block).Size), (sl w1)]) 11 R (plb Zc pz R R R) so2 R (a1 3 (bdO t1 fun v4 hv4 t1 => (wsc R (cz0 Zfq R fun w hw => Z4 w ((gx a_g.Entries k3).Owner) hv4) (fun _ => (zt so2)) R fun _ => (gdO t1 fun g8 t1 => (aq 4 R (ZO R R g8) so2 R (a1 7 (bdO t1 fun v5 hv5 t1 => (wsc R (cz0 Zfq R fun w hw => Z4 w ((gx a_g.Entries k3).Day) hv5) (fun _ => (zt so2)) R fun _ => (gdO t1 fun g9 t1 => (aq 8 R (ZO R R g9) so2 R (gdO t1 fun g10 t1 => (aq 9 R (ZO R R g10) so2 R (a1 12 (bdO t1 fun v6 hv6 t1 => (wsc R (cz0 Zxv R fun w hw => Zou w ((gx a_g.Entries k3).Block) w1 (Rg.on (Zbg hc1 (rga r2) hk3) hw) hv6) (fun _ => (zt so2)) R fun _ => (gdO t1 fun g11 t1 => (aq 13 R (ZO R R g11) so2 R (a1 14 (wse R (ebs R (ZeZ (sadd (sadd (sadd (sadd v4 (⟨[32]⟩ : Str)) v5) (⟨[32]⟩ : Str)) v6))) (fun _ => (zt (zc pk1 (zc pk1 zn)))) R fun b5 => (a1 15 (gdO t1 fun g12 t1 => (wse R (Zf (xs := s3) (ys := ([(sadd (sadd (sadd (sadd v4 (⟨[32]⟩ : Str)) v5) (⟨[32]⟩ : Str)) v6)] : List Str)) Zeq pk3 R R (Zi fun _ g => Rg.on (rgo (pbo pz (n := 1) (xs := ([(sadd (sadd (sadd (sadd v4 (⟨[32]⟩ : Str)) v5) (⟨[32]⟩ : Str)) v6)] : List Str)) R R (by unfold maxLen; omega))) g) g12) (fun _ => (zt (zc pk2 (zc pk2 zn)))) R fun x4 => ?_)))))))))))))))))))))))))))))))))
 refine aq 16 R (Zp R) (zc pk2 (zc pk2 zn)) R (ae (wqb (wqt (wcg (mv R R (wlq (Zj R R (by omega)) R ?_))))))
 exact asg R R (wln (Zk hk3 (stpN l1 t1) x4 (su3 R R R) (zc pk3 so1)))
 have c3 : (decide (((k3 : Nat) : Int) < ((a_g.Entries.length : Nat) : Int))) = false := ddf (by omega)
 have en3 := foe l1 hk3
 exact wcs (wcr (mv R R (wlq (pof ZQ R) R (wlq (v := (sl v2a)) (plx Zas pz R R) R (wlq (pln (rga r2) ZaC R) R (wlq (pls R R) R (wnt (wff R c3 (wcx (wqe (wqe (wbx (wjm _ x3l (Sum.inl.inj en3) (su2 R R) so2)))))))))))))
 intro e3 x3 hp
 obtain rfl : e3 = y1 := hp.symm
 refine wqt (wcs (wcd [box b1 [(sl v0a), (sl v1a), (sl v2a), (sl v3a), iv a_g.Round, iv a_g.Year]] 17 mixed (aq 0 R (pom R) so1 R (aq 1 R (pof Zcs R) so1 R (aq (v := iv a_g.Round) 2 R (plx tk_3 pz R R) so1 R (aq (v := .agg #[(sl v0a), (sl v1a), (sl v2a), (sl v3a), iv a_g.Round, iv a_g.Year]) 6 R (plb Zb pz R R R) so1 R (aq 10 R (pof Zc3 R) so1 R (aq (v := iv a_g.Year) 11 R (plx tk_3 pz R R) so1 R (a1 3 (bdO t0 fun v7 hv7 t0 => (wsc R (cz0 Zfq R fun w hw => Z4 w a_g.Round hv7) (fun _ => (zt so1)) R fun _ => (gdO t0 fun g13 t0 => (aq 4 R (ZO R R g13) so1 R (gdO t0 fun g14 t0 => (aq 5 R (ZO R R g14) so1 R (a1 7 (bdO t0 fun v8 hv8 t0 => (wsc R (cz0 Zs3 R fun w hw => Zho w a_g v0a (ra r0 hw) v1a (ra r1 hw) v2a u2a (ra r2 hw) v3a (ra r3 hw) hv8) (fun _ => (zt so1)) R fun _ => (a1 8 (bdO t0 fun v9 hv9 t0 => (wsc R (cz0 Zfq R fun w hw => Z4 w v8 hv9) (fun _ => (zt so1)) R fun _ => (gdO t0 fun g15 t0 => (aq 9 R (ZO R R g15) so1 R (a1 12 (bdO t0 fun v10 hv10 t0 => (wsc R (cz0 Zfq R fun w hw => Z4 w a_g.Year hv10) (fun _ => (zt so1)) R fun _ => (gdO t0 fun g16 t0 => (aq 13 R (ZO R R g16) so1 R (a1 14 (wse R (ebs R (ZiE (sadd (sadd (sadd (⟨[114, 111, 117, 110, 100, 32]⟩ : Str) v7) (⟨[47]⟩ : Str)) v9) (sadd (⟨[121, 101, 97, 114, 32]⟩ : Str) v10))) (fun _ => (zt (zc pk1 zn))) R fun b6 => (a1 15 (gdO t0 fun g17 t0 => (wse R (Zf (xs := e3) (ys := ([(sadd (sadd (sadd (⟨[114, 111, 117, 110, 100, 32]⟩ : Str) v7) (⟨[47]⟩ : Str)) v9), (sadd (⟨[121, 101, 97, 114, 32]⟩ : Str) v10)] : List Str)) Zeq pk2 R R (Zi fun _ g => Rg.on (rgo (pbo pz (n := 2) (xs := ([(sadd (sadd (sadd (⟨[114, 111, 117, 110, 100, 32]⟩ : Str) v7) (⟨[47]⟩ : Str)) v9), (sadd (⟨[121, 101, 97, 114, 32]⟩ : Str) v10)] : List Str)) R R (by unfold maxLen; omega))) g) g17) (fun _ => (zt (zc pk2 zn))) R fun x5 => ?_)))))))))))))))))))))))))))))))))
 refine aq 16 R (Zp R) (zc pk2 zn) R (ae (wqt (wct ?_)))
 obtain rfl := oi t0
 exact wq1 R R fun w hw => ⟨x5, R, hw.weak so1⟩

theorem Zoa (w : World) (a_text : Str) {r : (List Str) × Bool} (t0 : ZdL a_text = some r) : Calls Tryz.prog 4 #[bs a_text] w fun e w' => ∃ x : Hd, e = .returned (.tuple #[(sl x), .bool r.2]) ∧ SH w [] [ownF (sl x) r.1] w' := by
 refine cwc (args := [_]) Tryz.func4 R Tryz.ntmps4 R ?_
 unfold ZdL at t0
 refine wcr (asg R R (asg R R (wnt (wcr (wle (ebs R Zga) R fun b1 => (asg R R (wnt (wcs (wcr (mv R R (wlq (ZbM Z2 R) R (wlq (Zad R R) R (wnt (wcO t0 R (fun h1 t0 => ?_) fun h1 t0 => ?_))))))))))))))
 refine wcr (mv R R (asg R R (asg R R (wnt (wct (wqr ?_))))))
 obtain rfl := oi t0
 exact ZJ R R R fun w hw => ⟨(⟨some ⟨b1, 0, none⟩, 0, 0⟩ : Hd), R, hw.weak (zc (pbo pz (n := 0) (xs := ([] : List Str)) R R (by unfold maxLen; omega)) zn)⟩
 refine wck (wqt (wcr (wle (ebs R Zsy) R fun b2 => (asg R R (wnt (wcr (asg R R (wnt (wcs (wcr (asg R R (wnt (gdO t0 fun g1 t0 => (sqO t0 fun y1 l1 t0 => (wj (J := Int × (List GAct)) (X := Hd) (fun z => y1 = .inl z) (fun _ x => [(4, (sl (⟨some ⟨b1, 0, none⟩, 0, 0⟩ : Hd))), (5, (sl x))]) (fun z x => [box b1 [], ownF (sl x) z.2]) ?_ ?_)))))))))))))))
 refine wcb (wcf (X := Hd) l1 (fun k1 s1 x1l => [(0, bs a_text), (4, (sl (⟨some ⟨b1, 0, none⟩, 0, 0⟩ : Hd))), (5, (sl x1l)), (6, iv s1.1), (7, iv ((k1 : Nat) : Int))]) (fun k1 s1 x1l => [box b1 [], ownF (sl x1l) s1.2]) (⟨some ⟨b2, 0, none⟩, 0, 0⟩ : Hd) (su5 R R R R R) (zc pk1 (zc (pbo pz (n := 0) (xs := ([] : List GAct)) R R (by unfold maxLen; omega)) zn)) fun k1 s1 x1l hN1 l1 => ?_)
 by_cases hk1 : k1 < (a_text.b.length + 1)
 refine fos l1 hk1 fun _ t1 l1 => ?_
 unfold Zdn at t1
 have c1 : (decide (((k1 : Nat) : Int) ≤ ((a_text.b.length : Nat) : Int))) = true := ddt (by omega)
 refine wcs (wcr (mv R R (mv R R (wlq (ZbM Z2 R) R (wlq (ZbQ R R) R (wnt (wft R c1 (wck (wqt (wcs (wcb (wcs (wcs (bdO t1 fun y2 t2 t1 => (wj (J := Bool) (X := Unit) (fun z => y2 = z) (fun z _ => [(0, bs a_text), (4, (sl (⟨some ⟨b1, 0, none⟩, 0, 0⟩ : Hd))), (5, (sl x1l)), (6, iv s1.1), (7, iv ((k1 : Nat) : Int)), (38, .bool z)]) (fun _ _ => [box b1 [], ownF (sl x1l) s1.2]) ?_ ?_)))))))))))))))
 refine wcg (mv R R (mv R R (wlq (ZbM Z2 R) R (wlq (pls R R) R (mv R R (wlo (t := 33) t2 R (fun h2 t2 => ?_) fun h2 t2 => ?_))))))
 exact wgn (j := 4) R R R (mv R R (wgn (j := 4) R R R (mv R R (gdO t2 fun g2 t2 => (wgn (j := 4) R R R (wlq (Ze2 (k := k1) Z2 R R g2) R (wgn (j := 4) R R R (wlq (ZcD R R) R (wlq (pit R R) R (wln (wjm _ () (mtE t2) (su6 R R R R R R) so2)))))))))))
 exact wgf (j := 4) R R R R R (wgf (j := 4) R R R R R (wgf (j := 4) R R R R R (wgf (j := 4) R R R R R (wlq (pif R R) R (wln (wjm _ () (mtE t2) (su6 R R R R R R) so2))))))
 intro j1 _ hp
 obtain rfl : j1 = y2 := hp.symm
 refine wqt (wcO t1 R (fun h3 t1 => ?_) fun h3 t1 => ?_)
 refine wcx (wqe (wbx (wqt (wcg (mv R R (wlq (Zj R R (by omega)) R ?_))))))
 exact asg R R (wln (Zk hk1 (stpN l1 t1) x1l (su5 R R R R R) so2))
 refine wck (wqt (wcr (mv R R (mv R R (mv R R (gdO t1 fun g3 t1 => (wlq (Zk5 (l := (s1.1).toNat) (h := k1) Z2 R (.inr ⟨_, R, ixn g3.1⟩) (.inr ⟨_, R, R⟩) g3.2.1 g3.2.2) R (asg R R (wnt (wcr (mv R R (wlq (Zj R R (by omega)) R ?_))))))))))))
 refine asg R R (wnt (wcr (mv R R (bdO t1 fun v1 hv1 t1 => (wlc (cz1 fa_9 R fun w hw => Zi2 w (ssub a_text ((s1.1).toNat) k1) hv1) R fun x3 => (mv R R (wlq (pex R R) R (wlq (pex R R) R (asg R R (asg R R (wnt (wcs (wcs (wcj (X := Unit) (fun _ => True) (fun _ => [(0, bs a_text), (4, (sl (⟨some ⟨b1, 0, none⟩, 0, 0⟩ : Hd))), (5, (sl x1l)), (6, iv ((k1 + 1 : Nat) : Int)), (7, iv ((k1 : Nat) : Int)), (8, bs (ssub a_text ((s1.1).toNat) k1)), (55, .bool (v1.2 && (((v1.1.length : Nat) : Int) == 0)))]) (fun _ => [box b1 [], ownF (sl x1l) s1.2]) ?_ ?_))))))))))))))
 refine wcg (mv R R (mv R R (Zae (t := 51) R (fun h4 => ?_) fun h4 => ?_)))
 exact wgn (j := 1) R R R (mv R R (wgn (j := 1) R R R (wlq (pln (rgo pz) ZaZ R) R (wgn (j := 1) R R R (wlq (pol R R) R (wlq (pit R R) R (wln (wqm () trivial (yc R (yc R (yc R (yc R (yc R (yc R (ZS R (by rw [h4]; rfl) yn))))))) (zc pk1 (zc pk1 zn))))))))))
 exact wgf (j := 1) R R R R R (wgf (j := 1) R R R R R (wgf (j := 1) R R R R R (wlq (pif R R) R (wln (wqm () trivial (yc R (yc R (yc R (yc R (yc R (yc R (ZS R (by rw [h4]; rfl) yn))))))) (zc pk1 (zc pk1 zn)))))))
 intro _ _
 refine wqt (wcO t1 R (fun h5 t1 => ?_) fun h5 t1 => ?_)
 refine wcx (wqe (wbx (wqt (wcg (mv R R (wlq (Zj R R (by omega)) R ?_))))))
 exact asg R R (wln (Zk hk1 (stpN l1 t1) x1l (su5 R R R R R) so2))
 refine wck (wqt (wcr (mv R R (bdO t1 fun v2 hv2 t1 => (wlc (cz0 Zw2 R fun w hw => ZoK w (ssub a_text ((s1.1).toNat) k1) hv2) R fun _ => (mv R R (wlq (pex R R) R (wlq (pex R R) R (wle (eal (cs := [iv 0, iv 0, iv 0]) Zlo) R fun b3 => (wls (sbx (cs' := [iv v2.1.Kind, iv v2.1.A, iv v2.1.B]) Za3 pz R R R R R R R) (asg R R (wnt (wcs (wcr (mv R R (wlq (Zd R) R (wnt (wcO t1 R (fun h6 t1 => ?_) fun h6 t1 => ?_))))))))))))))))))
 refine wcr (mv R R (asg R R (asg R R (wnt (wct (wqr (wbr (wqr (wqr (wbr (wqr (wqr ?_))))))))))))
 replace t0 := lpR t0 l1 t1
 obtain rfl := oi t0
 exact ZJ R R R fun w hw => ⟨(⟨some ⟨b1, 0, none⟩, 0, 0⟩ : Hd), R, hw.weak (zc (pbo pk1 (n := 0) (xs := ([] : List Str)) R R (by unfold maxLen; omega)) zn)⟩
 refine wck (wqt (wcg (mv R R (wlq (v := .agg #[iv v2.1.Kind, iv v2.1.A, iv v2.1.B]) (plb Za3 pz R R R) R (wle (ebs R (Zsl v2.1.Kind v2.1.A v2.1.B)) R fun b4 => (gdO t1 fun g4 t1 => (wle (Zf (xs := s1.2) (ys := ([v2.1] : List GAct)) Zu3 pk3 R R (Zi fun _ g => Rg.on (rgo (pbo pz (n := 1) (xs := ([v2.1] : List GAct)) R R (by unfold maxLen; omega))) g) g4) R fun x5 => ?_)))))))
 refine asg R R (wln (wqb (wqt (wcg (mv R R (wlq (Zj R R (by omega)) R ?_))))))
 exact asg R R (wln (Zk hk1 (stpN l1 t1) x5 (su5 R R R R R) (zc pk3 so1)))
 have c1 : (decide (((k1 : Nat) : Int) ≤ ((a_text.b.length : Nat) : Int))) = false := ddf (by omega)
 have en1 := foe l1 hk1
 exact wcs (wcr (mv R R (mv R R (wlq (ZbM Z2 R) R (wlq (ZbQ R R) R (wnt (wff R c1 (wcx (wqe (wqe (wbx (wjm _ x1l en1 (su2 R R) so2))))))))))))
 intro e1 x1 hp
 replace t0 := sqE (j := e1) t0 hp
 refine wqt (wcs (wcr (mv R R (wlq (pln (rgo pk1) Zjm R) R (wlq (Zad R R) R (wnt (wcO t0 R (fun h7 t0 => ?_) fun h7 t0 => ?_)))))))
 refine wcr (mv R R (asg R R (asg R R (wnt (wct (wqr ?_))))))
 obtain rfl := oi t0
 exact ZJ R R R fun w hw => ⟨(⟨some ⟨b1, 0, none⟩, 0, 0⟩ : Hd), R, hw.weak (zc (pbo pz (n := 0) (xs := ([] : List Str)) R R (by unfold maxLen; omega)) zn)⟩
 refine wck (wqt (wcr (bdO t0 fun v3 hv3 t0 => (wlc (Zan Zw3 R fun w hw => Zmd w hv3) R fun x6 => (mv R R (bdO t0 fun v4 hv4 t0 => (wlc (Zu0 Zxr R fun w hw => ZpP w v3 x6.1 (Rg.on (rgo pz) hw) x6.2.1 (Rg.on (rgo pk1) hw) x6.2.2.1 x6.2.2.2.1 (Rg.on (rgo pk2) hw) x6.2.2.2.2 (Rg.on (rgo pk3) hw) e1.2 x1 (Rg.on (rgo pk5) hw) hv4) R fun x7 => (mv R R (wlq (pex R R) R (wlq (pex R R) R (wle (eal (cs := [(sl hn), (sl hn), (sl hn), (sl hn), iv 0, iv 0]) ZE) R fun b5 => (wls (sbx (cs' := [(sl x7.1), (sl x7.2.1), (sl x7.2.2.1), (sl x7.2.2.2.2.1), iv v4.1.Round, iv v4.1.Year]) Zb pz R R R R R R R) (asg R R (wnt (wcr (wle (ebs R Zga) R fun b6 => (asg R R (wnt (wcs (wcr (asg R R (wnt (gdO t0 fun g5 t0 => (Zn t0 fun y1 l1 t0 => (wj (J := List Str) (X := Hd) (fun z => y1 = z) (fun _ x => [(13, ptr b5 0), (15, (sl x))]) (fun z x => [box b5 [(sl x7.1), (sl x7.2.1), (sl x7.2.2.1), (sl x7.2.2.2.2.1), iv v4.1.Round, iv v4.1.Year], ownF (sl x7.1) v4.1.Members, ownF (sl x7.2.1) v4.1.Stock, own (sl x7.2.2.1) x7.2.2.2.1 v4.1.Entries, ownF (sl x7.2.2.2.2.1) v4.1.Books, ownF (sl x) z]) ?_ ?_)))))))))))))))))))))))))
 refine wcb (wcf (X := Hd) l1 (fun k2 s2 x2l => [(13, ptr b5 0), (14, (sl x7.2.2.2.2.2)), (15, (sl x2l)), (16, iv ((k2 : Nat) : Int))]) (fun k2 s2 x2l => [box b5 [(sl x7.1), (sl x7.2.1), (sl x7.2.2.1), (sl x7.2.2.2.2.1), iv v4.1.Round, iv v4.1.Year], ownF (sl x7.1) v4.1.Members, ownF (sl x7.2.1) v4.1.Stock, own (sl x7.2.2.1) x7.2.2.2.1 v4.1.Entries, ownF (sl x7.2.2.2.2.1) v4.1.Books, ownF (sl x7.2.2.2.2.2) v4.2, ownF (sl x2l) s2]) (⟨some ⟨b6, 0, none⟩, 0, 0⟩ : Hd) (su4 R R R R) (zc pk1 (zc pk1 (zc pk1 (zc pk1 (zc pk1 (zc pk1 (zc (pbo pz (n := 0) (xs := ([] : List Str)) R R (by unfold maxLen; omega)) zn))))))) fun k2 s2 x2l hN2 l1 => ?_)
 by_cases hk2 : k2 < v4.2.length
 refine fos l1 hk2 fun _ t1 l1 => ?_
 unfold ZeF at t1
 have c2 : (decide (((k2 : Nat) : Int) < ((v4.2.length : Nat) : Int))) = true := ddt (by omega)
 refine wcs (wcr (mv R R (mv R R (wlq (pln (rgo pk5) Zy R) R (wlq (pls R R) R (wnt (wft R c2 (wck (wqt (wcs (wcb (wcg (mv R R (mv R R (mv R R (wlq (Zm (k := k2) (rgo pk5) Zy R R hk2) R (wlq (v := iv (gx v4.2 k2)) (Zw (rgo pk5) tk_3 R hk2 R) R (bdO t1 fun v5 hv5 t1 => (wlc (cz0 Zfq R fun w hw => Z4 w (gx v4.2 k2) hv5) R fun _ => (wle (ebs R (ZeZ v5)) R fun b7 => (gdO t1 fun g6 t1 => (wle (Zf (xs := s2) (ys := ([v5] : List Str)) Zeq pk7 R R (Zi fun _ g => Rg.on (rgo (pbo pz (n := 1) (xs := ([v5] : List Str)) R R (by unfold maxLen; omega))) g) g6) R fun x9 => ?_))))))))))))))))))))))
 refine asg R R (wln (wqb (wqt (wcg (mv R R (wlq (Zj R R (by omega)) R ?_))))))
 exact asg R R (wln (Zk hk2 (stpN l1 t1) x9 (su4 R R R R) (zc pk2 (zc pk2 (zc pk2 (zc pk2 (zc pk2 (zc pk2 so1))))))))
 have c2 : (decide (((k2 : Nat) : Int) < ((v4.2.length : Nat) : Int))) = false := ddf (by omega)
 have en2 := foe l1 hk2
 exact wcs (wcr (mv R R (mv R R (wlq (pln (rgo pk5) Zy R) R (wlq (pls R R) R (wnt (wff R c2 (wcx (wqe (wqe (wbx (wjm _ x2l (Sum.inl.inj en2) (su2 R R) (zc pz (zc pz (zc pz (zc pz (zc pz (zc pk1 zn))))))))))))))))))
 intro e2 x8 hp
 obtain rfl : e2 = y1 := hp.symm
 refine wqt (wcr (mv R R (wlq (v := .agg #[(sl x7.1), (sl x7.2.1), (sl x7.2.2.1), (sl x7.2.2.2.2.1), iv v4.1.Round, iv v4.1.Year]) (plb Zb pz R R R) R (bdO t0 fun v6 hv6 t0 => (wlc (cz1 Zxl R fun w hw => ZmB w v4.1 x7.1 (Rg.on (rgo pk1) hw) x7.2.1 (Rg.on (rgo pk2) hw) x7.2.2.1 x7.2.2.2.1 (Rg.on (rgo pk3) hw) x7.2.2.2.2.1 (Rg.on (rgo pk4) hw) hv6) R fun x10 => (gdO t0 fun g7 t0 => (wle (Zf (xs := e2) (ys := v6) Zeq pk6 R R (Zi fun _ g => Rg.on (rgo pz) g) g7) R fun x11 => (asg R R (asg R R (wnt (wct ?_)))))))))))
 obtain rfl := oi t0
 exact ZJ R R R fun w hw => ⟨x11, R, hw.weak so1⟩


theorem Zi4 (w : World) (a_line : Str) {r : (List Str) × Bool} (t0 : ZcW a_line = some r) : Calls Tryz.prog 16 #[bs a_line] w fun e w' => ∃ x : Hd, e = .returned (.tuple #[(sl x), .bool r.2]) ∧ SH w [] [ownF (sl x) r.1] w' := by
 refine cwc (args := [_]) Tryz.func16 R Tryz.ntmps16 R ?_
 unfold ZcW at t0
 refine wcr (asg R R (asg R R (wnt (wcs (wcr (mv R R (wlq (ZbM Z2 R) R (wlq (Zad R R) R (wnt (wcO t0 R (fun h1 t0 => ?_) fun h1 t0 => ?_))))))))))
 refine wcr (asg R R (asg R R (wnt (wct (wqr ?_)))))
 obtain rfl := oi t0
 exact ZJ R R R fun w hw => ⟨hn, R, hw.weak (zc ZC zn)⟩
 refine wck (wqt (wcr (wle (ebs R Zga) R fun b1 => (asg R R (asg R R (wnt (wcs (wcr (mv R R (wlq (ZbM Z2 R) R (mv R R (wnt (gdO t0 fun g1 t0 => (sqO t0 fun y1 l1 t0 => (wj (J := (List Str) × Int) (X := Hd) (fun z => y1 = .inl z) (fun z x => [(0, bs a_line), (4, (sl x)), (5, iv z.2)]) (fun z x => [ownF (sl x) z.1]) ?_ ?_)))))))))))))))
 refine wcb (wcf (X := Hd) l1 (fun k1 s1 x1l => [(0, bs a_line), (4, (sl x1l)), (5, iv s1.2), (12, iv ((a_line.b.length : Nat) : Int)), (13, iv ((k1 : Nat) : Int))]) (fun k1 s1 x1l => [ownF (sl x1l) s1.1]) (⟨some ⟨b1, 0, none⟩, 0, 0⟩ : Hd) (su5 R R R R R) (zc (pbo pz (n := 0) (xs := ([] : List Str)) R R (by unfold maxLen; omega)) zn) fun k1 s1 x1l hN1 l1 => ?_)
 by_cases hk1 : k1 < a_line.b.length
 refine fos l1 hk1 fun _ t1 l1 => ?_
 unfold ZbL at t1
 have c1 : (decide (((k1 : Nat) : Int) < ((a_line.b.length : Nat) : Int))) = true := ddt (by omega)
 refine wcr (wlq (pls R R) R (wnt (wcs (wft R c1 (wck (wqt (wcs (wcb (wcr (mv R R (asg R R (wnt (wcs (wcs (wcj (X := Unit) (fun _ => True) (fun _ => [(0, bs a_line), (4, (sl x1l)), (5, iv s1.2), (6, iv ((k1 : Nat) : Int)), (12, iv ((a_line.b.length : Nat) : Int)), (13, iv ((k1 : Nat) : Int)), (25, .bool ((decide ((((sat_ a_line k1)).toNat : Int) < 32)) || (decide ((((sat_ a_line k1)).toNat : Int) > 126))))]) (fun _ => [ownF (sl x1l) s1.1]) ?_ ?_)))))))))))))))
 refine wcg (mv R R (mv R R (wlq (Ze2 (k := k1) Z2 R R hk1) R (wlq (pls R R) R (mv R R (Zae (t := 20) R (fun h2 => ?_) fun h2 => ?_))))))
 exact wgf (j := 4) R R R R R (wgf (j := 4) R R R R R (wgf (j := 4) R R R R R (wgf (j := 4) R R R R R (wlq (pit R R) R (wln (wqm () trivial (yc R (yc R (yc R (yc R (yc R (yc R (ZS R (by rw [h2]; rfl) yn))))))) so1))))))
 exact wgn (j := 4) R R R (mv R R (wgn (j := 4) R R R (mv R R (wgn (j := 4) R R R (wlq (Ze2 (k := k1) Z2 R R hk1) R (wgn (j := 4) R R R (wlq (Zad R R) R (wlq (pif R R) R (wln (wqm () trivial (yc R (yc R (yc R (yc R (yc R (yc R (ZS R (by rw [h2]; rfl) yn))))))) so1))))))))))
 intro _ _
 refine wqt (wcO t1 R (fun h3 t1 => ?_) fun h3 t1 => ?_)
 refine wcr (asg R R (asg R R (wnt (wct (wqr (wbr (wqr (wqr (wbr (wqr (wqr ?_)))))))))))
 replace t0 := lpR t0 l1 t1
 obtain rfl := oi t0
 exact ZJ R R R fun w hw => ⟨hn, R, hw.weak (zc ZC zn)⟩
 refine wck (wqt (wcr (mv R R (mv R R (wlq (Ze2 (k := k1) Z2 R R hk1) R (wlq (pol R R) R (wnt (bdO t1 fun y2 t2 t1 => (wj (J := (List Str) × Int) (X := Hd) (fun z => y2 = z) (fun z x => [(0, bs a_line), (4, (sl x)), (5, iv z.2), (12, iv ((a_line.b.length : Nat) : Int)), (13, iv ((k1 : Nat) : Int))]) (fun z x => [ownF (sl x) z.1]) ?_ ?_)))))))))
 refine wcO t2 R (fun h4 t2 => ?_) fun h4 t2 => ?_
 refine wcs (wcr (mv R R (wlq (ZeS R R) R (wnt (bdO t2 fun y3 t3 t2 => (wj (J := List Str) (X := Hd) (fun z => y3 = z) (fun _ x => [(0, bs a_line), (4, (sl x)), (12, iv ((a_line.b.length : Nat) : Int)), (13, iv ((k1 : Nat) : Int))]) (fun z x => [ownF (sl x) z]) ?_ ?_))))))
 refine wcO t3 R (fun h5 t3 => ?_) fun h5 t3 => ?_
 refine wcg (mv R R (mv R R (mv R R (mv R R (gdO t3 fun g2 t3 => (wlq (Zk5 (l := (s1.2).toNat) (h := k1) Z2 R (.inr ⟨_, R, ixn g2.1⟩) (.inr ⟨_, R, R⟩) g2.2.1 g2.2.2) R (wle (ebs R (ZeZ (ssub a_line ((s1.2).toNat) k1))) R fun b2 => (gdO t3 fun g3 t3 => (wle (Zf (xs := s1.1) (ys := ([(ssub a_line ((s1.2).toNat) k1)] : List Str)) Zeq pk1 R R (Zi fun _ g => Rg.on (rgo (pbo pz (n := 1) (xs := ([(ssub a_line ((s1.2).toNat) k1)] : List Str)) R R (by unfold maxLen; omega))) g) g3) R fun x5 => ?_)))))))))
 exact asg R R (wln (wjm _ x5 (mtE t3) (su4 R R R R) so1))
 exact wck (wjm _ x1l (mtE t3) (su4 R R R R) so1)
 intro j3 x4 hp
 obtain rfl : j3 = y3 := hp.symm
 exact wqt (wcg (asg R R (wln (wjm _ x4 (mtE t2) (su5 R R R R R) so1))))
 refine wcr (mv R R (wlq (pls R R) R (wnt (wcO t2 R (fun h6 t2 => ?_) fun h6 t2 => ?_))))
 exact wcg (mv R R (asg R R (wln (wjm _ x1l (mtE t2) (su5 R R R R R) so1))))
 exact wck (wjm _ x1l (mtE t2) (su5 R R R R R) so1)
 intro j2 x3 hp
 obtain rfl : j2 = y2 := hp.symm
 refine wqb (wqt (wcg (wlq (Zj R R (by omega)) R ?_)))
 exact mv R R (wln (Zk hk1 (stpN l1 t1) x3 (su5 R R R R R) so1))
 have c1 : (decide (((k1 : Nat) : Int) < ((a_line.b.length : Nat) : Int))) = false := ddf (by omega)
 have en1 := foe l1 hk1
 exact wcr (wlq (pls R R) R (wnt (wcs (wff R c1 (wcx (wqe (wqe (wbx (wjm _ x1l en1 (su3 R R R) so1)))))))))
 intro e1 x1 hp
 replace t0 := sqE (j := e1) t0 hp
 refine wqt (wcs (wcr (mv R R (wlq (ZeS R R) R (wnt (bdO t0 fun y1 t1 t0 => (wj (J := List Str) (X := Hd) (fun z => y1 = z) (fun _ x => [(4, (sl x))]) (fun z x => [ownF (sl x) z]) ?_ ?_)))))))
 refine wcO t1 R (fun h7 t1 => ?_) fun h7 t1 => ?_
 refine wcg (mv R R (mv R R (mv R R (gdO t1 fun g4 t1 => (wlq (Zk5 (l := (e1.2).toNat) (h := a_line.b.length) Z2 R (.inr ⟨_, R, ixn g4.1⟩) (.inl ⟨R, R⟩) g4.2.1 g4.2.2) R (wle (ebs R (ZeZ (ssub a_line ((e1.2).toNat) a_line.b.length))) R fun b3 => (gdO t1 fun g5 t1 => (wle (Zf (xs := e1.1) (ys := ([(ssub a_line ((e1.2).toNat) a_line.b.length)] : List Str)) Zeq pk1 R R (Zi fun _ g => Rg.on (rgo (pbo pz (n := 1) (xs := ([(ssub a_line ((e1.2).toNat) a_line.b.length)] : List Str)) R R (by unfold maxLen; omega))) g) g5) R fun x7 => ?_))))))))
 exact asg R R (wln (wjm _ x7 (mtE t1) (su1 R) so1))
 exact wck (wjm _ x1 (mtE t1) (su1 R) so1)
 intro j4 x6 hp
 obtain rfl : j4 = y1 := hp.symm
 refine wqt (wcs (wcr (mv R R (wlq (pln (rgo pz) ZaZ R) R (wlq (Zad R R) R (wnt (wcO t0 R (fun h8 t0 => ?_) fun h8 t0 => ?_)))))))
 refine wcr (asg R R (asg R R (wnt (wct (wqr ?_)))))
 obtain rfl := oi t0
 exact ZJ R R R fun w hw => ⟨hn, R, hw.weak (zc ZC zn)⟩
 refine wck (wqt (wcr (mv R R (asg R R (asg R R (wnt (wct ?_)))))))
 obtain rfl := oi t0
 exact ZJ R R R fun w hw => ⟨x6, R, hw.weak so1⟩

theorem Zq (w : World) (a_n : Int) (a_a : Int) (a_b : Int) {r : Bool} (t0 : Zt a_n a_a a_b = some r) : Calls Tryz.prog 35 #[.int .i64 a_n, .int .i64 a_a, .int .i64 a_b] w fun e w' => e = .returned (.bool r) ∧ SH w [] [] w' := by
 refine cwc (args := [_, _, _]) Tryz.func35 R Tryz.ntmps35 R ?_
 unfold Zt at t0
 refine wcr (asg R R (wnt (wcs (wcj (X := Unit) (fun _ => True) (fun _ => [(6, .bool ((decide (a_n ≥ a_a)) && (decide (a_n ≤ a_b))))]) (fun _ => []) ?_ ?_))))
 refine wcg (mv R R (mv R R (wlq (ZeS R R) R (mv R R (Zae (t := 10) R (fun h1 => ?_) fun h1 => ?_)))))
 exact wgn (j := 3) R R R (mv R R (wgn (j := 3) R R R (mv R R (wgn (j := 3) R R R (wlq (ZbQ R R) R (wlq (pit R R) R (asg R R (wln (wqm () trivial (ZS R (by rw [h1]; rfl) yn) zn)))))))))
 exact wgf (j := 3) R R R R R (wgf (j := 3) R R R R R (wgf (j := 3) R R R R R (wlq (pif R R) R (asg R R (wln (wqm () trivial (ZS R (by rw [h1]; rfl) yn) zn))))))
 intro _ _
 refine wqt (wct ?_)
 obtain rfl := oi t0
 exact wq1 R R fun w hw => ⟨R, hw.weak zn⟩




theorem ZhO (w : World) (a_n : Int) {r : Str} (t0 : ZcM a_n = some r) : Calls Tryz.prog 20 #[.int .i64 a_n] w fun e w' => e = .returned (bs r) ∧ SH w [] [] w' := by
 refine cwc (args := [_]) Tryz.func20 R Tryz.ntmps20 R ?_
 unfold ZcM at t0
 refine wcr (asg R R (wnt (wcr (mv R R (bdO t0 fun v1 hv1 t0 => (wlc (cz0 Zu5 R fun w hw => ZpQ w a_n hv1) R fun _ => (asg R R (wnt (wct ?_)))))))))
 obtain rfl := oi t0
 exact wq1 R R fun w hw => ⟨R, hw.weak zn⟩

theorem Zap (w : World) (ht : Tb w) (a_n : Int) {r : Str} (t0 : Zak a_n = some r) : Calls Tryz.prog 20 #[.int .i64 a_n] w fun e w' => e = .returned (bs r) ∧ SH w [] [] w' := by
 refine cwc (args := [_]) Tryz.func20 R Tryz.ntmps20 R ?_
 unfold Zak at t0
 refine wcr (asg R R (wnt (wcr (mv R R (bdO t0 fun v1 hv1 t0 => (wlc (cz0 Zu5 R fun w hw => Zoo w (hw.tab ht) a_n hv1) R fun _ => (asg R R (wnt (wct ?_)))))))))
 obtain rfl := oi t0
 exact wq1 R R fun w hw => ⟨R, hw.weak zn⟩

theorem Zn6 (w : World) (ht : Tb w) (a_s : Str) {r : Int × Bool} (t0 : Zb4 a_s = some r) : Calls Tryz.prog 36 #[bs a_s] w fun e w' => e = .returned (.tuple #[.int .i64 r.1, .bool r.2]) ∧ SH w [] [] w' := by
 refine cwc (args := [_]) Tryz.func36 R Tryz.ntmps36 R ?_
 unfold Zb4 at t0
 refine wcr (asg R R (asg R R (wnt (wcs (wcr (mv R R (wlq (ZbM Z2 R) R (wlq (Zad R R) R (wnt (wcO t0 R (fun h1 t0 => ?_) fun h1 t0 => ?_))))))))))
 refine wcr (asg R R (asg R R (wnt (wct (wqr ?_)))))
 obtain rfl := oi t0
 exact ZJ R R R fun w hw => ⟨R, hw.weak zn⟩
 refine wck (wqt (wcr (mv R R (bdO t0 fun v1 hv1 t0 => (wlc (Zwq Zxy R fun w hw => ZpR w (hw.tab ht) a_s hv1) R fun x1 => (mv R R (wlq (pex R R) R (wlq (pex R R) R (asg R R (asg R R (wnt (wcs (wcs (bdO t0 fun y1 t1 t0 => (wj (J := Bool) (X := Unit) (fun z => y1 = z) (fun z _ => [(4, iv v1.1), (26, .bool z)]) (fun _ _ => []) ?_ ?_)))))))))))))))
 refine wcg (mv R R (wlq (Zt0 Zxk R) R (mv R R (wlo (t := 16) t1 R (fun h2 t1 => ?_) fun h2 t1 => ?_))))
 exact wgf (j := 2) R R R R R (wgf (j := 2) R R R R R (wgf (j := 2) R R R R R (wlq (pit R R) R (mv R R (wgf (j := 7) R R R R R (wgf (j := 7) R R R R R (wgf (j := 7) R R R R R (wgf (j := 7) R R R R R (wlq (pit R R) R (wln (wjm _ () (mtE t1) (su2 R R) zn)))))))))))
 refine wgn (j := 2) R R R (mv R R (bdO t1 fun v2 hv2 t1 => (wgn (j := 2) R R R (wlc (cz0 ZaH R fun w hw => Zq w v1.1 0 1000000000 hv2) R (fun _ => (wgn (j := 2) R R R (wlq (Zd R) R (wlq (pif R R) R (mv R R (wlo (t := 21) t1 R (fun h3 t1 => ?_) fun h3 t1 => ?_))))))))))
 exact wgf (j := 7) R R R R R (wgf (j := 7) R R R R R (wgf (j := 7) R R R R R (wgf (j := 7) R R R R R (wlq (pit R R) R (wln (wjm _ () (mtE t1) (su2 R R) zn))))))
 exact wgn (j := 7) R R R (mv R R (bdO t1 fun v3 hv3 t1 => (wgn (j := 7) R R R (wlc (cz0 Zgq R fun w hw => Zap w (hw.tab ht) v1.1 hv3) R (fun _ => (wgn (j := 7) R R R (mv R R (wgn (j := 7) R R R (wlq (ZkU R R) R (wlq (pif R R) R (wln (wjm _ () (mtE t1) (su2 R R) zn))))))))))))
 intro j1 _ hp
 obtain rfl : j1 = y1 := hp.symm
 refine wqt (wcO t0 R (fun h4 t0 => ?_) fun h4 t0 => ?_)
 refine wcr (asg R R (asg R R (wnt (wct (wqr ?_)))))
 obtain rfl := oi t0
 exact ZJ R R R fun w hw => ⟨R, hw.weak zn⟩
 refine wck (wqt (wcr (mv R R (asg R R (asg R R (wnt (wct ?_)))))))
 obtain rfl := oi t0
 exact ZJ R R R fun w hw => ⟨R, hw.weak zn⟩

theorem Zmi (w : World) (a_a : GAct) {r : Bool} (t0 : ZgZ a_a = some r) : Calls Tryz.prog 74 #[.agg #[.int .i64 a_a.Kind, .int .i64 a_a.A, .int .i64 a_a.B]] w fun e w' => e = .returned (.bool r) ∧ SH w [] [] w' := by
 refine cwc (args := [_]) Tryz.func74 R Tryz.ntmps74 R ?_
 unfold ZgZ at t0
 refine wcr (wle (Zg R R) R fun b1 => (asg R R (wnt (wcs (wcr (wlq (pof Zf8 R) R (wlq (v := iv a_a.Kind) (plx tk_3 pz R R) R (wnt (wcb (wcr (wlq (pol R R) R (asg R R (wnt (wcO t0 R (fun h1 t0 => ?_) fun h1 t0 => ?_))))))))))))))
 refine wcs (bdO t0 fun y1 t1 t0 => (wj (J := Bool) (X := Unit) (fun z => y1 = z) (fun z _ => [(2, .bool z)]) (fun _ _ => []) ?_ ?_))
 refine wcg (wlq (pof ZaU R) R (wlq (v := iv a_a.A) (plx tk_3 pz R R) R (bdO t1 fun v1 hv1 t1 => (wlc (cz0 ZaH R fun w hw => Zq w a_a.A 1 999 hv1) R fun _ => (mv R R (wlo (t := 10) t1 R (fun h2 t1 => ?_) fun h2 t1 => ?_))))))
 exact wgn (j := 3) R R R (wlq (pof Zc5 R) R (wgn (j := 3) R R R (wlq (v := iv a_a.B) (plx tk_3 pz R R) R (wgn (j := 3) R R R (wlq (pol R R) R (wlq (pit R R) R (asg R R (wln (wjm _ () (mtE t1) (su1 R) zn)))))))))
 exact wgf (j := 3) R R R R R (wgf (j := 3) R R R R R (wgf (j := 3) R R R R R (wlq (pif R R) R (asg R R (wln (wjm _ () (mtE t1) (su1 R) zn))))))
 intro j1 _ hp
 obtain rfl : j1 = y1 := hp.symm
 refine wqt (wct (wbr (wqr ?_)))
 obtain rfl := oi t0
 exact wq1 R R fun w hw => ⟨R, hw.weak zn⟩
 refine wcr (wlq (pol R R) R (asg R R (wnt (wcO t0 R (fun h3 t0 => ?_) fun h3 t0 => ?_))))
 refine wcs (bdO t0 fun y1 t1 t0 => (wj (J := Bool) (X := Unit) (fun z => y1 = z) (fun z _ => [(2, .bool z)]) (fun _ _ => []) ?_ ?_))
 refine wcg (wlq (pof ZaU R) R (wlq (v := iv a_a.A) (plx tk_3 pz R R) R (bdO t1 fun v2 hv2 t1 => (wlc (cz0 ZaH R fun w hw => Zq w a_a.A 1 999 hv2) R fun _ => (mv R R (wlo (t := 20) t1 R (fun h4 t1 => ?_) fun h4 t1 => ?_))))))
 exact wgn (j := 3) R R R (wlq (pof Zc5 R) R (wgn (j := 3) R R R (wlq (v := iv a_a.B) (plx tk_3 pz R R) R (bdO t1 fun v3 hv3 t1 => (wgn (j := 3) R R R (wlc (cz0 ZaH R fun w hw => Zq w a_a.B 0 9 hv3) R (fun _ => (wlq (pit R R) R (asg R R (wln (wjm _ () (mtE t1) (su1 R) zn)))))))))))
 exact wgf (j := 3) R R R R R (wgf (j := 3) R R R R R (wgf (j := 3) R R R R R (wlq (pif R R) R (asg R R (wln (wjm _ () (mtE t1) (su1 R) zn))))))
 intro j2 _ hp
 obtain rfl : j2 = y1 := hp.symm
 refine wqt (wct (wbr (wqr ?_)))
 obtain rfl := oi t0
 exact wq1 R R fun w hw => ⟨R, hw.weak zn⟩
 refine wcs (wcr (wlq (pol R R) R (asg R R (wnt (wcj (X := Unit) (fun _ => True) (fun _ => [(1, ptr b1 0), (25, .bool ((a_a.Kind == 3) || (a_a.Kind == 6)))]) (fun _ => [box b1 [iv a_a.Kind, iv a_a.A, iv a_a.B]]) ?_ ?_)))))
 refine Zbn R (fun h5 => ?_) fun h5 => ?_
 exact wck (wqm () trivial (yc R (ZS R (by rw [h5]; rfl) yn)) so1)
 exact wcg (wlq (pol R R) R (asg R R (wln (wqm () trivial (yc R (ZS R (by rw [h5]; rfl) yn)) so1))))
 intro _ _
 refine wqt (wcO t0 R (fun h6 t0 => ?_) fun h6 t0 => ?_)
 refine wcs (bdO t0 fun y1 t1 t0 => (wj (J := Bool) (X := Unit) (fun z => y1 = z) (fun z _ => [(2, .bool z)]) (fun _ _ => []) ?_ ?_))
 refine wcg (wlq (pof ZaU R) R (wlq (v := iv a_a.A) (plx tk_3 pz R R) R (bdO t1 fun v4 hv4 t1 => (wlc (cz0 ZaH R fun w hw => Zq w a_a.A 0 9 hv4) R fun _ => (mv R R (wlo (t := 31) t1 R (fun h7 t1 => ?_) fun h7 t1 => ?_))))))
 exact wgn (j := 3) R R R (wlq (pof Zc5 R) R (wgn (j := 3) R R R (wlq (v := iv a_a.B) (plx tk_3 pz R R) R (wgn (j := 3) R R R (wlq (pol R R) R (wlq (pit R R) R (asg R R (wln (wjm _ () (mtE t1) (su1 R) zn)))))))))
 exact wgf (j := 3) R R R R R (wgf (j := 3) R R R R R (wgf (j := 3) R R R R R (wlq (pif R R) R (asg R R (wln (wjm _ () (mtE t1) (su1 R) zn))))))
 intro j4 _ hp
 obtain rfl : j4 = y1 := hp.symm
 refine wqt (wct (wbr (wqr ?_)))
 obtain rfl := oi t0
 exact wq1 R R fun w hw => ⟨R, hw.weak zn⟩
 refine wck (wqb (wqt (wcs (wcj (X := Unit) (fun _ => True) (fun _ => [(2, .bool (bif (a_a.Kind == 4) then ((a_a.A == 0) && (a_a.B == 0)) else ((a_a.Kind == 5) && ((a_a.A == 0) && (a_a.B == 0)))))]) (fun _ => []) ?_ ?_))))
 refine wcg (wlq (pof Zf8 R) R (wlq (v := iv a_a.Kind) (plx tk_3 pz R R) R (wlq (pol R R) R (mv R R (Zae (t := 39) R (fun h8 => ?_) fun h8 => ?_)))))
 refine wgf (j := 3) R R R R R (wgf (j := 3) R R R R R (wgf (j := 3) R R R R R (wlq (pit R R) R (mv R R (wgn (j := 8) R R R (wlq (pof ZaU R) R (wgn (j := 8) R R R (wlq (v := iv a_a.A) (plx tk_3 pz R R) R (wgn (j := 8) R R R (wlq (pol R R) R (wlq (pit R R) R (mv R R (Zae (t := 49) R (fun h9 => ?_) fun h9 => ?_)))))))))))))
 exact wgn (j := 13) R R R (wlq (pof Zc5 R) R (wgn (j := 13) R R R (wlq (v := iv a_a.B) (plx tk_3 pz R R) R (wgn (j := 13) R R R (wlq (pol R R) R (wlq (pit R R) R (asg R R (wln (wqm () trivial (ZS R (by rw [h8, h9]; rfl) yn) zn)))))))))
 exact wgf (j := 13) R R R R R (wgf (j := 13) R R R R R (wgf (j := 13) R R R R R (wlq (pif R R) R (asg R R (wln (wqm () trivial (ZS R (by rw [h8, h9]; rfl) yn) zn))))))
 refine wgn (j := 3) R R R (wlq (pof Zf8 R) R (wgn (j := 3) R R R (wlq (v := iv a_a.Kind) (plx tk_3 pz R R) R (wgn (j := 3) R R R (wlq (pol R R) R (wlq (pif R R) R (mv R R (Zae (t := 44) R (fun h10 => ?_) fun h10 => ?_))))))))
 refine wgn (j := 8) R R R (wlq (pof ZaU R) R (wgn (j := 8) R R R (wlq (v := iv a_a.A) (plx tk_3 pz R R) R (wgn (j := 8) R R R (wlq (pol R R) R (wlq (pit R R) R (mv R R (Zae (t := 49) R (fun h11 => ?_) fun h11 => ?_))))))))
 exact wgn (j := 13) R R R (wlq (pof Zc5 R) R (wgn (j := 13) R R R (wlq (v := iv a_a.B) (plx tk_3 pz R R) R (wgn (j := 13) R R R (wlq (pol R R) R (wlq (pit R R) R (asg R R (wln (wqm () trivial (ZS R (by rw [h8, h10, h11]; rfl) yn) zn)))))))))
 exact wgf (j := 13) R R R R R (wgf (j := 13) R R R R R (wgf (j := 13) R R R R R (wlq (pif R R) R (asg R R (wln (wqm () trivial (ZS R (by rw [h8, h10, h11]; rfl) yn) zn))))))
 exact wgf (j := 8) R R R R R (wgf (j := 8) R R R R R (wgf (j := 8) R R R R R (wlq (pif R R) R (mv R R (wgf (j := 13) R R R R R (wgf (j := 13) R R R R R (wgf (j := 13) R R R R R (wlq (pif R R) R (asg R R (wln (wqm () trivial (ZS R (by rw [h8, h10]; rfl) yn) zn)))))))))))
 intro _ _
 refine wqt (wct ?_)
 obtain rfl := oi t0
 exact wq1 R R fun w hw => ⟨R, hw.weak zn⟩


theorem Zbz (w : World) (ht : Tb w) (a_word : Str) (a_list : List Int) (v0a : Hd) (r0 : rdF w (dm w []) (sl v0a) a_list) {r : Str} (t0 : ZbT a_word a_list = some r) : Calls Tryz.prog 45 #[bs a_word, (sl v0a)] w fun e w' => e = .returned (bs r) ∧ SH w [] [] w' := by
 refine cwc (args := [_, _]) Tryz.func45 R Tryz.ntmps45 R ?_
 unfold ZbT at t0
 refine wcr (asg R R (wnt (wcr (mv R R (wle (ebs R (ZeZ a_word)) R fun b1 => (asg R R (wnt (wcs (wcr (mv R R (wlq (pln (rga r0) Zy R) R (mv R R (wnt (gdO t0 fun g1 t0 => (Zn t0 fun y1 l1 t0 => (wj (J := List Str) (X := Hd) (fun z => y1 = z) (fun _ x => [(5, (sl x))]) (fun z x => [ownF (sl x) z]) ?_ ?_))))))))))))))))
 refine wcb (wcf (X := Hd) l1 (fun k1 s1 x1l => [(5, (sl x1l)), (10, (sl v0a)), (11, iv ((a_list.length : Nat) : Int)), (12, iv ((k1 : Nat) : Int))]) (fun k1 s1 x1l => [ownF (sl x1l) s1]) (⟨some ⟨b1, 0, none⟩, 1, 1⟩ : Hd) (su4 R R R R) (zc (pbo pz (n := 1) (xs := ([a_word] : List Str)) R R (by unfold maxLen; omega)) zn) fun k1 s1 x1l hN1 l1 => ?_)
 by_cases hk1 : k1 < a_list.length
 refine fos l1 hk1 fun _ t1 l1 => ?_
 unfold ZgU at t1
 have c1 : (decide (((k1 : Nat) : Int) < ((a_list.length : Nat) : Int))) = true := ddt (by omega)
 refine wcr (wlq (pls R R) R (wnt (wcs (wft R c1 (wck (wqt (wcs (wcb (wcr (wlq (Zm (k := k1) (rga r0) Zy R R hk1) R (wlq (v := iv (gx a_list k1)) (Zw (rga r0) tk_3 R hk1 R) R (asg R R (wnt (wcg (mv R R (mv R R (bdO t1 fun v1 hv1 t1 => (wlc (cz0 Zgq R fun w hw => Zap w (hw.tab ht) (gx a_list k1) hv1) R fun _ => (wle (ebs R (ZeZ v1)) R fun b2 => (gdO t1 fun g2 t1 => (wle (Zf (xs := s1) (ys := ([v1] : List Str)) Zeq pk1 R R (Zi fun _ g => Rg.on (rgo (pbo pz (n := 1) (xs := ([v1] : List Str)) R R (by unfold maxLen; omega))) g) g2) R fun x2 => ?_)))))))))))))))))))))
 refine asg R R (wln (wqb (wqt (wcg (wlq (Zj R R (by omega)) R ?_)))))
 exact mv R R (wln (Zk hk1 (stpN l1 t1) x2 (su4 R R R R) so1))
 have c1 : (decide (((k1 : Nat) : Int) < ((a_list.length : Nat) : Int))) = false := ddf (by omega)
 have en1 := foe l1 hk1
 exact wcr (wlq (pls R R) R (wnt (wcs (wff R c1 (wcx (wqe (wqe (wbx (wjm _ x1l (Sum.inl.inj en1) (su1 R) so1)))))))))
 intro e1 x1 hp
 obtain rfl : e1 = y1 := hp.symm
 refine wqt (wcr (mv R R (bdO t0 fun v2 hv2 t0 => (wlc (cz0 ZqY R fun w hw => Zhc w e1 x1 (Rg.on (rgo pz) hw) (⟨[32]⟩ : Str) hv2) R fun _ => (asg R R (wnt (wct ?_)))))))
 obtain rfl := oi t0
 exact wq1 R R fun w hw => ⟨R, hw.weak zn⟩

theorem Zoe (w : World) (ht : Tb w) (a_a : GAct) {r : Str × Bool} (t0 : ZdK a_a = some r) : Calls Tryz.prog 37 #[.agg #[.int .i64 a_a.Kind, .int .i64 a_a.A, .int .i64 a_a.B]] w fun e w' => e = .returned (.tuple #[bs r.1, .bool r.2]) ∧ SH w [] [] w' := by
 refine cwc (args := [_]) Tryz.func37 R Tryz.ntmps37 R ?_
 unfold ZdK at t0
 refine wcr (wle (Zg R R) R fun b1 => (asg R R (asg R R (wnt (wcs (wcr (wlq (v := .agg #[iv a_a.Kind, iv a_a.A, iv a_a.B]) (plb Za3 pz R R R) R (bdO t0 fun v1 hv1 t0 => (wlc (cz0 Zu2 R fun w hw => Zmi w a_a hv1) R fun _ => (wlq (Zd R) R (wnt (wcO t0 R (fun h1 t0 => ?_) fun h1 t0 => ?_))))))))))))
 refine wcr (asg R R (asg R R (wnt (wct (wqr ?_)))))
 obtain rfl := oi t0
 exact ZJ R R R fun w hw => ⟨R, hw.weak zn⟩
 refine wck (wqt (wcs (wcr (wlq (pof Zf8 R) R (wlq (v := iv a_a.Kind) (plx tk_3 pz R R) R (wnt (wcb (wcr (wlq (pol R R) R (asg R R (wnt (wcO t0 R (fun h2 t0 => ?_) fun h2 t0 => ?_))))))))))))
 refine wcr (wlq (pof ZaU R) R (wlq (v := iv a_a.A) (plx tk_3 pz R R) R (wle (ebs R (ZaA a_a.A)) R fun b2 => (bdO t0 fun v2 hv2 t0 => (wlc (cz0 ZiJ R fun w hw => Zbz w (hw.tab ht) (⟨[97, 100, 109, 105, 116]⟩ : Str) ([a_a.A] : List Int) (⟨some ⟨b2, 0, none⟩, 1, 1⟩ : Hd) (Rg.on (rgo (pbo pz (n := 1) (xs := ([a_a.A] : List Int)) R R (by unfold maxLen; omega))) hw) hv2) R fun _ => ?_)))))
 refine asg R R (asg R R (wnt (wct (wbr (wqr ?_)))))
 obtain rfl := oi t0
 exact ZJ R R R fun w hw => ⟨R, hw.weak zn⟩
 refine wcr (wlq (pol R R) R (asg R R (wnt (wcO t0 R (fun h3 t0 => ?_) fun h3 t0 => ?_))))
 refine wcr (wlq (pof ZaU R) R (wlq (v := iv a_a.A) (plx tk_3 pz R R) R (wlq (pof Zc5 R) R (wlq (v := iv a_a.B) (plx tk_3 pz R R) R (wle (ebs R (ZmT a_a.A a_a.B)) R fun b3 => (bdO t0 fun v3 hv3 t0 => (wlc (cz0 ZiJ R fun w hw => Zbz w (hw.tab ht) (⟨[115, 117, 98, 109, 105, 116]⟩ : Str) ([a_a.A, a_a.B] : List Int) (⟨some ⟨b3, 0, none⟩, 2, 2⟩ : Hd) (Rg.on (rgo (pbo pz (n := 2) (xs := ([a_a.A, a_a.B] : List Int)) R R (by unfold maxLen; omega))) hw) hv3) R fun _ => ?_)))))))
 refine asg R R (asg R R (wnt (wct (wbr (wqr ?_)))))
 obtain rfl := oi t0
 exact ZJ R R R fun w hw => ⟨R, hw.weak zn⟩
 refine wcr (wlq (pol R R) R (asg R R (wnt (wcO t0 R (fun h4 t0 => ?_) fun h4 t0 => ?_))))
 refine wcr (wlq (pof ZaU R) R (wlq (v := iv a_a.A) (plx tk_3 pz R R) R (wle (ebs R (ZaA a_a.A)) R fun b4 => (bdO t0 fun v4 hv4 t0 => (wlc (cz0 ZiJ R fun w hw => Zbz w (hw.tab ht) (⟨[115, 101, 119]⟩ : Str) ([a_a.A] : List Int) (⟨some ⟨b4, 0, none⟩, 1, 1⟩ : Hd) (Rg.on (rgo (pbo pz (n := 1) (xs := ([a_a.A] : List Int)) R R (by unfold maxLen; omega))) hw) hv4) R fun _ => ?_)))))
 refine asg R R (asg R R (wnt (wct (wbr (wqr ?_)))))
 obtain rfl := oi t0
 exact ZJ R R R fun w hw => ⟨R, hw.weak zn⟩
 refine wcr (wlq (pol R R) R (asg R R (wnt (wcO t0 R (fun h5 t0 => ?_) fun h5 t0 => ?_))))
 refine wcr (wlq (pof ZaU R) R (wlq (v := iv a_a.A) (plx tk_3 pz R R) R (wle (ebs R (ZaA a_a.A)) R fun b5 => (bdO t0 fun v5 hv5 t0 => (wlc (cz0 ZiJ R fun w hw => Zbz w (hw.tab ht) (⟨[108, 97, 99, 107]⟩ : Str) ([a_a.A] : List Int) (⟨some ⟨b5, 0, none⟩, 1, 1⟩ : Hd) (Rg.on (rgo (pbo pz (n := 1) (xs := ([a_a.A] : List Int)) R R (by unfold maxLen; omega))) hw) hv5) R fun _ => ?_)))))
 refine asg R R (asg R R (wnt (wct (wbr (wqr ?_)))))
 obtain rfl := oi t0
 exact ZJ R R R fun w hw => ⟨R, hw.weak zn⟩
 refine wcr (wlq (pol R R) R (asg R R (wnt (wcO t0 R (fun h6 t0 => ?_) fun h6 t0 => ?_))))
 refine wcr (asg R R (asg R R (wnt (wct (wbr (wqr ?_))))))
 obtain rfl := oi t0
 exact ZJ R R R fun w hw => ⟨R, hw.weak zn⟩
 refine wck (wqb (wqt (wcr (asg R R (asg R R (wnt (wct ?_)))))))
 obtain rfl := oi t0
 exact ZJ R R R fun w hw => ⟨R, hw.weak zn⟩

theorem Zpk (w : World) (ht : Tb w) (a_line : Str) {r : GAct × Bool} (t0 : Zcw a_line = some r) : Calls Tryz.prog 17 #[bs a_line] w fun e w' => e = .returned (.tuple #[.agg #[.int .i64 r.1.Kind, .int .i64 r.1.A, .int .i64 r.1.B], .bool r.2]) ∧ SH w [] [] w' := by
 refine cwc (args := [_]) Tryz.func17 R Tryz.ntmps17 R ?_
 unfold Zcw at t0
 refine wcr (wle (eal (cs := [iv 0, iv 0, iv 0]) Zlo) R fun b1 => (asg R R (wnt (wcr (mv R R (bdO t0 fun v1 hv1 t0 => (wlc (cz1 ZuQ R fun w hw => Zi4 w a_line hv1) R fun x1 => (mv R R (wlq (pex R R) R (wlq (pex R R) R (asg R R (asg R R (wnt (wcs (wcs (bdO t0 fun y1 t1 t0 => (wj (J := Bool) (X := Unit) (fun z => y1 = z) (fun z _ => [(2, ptr b1 0), (4, (sl x1)), (28, .bool z)]) (fun _ _ => [box b1 [iv 0, iv 0, iv 0], ownF (sl x1) v1.1]) ?_ ?_)))))))))))))))))
 refine wcg (mv R R (wlq (Zd R) R (mv R R (wlo (t := 23) t1 R (fun h1 t1 => ?_) fun h1 t1 => ?_))))
 exact wgf (j := 2) R R R R R (wgf (j := 2) R R R R R (wgf (j := 2) R R R R R (wgf (j := 2) R R R R R (wlq (pit R R) R (wln (wjm _ () (mtE t1) (su3 R R R) (zc pk1 so1)))))))
 exact wgn (j := 2) R R R (mv R R (wgn (j := 2) R R R (wlq (pln (rgo pz) ZaZ R) R (bdO t1 fun v2 hv2 t1 => (wgn (j := 2) R R R (wlc (cz0 ZaH R fun w hw => Zq w ((v1.1.length : Nat) : Int) 1 3 hv2) R (fun _ => (wgn (j := 2) R R R (wlq (Zd R) R (wlq (pif R R) R (wln (wjm _ () (mtE t1) (su3 R R R) (zc pk1 so1)))))))))))))
 intro j1 _ hp
 obtain rfl : j1 = y1 := hp.symm
 refine wqt (wcO t0 R (fun h2 t0 => ?_) fun h2 t0 => ?_)
 refine wcr (wlq (Zl R ZmK) R (wls (sbx (cs' := [iv 0, iv 0, iv 0]) Za3 pz R R R R R R R) (asg R R (wnt (wct (wqr ?_))))))
 obtain rfl := oi t0
 exact Zx R Za3 R R pz R fun w hw => ⟨R, hw.weak zn⟩
 refine wck (wqt (wcr (wle (ebs (qs := [(0, bs (⟨[]⟩ : Str)), (1, bs (⟨[97, 100, 109, 105, 116]⟩ : Str)), (2, bs (⟨[115, 117, 98, 109, 105, 116]⟩ : Str)), (3, bs (⟨[115, 101, 119]⟩ : Str)), (4, bs (⟨[114, 111, 117, 110, 100]⟩ : Str)), (5, bs (⟨[121, 101, 97, 114]⟩ : Str)), (6, bs (⟨[108, 97, 99, 107]⟩ : Str))]) R (ZsE (⟨[]⟩ : Str) (⟨[97, 100, 109, 105, 116]⟩ : Str) (⟨[115, 117, 98, 109, 105, 116]⟩ : Str) (⟨[115, 101, 119]⟩ : Str) (⟨[114, 111, 117, 110, 100]⟩ : Str) (⟨[121, 101, 97, 114]⟩ : Str) (⟨[108, 97, 99, 107]⟩ : Str))) R fun b2 => (asg R R (wnt (wcr (wlq (Zl R ZmK) R (wle (eal (cs := [iv 0, iv 0, iv 0]) Zlo) R fun b3 => (wls (sbx (cs' := [iv 0, iv 0, iv 0]) Za3 pz R R R R R R R) (wnt (wcs (wcr (mv R R (wlq (pln (rgo (pbo pk1 (n := 7) (xs := ([(⟨[]⟩ : Str), (⟨[97, 100, 109, 105, 116]⟩ : Str), (⟨[115, 117, 98, 109, 105, 116]⟩ : Str), (⟨[115, 101, 119]⟩ : Str), (⟨[114, 111, 117, 110, 100]⟩ : Str), (⟨[121, 101, 97, 114]⟩ : Str), (⟨[108, 97, 99, 107]⟩ : Str)] : List Str)) R R (by unfold maxLen; omega))) ZaZ R) R ?_))))))))))))))
 refine mv R R (wnt (gdO t0 fun g1 t0 => (Zn t0 fun y1 l1 t0 => (wj (J := Int) (X := Unit) (fun z => y1 = z) (fun _ _ => [(2, ptr b1 0), (4, (sl x1)), (7, ptr b3 0)]) (fun z _ => [box b3 [iv z, iv 0, iv 0], box b1 [iv 0, iv 0, iv 0], ownF (sl x1) v1.1]) ?_ ?_))))
 refine wcb (wcf (X := Unit) l1 (fun k1 s1 x1l => [(2, ptr b1 0), (4, (sl x1)), (7, ptr b3 0), (32, (sl (⟨some ⟨b2, 0, none⟩, 7, 7⟩ : Hd))), (33, iv ((([(⟨[]⟩ : Str), (⟨[97, 100, 109, 105, 116]⟩ : Str), (⟨[115, 117, 98, 109, 105, 116]⟩ : Str), (⟨[115, 101, 119]⟩ : Str), (⟨[114, 111, 117, 110, 100]⟩ : Str), (⟨[121, 101, 97, 114]⟩ : Str), (⟨[108, 97, 99, 107]⟩ : Str)] : List Str).length : Nat) : Int)), (34, iv ((k1 : Nat) : Int))]) (fun k1 s1 x1l => [box b3 [iv s1, iv 0, iv 0], box b2 [bs (⟨[]⟩ : Str), bs (⟨[97, 100, 109, 105, 116]⟩ : Str), bs (⟨[115, 117, 98, 109, 105, 116]⟩ : Str), bs (⟨[115, 101, 119]⟩ : Str), bs (⟨[114, 111, 117, 110, 100]⟩ : Str), bs (⟨[121, 101, 97, 114]⟩ : Str), bs (⟨[108, 97, 99, 107]⟩ : Str)], box b1 [iv 0, iv 0, iv 0], ownF (sl x1) v1.1]) () (su6 R R R R R R) so4 fun k1 s1 x1l hN1 l1 => ?_)
 by_cases hk1 : k1 < ([(⟨[]⟩ : Str), (⟨[97, 100, 109, 105, 116]⟩ : Str), (⟨[115, 117, 98, 109, 105, 116]⟩ : Str), (⟨[115, 101, 119]⟩ : Str), (⟨[114, 111, 117, 110, 100]⟩ : Str), (⟨[121, 101, 97, 114]⟩ : Str), (⟨[108, 97, 99, 107]⟩ : Str)] : List Str).length
 refine fos l1 hk1 fun _ t1 l1 => ?_
 unfold ZdP at t1
 have c1 : (decide (((k1 : Nat) : Int) < ((([(⟨[]⟩ : Str), (⟨[97, 100, 109, 105, 116]⟩ : Str), (⟨[115, 117, 98, 109, 105, 116]⟩ : Str), (⟨[115, 101, 119]⟩ : Str), (⟨[114, 111, 117, 110, 100]⟩ : Str), (⟨[121, 101, 97, 114]⟩ : Str), (⟨[108, 97, 99, 107]⟩ : Str)] : List Str).length : Nat) : Int))) = true := ddt (by omega)
 refine wcr (wlq (pls R R) R (wnt (wcs (wft R c1 (wck (wqt (wcs (wcb (wcr (mv R R (wlq (Zm (k := k1) (rgo (pbo pk1 (n := 7) (xs := ([(⟨[]⟩ : Str), (⟨[97, 100, 109, 105, 116]⟩ : Str), (⟨[115, 117, 98, 109, 105, 116]⟩ : Str), (⟨[115, 101, 119]⟩ : Str), (⟨[114, 111, 117, 110, 100]⟩ : Str), (⟨[121, 101, 97, 114]⟩ : Str), (⟨[108, 97, 99, 107]⟩ : Str)] : List Str)) R R (by unfold maxLen; omega))) ZaZ R R hk1) R ?_)))))))))))
 refine wlq (v := bs (gx ([(⟨[]⟩ : Str), (⟨[97, 100, 109, 105, 116]⟩ : Str), (⟨[115, 117, 98, 109, 105, 116]⟩ : Str), (⟨[115, 101, 119]⟩ : Str), (⟨[114, 111, 117, 110, 100]⟩ : Str), (⟨[121, 101, 97, 114]⟩ : Str), (⟨[108, 97, 99, 107]⟩ : Str)] : List Str) k1)) (Zw (rgo (pbo pk1 (n := 7) (xs := ([(⟨[]⟩ : Str), (⟨[97, 100, 109, 105, 116]⟩ : Str), (⟨[115, 117, 98, 109, 105, 116]⟩ : Str), (⟨[115, 101, 119]⟩ : Str), (⟨[114, 111, 117, 110, 100]⟩ : Str), (⟨[121, 101, 97, 114]⟩ : Str), (⟨[108, 97, 99, 107]⟩ : Str)] : List Str)) R R (by unfold maxLen; omega))) tk_9 R hk1 R) R ?_
 refine asg R R (asg R R (wnt (wcr (mv R R (mv R R (gdO t1 fun g2 t1 => (wlq (Zm (k := 0) (rgo pk3) ZaZ R R g2) R (wlq (v := bs (gx v1.1 0)) (Zw (rgo pk3) tk_9 R g2 R) R (wlq (ZpJ R R) R (wnt (wcj (X := Unit) (fun _ => True) (fun _ => [(2, ptr b1 0), (4, (sl x1)), (7, ptr b3 0), (32, (sl (⟨some ⟨b2, 0, none⟩, 7, 7⟩ : Hd))), (33, iv ((([(⟨[]⟩ : Str), (⟨[97, 100, 109, 105, 116]⟩ : Str), (⟨[115, 117, 98, 109, 105, 116]⟩ : Str), (⟨[115, 101, 119]⟩ : Str), (⟨[114, 111, 117, 110, 100]⟩ : Str), (⟨[121, 101, 97, 114]⟩ : Str), (⟨[108, 97, 99, 107]⟩ : Str)] : List Str).length : Nat) : Int)), (34, iv ((k1 : Nat) : Int))]) (fun _ => [box b3 [iv (bif (seq (gx ([(⟨[]⟩ : Str), (⟨[97, 100, 109, 105, 116]⟩ : Str), (⟨[115, 117, 98, 109, 105, 116]⟩ : Str), (⟨[115, 101, 119]⟩ : Str), (⟨[114, 111, 117, 110, 100]⟩ : Str), (⟨[121, 101, 97, 114]⟩ : Str), (⟨[108, 97, 99, 107]⟩ : Str)] : List Str) k1) (gx v1.1 0)) then ((k1 : Nat) : Int) else s1), iv 0, iv 0], box b1 [iv 0, iv 0, iv 0], box b2 [bs (⟨[]⟩ : Str), bs (⟨[97, 100, 109, 105, 116]⟩ : Str), bs (⟨[115, 117, 98, 109, 105, 116]⟩ : Str), bs (⟨[115, 101, 119]⟩ : Str), bs (⟨[114, 111, 117, 110, 100]⟩ : Str), bs (⟨[121, 101, 97, 114]⟩ : Str), bs (⟨[108, 97, 99, 107]⟩ : Str)], ownF (sl x1) v1.1]) ?_ ?_)))))))))))
 refine Zbn R (fun h3 => ?_) fun h3 => ?_
 exact wcg (mv R R (wlq (pof Zf8 R) R (wls (sbx (cs' := [iv ((k1 : Nat) : Int), iv 0, iv 0]) tk_3 pz R R R R R R R) (wln (wqm () trivial (su6 R R R R R R) (zc (by simp only [h3, cond_true]; exact pz) (zc pk1 so2)))))))
 exact wck (wqm () trivial (su6 R R R R R R) (zc (by simp only [h3, cond_false]; exact pz) (zc pk1 so2)))
 intro _ _
 refine wqb (wqt (wcg (wlq (Zj R R (by omega)) R ?_)))
 exact mv R R (wln (Zk hk1 (stpN l1 t1) () (su6 R R R R R R) (zc pz (zc pk1 so2))))
 have c1 : (decide (((k1 : Nat) : Int) < ((([(⟨[]⟩ : Str), (⟨[97, 100, 109, 105, 116]⟩ : Str), (⟨[115, 117, 98, 109, 105, 116]⟩ : Str), (⟨[115, 101, 119]⟩ : Str), (⟨[114, 111, 117, 110, 100]⟩ : Str), (⟨[121, 101, 97, 114]⟩ : Str), (⟨[108, 97, 99, 107]⟩ : Str)] : List Str).length : Nat) : Int))) = false := ddf (by omega)
 have en1 := foe l1 hk1
 exact wcr (wlq (pls R R) R (wnt (wcs (wff R c1 (wcx (wqe (wqe (wbx (wjm _ () (Sum.inl.inj en1) (su3 R R R) (zc pz (zc pk1 (zc pk1 zn))))))))))))
 intro e1 _ hp
 obtain rfl : e1 = y1 := hp.symm
 refine wqt (wcs (wcr (mv R R (gdO t0 fun g3 t0 => (wlq (ZiB (l := 1) (h := v1.1.length) (rgo pk2) ZaZ R (.inr ⟨_, R, R⟩) (.inl ⟨R, R⟩) g3.1 g3.2) R (wlq (pln (Zg7 (rgo pk2) g3.1 g3.2) ZaZ R) R (mv R R (wnt (gdO t0 fun g4 t0 => (sqO t0 fun y1 l1 t0 => (wj (J := Int × Int × Int) (X := Unit) (fun z => y1 = .inl z) (fun _ _ => [(2, ptr b1 0), (4, (sl x1)), (7, ptr b3 0)]) (fun z _ => [box b3 [iv z.1, iv z.2.1, iv z.2.2], box b1 [iv 0, iv 0, iv 0], ownF (sl x1) v1.1]) ?_ ?_)))))))))))
 refine wcb (wcf (X := Unit) l1 (fun k2 s2 x2l => [(2, ptr b1 0), (4, (sl x1)), (7, ptr b3 0), (48, (sl (slh x1 1 v1.1.length (Rep.sz Str)))), (49, iv ((((v1.1.drop 1).take (v1.1.length - 1)).length : Nat) : Int)), (50, iv ((k2 : Nat) : Int))]) (fun k2 s2 x2l => [box b3 [iv s2.1, iv s2.2.1, iv s2.2.2], box b1 [iv 0, iv 0, iv 0], ownF (sl x1) v1.1]) () (su6 R R R R R R) so3 fun k2 s2 x2l hN2 l1 => ?_)
 by_cases hk2 : k2 < ((v1.1.drop 1).take (v1.1.length - 1)).length
 refine fos l1 hk2 fun _ t1 l1 => ?_
 unfold Zax at t1
 have c2 : (decide (((k2 : Nat) : Int) < ((((v1.1.drop 1).take (v1.1.length - 1)).length : Nat) : Int))) = true := ddt (by omega)
 refine wcr (wlq (pls R R) R (wnt (wcs (wft R c2 (wck (wqt (wcs (wcb (wcr (mv R R (wlq (Zm (k := k2) (Zg7 (rgo pk2) g3.1 g3.2) ZaZ R R hk2) R (wlq (v := bs (gx ((v1.1.drop 1).take (v1.1.length - 1)) k2)) (Zw (Zg7 (rgo pk2) g3.1 g3.2) tk_9 R hk2 R) R (asg R R (asg R R (wnt (wcr (mv R R (bdO t1 fun v3 hv3 t1 => (wlc (cz0 Zxa R fun w hw => Zn6 w (hw.tab ht) (gx ((v1.1.drop 1).take (v1.1.length - 1)) k2) hv3) R fun _ => (mv R R (wlq (pex R R) R (wlq (pex R R) R (asg R R (asg R R (wnt (wcs (wcr (mv R R (wlq (Zd R) R (wnt (wcO t1 R (fun h4 t1 => ?_) fun h4 t1 => ?_)))))))))))))))))))))))))))))))
 refine wcr (wlq (Zl R ZmK) R (wls (sbx (cs' := [iv 0, iv 0, iv 0]) Za3 pk1 R R R R R R R) (asg R R (wnt (wct (wqr (wbr (wqr (wqr (wbr (wqr (wqr ?_))))))))))))
 replace t0 := lpR t0 l1 t1
 obtain rfl := oi t0
 exact Zx R Za3 R R pz R fun w hw => ⟨R, hw.weak zn⟩
 refine wck (wqt (wcr (mv R R (wlq (pol R R) R (wnt (wcj (X := Unit) (fun _ => True) (fun _ => [(2, ptr b1 0), (4, (sl x1)), (7, ptr b3 0), (48, (sl (slh x1 1 v1.1.length (Rep.sz Str)))), (49, iv ((((v1.1.drop 1).take (v1.1.length - 1)).length : Nat) : Int)), (50, iv ((k2 : Nat) : Int))]) (fun _ => [box b3 [iv ((bif (((k2 : Nat) : Int) == 0) then (GAct.mk s2.1 v3.1 s2.2.2) else (GAct.mk s2.1 s2.2.1 v3.1)).Kind), iv ((bif (((k2 : Nat) : Int) == 0) then (GAct.mk s2.1 v3.1 s2.2.2) else (GAct.mk s2.1 s2.2.1 v3.1)).A), iv ((bif (((k2 : Nat) : Int) == 0) then (GAct.mk s2.1 v3.1 s2.2.2) else (GAct.mk s2.1 s2.2.1 v3.1)).B)], box b1 [iv 0, iv 0, iv 0], ownF (sl x1) v1.1]) ?_ ?_))))))
 refine Zbn R (fun h5 => ?_) fun h5 => ?_
 exact wcg (mv R R (wlq (pof ZaU R) R (wls (sbx (cs' := [iv s2.1, iv v3.1, iv s2.2.2]) tk_3 pz R R R R R R R) (wln (wqm () trivial (su6 R R R R R R) (zc (by simp only [h5, cond_true]; exact pz) so2))))))
 exact wcg (mv R R (wlq (pof Zc5 R) R (wls (sbx (cs' := [iv s2.1, iv s2.2.1, iv v3.1]) tk_3 pz R R R R R R R) (wln (wqm () trivial (su6 R R R R R R) (zc (by simp only [h5, cond_false]; exact pz) so2))))))
 intro _ _
 refine wqb (wqt (wcg (wlq (Zj R R (by omega)) R ?_)))
 exact mv R R (wln (Zk hk2 (stpN l1 t1) () (su6 R R R R R R) so3))
 have c2 : (decide (((k2 : Nat) : Int) < ((((v1.1.drop 1).take (v1.1.length - 1)).length : Nat) : Int))) = false := ddf (by omega)
 have en2 := foe l1 hk2
 exact wcr (wlq (pls R R) R (wnt (wcs (wff R c2 (wcx (wqe (wqe (wbx (wjm _ () en2 (su3 R R R) so3)))))))))
 intro e2 _ hp
 replace t0 := sqE (j := e2) t0 hp
 refine wqt (wcs (wcr (wlq (v := .agg #[iv e2.1, iv e2.2.1, iv e2.2.2]) (plb Za3 pz R R R) R (bdO t0 fun v4 hv4 t0 => (wlc (cz0 ZwO R fun w hw => Zoe w (hw.tab ht) (GAct.mk e2.1 e2.2.1 e2.2.2) hv4) R fun _ => (mv R R (wlq (pex R R) R (wlq (pex R R) R (asg R R (asg R R (wnt (wcs (bdO t0 fun y1 t1 t0 => (wj (J := Bool) (X := Unit) (fun z => y1 = z) (fun z _ => [(2, ptr b1 0), (7, ptr b3 0), (82, .bool z)]) (fun _ _ => [box b3 [iv e2.1, iv e2.2.1, iv e2.2.2], box b1 [iv 0, iv 0, iv 0]]) ?_ ?_))))))))))))))
 refine wcg (mv R R (wlq (Zd R) R (mv R R (wlo (t := 77) t1 R (fun h6 t1 => ?_) fun h6 t1 => ?_))))
 exact wgf (j := 2) R R R R R (wgf (j := 2) R R R R R (wgf (j := 2) R R R R R (wgf (j := 2) R R R R R (wlq (pit R R) R (wln (wjm _ () (mtE t1) (su3 R R R) so2))))))
 exact wgn (j := 2) R R R (mv R R (wgn (j := 2) R R R (mv R R (bdO t1 fun v5 hv5 t1 => (wgn (j := 2) R R R (wlc (cz0 ZqY R fun w hw => Zhc w v1.1 x1 (Rg.on (rgo pk2) hw) (⟨[32]⟩ : Str) hv5) R (fun _ => (wgn (j := 2) R R R (wlq (ZkU R R) R (wlq (pif R R) R (wln (wjm _ () (mtE t1) (su3 R R R) so2))))))))))))
 intro j4 _ hp
 obtain rfl : j4 = y1 := hp.symm
 refine wqt (wcO t0 R (fun h7 t0 => ?_) fun h7 t0 => ?_)
 refine wcr (wlq (Zl R ZmK) R (wls (sbx (cs' := [iv 0, iv 0, iv 0]) Za3 pk1 R R R R R R R) (asg R R (wnt (wct (wqr ?_))))))
 obtain rfl := oi t0
 exact Zx R Za3 R R pz R fun w hw => ⟨R, hw.weak zn⟩
 refine wck (wqt (wcr (wlq (v := .agg #[iv e2.1, iv e2.2.1, iv e2.2.2]) (plb Za3 pz R R R) R (wls (sbx (cs' := [iv e2.1, iv e2.2.1, iv e2.2.2]) Za3 pk1 R R R R R R R) (asg R R (wnt (wct ?_)))))))
 obtain rfl := oi t0
 exact Zx R Za3 R R pz R fun w hw => ⟨R, hw.weak zn⟩

theorem ZcK (w : World) (a_list : List GMember) (v0a : Hd) (r0 : rdF w (dm w []) (sl v0a) a_list) {r : Bool} (t0 : Zbd a_list = some r) : Calls Tryz.prog 81 #[(sl v0a)] w fun e w' => e = .returned (.bool r) ∧ SH w [] [] w' := by
 refine cwc (args := [_]) Tryz.func81 R Tryz.ntmps81 R ?_
 unfold Zbd at t0
 refine wcr (asg R R (wnt (wcs (wcr (mv R R (wlq (pln (rga r0) Zat R) R (mv R R (wnt (gdO t0 fun g1 t0 => (sqO t0 fun y1 l1 t0 => (wj (J := Unit) (X := Unit) (fun z => y1 = .inl z) (fun _ _ => [(0, (sl v0a))]) (fun _ _ => []) ?_ ?_)))))))))))
 refine wcb (wcf (X := Unit) l1 (fun k1 s1 x1l => [(0, (sl v0a)), (5, (sl v0a)), (6, iv ((a_list.length : Nat) : Int)), (7, iv ((k1 : Nat) : Int))]) (fun k1 s1 x1l => []) () (su4 R R R R) zn fun k1 s1 x1l hN1 l1 => ?_)
 by_cases hk1 : k1 < a_list.length
 refine fos l1 hk1 fun _ t1 l1 => ?_
 unfold ZeB at t1
 have c1 : (decide (((k1 : Nat) : Int) < ((a_list.length : Nat) : Int))) = true := ddt (by omega)
 refine wcr (wlq (pls R R) R (wnt (wcs (wft R c1 (wck (wqt (wcs (wcb (wcr (mv R R (wlq (Zm (k := k1) (rga r0) Zat R R hk1) R (wlq (v := .agg #[iv ((gx a_list k1).Number), iv ((gx a_list k1).Since), iv ((gx a_list k1).Paid)]) (Zaw (rga r0) ZiO R hk1 R R R) R (wle (eal (cs := [iv 0, iv 0, iv 0]) Zpv) R fun b1 => (asg R R (wls (sbx (cs' := [iv ((gx a_list k1).Number), iv ((gx a_list k1).Since), iv ((gx a_list k1).Paid)]) ZiO pz R R R R R R R) (wnt (wcs (bdO t1 fun y2 t2 t1 => (wj (J := Bool) (X := Unit) (fun z => y2 = z) (fun z _ => [(0, (sl v0a)), (5, (sl v0a)), (6, iv ((a_list.length : Nat) : Int)), (7, iv ((k1 : Nat) : Int)), (45, .bool z)]) (fun _ _ => []) ?_ ?_)))))))))))))))))))
 refine wcd [box b1 [iv ((gx a_list k1).Number), iv ((gx a_list k1).Since), iv ((gx a_list k1).Paid)]] 34 mixed (aq 0 R (pof Zcq R) so1 R (aq (v := iv ((gx a_list k1).Number)) 1 R (plx tk_3 pz R R) so1 R (a1 2 (bdO t2 fun v1 hv1 t2 => (wsc R (cz0 ZaH R fun w hw => Zq w ((gx a_list k1).Number) 1 999 hv1) (fun _ => (zt so1)) R fun _ => (aq 3 R (Zd R) so1 R (aq 4 R (pom R) so1 R (waO_ (t := 16) t2 R (fun h1 t2 => ?_) fun h1 t2 => ?_))))))))
 exact af 5 4 R R R R R so1 R (af 6 4 R R R R R so1 R (af 7 4 R R R R R so1 R (au 8 7 R R R R so1 R (au 9 7 R R R R so1 R (au 10 7 R R R R so1 R (au 11 7 R R R R so1 R (au 12 7 R R R R so1 R (au 13 7 R R R R so1 R (au 14 7 R R R R so1 R (au 15 7 R R R R so1 R (au 16 7 R R R R so1 R (af 17 4 R R R R R so1 R (aq 18 R (pit R R) so1 R (aq 19 R (pom R) so1 R (af 20 19 R R R R R so1 R (af 21 19 R R R R R so1 R (af 22 19 R R R R R so1 R (af 23 19 R R R R R so1 R (aq 24 R (pit R R) so1 R (aq 25 R (pom R) so1 R (af 26 25 R R R R R so1 R (af 27 25 R R R R R so1 R (af 28 25 R R R R R so1 R (af 29 25 R R R R R so1 R (af 30 25 R R R R R so1 R (af 31 25 R R R R R so1 R (af 32 25 R R R R R so1 R (aq 33 R (pit R R) so1 R (ae (wjm _ () (mtE t2) (su5 R R R R R) zn))))))))))))))))))))))))))))))
 refine an 5 4 R R R R (pom R) so1 R (an 6 4 R R R R (Zad R R) so1 R (an 7 4 R R R R (pom R) so1 R (waO_ (t := 19) t2 R (fun h2 t2 => ?_) fun h2 t2 => ?_)))
 refine an 8 7 R R R R (pof Zcq R) so1 R (an (v := iv ((gx a_list k1).Number)) 9 7 R R R R (plx tk_3 pz R R) so1 R (an 10 7 R R R R (pom R) so1 R (an 11 7 R R R R (pom R) so1 R (an 12 7 R R R R (Zaa R R) so1 R (gdO t2 fun g2 t2 => (an 13 7 R R R R (ZX (rga r0) Zat R R g2.1 g2.2) so1 R (an 14 7 R R R R (Z5 (rga r0) (ZD g2) Zcq R) so1 R (an (v := iv ((gx a_list (((wr (((k1 : Nat) : Int) - 1))).toNat)).Number)) 15 7 R R R R (Zw (rga r0) tk_3 R (ZD g2) R) so1 R (an 16 7 R R R R (ZbQ R R) so1 R (an 17 4 R R R R (pit R R) so1 R (aq 18 R (pif R R) so1 R (aq 19 R (pom R) so1 R (waO_ (t := 31) t2 R (fun h3 t2 => ?_) fun h3 t2 => ?_)))))))))))))
 exact af 20 19 R R R R R so1 R (af 21 19 R R R R R so1 R (af 22 19 R R R R R so1 R (af 23 19 R R R R R so1 R (aq 24 R (pit R R) so1 R (aq 25 R (pom R) so1 R (af 26 25 R R R R R so1 R (af 27 25 R R R R R so1 R (af 28 25 R R R R R so1 R (af 29 25 R R R R R so1 R (af 30 25 R R R R R so1 R (af 31 25 R R R R R so1 R (af 32 25 R R R R R so1 R (aq 33 R (pit R R) so1 R (ae (wjm _ () (mtE t2) (su5 R R R R R) zn)))))))))))))))
 refine an 20 19 R R R R (pof Zjx R) so1 R (an (v := iv ((gx a_list k1).Since)) 21 19 R R R R (plx tk_3 pz R R) so1 R (a1 22 (bdO t2 fun v2 hv2 t2 => (ZL (j := 19) R R R R (cz0 ZaH R fun w hw => Zq w ((gx a_list k1).Since) 1900 2999 hv2) (fun _ => (zt so1)) R fun _ => (an 23 19 R R R R (Zd R) so1 R (aq 24 R (pif R R) so1 R (aq 25 R (pom R) so1 R (waO_ (t := 37) t2 R (fun h4 t2 => ?_) fun h4 t2 => ?_))))))))
 exact af 26 25 R R R R R so1 R (af 27 25 R R R R R so1 R (af 28 25 R R R R R so1 R (af 29 25 R R R R R so1 R (af 30 25 R R R R R so1 R (af 31 25 R R R R R so1 R (af 32 25 R R R R R so1 R (aq 33 R (pit R R) so1 R (ae (wjm _ () (mtE t2) (su5 R R R R R) zn)))))))))
 exact an 26 25 R R R R (pof Zg5 R) so1 R (an (v := iv ((gx a_list k1).Paid)) 27 25 R R R R (plx tk_3 pz R R) so1 R (an 28 25 R R R R (pof Zjx R) so1 R (an (v := iv ((gx a_list k1).Since)) 29 25 R R R R (plx tk_3 pz R R) so1 R (an 30 25 R R R R (Zaa R R) so1 R (a1 31 (bdO t2 fun v3 hv3 t2 => (ZL (j := 25) R R R R (cz0 ZaH R fun w hw => Zq w ((gx a_list k1).Paid) (wr ((gx a_list k1).Since - 1)) 2999 hv3) (fun _ => (zt so1)) R fun _ => (an 32 25 R R R R (Zd R) so1 R (aq 33 R (pif R R) so1 R (ae (wjm _ () (mtE t2) (su5 R R R R R) zn)))))))))))
 refine af 8 7 R R R R R so1 R (af 9 7 R R R R R so1 R (af 10 7 R R R R R so1 R (af 11 7 R R R R R so1 R (af 12 7 R R R R R so1 R (af 13 7 R R R R R so1 R (af 14 7 R R R R R so1 R (af 15 7 R R R R R so1 R (af 16 7 R R R R R so1 R (an 17 4 R R R R (pif R R) so1 R (aq 18 R (pif R R) so1 R (aq 19 R (pom R) so1 R (an 20 19 R R R R (pof Zjx R) so1 R (an (v := iv ((gx a_list k1).Since)) 21 19 R R R R (plx tk_3 pz R R) so1 R (a1 22 (bdO t2 fun v4 hv4 t2 => (ZL (j := 19) R R R R (cz0 ZaH R fun w hw => Zq w ((gx a_list k1).Since) 1900 2999 hv4) (fun _ => (zt so1)) R fun _ => (an 23 19 R R R R (Zd R) so1 R (aq 24 R (pif R R) so1 R (aq 25 R (pom R) so1 R (waO_ (t := 37) t2 R (fun h5 t2 => ?_) fun h5 t2 => ?_))))))))))))))))))))
 exact af 26 25 R R R R R so1 R (af 27 25 R R R R R so1 R (af 28 25 R R R R R so1 R (af 29 25 R R R R R so1 R (af 30 25 R R R R R so1 R (af 31 25 R R R R R so1 R (af 32 25 R R R R R so1 R (aq 33 R (pit R R) so1 R (ae (wjm _ () (mtE t2) (su5 R R R R R) zn)))))))))
 exact an 26 25 R R R R (pof Zg5 R) so1 R (an (v := iv ((gx a_list k1).Paid)) 27 25 R R R R (plx tk_3 pz R R) so1 R (an 28 25 R R R R (pof Zjx R) so1 R (an (v := iv ((gx a_list k1).Since)) 29 25 R R R R (plx tk_3 pz R R) so1 R (an 30 25 R R R R (Zaa R R) so1 R (a1 31 (bdO t2 fun v5 hv5 t2 => (ZL (j := 25) R R R R (cz0 ZaH R fun w hw => Zq w ((gx a_list k1).Paid) (wr ((gx a_list k1).Since - 1)) 2999 hv5) (fun _ => (zt so1)) R fun _ => (an 32 25 R R R R (Zd R) so1 R (aq 33 R (pif R R) so1 R (ae (wjm _ () (mtE t2) (su5 R R R R R) zn)))))))))))
 intro j1 _ hp
 obtain rfl : j1 = y2 := hp.symm
 refine wqt (wcO t1 R (fun h6 t1 => ?_) fun h6 t1 => ?_)
 refine wcr (asg R R (wnt (wct (wbr (wqr (wqr (wbr (wqr (wqr ?_)))))))))
 replace t0 := lpR t0 l1 t1
 obtain rfl := oi t0
 exact wq1 R R fun w hw => ⟨R, hw.weak zn⟩
 refine wck (wqb (wqt (wcg (wlq (Zj R R (by omega)) R ?_))))
 exact mv R R (wln (Zk hk1 (stpN l1 t1) () (su4 R R R R) zn))
 have c1 : (decide (((k1 : Nat) : Int) < ((a_list.length : Nat) : Int))) = false := ddf (by omega)
 have en1 := foe l1 hk1
 exact wcr (wlq (pls R R) R (wnt (wcs (wff R c1 (wcx (wqe (wqe (wbx (wjm _ () en1 (su1 R) zn)))))))))
 intro e1 _ hp
 replace t0 := sqE (j := e1) t0 hp
 refine wqt (wcr (mv R R (wlq (pln (rga r0) Zat R) R (wlq (ZbQ R R) R (asg R R (wnt (wct ?_)))))))
 obtain rfl := oi t0
 exact wq1 R R fun w hw => ⟨R, hw.weak zn⟩

theorem ZhT (w : World) (a_list : List Int) (v0a : Hd) (r0 : rdF w (dm w []) (sl v0a) a_list) (a_a : Int) (a_b : Int) {r : Bool} (t0 : ZbG a_list a_a a_b = some r) : Calls Tryz.prog 116 #[(sl v0a), .int .i64 a_a, .int .i64 a_b] w fun e w' => e = .returned (.bool r) ∧ SH w [] [] w' := by
 refine cwc (args := [_, _, _]) Tryz.func116 R Tryz.ntmps116 R ?_
 unfold ZbG at t0
 refine wcr (asg R R (wnt (wcs (wcr (mv R R (wlq (pln (rga r0) Zy R) R (mv R R (wnt (gdO t0 fun g1 t0 => (sqO t0 fun y1 l1 t0 => (wj (J := Unit) (X := Unit) (fun z => y1 = .inl z) (fun _ _ => []) (fun _ _ => []) ?_ ?_)))))))))))
 refine wcb (wcf (X := Unit) l1 (fun k1 s1 x1l => [(1, iv a_a), (2, iv a_b), (9, (sl v0a)), (10, iv ((a_list.length : Nat) : Int)), (11, iv ((k1 : Nat) : Int))]) (fun k1 s1 x1l => []) () (su5 R R R R R) zn fun k1 s1 x1l hN1 l1 => ?_)
 by_cases hk1 : k1 < a_list.length
 refine fos l1 hk1 fun _ t1 l1 => ?_
 unfold Zcu at t1
 have c1 : (decide (((k1 : Nat) : Int) < ((a_list.length : Nat) : Int))) = true := ddt (by omega)
 refine wcr (wlq (pls R R) R (wnt (wcs (wft R c1 (wck (wqt (wcs (wcb (wcr (wlq (Zm (k := k1) (rga r0) Zy R R hk1) R (wlq (v := iv (gx a_list k1)) (Zw (rga r0) tk_3 R hk1 R) R (asg R R (wnt (wcr (mv R R (mv R R (mv R R (bdO t1 fun v1 hv1 t1 => (wlc (cz0 ZaH R fun w hw => Zq w (gx a_list k1) a_a a_b hv1) R fun _ => (wlq (Zd R) R (wnt (wcO t1 R (fun h1 t1 => ?_) fun h1 t1 => ?_))))))))))))))))))))))
 refine wcr (asg R R (wnt (wct (wbr (wqr (wqr (wbr (wqr (wqr ?_)))))))))
 replace t0 := lpR t0 l1 t1
 obtain rfl := oi t0
 exact wq1 R R fun w hw => ⟨R, hw.weak zn⟩
 refine wck (wqb (wqt (wcg (wlq (Zj R R (by omega)) R ?_))))
 exact mv R R (wln (Zk hk1 (stpN l1 t1) () (su5 R R R R R) zn))
 have c1 : (decide (((k1 : Nat) : Int) < ((a_list.length : Nat) : Int))) = false := ddf (by omega)
 have en1 := foe l1 hk1
 exact wcr (wlq (pls R R) R (wnt (wcs (wff R c1 (wcx (wqe (wqe (wbx (wjm _ () en1 yn zn)))))))))
 intro e1 _ hp
 replace t0 := sqE (j := e1) t0 hp
 refine wqt (wcr (asg R R (wnt (wct ?_))))
 obtain rfl := oi t0
 exact wq1 R R fun w hw => ⟨R, hw.weak zn⟩

theorem Zhg (w : World) (a_stock : List Int) (v0a : Hd) (r0 : rdF w (dm w []) (sl v0a) a_stock) {r : Bool} (t0 : Zc0 a_stock = some r) : Calls Tryz.prog 82 #[(sl v0a)] w fun e w' => e = .returned (.bool r) ∧ SH w [] [] w' := by
 refine cwc (args := [_]) Tryz.func82 R Tryz.ntmps82 R ?_
 unfold Zc0 at t0
 refine wcr (asg R R (wnt (wcs (bdO t0 fun y1 t1 t0 => (wj (J := Bool) (X := Unit) (fun z => y1 = z) (fun z _ => [(2, .bool z)]) (fun _ _ => []) ?_ ?_)))))
 refine wcg (mv R R (wlq (pln (rga r0) Zy R) R (wlq (pol R R) R (mv R R (wlo (t := 6) t1 R (fun h1 t1 => ?_) fun h1 t1 => ?_)))))
 exact wgn (j := 3) R R R (mv R R (bdO t1 fun v1 hv1 t1 => (wgn (j := 3) R R R (wlc (cz0 Zrk R fun w hw => ZhT w a_stock v0a (ra r0 hw) 0 1000000 hv1) R (fun _ => (wlq (pit R R) R (asg R R (wln (wjm _ () (mtE t1) (su1 R) zn)))))))))
 exact wgf (j := 3) R R R R R (wgf (j := 3) R R R R R (wlq (pif R R) R (asg R R (wln (wjm _ () (mtE t1) (su1 R) zn)))))
 intro j1 _ hp
 obtain rfl : j1 = y1 := hp.symm
 refine wqt (wct ?_)
 obtain rfl := oi t0
 exact wq1 R R fun w hw => ⟨R, hw.weak zn⟩

theorem Zig (w : World) (a_list : List GBooking) (v0a : Hd) (r0 : rdF w (dm w []) (sl v0a) a_list) {r : Bool} (t0 : Zdd a_list = some r) : Calls Tryz.prog 83 #[(sl v0a)] w fun e w' => e = .returned (.bool r) ∧ SH w [] [] w' := by
 refine cwc (args := [_]) Tryz.func83 R Tryz.ntmps83 R ?_
 unfold Zdd at t0
 refine wcr (asg R R (wnt (wcs (wcr (mv R R (wlq (pln (rga r0) Zgx R) R (mv R R (wnt (gdO t0 fun g1 t0 => (sqO t0 fun y1 l1 t0 => (wj (J := Unit) (X := Unit) (fun z => y1 = .inl z) (fun _ _ => [(0, (sl v0a))]) (fun _ _ => []) ?_ ?_)))))))))))
 refine wcb (wcf (X := Unit) l1 (fun k1 s1 x1l => [(0, (sl v0a)), (5, (sl v0a)), (6, iv ((a_list.length : Nat) : Int)), (7, iv ((k1 : Nat) : Int))]) (fun k1 s1 x1l => []) () (su4 R R R R) zn fun k1 s1 x1l hN1 l1 => ?_)
 by_cases hk1 : k1 < a_list.length
 refine fos l1 hk1 fun _ t1 l1 => ?_
 unfold ZfF at t1
 have c1 : (decide (((k1 : Nat) : Int) < ((a_list.length : Nat) : Int))) = true := ddt (by omega)
 refine wcr (wlq (pls R R) R (wnt (wcs (wft R c1 (wck (wqt (wcs (wcb (wcr (mv R R (wlq (Zm (k := k1) (rga r0) Zgx R R hk1) R (wlq (v := .agg #[iv ((gx a_list k1).Day), iv ((gx a_list k1).From), iv ((gx a_list k1).To), iv ((gx a_list k1).Sum)]) (Zaw (rga r0) ZmJ R hk1 R R R) R (wle (eal (cs := [iv 0, iv 0, iv 0, iv 0]) ZuJ) R fun b1 => (asg R R (wls (sbx (cs' := [iv ((gx a_list k1).Day), iv ((gx a_list k1).From), iv ((gx a_list k1).To), iv ((gx a_list k1).Sum)]) ZmJ pz R R R R R R R) (wnt (wcs (bdO t1 fun y2 t2 t1 => (wj (J := Bool) (X := Unit) (fun z => y2 = z) (fun z _ => [(0, (sl v0a)), (5, (sl v0a)), (6, iv ((a_list.length : Nat) : Int)), (7, iv ((k1 : Nat) : Int)), (55, .bool z)]) (fun _ _ => []) ?_ ?_)))))))))))))))))))
 refine wcd [box b1 [iv ((gx a_list k1).Day), iv ((gx a_list k1).From), iv ((gx a_list k1).To), iv ((gx a_list k1).Sum)]] 44 mixed (aq 0 R (pof Zh0 R) so1 R (aq (v := iv ((gx a_list k1).Day)) 1 R (plx tk_3 pz R R) so1 R (a1 2 (bdO t2 fun v1 hv1 t2 => (wsc R (cz0 ZaH R fun w hw => Zq w ((gx a_list k1).Day) 0 9999 hv1) (fun _ => (zt so1)) R fun _ => (aq 3 R (Zd R) so1 R (aq 4 R (pom R) so1 R (waO_ (t := 16) t2 R (fun h1 t2 => ?_) fun h1 t2 => ?_))))))))
 refine af 5 4 R R R R R so1 R (af 6 4 R R R R R so1 R (af 7 4 R R R R R so1 R (au 8 7 R R R R so1 R (au 9 7 R R R R so1 R (au 10 7 R R R R so1 R (au 11 7 R R R R so1 R (au 12 7 R R R R so1 R (au 13 7 R R R R so1 R (au 14 7 R R R R so1 R (au 15 7 R R R R so1 R (au 16 7 R R R R so1 R (af 17 4 R R R R R so1 R (aq 18 R (pit R R) so1 R (aq 19 R (pom R) so1 R (af 20 19 R R R R R so1 R (af 21 19 R R R R R so1 R (af 22 19 R R R R R so1 R (af 23 19 R R R R R so1 R (aq 24 R (pit R R) so1 R (aq 25 R (pom R) so1 R (af 26 25 R R R R R so1 R (af 27 25 R R R R R so1 R (af 28 25 R R R R R so1 R (af 29 25 R R R R R so1 R (aq 30 R (pit R R) so1 R (aq 31 R (pom R) so1 R (af 32 31 R R R R R so1 R (af 33 31 R R R R R so1 R (af 34 31 R R R R R so1 R (af 35 31 R R R R R so1 R (af 36 31 R R R R R so1 R (aq 37 R (pit R R) so1 R (aq 38 R (pom R) so1 R (af 39 38 R R R R R so1 R (af 40 38 R R R R R so1 R (af 41 38 R R R R R so1 R (af 42 38 R R R R R so1 R (aq 43 R (pit R R) so1 R (ae ?_)))))))))))))))))))))))))))))))))))))))
 exact wjm _ () (mtE t2) (su5 R R R R R) zn
 refine an 5 4 R R R R (pom R) so1 R (an 6 4 R R R R (Zad R R) so1 R (an 7 4 R R R R (pom R) so1 R (waO_ (t := 19) t2 R (fun h2 t2 => ?_) fun h2 t2 => ?_)))
 refine an 8 7 R R R R (pof Zh0 R) so1 R (an (v := iv ((gx a_list k1).Day)) 9 7 R R R R (plx tk_3 pz R R) so1 R (an 10 7 R R R R (pom R) so1 R (an 11 7 R R R R (pom R) so1 R (an 12 7 R R R R (Zaa R R) so1 R (gdO t2 fun g2 t2 => (an 13 7 R R R R (ZX (rga r0) Zgx R R g2.1 g2.2) so1 R (an 14 7 R R R R (Z5 (rga r0) (ZD g2) Zh0 R) so1 R (an (v := iv ((gx a_list (((wr (((k1 : Nat) : Int) - 1))).toNat)).Day)) 15 7 R R R R (Zw (rga r0) tk_3 R (ZD g2) R) so1 R (an 16 7 R R R R (pls R R) so1 R (an 17 4 R R R R (pit R R) so1 R (aq 18 R (pif R R) so1 R (aq 19 R (pom R) so1 R (waO_ (t := 31) t2 R (fun h3 t2 => ?_) fun h3 t2 => ?_)))))))))))))
 exact af 20 19 R R R R R so1 R (af 21 19 R R R R R so1 R (af 22 19 R R R R R so1 R (af 23 19 R R R R R so1 R (aq 24 R (pit R R) so1 R (aq 25 R (pom R) so1 R (af 26 25 R R R R R so1 R (af 27 25 R R R R R so1 R (af 28 25 R R R R R so1 R (af 29 25 R R R R R so1 R (aq 30 R (pit R R) so1 R (aq 31 R (pom R) so1 R (af 32 31 R R R R R so1 R (af 33 31 R R R R R so1 R (af 34 31 R R R R R so1 R (af 35 31 R R R R R so1 R (af 36 31 R R R R R so1 R (aq 37 R (pit R R) so1 R (aq 38 R (pom R) so1 R (af 39 38 R R R R R so1 R (af 40 38 R R R R R so1 R (af 41 38 R R R R R so1 R (af 42 38 R R R R R so1 R (aq 43 R (pit R R) so1 R (ae (wjm _ () (mtE t2) (su5 R R R R R) zn)))))))))))))))))))))))))
 refine an 20 19 R R R R (pof Zjz R) so1 R (an (v := iv ((gx a_list k1).From)) 21 19 R R R R (plx tk_3 pz R R) so1 R (a1 22 (bdO t2 fun v2 hv2 t2 => (ZL (j := 19) R R R R (cz0 ZaH R fun w hw => Zq w ((gx a_list k1).From) 0 4 hv2) (fun _ => (zt so1)) R fun _ => (an 23 19 R R R R (Zd R) so1 R (aq 24 R (pif R R) so1 R (aq 25 R (pom R) so1 R (waO_ (t := 37) t2 R (fun h4 t2 => ?_) fun h4 t2 => ?_))))))))
 exact af 26 25 R R R R R so1 R (af 27 25 R R R R R so1 R (af 28 25 R R R R R so1 R (af 29 25 R R R R R so1 R (aq 30 R (pit R R) so1 R (aq 31 R (pom R) so1 R (af 32 31 R R R R R so1 R (af 33 31 R R R R R so1 R (af 34 31 R R R R R so1 R (af 35 31 R R R R R so1 R (af 36 31 R R R R R so1 R (aq 37 R (pit R R) so1 R (aq 38 R (pom R) so1 R (af 39 38 R R R R R so1 R (af 40 38 R R R R R so1 R (af 41 38 R R R R R so1 R (af 42 38 R R R R R so1 R (aq 43 R (pit R R) so1 R (ae (wjm _ () (mtE t2) (su5 R R R R R) zn)))))))))))))))))))
 refine an 26 25 R R R R (pof Zjy R) so1 R (an (v := iv ((gx a_list k1).To)) 27 25 R R R R (plx tk_3 pz R R) so1 R (a1 28 (bdO t2 fun v3 hv3 t2 => (ZL (j := 25) R R R R (cz0 ZaH R fun w hw => Zq w ((gx a_list k1).To) 0 4 hv3) (fun _ => (zt so1)) R fun _ => (an 29 25 R R R R (Zd R) so1 R (aq 30 R (pif R R) so1 R (aq 31 R (pom R) so1 R (waO_ (t := 43) t2 R (fun h5 t2 => ?_) fun h5 t2 => ?_))))))))
 exact af 32 31 R R R R R so1 R (af 33 31 R R R R R so1 R (af 34 31 R R R R R so1 R (af 35 31 R R R R R so1 R (af 36 31 R R R R R so1 R (aq 37 R (pit R R) so1 R (aq 38 R (pom R) so1 R (af 39 38 R R R R R so1 R (af 40 38 R R R R R so1 R (af 41 38 R R R R R so1 R (af 42 38 R R R R R so1 R (aq 43 R (pit R R) so1 R (ae (wjm _ () (mtE t2) (su5 R R R R R) zn)))))))))))))
 refine an 32 31 R R R R (pof Zjz R) so1 R (an (v := iv ((gx a_list k1).From)) 33 31 R R R R (plx tk_3 pz R R) so1 R (an 34 31 R R R R (pof Zjy R) so1 R (an (v := iv ((gx a_list k1).To)) 35 31 R R R R (plx tk_3 pz R R) so1 R (an 36 31 R R R R (pol R R) so1 R (aq 37 R (pif R R) so1 R (aq 38 R (pom R) so1 R (waO_ (t := 50) t2 R (fun h6 t2 => ?_) fun h6 t2 => ?_)))))))
 exact af 39 38 R R R R R so1 R (af 40 38 R R R R R so1 R (af 41 38 R R R R R so1 R (af 42 38 R R R R R so1 R (aq 43 R (pit R R) so1 R (ae (wjm _ () (mtE t2) (su5 R R R R R) zn))))))
 exact an 39 38 R R R R (pof ZpE R) so1 R (an (v := iv ((gx a_list k1).Sum)) 40 38 R R R R (plx tk_3 pz R R) so1 R (a1 41 (bdO t2 fun v4 hv4 t2 => (ZL (j := 38) R R R R (cz0 ZaH R fun w hw => Zq w ((gx a_list k1).Sum) 1 100000 hv4) (fun _ => (zt so1)) R fun _ => (an 42 38 R R R R (Zd R) so1 R (aq 43 R (pif R R) so1 R (ae (wjm _ () (mtE t2) (su5 R R R R R) zn))))))))
 refine af 8 7 R R R R R so1 R (af 9 7 R R R R R so1 R (af 10 7 R R R R R so1 R (af 11 7 R R R R R so1 R (af 12 7 R R R R R so1 R (af 13 7 R R R R R so1 R (af 14 7 R R R R R so1 R (af 15 7 R R R R R so1 R (af 16 7 R R R R R so1 R (an 17 4 R R R R (pif R R) so1 R (aq 18 R (pif R R) so1 R (aq 19 R (pom R) so1 R (an 20 19 R R R R (pof Zjz R) so1 R (an (v := iv ((gx a_list k1).From)) 21 19 R R R R (plx tk_3 pz R R) so1 R (a1 22 (bdO t2 fun v5 hv5 t2 => (ZL (j := 19) R R R R (cz0 ZaH R fun w hw => Zq w ((gx a_list k1).From) 0 4 hv5) (fun _ => (zt so1)) R fun _ => (an 23 19 R R R R (Zd R) so1 R (aq 24 R (pif R R) so1 R (aq 25 R (pom R) so1 R (waO_ (t := 37) t2 R (fun h7 t2 => ?_) fun h7 t2 => ?_))))))))))))))))))))
 exact af 26 25 R R R R R so1 R (af 27 25 R R R R R so1 R (af 28 25 R R R R R so1 R (af 29 25 R R R R R so1 R (aq 30 R (pit R R) so1 R (aq 31 R (pom R) so1 R (af 32 31 R R R R R so1 R (af 33 31 R R R R R so1 R (af 34 31 R R R R R so1 R (af 35 31 R R R R R so1 R (af 36 31 R R R R R so1 R (aq 37 R (pit R R) so1 R (aq 38 R (pom R) so1 R (af 39 38 R R R R R so1 R (af 40 38 R R R R R so1 R (af 41 38 R R R R R so1 R (af 42 38 R R R R R so1 R (aq 43 R (pit R R) so1 R (ae (wjm _ () (mtE t2) (su5 R R R R R) zn)))))))))))))))))))
 refine an 26 25 R R R R (pof Zjy R) so1 R (an (v := iv ((gx a_list k1).To)) 27 25 R R R R (plx tk_3 pz R R) so1 R (a1 28 (bdO t2 fun v6 hv6 t2 => (ZL (j := 25) R R R R (cz0 ZaH R fun w hw => Zq w ((gx a_list k1).To) 0 4 hv6) (fun _ => (zt so1)) R fun _ => (an 29 25 R R R R (Zd R) so1 R (aq 30 R (pif R R) so1 R (aq 31 R (pom R) so1 R (waO_ (t := 43) t2 R (fun h8 t2 => ?_) fun h8 t2 => ?_))))))))
 exact af 32 31 R R R R R so1 R (af 33 31 R R R R R so1 R (af 34 31 R R R R R so1 R (af 35 31 R R R R R so1 R (af 36 31 R R R R R so1 R (aq 37 R (pit R R) so1 R (aq 38 R (pom R) so1 R (af 39 38 R R R R R so1 R (af 40 38 R R R R R so1 R (af 41 38 R R R R R so1 R (af 42 38 R R R R R so1 R (aq 43 R (pit R R) so1 R (ae (wjm _ () (mtE t2) (su5 R R R R R) zn)))))))))))))
 refine an 32 31 R R R R (pof Zjz R) so1 R (an (v := iv ((gx a_list k1).From)) 33 31 R R R R (plx tk_3 pz R R) so1 R (an 34 31 R R R R (pof Zjy R) so1 R (an (v := iv ((gx a_list k1).To)) 35 31 R R R R (plx tk_3 pz R R) so1 R (an 36 31 R R R R (pol R R) so1 R (aq 37 R (pif R R) so1 R (aq 38 R (pom R) so1 R (waO_ (t := 50) t2 R (fun h9 t2 => ?_) fun h9 t2 => ?_)))))))
 exact af 39 38 R R R R R so1 R (af 40 38 R R R R R so1 R (af 41 38 R R R R R so1 R (af 42 38 R R R R R so1 R (aq 43 R (pit R R) so1 R (ae (wjm _ () (mtE t2) (su5 R R R R R) zn))))))
 exact an 39 38 R R R R (pof ZpE R) so1 R (an (v := iv ((gx a_list k1).Sum)) 40 38 R R R R (plx tk_3 pz R R) so1 R (a1 41 (bdO t2 fun v7 hv7 t2 => (ZL (j := 38) R R R R (cz0 ZaH R fun w hw => Zq w ((gx a_list k1).Sum) 1 100000 hv7) (fun _ => (zt so1)) R fun _ => (an 42 38 R R R R (Zd R) so1 R (aq 43 R (pif R R) so1 R (ae (wjm _ () (mtE t2) (su5 R R R R R) zn))))))))
 intro j1 _ hp
 obtain rfl : j1 = y2 := hp.symm
 refine wqt (wcO t1 R (fun h10 t1 => ?_) fun h10 t1 => ?_)
 refine wcr (asg R R (wnt (wct (wbr (wqr (wqr (wbr (wqr (wqr ?_)))))))))
 replace t0 := lpR t0 l1 t1
 obtain rfl := oi t0
 exact wq1 R R fun w hw => ⟨R, hw.weak zn⟩
 refine wck (wqb (wqt (wcg (wlq (Zj R R (by omega)) R ?_))))
 exact mv R R (wln (Zk hk1 (stpN l1 t1) () (su4 R R R R) zn))
 have c1 : (decide (((k1 : Nat) : Int) < ((a_list.length : Nat) : Int))) = false := ddf (by omega)
 have en1 := foe l1 hk1
 exact wcr (wlq (pls R R) R (wnt (wcs (wff R c1 (wcx (wqe (wqe (wbx (wjm _ () en1 (su1 R) zn)))))))))
 intro e1 _ hp
 replace t0 := sqE (j := e1) t0 hp
 refine wqt (wcr (mv R R (wlq (pln (rga r0) Zgx R) R (wlq (ZbQ R R) R (asg R R (wnt (wct ?_)))))))
 obtain rfl := oi t0
 exact wq1 R R fun w hw => ⟨R, hw.weak zn⟩

theorem ZgV (w : World) (a_a : Int) {r : Bool} (t0 : ZdT a_a = some r) : Calls Tryz.prog 144 #[.int .i64 a_a] w fun e w' => e = .returned (.bool r) ∧ SH w [] [] w' := by
 refine cwc (args := [_]) Tryz.func144 R Tryz.ntmps144 R ?_
 unfold ZdT at t0
 refine wcr (asg R R (wnt (wcr (mv R R (bdO t0 fun v1 hv1 t0 => (wlc (cz0 ZaH R fun w hw => Zq w a_a 0 5 hv1) R fun _ => (asg R R (wnt (wct ?_)))))))))
 obtain rfl := oi t0
 exact wq1 R R fun w hw => ⟨R, hw.weak zn⟩

theorem Za9 (w : World) (a_c : GCell) {r : Bool} (t0 : ZaR a_c = some r) : Calls Tryz.prog 127 #[.agg #[.int .i64 a_c.Split, .int .i64 a_c.A, .int .i64 a_c.B]] w fun e w' => e = .returned (.bool r) ∧ SH w [] [] w' := by
 refine cwc (args := [_]) Tryz.func127 R Tryz.ntmps127 R ?_
 unfold ZaR at t0
 refine wcr (wle (Zg R R) R fun b1 => (asg R R (wnt (wcs (bdO t0 fun y1 t1 t0 => (wj (J := Bool) (X := Unit) (fun z => y1 = z) (fun z _ => [(2, .bool z)]) (fun _ _ => []) ?_ ?_))))))
 refine wcg (wlq (pof Zbc R) R (wlq (v := iv a_c.Split) (plx tk_3 pz R R) R (bdO t1 fun v1 hv1 t1 => (wlc (cz0 ZaH R fun w hw => Zq w a_c.Split 0 2 hv1) R fun _ => (mv R R (wlo (t := 6) t1 R (fun h1 t1 => ?_) fun h1 t1 => ?_))))))
 refine wgn (j := 3) R R R (wlq (pof ZaT R) R (wgn (j := 3) R R R (wlq (v := iv a_c.A) (plx tk_3 pz R R) R (bdO t1 fun v2 hv2 t1 => (wgn (j := 3) R R R (wlc (cz0 Zo1 R fun w hw => ZgV w a_c.A hv2) R (fun _ => (wlq (pit R R) R (mv R R (wlo (t := 11) t1 R (fun h2 t1 => ?_) fun h2 t1 => ?_))))))))))
 refine wgn (j := 8) R R R (wlq (pof Za6 R) R (wgn (j := 8) R R R (wlq (v := iv a_c.B) (plx tk_3 pz R R) R (bdO t1 fun v3 hv3 t1 => (wgn (j := 8) R R R (wlc (cz0 Zo1 R fun w hw => ZgV w a_c.B hv3) R (fun _ => (wlq (pit R R) R (mv R R (wlo (t := 16) t1 R (fun h3 t1 => ?_) fun h3 t1 => ?_))))))))))
 exact wgn (j := 13) R R R (wlq (pof Zbc R) R (wgn (j := 13) R R R (wlq (v := iv a_c.Split) (plx tk_3 pz R R) R (wgn (j := 13) R R R (wlq (pol R R) R (wgn (j := 13) R R R (wlq (pof ZaT R) R (wgn (j := 13) R R R (wlq (v := iv a_c.A) (plx tk_3 pz R R) R (wgn (j := 13) R R R (wlq (pof Za6 R) R (wgn (j := 13) R R R (wlq (v := iv a_c.B) (plx tk_3 pz R R) R (wgn (j := 13) R R R (wlq (pol R R) R (wgn (j := 13) R R R (wlq (Zny ub_4 R R) R (wlq (pit R R) R (asg R R (wln (wjm _ () (mtE t1) (su1 R) zn)))))))))))))))))))))
 exact wgf (j := 13) R R R R R (wgf (j := 13) R R R R R (wgf (j := 13) R R R R R (wgf (j := 13) R R R R R (wgf (j := 13) R R R R R (wgf (j := 13) R R R R R (wgf (j := 13) R R R R R (wgf (j := 13) R R R R R (wgf (j := 13) R R R R R (wlq (pif R R) R (asg R R (wln (wjm _ () (mtE t1) (su1 R) zn))))))))))))
 exact wgf (j := 8) R R R R R (wgf (j := 8) R R R R R (wgf (j := 8) R R R R R (wlq (pif R R) R (mv R R (wgf (j := 13) R R R R R (wgf (j := 13) R R R R R (wgf (j := 13) R R R R R (wgf (j := 13) R R R R R (wgf (j := 13) R R R R R (wgf (j := 13) R R R R R (wgf (j := 13) R R R R R (wgf (j := 13) R R R R R (wgf (j := 13) R R R R R (wlq (pif R R) R (asg R R (wln (wjm _ () (mtE t1) (su1 R) zn)))))))))))))))))
 exact wgf (j := 3) R R R R R (wgf (j := 3) R R R R R (wgf (j := 3) R R R R R (wlq (pif R R) R (mv R R (wgf (j := 8) R R R R R (wgf (j := 8) R R R R R (wgf (j := 8) R R R R R (wlq (pif R R) R (mv R R (wgf (j := 13) R R R R R (wgf (j := 13) R R R R R (wgf (j := 13) R R R R R (wgf (j := 13) R R R R R (wgf (j := 13) R R R R R (wgf (j := 13) R R R R R (wgf (j := 13) R R R R R (wgf (j := 13) R R R R R (wgf (j := 13) R R R R R (wlq (pif R R) R (asg R R (wln (wjm _ () (mtE t1) (su1 R) zn))))))))))))))))))))))
 intro j1 _ hp
 obtain rfl : j1 = y1 := hp.symm
 refine wqt (wct ?_)
 obtain rfl := oi t0
 exact wq1 R R fun w hw => ⟨R, hw.weak zn⟩

theorem Z0 (w : World) (a_b : GBlock) (v0a : Hd) (r0 : rdF w (dm w []) (sl v0a) a_b.Cells) {r : Bool} (t0 : ZY a_b = some r) : Calls Tryz.prog 97 #[.agg #[.int .i64 a_b.Size, (sl v0a)]] w fun e w' => e = .returned (.bool r) ∧ SH w [] [] w' := by
 refine cwc (args := [_]) Tryz.func97 R Tryz.ntmps97 R ?_
 unfold ZY at t0
 refine wcr (wle (Zg R R) R fun b1 => (asg R R (wnt (wcs (wcs (bdO t0 fun y1 t1 t0 => (wj (J := Bool) (X := Unit) (fun z => y1 = z) (fun z _ => [(1, ptr b1 0), (19, .bool z)]) (fun _ _ => [box b1 [iv a_b.Size, (sl v0a)]]) ?_ ?_)))))))
 refine wcg (wlq (pof ZM R) R (wlq (v := iv a_b.Size) (plx tk_3 pz R R) R (bdO t1 fun v1 hv1 t1 => (wlc (cz0 ZaH R fun w hw => Zq w a_b.Size 1 4 hv1) R fun _ => (wlq (Zd R) R (mv R R (wlo (t := 9) t1 R (fun h1 t1 => ?_) fun h1 t1 => ?_)))))))
 exact wgf (j := 4) R R R R R (wgf (j := 4) R R R R R (wgf (j := 4) R R R R R (wgf (j := 4) R R R R R (wgf (j := 4) R R R R R (wgf (j := 4) R R R R R (wgf (j := 4) R R R R R (wgf (j := 4) R R R R R (wgf (j := 4) R R R R R (wlq (pit R R) R (wln (wjm _ () (mtE t1) (su2 R R) so1)))))))))))
 exact wgn (j := 4) R R R (wlq (pof Zv R) R (wgn (j := 4) R R R (wlq (v := (sl v0a)) (plx ZN pz R R) R (wgn (j := 4) R R R (wlq (pln (rga r0) ZU R) R (wgn (j := 4) R R R (wlq (pof ZM R) R (wgn (j := 4) R R R (wlq (v := iv a_b.Size) (plx tk_3 pz R R) R (wgn (j := 4) R R R (wlq (pof ZM R) R (wgn (j := 4) R R R (wlq (v := iv a_b.Size) (plx tk_3 pz R R) R (wgn (j := 4) R R R (wlq (Zex R R) R (wgn (j := 4) R R R (wlq (ZcD R R) R (wlq (pif R R) R (wln (wjm _ () (mtE t1) (su2 R R) so1))))))))))))))))))))
 intro j1 _ hp
 obtain rfl : j1 = y1 := hp.symm
 refine wqt (wcO t0 R (fun h2 t0 => ?_) fun h2 t0 => ?_)
 refine wcr (asg R R (wnt (wct (wqr ?_))))
 obtain rfl := oi t0
 exact wq1 R R fun w hw => ⟨R, hw.weak zn⟩
 refine wck (wqt (wcs (wcr (wlq (pof Zv R) R (wlq (v := (sl v0a)) (plx ZN pz R R) R (wlq (pln (rga r0) ZU R) R (mv R R (wnt (gdO t0 fun g1 t0 => (sqO t0 fun y1 l1 t0 => (wj (J := Unit) (X := Unit) (fun z => y1 = .inl z) (fun _ _ => []) (fun _ _ => []) ?_ ?_)))))))))))
 refine wcb (wcf (X := Unit) l1 (fun k1 s1 x1l => [(21, (sl v0a)), (22, iv ((a_b.Cells.length : Nat) : Int)), (23, iv ((k1 : Nat) : Int))]) (fun k1 s1 x1l => []) () (su3 R R R) zn fun k1 s1 x1l hN1 l1 => ?_)
 by_cases hk1 : k1 < a_b.Cells.length
 refine fos l1 hk1 fun _ t1 l1 => ?_
 unfold Zgn at t1
 have c1 : (decide (((k1 : Nat) : Int) < ((a_b.Cells.length : Nat) : Int))) = true := ddt (by omega)
 refine wcr (wlq (pls R R) R (wnt (wcs (wft R c1 (wck (wqt (wcs (wcb (wcr (wlq (Zm (k := k1) (rga r0) ZU R R hk1) R (wlq (v := .agg #[iv ((gx a_b.Cells k1).Split), iv ((gx a_b.Cells k1).A), iv ((gx a_b.Cells k1).B)]) (Zaw (rga r0) Zh R hk1 R R R) R (wle (eal (cs := [iv 0, iv 0, iv 0]) Zb8) R fun b2 => (wls (sbx (cs' := [iv ((gx a_b.Cells k1).Split), iv ((gx a_b.Cells k1).A), iv ((gx a_b.Cells k1).B)]) Zh pz R R R R R R R) (wnt (wcr (wlq (v := .agg #[iv ((gx a_b.Cells k1).Split), iv ((gx a_b.Cells k1).A), iv ((gx a_b.Cells k1).B)]) (plb Zh pz R R R) R (bdO t1 fun v2 hv2 t1 => (wlc (cz0 ZgL R fun w hw => Za9 w (gx a_b.Cells k1) hv2) R fun _ => (wlq (Zd R) R (wnt (wcO t1 R (fun h3 t1 => ?_) fun h3 t1 => ?_)))))))))))))))))))))
 refine wcr (asg R R (wnt (wct (wbr (wqr (wqr (wbr (wqr (wqr ?_)))))))))
 replace t0 := lpR t0 l1 t1
 obtain rfl := oi t0
 exact wq1 R R fun w hw => ⟨R, hw.weak zn⟩
 refine wck (wqb (wqt (wcg (wlq (Zj R R (by omega)) R ?_))))
 exact mv R R (wln (Zk hk1 (stpN l1 t1) () (su3 R R R) zn))
 have c1 : (decide (((k1 : Nat) : Int) < ((a_b.Cells.length : Nat) : Int))) = false := ddf (by omega)
 have en1 := foe l1 hk1
 exact wcr (wlq (pls R R) R (wnt (wcs (wff R c1 (wcx (wqe (wqe (wbx (wjm _ () en1 yn zn)))))))))
 intro e1 _ hp
 replace t0 := sqE (j := e1) t0 hp
 refine wqt (wcr (asg R R (wnt (wct ?_))))
 obtain rfl := oi t0
 exact wq1 R R fun w hw => ⟨R, hw.weak zn⟩

theorem Ziz (w : World) (a_e : GEntry) (v0a : Hd) (r0 : rdF w (dm w []) (sl v0a) a_e.Block.Cells) {r : Bool} (t0 : Zcl a_e = some r) : Calls Tryz.prog 84 #[.agg #[.int .i64 a_e.Owner, .int .i64 a_e.Day, .int .i64 a_e.Block.Size, (sl v0a)]] w fun e w' => e = .returned (.bool r) ∧ SH w [] [] w' := by
 refine cwc (args := [_]) Tryz.func84 R Tryz.ntmps84 R ?_
 unfold Zcl at t0
 refine wcr (wle (Zg R R) R fun b1 => (asg R R (wnt (wcs (bdO t0 fun y1 t1 t0 => (wj (J := Bool) (X := Unit) (fun z => y1 = z) (fun z _ => [(2, .bool z)]) (fun _ _ => []) ?_ ?_))))))
 refine wcg (wlq (pof ZdI R) R (wlq (v := iv a_e.Owner) (plx tk_3 pz R R) R (bdO t1 fun v1 hv1 t1 => (wlc (cz0 ZaH R fun w hw => Zq w a_e.Owner 0 99 hv1) R fun _ => (mv R R (wlo (t := 6) t1 R (fun h1 t1 => ?_) fun h1 t1 => ?_))))))
 refine wgn (j := 3) R R R (wlq (pof Zb5 R) R (wgn (j := 3) R R R (wlq (v := iv a_e.Day) (plx tk_3 pz R R) R (bdO t1 fun v2 hv2 t1 => (wgn (j := 3) R R R (wlc (cz0 ZaH R fun w hw => Zq w a_e.Day 0 9999 hv2) R (fun _ => (wlq (pit R R) R (mv R R (wlo (t := 11) t1 R (fun h2 t1 => ?_) fun h2 t1 => ?_))))))))))
 exact wgn (j := 8) R R R (wlq (pof ZaJ R) R (wgn (j := 8) R R R (wlq (v := .agg #[iv a_e.Block.Size, (sl v0a)]) (plb Zc pz R R R) R (bdO t1 fun v3 hv3 t1 => (wgn (j := 8) R R R (wlc (cz0 Zea R fun w hw => Z0 w a_e.Block v0a (ra r0 hw) hv3) R (fun _ => (wlq (pit R R) R (asg R R (wln (wjm _ () (mtE t1) (su1 R) zn)))))))))))
 exact wgf (j := 8) R R R R R (wgf (j := 8) R R R R R (wgf (j := 8) R R R R R (wlq (pif R R) R (asg R R (wln (wjm _ () (mtE t1) (su1 R) zn))))))
 exact wgf (j := 3) R R R R R (wgf (j := 3) R R R R R (wgf (j := 3) R R R R R (wlq (pif R R) R (mv R R (wgf (j := 8) R R R R R (wgf (j := 8) R R R R R (wgf (j := 8) R R R R R (wlq (pif R R) R (asg R R (wln (wjm _ () (mtE t1) (su1 R) zn)))))))))))
 intro j1 _ hp
 obtain rfl : j1 = y1 := hp.symm
 refine wqt (wct ?_)
 obtain rfl := oi t0
 exact wq1 R R fun w hw => ⟨R, hw.weak zn⟩

theorem ZoU (w : World) (a_list : List GMember) (v0a : Hd) (r0 : rdF w (dm w []) (sl v0a) a_list) (a_number : Int) {r : Bool} (t0 : ZfO a_list a_number = some r) : Calls Tryz.prog 85 #[(sl v0a), .int .i64 a_number] w fun e w' => e = .returned (.bool r) ∧ SH w [] [] w' := by
 refine cwc (args := [_, _]) Tryz.func85 R Tryz.ntmps85 R ?_
 unfold ZfO at t0
 refine wcr (asg R R (wnt (wcs (wcr (mv R R (wlq (pln (rga r0) Zat R) R (mv R R (wnt (gdO t0 fun g1 t0 => (sqO t0 fun y1 l1 t0 => (wj (J := Unit) (X := Unit) (fun z => y1 = .inl z) (fun _ _ => []) (fun _ _ => []) ?_ ?_)))))))))))
 refine wcb (wcf (X := Unit) l1 (fun k1 s1 x1l => [(1, iv a_number), (7, (sl v0a)), (8, iv ((a_list.length : Nat) : Int)), (9, iv ((k1 : Nat) : Int))]) (fun k1 s1 x1l => []) () (su4 R R R R) zn fun k1 s1 x1l hN1 l1 => ?_)
 by_cases hk1 : k1 < a_list.length
 refine fos l1 hk1 fun _ t1 l1 => ?_
 unfold Zfz at t1
 have c1 : (decide (((k1 : Nat) : Int) < ((a_list.length : Nat) : Int))) = true := ddt (by omega)
 refine wcr (wlq (pls R R) R (wnt (wcs (wft R c1 (wck (wqt (wcs (wcb (wcr (wlq (Zm (k := k1) (rga r0) Zat R R hk1) R (wlq (v := .agg #[iv ((gx a_list k1).Number), iv ((gx a_list k1).Since), iv ((gx a_list k1).Paid)]) (Zaw (rga r0) ZiO R hk1 R R R) R (wle (eal (cs := [iv 0, iv 0, iv 0]) Zpv) R fun b1 => (wls (sbx (cs' := [iv ((gx a_list k1).Number), iv ((gx a_list k1).Since), iv ((gx a_list k1).Paid)]) ZiO pz R R R R R R R) (wnt (wcr (wlq (pof Zcq R) R (wlq (v := iv ((gx a_list k1).Number)) (plx tk_3 pz R R) R (mv R R (wlq (pol R R) R (wnt (wcO t1 R (fun h1 t1 => ?_) fun h1 t1 => ?_)))))))))))))))))))))
 refine wcr (asg R R (wnt (wct (wbr (wqr (wqr (wbr (wqr (wqr ?_)))))))))
 replace t0 := lpR t0 l1 t1
 obtain rfl := oi t0
 exact wq1 R R fun w hw => ⟨R, hw.weak zn⟩
 refine wck (wqb (wqt (wcg (wlq (Zj R R (by omega)) R ?_))))
 exact mv R R (wln (Zk hk1 (stpN l1 t1) () (su4 R R R R) zn))
 have c1 : (decide (((k1 : Nat) : Int) < ((a_list.length : Nat) : Int))) = false := ddf (by omega)
 have en1 := foe l1 hk1
 exact wcr (wlq (pls R R) R (wnt (wcs (wff R c1 (wcx (wqe (wqe (wbx (wjm _ () en1 yn zn)))))))))
 intro e1 _ hp
 replace t0 := sqE (j := e1) t0 hp
 refine wqt (wcr (asg R R (wnt (wct ?_))))
 obtain rfl := oi t0
 exact wq1 R R fun w hw => ⟨R, hw.weak zn⟩

theorem ZlY (w : World) (a_list : List GMember) (v0a : Hd) (r0 : rdF w (dm w []) (sl v0a) a_list) (a_year : Int) {r : List Int} (t0 : Zdl a_list a_year = some r) : Calls Tryz.prog 100 #[(sl v0a), .int .i64 a_year] w fun e w' => ∃ x : Hd, e = .returned ((sl x)) ∧ SH w [] [ownF (sl x) r] w' := by
 refine cwc (args := [_, _]) Tryz.func100 R Tryz.ntmps100 R ?_
 unfold Zdl at t0
 refine wcr (asg R R (wnt (wcs (wcr (mv R R (bdO t0 fun v1 hv1 t0 => (wlc (cz0 ZmO R fun w hw => ZcK w a_list v0a (ra r0 hw) hv1) R fun _ => (wlq (Zd R) R (wnt (wcO t0 R (fun h1 t0 => ?_) fun h1 t0 => ?_))))))))))
 refine wcr (asg R R (wnt (wct (wqr ?_))))
 obtain rfl := oi t0
 exact wq1 R R fun w hw => ⟨hn, R, hw.weak (zc ZC zn)⟩
 refine wck (wqt (wcr (wle (ebs R Zai) R fun b1 => (asg R R (wnt (wcs (wcr (mv R R (wlq (pln (rga r0) Zat R) R (mv R R (wnt (gdO t0 fun g1 t0 => (Zn t0 fun y1 l1 t0 => (wj (J := List Int) (X := Hd) (fun z => y1 = z) (fun _ x => [(5, (sl x))]) (fun z x => [ownF (sl x) z]) ?_ ?_))))))))))))))
 refine wcb (wcf (X := Hd) l1 (fun k1 s1 x1l => [(1, iv a_year), (5, (sl x1l)), (12, (sl v0a)), (13, iv ((a_list.length : Nat) : Int)), (14, iv ((k1 : Nat) : Int))]) (fun k1 s1 x1l => [ownF (sl x1l) s1]) (⟨some ⟨b1, 0, none⟩, 0, 0⟩ : Hd) (su5 R R R R R) (zc (pbo pz (n := 0) (xs := ([] : List Int)) R R (by unfold maxLen; omega)) zn) fun k1 s1 x1l hN1 l1 => ?_)
 by_cases hk1 : k1 < a_list.length
 refine fos l1 hk1 fun _ t1 l1 => ?_
 unfold ZdC at t1
 have c1 : (decide (((k1 : Nat) : Int) < ((a_list.length : Nat) : Int))) = true := ddt (by omega)
 refine wcr (wlq (pls R R) R (wnt (wcs (wft R c1 (wck (wqt (wcs (wcb (wcr (wlq (Zm (k := k1) (rga r0) Zat R R hk1) R (wlq (v := .agg #[iv ((gx a_list k1).Number), iv ((gx a_list k1).Since), iv ((gx a_list k1).Paid)]) (Zaw (rga r0) ZiO R hk1 R R R) R (wle (eal (cs := [iv 0, iv 0, iv 0]) Zpv) R fun b2 => (wls (sbx (cs' := [iv ((gx a_list k1).Number), iv ((gx a_list k1).Since), iv ((gx a_list k1).Paid)]) ZiO pz R R R R R R R) (wnt (wcr (wlq (pof Zg5 R) R (wlq (v := iv ((gx a_list k1).Paid)) (plx tk_3 pz R R) R (mv R R (wlq (ZeS R R) R (wnt (bdO t1 fun y2 t2 t1 => (wj (J := List Int) (X := Hd) (fun z => y2 = z) (fun _ x => [(1, iv a_year), (5, (sl x)), (12, (sl v0a)), (13, iv ((a_list.length : Nat) : Int)), (14, iv ((k1 : Nat) : Int))]) (fun z x => [ownF (sl x) z]) ?_ ?_))))))))))))))))))))))
 refine wcO t2 R (fun h2 t2 => ?_) fun h2 t2 => ?_
 refine wcg (mv R R (wlq (pof Zcq R) R (wlq (v := iv ((gx a_list k1).Number)) (plx tk_3 pz R R) R (wle (ebs R (ZaA ((gx a_list k1).Number))) R fun b3 => (gdO t2 fun g2 t2 => (wle (Zf (xs := s1) (ys := ([(gx a_list k1).Number] : List Int)) Zbp pk2 R R (Zi fun _ g => Rg.on (rgo (pbo pz (n := 1) (xs := ([(gx a_list k1).Number] : List Int)) R R (by unfold maxLen; omega))) g) g2) R fun x3 => ?_))))))
 exact asg R R (wln (wjm _ x3 (mtE t2) (su5 R R R R R) so1))
 exact wck (wjm _ x1l (mtE t2) (su5 R R R R R) (zc pk1 zn))
 intro j1 x2 hp
 obtain rfl : j1 = y2 := hp.symm
 refine wqb (wqt (wcg (wlq (Zj R R (by omega)) R ?_)))
 exact mv R R (wln (Zk hk1 (stpN l1 t1) x2 (su5 R R R R R) so1))
 have c1 : (decide (((k1 : Nat) : Int) < ((a_list.length : Nat) : Int))) = false := ddf (by omega)
 have en1 := foe l1 hk1
 exact wcr (wlq (pls R R) R (wnt (wcs (wff R c1 (wcx (wqe (wqe (wbx (wjm _ x1l (Sum.inl.inj en1) (su1 R) so1)))))))))
 intro e1 x1 hp
 obtain rfl : e1 = y1 := hp.symm
 refine wqt (wcr (mv R R (asg R R (wnt (wct ?_)))))
 obtain rfl := oi t0
 exact wq1 R R fun w hw => ⟨x1, R, hw.weak so1⟩

theorem Zcr (w : World) (a_g : GGuild) (v0a : Hd) (r0 : rdF w (dm w []) (sl v0a) a_g.Members) (v1a : Hd) (_r1 : rdF w (dm w []) (sl v1a) a_g.Stock) (v2a : Hd) (u2a : List Value) (_r2 : RdL w (dm w []) (sl v2a) u2a a_g.Entries) (v3a : Hd) (_r3 : rdF w (dm w []) (sl v3a) a_g.Books) {r : Int} (t0 : Zcj a_g = some r) : Calls Tryz.prog 47 #[.agg #[(sl v0a), (sl v1a), (sl v2a), (sl v3a), .int .i64 a_g.Round, .int .i64 a_g.Year]] w fun e w' => e = .returned (.int .i64 r) ∧ SH w [] [] w' := by
 refine cwc (args := [_]) Tryz.func47 R Tryz.ntmps47 R ?_
 unfold Zcj at t0
 refine wcr (wle (Zg R R) R fun b1 => (asg R R (wnt (wcs (wcr (wlq (pof Zct R) R (wlq (v := (sl v0a)) (plx ZeK pz R R) R (wlq (pof Zc3 R) R (wlq (v := iv a_g.Year) (plx tk_3 pz R R) R (bdO t0 fun v1 hv1 t0 => (wlc (cz1 ZvN R fun w hw => ZlY w a_g.Members v0a (ra r0 hw) a_g.Year hv1) R fun x1 => (wlq (pln (rgo pz) Zy R) R (asg R R (wnt (wcr (mv R R (bdO t0 fun v2 hv2 t0 => (wlc (cz0 ZaH R fun w hw => Zq w ((v1.length : Nat) : Int) 2 10 hv2) R fun _ => (wnt (wcO t0 R (fun h1 t0 => ?_) fun h1 t0 => ?_))))))))))))))))))))
 refine wcr (mv R R (wlq (Zaa R R) R (asg R R (wnt (wct (wqr ?_))))))
 obtain rfl := oi t0
 exact wq1 R R fun w hw => ⟨R, hw.weak zn⟩
 refine wck (wqt (wcr (asg R R (wnt (wct ?_)))))
 obtain rfl := oi t0
 exact wq1 R R fun w hw => ⟨R, hw.weak zn⟩

end Go.Proofs.YtjfjbgihojiijacGreatDoor
