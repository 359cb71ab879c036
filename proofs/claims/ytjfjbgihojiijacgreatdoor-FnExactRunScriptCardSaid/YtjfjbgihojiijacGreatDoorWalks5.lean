/-
 Each Go function computes its Lean function (part 5).
-/
import Derived.Test.YtjfjbgihojiijacGreatDoorWalks4
namespace Go.Proofs.YtjfjbgihojiijacGreatDoor
open Go Go.RowKit Go.Proofs
set_option maxRecDepth 100000

theorem Zb3 (w : World) (a_g : GGuild) (v0a : Hd) (r0 : rdF w (dm w []) (sl v0a) a_g.Members) (v1a : Hd) (r1 : rdF w (dm w []) (sl v1a) a_g.Stock) (v2a : Hd) (u2a : List Value) (r2 : RdL w (dm w []) (sl v2a) u2a a_g.Entries) (v3a : Hd) (r3 : rdF w (dm w []) (sl v3a) a_g.Books) {r : Bool} (t0 : Za8 a_g = some r) : Calls Tryz.prog 40 #[.agg #[(sl v0a), (sl v1a), (sl v2a), (sl v3a), .int .i64 a_g.Round, .int .i64 a_g.Year]] w fun e w' => e = .returned (.bool r) ∧ SH w [] [] w' := by
 refine cwc (args := [_]) Tryz.func40 R Tryz.ntmps40 R ?_
 unfold Za8 at t0
 refine wcr (wle (Zg R R) R fun b1 => (asg R R (wnt (wcs (wcs (bdO t0 fun y1 t1 t0 => (wj (J := Bool) (X := Unit) (fun z => y1 = z) (fun z _ => [(1, ptr b1 0), (26, .bool z)]) (fun _ _ => [box b1 [(sl v0a), (sl v1a), (sl v2a), (sl v3a), iv a_g.Round, iv a_g.Year]]) ?_ ?_)))))))
 refine wcg (wlq (pof Zct R) R (wlq (v := (sl v0a)) (plx ZeK pz R R) R (bdO t1 fun v1 hv1 t1 => (wlc (cz0 ZmO R fun w hw => ZcK w a_g.Members v0a (ra r0 hw) hv1) R fun _ => (wlq (Zd R) R (mv R R (wlo (t := 9) t1 R (fun h1 t1 => ?_) fun h1 t1 => ?_)))))))
 exact wgf (j := 4) R R R R R (wgf (j := 4) R R R R R (wgf (j := 4) R R R R R (wgf (j := 4) R R R R R (wlq (pit R R) R (mv R R (wgf (j := 10) R R R R R (wgf (j := 10) R R R R R (wgf (j := 10) R R R R R (wgf (j := 10) R R R R R (wlq (pit R R) R (mv R R (wgf (j := 16) R R R R R (wgf (j := 16) R R R R R (wgf (j := 16) R R R R R (wgf (j := 16) R R R R R (wlq (pit R R) R (wln (wjm _ () (mtE t1) (su2 R R) so1))))))))))))))))))
 refine wgn (j := 4) R R R (wlq (pof Zb1 R) R (wgn (j := 4) R R R (wlq (v := (sl v1a)) (plx ZcA pz R R) R (bdO t1 fun v2 hv2 t1 => (wgn (j := 4) R R R (wlc (cz0 Zq0 R fun w hw => Zhg w a_g.Stock v1a (ra r1 hw) hv2) R (fun _ => (wgn (j := 4) R R R (wlq (Zd R) R (wlq (pif R R) R (mv R R (wlo (t := 15) t1 R (fun h2 t1 => ?_) fun h2 t1 => ?_))))))))))))
 exact wgf (j := 10) R R R R R (wgf (j := 10) R R R R R (wgf (j := 10) R R R R R (wgf (j := 10) R R R R R (wlq (pit R R) R (mv R R (wgf (j := 16) R R R R R (wgf (j := 16) R R R R R (wgf (j := 16) R R R R R (wgf (j := 16) R R R R R (wlq (pit R R) R (wln (wjm _ () (mtE t1) (su2 R R) so1))))))))))))
 refine wgn (j := 10) R R R (wlq (pof ZdJ R) R (wgn (j := 10) R R R (wlq (v := (sl v3a)) (plx Zhn pz R R) R (bdO t1 fun v3 hv3 t1 => (wgn (j := 10) R R R (wlc (cz0 ZsT R fun w hw => Zig w a_g.Books v3a (ra r3 hw) hv3) R (fun _ => (wgn (j := 10) R R R (wlq (Zd R) R (wlq (pif R R) R (mv R R (wlo (t := 21) t1 R (fun h3 t1 => ?_) fun h3 t1 => ?_))))))))))))
 exact wgf (j := 16) R R R R R (wgf (j := 16) R R R R R (wgf (j := 16) R R R R R (wgf (j := 16) R R R R R (wlq (pit R R) R (wln (wjm _ () (mtE t1) (su2 R R) so1))))))
 exact wgn (j := 16) R R R (wlq (pof ZQ R) R (wgn (j := 16) R R R (wlq (v := (sl v2a)) (plx Zas pz R R) R (wgn (j := 16) R R R (wlq (pln (rga r2) ZaC R) R (wgn (j := 16) R R R (wlq (Zad R R) R (wlq (pif R R) R (wln (wjm _ () (mtE t1) (su2 R R) so1))))))))))
 intro j1 _ hp
 obtain rfl : j1 = y1 := hp.symm
 refine wqt (wcO t0 R (fun h4 t0 => ?_) fun h4 t0 => ?_)
 refine wcr (asg R R (wnt (wct (wqr ?_))))
 obtain rfl := oi t0
 exact wq1 R R fun w hw => ⟨R, hw.weak zn⟩
 refine wck (wqt (wcs (wcr (wlq (pof ZQ R) R (wlq (v := (sl v2a)) (plx Zas pz R R) R (wlq (pln (rga r2) ZaC R) R (mv R R (wnt (gdO t0 fun g1 t0 => (sqO t0 fun y1 l1 t0 => (wj (J := Unit) (X := Unit) (fun z => y1 = .inl z) (fun _ _ => [(1, ptr b1 0)]) (fun _ _ => [box b1 [(sl v0a), (sl v1a), (sl v2a), (sl v3a), iv a_g.Round, iv a_g.Year]]) ?_ ?_)))))))))))
 refine wcb (wcf (X := Unit) l1 (fun k1 s1 x1l => [(1, ptr b1 0), (28, (sl v2a)), (29, iv ((a_g.Entries.length : Nat) : Int)), (30, iv ((k1 : Nat) : Int))]) (fun k1 s1 x1l => [box b1 [(sl v0a), (sl v1a), (sl v2a), (sl v3a), iv a_g.Round, iv a_g.Year]]) () (su4 R R R R) so1 fun k1 s1 x1l hN1 l1 => ?_)
 by_cases hk1 : k1 < a_g.Entries.length
 refine fos l1 hk1 fun _ t1 l1 => ?_
 unfold Zgk at t1
 have c1 : (decide (((k1 : Nat) : Int) < ((a_g.Entries.length : Nat) : Int))) = true := ddt (by omega)
 refine wcr (wlq (pls R R) R (wnt (wcs (wft R c1 (wck (wqt (wcs (wcb (wcr (mv R R (wlq (Zm (k := k1) (rga r2) ZaC R R hk1) R (ZdM (rga r2) hk1 ?_))))))))))))
 rintro ⟨_, _, he1⟩
 obtain ⟨w1, hc1, _⟩ := ZaX.1 he1
 refine wlq (v := .agg #[iv ((gx a_g.Entries k1).Owner), iv ((gx a_g.Entries k1).Day), iv (((gx a_g.Entries k1).Block).Size), (sl w1)]) (Zb7 (rga r2) Za0 R hc1 R R R) R (wle (eal (cs := [iv 0, iv 0, iv 0, (sl hn)]) Zgl) R fun b2 => (asg R R (wls (sbx (cs' := [iv ((gx a_g.Entries k1).Owner), iv ((gx a_g.Entries k1).Day), iv (((gx a_g.Entries k1).Block).Size), (sl w1)]) Za0 pz R R R R R R R) (wnt (wcs (bdO t1 fun y2 t2 t1 => (wj (J := Bool) (X := Unit) (fun z => y2 = z) (fun z _ => [(1, ptr b1 0), (28, (sl v2a)), (29, iv ((a_g.Entries.length : Nat) : Int)), (30, iv ((k1 : Nat) : Int)), (61, .bool z)]) (fun _ _ => [box b1 [(sl v0a), (sl v1a), (sl v2a), (sl v3a), iv a_g.Round, iv a_g.Year]]) ?_ ?_)))))))
 refine wcd [box b2 [iv ((gx a_g.Entries k1).Owner), iv ((gx a_g.Entries k1).Day), iv (((gx a_g.Entries k1).Block).Size), (sl w1)], box b1 [(sl v0a), (sl v1a), (sl v2a), (sl v3a), iv a_g.Round, iv a_g.Year]] 27 mixed (aq (v := .agg #[iv ((gx a_g.Entries k1).Owner), iv ((gx a_g.Entries k1).Day), iv (((gx a_g.Entries k1).Block).Size), (sl w1)]) 0 R (plb Za0 pz R R R) so2 R (a1 1 (bdO t2 fun v4 hv4 t2 => (wsc R (cz0 ZsR R fun w hw => Ziz w (GEntry.mk ((gx a_g.Entries k1).Owner) ((gx a_g.Entries k1).Day) ((gx a_g.Entries k1).Block)) w1 (Rg.on (Zbg hc1 (rga r2) hk1) hw) hv4) (fun _ => (zt so2)) R fun _ => (aq 2 R (Zd R) so2 R (aq 3 R (pom R) so2 R (waO_ (t := 38) t2 R (fun h5 t2 => ?_) fun h5 t2 => ?_)))))))
 exact af 4 3 R R R R R so2 R (af 5 3 R R R R R so2 R (af 6 3 R R R R R so2 R (af 7 3 R R R R R so2 R (af 8 3 R R R R R so2 R (af 9 3 R R R R R so2 R (aq 10 R (pit R R) so2 R (aq 11 R (pom R) so2 R (af 12 11 R R R R R so2 R (af 13 11 R R R R R so2 R (af 14 11 R R R R R so2 R (au 15 14 R R R R so2 R (au 16 14 R R R R so2 R (au 17 14 R R R R so2 R (au 18 14 R R R R so2 R (au 19 14 R R R R so2 R (au 20 14 R R R R so2 R (au 21 14 R R R R so2 R (au 22 14 R R R R so2 R (au 23 14 R R R R so2 R (au 24 14 R R R R so2 R (af 25 11 R R R R R so2 R (aq 26 R (pit R R) so2 R (ae (wjm _ () (mtE t2) (su5 R R R R R) (zc pk1 zn)))))))))))))))))))))))))
 refine an 4 3 R R R R (pof Zct R) so2 R (an (v := (sl v0a)) 5 3 R R R R (plx ZeK pk1 R R) so2 R (an 6 3 R R R R (pof ZdI R) so2 R (an (v := iv ((gx a_g.Entries k1).Owner)) 7 3 R R R R (plx tk_3 pz R R) so2 R (a1 8 (bdO t2 fun v5 hv5 t2 => (ZL (j := 3) R R R R (cz0 Zxm R fun w hw => ZoU w a_g.Members v0a (ra r0 hw) ((gx a_g.Entries k1).Owner) hv5) (fun _ => (zt so2)) R fun _ => (an 9 3 R R R R (Zd R) so2 R (aq 10 R (pif R R) so2 R (aq 11 R (pom R) so2 R (waO_ (t := 46) t2 R (fun h6 t2 => ?_) fun h6 t2 => ?_))))))))))
 exact af 12 11 R R R R R so2 R (af 13 11 R R R R R so2 R (af 14 11 R R R R R so2 R (au 15 14 R R R R so2 R (au 16 14 R R R R so2 R (au 17 14 R R R R so2 R (au 18 14 R R R R so2 R (au 19 14 R R R R so2 R (au 20 14 R R R R so2 R (au 21 14 R R R R so2 R (au 22 14 R R R R so2 R (au 23 14 R R R R so2 R (au 24 14 R R R R so2 R (af 25 11 R R R R R so2 R (aq 26 R (pit R R) so2 R (ae (wjm _ () (mtE t2) (su5 R R R R R) (zc pk1 zn)))))))))))))))))
 refine an 12 11 R R R R (pom R) so2 R (an 13 11 R R R R (Zad R R) so2 R (an 14 11 R R R R (pom R) so2 R (waO_ (t := 49) t2 R (fun h7 t2 => ?_) fun h7 t2 => ?_)))
 refine an 15 14 R R R R (pof Zb5 R) so2 R (an (v := iv ((gx a_g.Entries k1).Day)) 16 14 R R R R (plx tk_3 pz R R) so2 R (an 17 14 R R R R (pof ZQ R) so2 R (an (v := (sl v2a)) 18 14 R R R R (plx Zas pk1 R R) so2 R (an 19 14 R R R R (pom R) so2 R (an 20 14 R R R R (Zaa R R) so2 R (gdO t2 fun g2 t2 => (an 21 14 R R R R (ZX (rga r2) ZaC R R g2.1 g2.2) so2 R (an 22 14 R R R R (Z5 (rga r2) (ZD g2) Zb5 R) so2 R (ZhZ (rga r2) (ZD g2) ?_)))))))))
 rintro ⟨_, _, he2⟩
 obtain ⟨w2, hc2, _⟩ := ZaX.1 he2
 exact an (v := iv ((gx a_g.Entries (((wr (((k1 : Nat) : Int) - 1))).toNat)).Day)) 23 14 R R R R (ZjC (rga r2) tk_3 R hc2 R) so2 R (an 24 14 R R R R (pls R R) so2 R (an 25 11 R R R R (pit R R) so2 R (aq 26 R (pif R R) so2 R (ae (wjm _ () (mtE t2) (su5 R R R R R) (zc pk1 zn))))))
 exact af 15 14 R R R R R so2 R (af 16 14 R R R R R so2 R (af 17 14 R R R R R so2 R (af 18 14 R R R R R so2 R (af 19 14 R R R R R so2 R (af 20 14 R R R R R so2 R (af 21 14 R R R R R so2 R (af 22 14 R R R R R so2 R (af 23 14 R R R R R so2 R (af 24 14 R R R R R so2 R (an 25 11 R R R R (pif R R) so2 R (aq 26 R (pif R R) so2 R (ae (wjm _ () (mtE t2) (su5 R R R R R) (zc pk1 zn))))))))))))))
 intro j2 _ hp
 obtain rfl : j2 = y2 := hp.symm
 refine wqt (wcO t1 R (fun h8 t1 => ?_) fun h8 t1 => ?_)
 refine wcr (asg R R (wnt (wct (wbr (wqr (wqr (wbr (wqr (wqr ?_)))))))))
 replace t0 := lpR t0 l1 t1
 obtain rfl := oi t0
 exact wq1 R R fun w hw => ⟨R, hw.weak zn⟩
 refine wck (wqb (wqt (wcg (wlq (Zj R R (by omega)) R ?_))))
 exact mv R R (wln (Zk hk1 (stpN l1 t1) () (su4 R R R R) so1))
 have c1 : (decide (((k1 : Nat) : Int) < ((a_g.Entries.length : Nat) : Int))) = false := ddf (by omega)
 have en1 := foe l1 hk1
 exact wcr (wlq (pls R R) R (wnt (wcs (wff R c1 (wcx (wqe (wqe (wbx (wjm _ () en1 (su1 R) so1)))))))))
 intro e1 _ hp
 replace t0 := sqE (j := e1) t0 hp
 refine wqt (wcs (bdO t0 fun y1 t1 t0 => (wj (J := Bool) (X := Unit) (fun z => y1 = z) (fun z _ => [(2, .bool z)]) (fun _ _ => []) ?_ ?_)))
 refine wcd [box b1 [(sl v0a), (sl v1a), (sl v2a), (sl v3a), iv a_g.Round, iv a_g.Year]] 11 mixed (aq 0 R (pof Zc3 R) so1 R (aq (v := iv a_g.Year) 1 R (plx tk_3 pz R R) so1 R (a1 2 (bdO t1 fun v6 hv6 t1 => (wsc R (cz0 ZaH R fun w hw => Zq w a_g.Year 1900 2999 hv6) (fun _ => (zt so1)) R fun _ => (aq 3 R (pom R) so1 R (waO_ (t := 66) t1 R (fun h9 t1 => ?_) fun h9 t1 => ?_)))))))
 exact an 4 3 R R R R (pof Zcs R) so1 R (an (v := iv a_g.Round) 5 3 R R R R (plx tk_3 pz R R) so1 R (an (v := .agg #[(sl v0a), (sl v1a), (sl v2a), (sl v3a), iv a_g.Round, iv a_g.Year]) 6 3 R R R R (plb Zb pz R R R) so1 R (a1 7 (bdO t1 fun v7 hv7 t1 => (ZL (j := 3) R R R R (cz0 ZmP R fun w hw => Zcr w a_g v0a (ra r0 hw) v1a (ra r1 hw) v2a u2a (ra r2 hw) v3a (ra r3 hw) hv7) (fun _ => (zt so1)) R fun _ => (a1 8 (bdO t1 fun v8 hv8 t1 => (ZL (j := 3) R R R R (cz0 ZaH R fun w hw => Zq w a_g.Round 0 v7 hv8) (fun _ => (zt so1)) R fun _ => (aq 9 R (pit R R) so1 R (aq 10 R (Zp R) so1 R (ae (wjm _ () (mtE t1) (su1 R) zn))))))))))))
 exact af 4 3 R R R R R so1 R (af 5 3 R R R R R so1 R (af 6 3 R R R R R so1 R (af 7 3 R R R R R so1 R (af 8 3 R R R R R so1 R (aq 9 R (pif R R) so1 R (aq 10 R (Zp R) so1 R (ae (wjm _ () (mtE t1) (su1 R) zn))))))))
 intro j3 _ hp
 obtain rfl : j3 = y1 := hp.symm
 refine wqt (wct ?_)
 obtain rfl := oi t0
 exact wq1 R R fun w hw => ⟨R, hw.weak zn⟩

theorem Zpc (w : World) (a_year : Int) {r : GGuild × Bool} (t0 : ZfV a_year = some r) : Calls Tryz.prog 42 #[.int .i64 a_year] w fun e w' => ∃ x : Hd × Hd × Hd × (List Value) × Hd, e = .returned (.tuple #[.agg #[(sl x.1), (sl x.2.1), (sl x.2.2.1), (sl x.2.2.2.2), .int .i64 r.1.Round, .int .i64 r.1.Year], .bool r.2]) ∧ SH w [] [ownF (sl x.1) r.1.Members, ownF (sl x.2.1) r.1.Stock, own (sl x.2.2.1) x.2.2.2.1 r.1.Entries, ownF (sl x.2.2.2.2) r.1.Books] w' := by
 refine cwc (args := [_]) Tryz.func42 R Tryz.ntmps42 R ?_
 unfold ZfV at t0
 refine wcr (wle (eal (cs := [(sl hn), (sl hn), (sl hn), (sl hn), iv 0, iv 0]) ZE) R fun b1 => (asg R R (wnt (wcr (wle (ebs (qs := [(0, iv 1000), (1, iv 1000), (2, iv 1000), (3, iv 1000), (4, iv 1000), (5, iv 1000)]) R (Zvx 1000 1000 1000 1000 1000 1000)) R fun b2 => (mv R R (wlq (Zl R (Zty (⟨some ⟨b2, 0, none⟩, 6, 6⟩ : Hd) a_year)) R (wle (eal (cs := [(sl hn), (sl hn), (sl hn), (sl hn), iv 0, iv 0]) ZE) R fun b3 => (wls (sbx (cs' := [(sl hn), (sl (⟨some ⟨b2, 0, none⟩, 6, 6⟩ : Hd)), (sl hn), (sl hn), iv 0, iv a_year]) Zb pz R R R R R R R) (wnt (wcs (wcr (wlq (v := .agg #[(sl hn), (sl (⟨some ⟨b2, 0, none⟩, 6, 6⟩ : Hd)), (sl hn), (sl hn), iv 0, iv a_year]) (plb Zb pz R R R) R (bdO t0 fun v1 hv1 t0 => (wlc (cz0 Zko R fun w hw => Zb3 w (GGuild.mk ([] : List GMember) ([1000, 1000, 1000, 1000, 1000, 1000] : List Int) ([] : List GEntry) ([] : List GBooking) 0 a_year) hn (Rg.on ZjA hw) (⟨some ⟨b2, 0, none⟩, 6, 6⟩ : Hd) (Rg.on (rgo (pbo pk1 (n := 6) (xs := ([1000, 1000, 1000, 1000, 1000, 1000] : List Int)) R R (by unfold maxLen; omega))) hw) hn [] (Rg.on ZjA hw) hn (Rg.on ZjA hw) hv1) R fun _ => ?_)))))))))))))))
 refine wlq (Zd R) R (wnt (wcO t0 R (fun h1 t0 => ?_) fun h1 t0 => ?_))
 refine wcr (wlq (Zl R ZuY) R (wls (sbx (cs' := [(sl hn), (sl hn), (sl hn), (sl hn), iv 0, iv 0]) Zb pk2 R R R R R R R) (asg R R (wnt (wct (wqr ?_))))))
 obtain rfl := oi t0
 exact Zx R Zb R R pz R fun w hw => ⟨(hn, hn, hn, [], hn), R, hw.weak (zc ZC (zc ZC (zc ZC (zc ZC zn))))⟩
 refine wck (wqt (wcr (wlq (v := .agg #[(sl hn), (sl (⟨some ⟨b2, 0, none⟩, 6, 6⟩ : Hd)), (sl hn), (sl hn), iv 0, iv a_year]) (plb Zb pz R R R) R (wls (sbx (cs' := [(sl hn), (sl (⟨some ⟨b2, 0, none⟩, 6, 6⟩ : Hd)), (sl hn), (sl hn), iv 0, iv a_year]) Zb pk2 R R R R R R R) (asg R R (wnt (wct ?_)))))))
 obtain rfl := oi t0
 exact Zx R Zb R R pz R fun w hw => ⟨(hn, (⟨some ⟨b2, 0, none⟩, 6, 6⟩ : Hd), hn, [], hn), R, hw.weak (zc ZC (zc (pbo pk2 (n := 6) (xs := ([1000, 1000, 1000, 1000, 1000, 1000] : List Int)) R R (by unfold maxLen; omega)) (zc ZC (zc ZC zn))))⟩

theorem Zbr (w : World) (a_list : List GMember) (v0a : Hd) (r0 : rdF w (dm w []) (sl v0a) a_list) {r : List GMember} (t0 : Zbu a_list = some r) : Calls Tryz.prog 78 #[(sl v0a)] w fun e w' => ∃ x : Hd, e = .returned ((sl x)) ∧ SH w [] [ownF (sl x) r] w' := by
 refine cwc (args := [_]) Tryz.func78 R Tryz.ntmps78 R ?_
 unfold Zbu at t0
 refine wcr (asg R R (wnt (wcr (wle (ebs R Zc4) R fun b1 => (mv R R (gdO t0 fun g1 t0 => (wle (Zf (xs := ([] : List GMember)) (ys := a_list) Zd7 (pbo pz (n := 0) (xs := ([] : List GMember)) R R (by unfold maxLen; omega)) R R (Zi fun _ g => Rg.on (rga r0) g) g1) R fun x1 => ?_)))))))
 refine asg R R (wnt (wct ?_))
 obtain rfl := oi t0
 exact wq1 R R fun w hw => ⟨x1, R, hw.weak so1⟩

theorem ZfL (w : World) (a_list : List Int) (v0a : Hd) (r0 : rdF w (dm w []) (sl v0a) a_list) {r : List Int} (t0 : Zf7 a_list = some r) : Calls Tryz.prog 79 #[(sl v0a)] w fun e w' => ∃ x : Hd, e = .returned ((sl x)) ∧ SH w [] [ownF (sl x) r] w' := by
 refine cwc (args := [_]) Tryz.func79 R Tryz.ntmps79 R ?_
 unfold Zf7 at t0
 refine wcr (asg R R (wnt (wcr (wle (ebs R Zai) R fun b1 => (mv R R (gdO t0 fun g1 t0 => (wle (Zf (xs := ([] : List Int)) (ys := a_list) Zbp (pbo pz (n := 0) (xs := ([] : List Int)) R R (by unfold maxLen; omega)) R R (Zi fun _ g => Rg.on (rga r0) g) g1) R fun x1 => ?_)))))))
 refine asg R R (wnt (wct ?_))
 obtain rfl := oi t0
 exact wq1 R R fun w hw => ⟨x1, R, hw.weak so1⟩

theorem Zbk (w : World) (a_b : GBlock) (v0a : Hd) (r0 : rdF w (dm w []) (sl v0a) a_b.Cells) {r : GBlock} (t0 : Zam a_b = some r) : Calls Tryz.prog 80 #[.agg #[.int .i64 a_b.Size, (sl v0a)]] w fun e w' => ∃ x : Hd, e = .returned (.agg #[.int .i64 r.Size, (sl x)]) ∧ SH w [] [ownF (sl x) r.Cells] w' := by
 refine cwc (args := [_]) Tryz.func80 R Tryz.ntmps80 R ?_
 unfold Zam at t0
 refine wcr (wle (Zg R R) R fun b1 => (wle (eal (cs := [iv 0, (sl hn)]) Zau) R fun b2 => (wnt (wcs (wcd [box b2 [iv 0, (sl hn)], box b1 [iv a_b.Size, (sl v0a)]] 7 mixed (aq 0 R (pof ZM R) so2 R (aq (v := iv a_b.Size) 1 R (plx tk_3 pk1 R R) so2 R (aq 3 R (pof Zv R) so2 R (aq (v := (sl v0a)) 4 R (plx ZN pk1 R R) so2 R (a1 2 (wse R (ebs R ZsB) (fun _ => (zt (zc pk1 (zc pk1 zn)))) R fun b3 => (a1 5 (gdO t0 fun g1 t0 => (wse R (Zf (xs := ([] : List GCell)) (ys := a_b.Cells) Zk8 (pbo pz (n := 0) (xs := ([] : List GCell)) R R (by unfold maxLen; omega)) R R (Zi fun _ g => Rg.on (rga r0) g) g1) (fun _ => (zt (zc pk1 (zc pk1 zn)))) R fun x1 => ?_))))))))))))))
 refine aq 6 R (Zl R (Zkh a_b.Size x1)) (zc pk1 (zc pk1 zn)) R (a1 7 (ZR R (sbx (cs' := [iv a_b.Size, (sl x1)]) Zc pk1 R R R R R R R) (Za2 (by kernel_rfl)) ?_))
 refine ae (wqt (wct ?_))
 obtain rfl := oi t0
 exact wqc R Zc R pz R fun w hw => ⟨x1, R, hw.weak (zc pk1 zn)⟩

theorem ZZ (w : World) (a_g : GGuild) (v0a : Hd) (r0 : rdF w (dm w []) (sl v0a) a_g.Members) (v1a : Hd) (r1 : rdF w (dm w []) (sl v1a) a_g.Stock) (v2a : Hd) (u2a : List Value) (r2 : RdL w (dm w []) (sl v2a) u2a a_g.Entries) (v3a : Hd) (r3 : rdF w (dm w []) (sl v3a) a_g.Books) {r : GGuild} (t0 : Z8 a_g = some r) : Calls Tryz.prog 39 #[.agg #[(sl v0a), (sl v1a), (sl v2a), (sl v3a), .int .i64 a_g.Round, .int .i64 a_g.Year]] w fun e w' => ∃ x : Hd × Hd × Hd × (List Value) × Hd, e = .returned (.agg #[(sl x.1), (sl x.2.1), (sl x.2.2.1), (sl x.2.2.2.2), .int .i64 r.Round, .int .i64 r.Year]) ∧ SH w [] [ownF (sl x.1) r.Members, ownF (sl x.2.1) r.Stock, own (sl x.2.2.1) x.2.2.2.1 r.Entries, ownF (sl x.2.2.2.2) r.Books] w' := by
 refine cwc (args := [_]) Tryz.func39 R Tryz.ntmps39 R ?_
 unfold Z8 at t0
 refine wcr (wle (Zg R R) R fun b1 => (wle (eal (cs := [(sl hn), (sl hn), (sl hn), (sl hn), iv 0, iv 0]) ZE) R fun b2 => (wnt (wcs (bdO t0 fun v1 hv1 t0 => (bdO t0 fun v2 hv2 t0 => (gdO t0 fun g1 t0 => (wcj (X := Nat × Hd × Hd × Hd) (fun _ => True) (fun z => [(1, ptr b1 0), (2, ptr b2 0), (3, ptr z.1 0)]) (fun z => [box z.1 [(sl z.2.1), (sl z.2.2.1), (sl hn), (sl z.2.2.2), iv a_g.Round, iv a_g.Year], ownF (sl z.2.2.2) (([] : List GBooking) ++ a_g.Books), ownF (sl z.2.2.1) v2, ownF (sl z.2.1) v1, box b2 [(sl hn), (sl hn), (sl hn), (sl hn), iv 0, iv 0], box b1 [(sl v0a), (sl v1a), (sl v2a), (sl v3a), iv a_g.Round, iv a_g.Year]]) ?_ ?_))))))))
 refine wcd [box b2 [(sl hn), (sl hn), (sl hn), (sl hn), iv 0, iv 0], box b1 [(sl v0a), (sl v1a), (sl v2a), (sl v3a), iv a_g.Round, iv a_g.Year]] 16 mixed (Zq9 [⟨7, #[true, true, false, true, true, false, false, true, true, false, true, true, true, true, false, false, false], Unit, fun _ => [(1, ptr b1 0), (2, ptr b2 0), (7, (sl v0a)), (10, (sl v1a)), (14, (sl v3a)), (17, iv a_g.Round), (19, iv a_g.Year)], fun _ => [box b2 [(sl hn), (sl hn), (sl hn), (sl hn), iv 0, iv 0], box b1 [(sl v0a), (sl v1a), (sl v2a), (sl v3a), iv a_g.Round, iv a_g.Year]]⟩, ⟨6, #[true, true, true, true, true, false, false, true, true, false, true, true, true, true, false, false, false], Hd, fun z => [(1, ptr b1 0), (2, ptr b2 0), (8, (sl z)), (10, (sl v1a)), (14, (sl v3a)), (17, iv a_g.Round), (19, iv a_g.Year)], fun z => [ownF (sl z) v1, box b2 [(sl hn), (sl hn), (sl hn), (sl hn), iv 0, iv 0], box b1 [(sl v0a), (sl v1a), (sl v2a), (sl v3a), iv a_g.Round, iv a_g.Year]]⟩, ⟨6, #[true, true, false, true, true, false, true, true, true, false, true, true, true, true, false, false, false], Nat, fun z => [(1, ptr b1 0), (2, ptr b2 0), (7, (sl v0a)), (10, (sl v1a)), (12, (sl (⟨some ⟨z, 0, none⟩, 0, 0⟩ : Hd))), (14, (sl v3a)), (17, iv a_g.Round), (19, iv a_g.Year)], fun z => [box z [], box b2 [(sl hn), (sl hn), (sl hn), (sl hn), iv 0, iv 0], box b1 [(sl v0a), (sl v1a), (sl v2a), (sl v3a), iv a_g.Round, iv a_g.Year]]⟩, ⟨6, #[true, true, false, true, true, false, false, true, true, false, true, true, true, true, false, true, false], Nat, fun z => [(1, ptr b1 0), (2, ptr b2 0), (3, ptr z 0), (7, (sl v0a)), (10, (sl v1a)), (14, (sl v3a)), (17, iv a_g.Round), (19, iv a_g.Year)], fun z => [box z [(sl hn), (sl hn), (sl hn), (sl hn), iv 0, iv 0], box b2 [(sl hn), (sl hn), (sl hn), (sl hn), iv 0, iv 0], box b1 [(sl v0a), (sl v1a), (sl v2a), (sl v3a), iv a_g.Round, iv a_g.Year]]⟩, ⟨5, #[true, true, true, true, true, true, false, true, true, false, true, true, true, true, false, false, false], Hd × Hd, fun z => [(1, ptr b1 0), (2, ptr b2 0), (8, (sl z.1)), (11, (sl z.2)), (14, (sl v3a)), (17, iv a_g.Round), (19, iv a_g.Year)], fun z => [ownF (sl z.2) v2, ownF (sl z.1) v1, box b2 [(sl hn), (sl hn), (sl hn), (sl hn), iv 0, iv 0], box b1 [(sl v0a), (sl v1a), (sl v2a), (sl v3a), iv a_g.Round, iv a_g.Year]]⟩, ⟨5, #[true, true, true, true, true, false, true, true, true, false, true, true, true, true, false, false, false], Hd × Nat, fun z => [(1, ptr b1 0), (2, ptr b2 0), (8, (sl z.1)), (10, (sl v1a)), (12, (sl (⟨some ⟨z.2, 0, none⟩, 0, 0⟩ : Hd))), (14, (sl v3a)), (17, iv a_g.Round), (19, iv a_g.Year)], fun z => [box z.2 [], ownF (sl z.1) v1, box b2 [(sl hn), (sl hn), (sl hn), (sl hn), iv 0, iv 0], box b1 [(sl v0a), (sl v1a), (sl v2a), (sl v3a), iv a_g.Round, iv a_g.Year]]⟩, ⟨5, #[true, true, true, true, true, false, false, true, true, false, true, true, true, true, false, true, false], Nat × Hd, fun z => [(1, ptr b1 0), (2, ptr b2 0), (3, ptr z.1 0), (8, (sl z.2)), (10, (sl v1a)), (14, (sl v3a)), (17, iv a_g.Round), (19, iv a_g.Year)], fun z => [box z.1 [(sl hn), (sl hn), (sl hn), (sl hn), iv 0, iv 0], ownF (sl z.2) v1, box b2 [(sl hn), (sl hn), (sl hn), (sl hn), iv 0, iv 0], box b1 [(sl v0a), (sl v1a), (sl v2a), (sl v3a), iv a_g.Round, iv a_g.Year]]⟩, ⟨5, #[true, true, false, true, true, false, true, true, true, false, true, true, true, true, false, true, false], Nat × Nat, fun z => [(1, ptr b1 0), (2, ptr b2 0), (3, ptr z.1 0), (7, (sl v0a)), (10, (sl v1a)), (12, (sl (⟨some ⟨z.2, 0, none⟩, 0, 0⟩ : Hd))), (14, (sl v3a)), (17, iv a_g.Round), (19, iv a_g.Year)], fun z => [box z.1 [(sl hn), (sl hn), (sl hn), (sl hn), iv 0, iv 0], box z.2 [], box b2 [(sl hn), (sl hn), (sl hn), (sl hn), iv 0, iv 0], box b1 [(sl v0a), (sl v1a), (sl v2a), (sl v3a), iv a_g.Round, iv a_g.Year]]⟩, ⟨4, #[true, true, true, true, true, true, true, true, true, false, true, true, true, true, false, false, false], Hd × Hd × Nat, fun z => [(1, ptr b1 0), (2, ptr b2 0), (8, (sl z.1)), (11, (sl z.2.1)), (12, (sl (⟨some ⟨z.2.2, 0, none⟩, 0, 0⟩ : Hd))), (14, (sl v3a)), (17, iv a_g.Round), (19, iv a_g.Year)], fun z => [box z.2.2 [], ownF (sl z.2.1) v2, ownF (sl z.1) v1, box b2 [(sl hn), (sl hn), (sl hn), (sl hn), iv 0, iv 0], box b1 [(sl v0a), (sl v1a), (sl v2a), (sl v3a), iv a_g.Round, iv a_g.Year]]⟩, ⟨4, #[true, true, true, true, true, true, false, true, true, false, true, true, true, true, false, true, false], Nat × Hd × Hd, fun z => [(1, ptr b1 0), (2, ptr b2 0), (3, ptr z.1 0), (8, (sl z.2.1)), (11, (sl z.2.2)), (14, (sl v3a)), (17, iv a_g.Round), (19, iv a_g.Year)], fun z => [box z.1 [(sl hn), (sl hn), (sl hn), (sl hn), iv 0, iv 0], ownF (sl z.2.2) v2, ownF (sl z.2.1) v1, box b2 [(sl hn), (sl hn), (sl hn), (sl hn), iv 0, iv 0], box b1 [(sl v0a), (sl v1a), (sl v2a), (sl v3a), iv a_g.Round, iv a_g.Year]]⟩, ⟨4, #[true, true, true, true, true, false, true, true, true, false, true, true, true, true, false, true, false], Nat × Hd × Nat, fun z => [(1, ptr b1 0), (2, ptr b2 0), (3, ptr z.1 0), (8, (sl z.2.1)), (10, (sl v1a)), (12, (sl (⟨some ⟨z.2.2, 0, none⟩, 0, 0⟩ : Hd))), (14, (sl v3a)), (17, iv a_g.Round), (19, iv a_g.Year)], fun z => [box z.1 [(sl hn), (sl hn), (sl hn), (sl hn), iv 0, iv 0], box z.2.2 [], ownF (sl z.2.1) v1, box b2 [(sl hn), (sl hn), (sl hn), (sl hn), iv 0, iv 0], box b1 [(sl v0a), (sl v1a), (sl v2a), (sl v3a), iv a_g.Round, iv a_g.Year]]⟩, ⟨2, #[true, true, true, true, true, true, true, true, true, true, true, true, true, true, true, false, false], Hd × Hd × Hd, fun z => [(1, ptr b1 0), (2, ptr b2 0), (20, .agg #[(sl z.1), (sl z.2.1), (sl hn), (sl z.2.2), iv a_g.Round, iv a_g.Year])], fun z => [ownF (sl z.2.2) (([] : List GBooking) ++ a_g.Books), ownF (sl z.2.1) v2, ownF (sl z.1) v1, box b2 [(sl hn), (sl hn), (sl hn), (sl hn), iv 0, iv 0], box b1 [(sl v0a), (sl v1a), (sl v2a), (sl v3a), iv a_g.Round, iv a_g.Year]]⟩, ⟨3, #[true, true, true, true, true, true, true, true, true, false, true, true, true, true, false, true, false], Nat × Hd × Hd × Nat, fun z => [(1, ptr b1 0), (2, ptr b2 0), (3, ptr z.1 0), (8, (sl z.2.1)), (11, (sl z.2.2.1)), (12, (sl (⟨some ⟨z.2.2.2, 0, none⟩, 0, 0⟩ : Hd))), (14, (sl v3a)), (17, iv a_g.Round), (19, iv a_g.Year)], fun z => [box z.1 [(sl hn), (sl hn), (sl hn), (sl hn), iv 0, iv 0], box z.2.2.2 [], ownF (sl z.2.2.1) v2, ownF (sl z.2.1) v1, box b2 [(sl hn), (sl hn), (sl hn), (sl hn), iv 0, iv 0], box b1 [(sl v0a), (sl v1a), (sl v2a), (sl v3a), iv a_g.Round, iv a_g.Year]]⟩, ⟨1, #[true, true, true, true, true, true, true, true, true, true, true, true, true, true, true, true, false], Nat × Hd × Hd × Hd, fun z => [(1, ptr b1 0), (2, ptr b2 0), (3, ptr z.1 0), (20, .agg #[(sl z.2.1), (sl z.2.2.1), (sl hn), (sl z.2.2.2), iv a_g.Round, iv a_g.Year])], fun z => [box z.1 [(sl hn), (sl hn), (sl hn), (sl hn), iv 0, iv 0], ownF (sl z.2.2.2) (([] : List GBooking) ++ a_g.Books), ownF (sl z.2.2.1) v2, ownF (sl z.2.1) v1, box b2 [(sl hn), (sl hn), (sl hn), (sl hn), iv 0, iv 0], box b1 [(sl v0a), (sl v1a), (sl v2a), (sl v3a), iv a_g.Round, iv a_g.Year]]⟩] ?_ fun H => ?_)
 refine List.forall_mem_cons.2 ⟨fun H => ?_, ?_⟩
 intro _
 dsimp only
 refine wa_3 (i := 2) (j := 6) (k := 15) (by kernel_rfl) ?_ ?_ ?_
 exact wsc R (cz1 Zlu R fun w hw => Zbr w a_g.Members v0a (ra r0 hw) hv1) (fun _ => (zt (zc pk1 (zc pk1 zn)))) R fun x2o => waj H 1 R (nl R) x2o R R (su7 R R R R R R R) so3
 exact wse R (ebs R ZaK) (fun _ => (zt (zc pk1 (zc pk1 zn)))) R fun b6o => waj H 2 R (nl R) b6o R R (su8 R R R R R R R R) so3
 exact wse R (eal (cs := [(sl hn), (sl hn), (sl hn), (sl hn), iv 0, iv 0]) ZE) (fun _ => (zt (zc pk1 (zc pk1 zn)))) R fun b15o => waj H 3 R (nl R) b15o R R (su8 R R R R R R R R) so3
 refine List.forall_mem_cons.2 ⟨fun H => ?_, ?_⟩
 intro z
 dsimp only
 refine wa_3 (i := 5) (j := 6) (k := 15) (by kernel_rfl) ?_ ?_ ?_
 exact wsc R (cz1 Zo6 R fun w hw => ZfL w a_g.Stock v1a (ra r1 hw) hv2) (fun _ => (zt (zc pk2 (zc pk2 zn)))) R fun x5o => waj H 4 R (nl R) (z, x5o) R R (su7 R R R R R R R) so4
 exact wse R (ebs R ZaK) (fun _ => (zt (zc pk2 (zc pk2 zn)))) R fun b6o => waj H 5 R (nl R) (z, b6o) R R (su8 R R R R R R R R) so4
 exact wse R (eal (cs := [(sl hn), (sl hn), (sl hn), (sl hn), iv 0, iv 0]) ZE) (fun _ => (zt (zc pk2 (zc pk2 zn)))) R fun b15o => waj H 6 R (nl R) (b15o, z) R R (su8 R R R R R R R R) so4
 refine List.forall_mem_cons.2 ⟨fun H => ?_, ?_⟩
 intro z
 dsimp only
 refine wa_2 (i := 2) (j := 15) (by kernel_rfl) ?_ ?_
 exact wsc R (cz1 Zlu R fun w hw => Zbr w a_g.Members v0a (ra r0 hw) hv1) (fun _ => (zt (zc pk2 (zc pk2 zn)))) R fun x2o => waj H 5 R (nl R) (x2o, z) R R (su8 R R R R R R R R) (zc pk1 so3)
 exact wse R (eal (cs := [(sl hn), (sl hn), (sl hn), (sl hn), iv 0, iv 0]) ZE) (fun _ => (zt (zc pk2 (zc pk2 zn)))) R fun b15o => waj H 7 R (nl R) (b15o, z) R R (su9 R R R R R R R R R) so4
 refine List.forall_mem_cons.2 ⟨fun H => ?_, ?_⟩
 intro z
 dsimp only
 refine wa_2 (i := 2) (j := 6) (by kernel_rfl) ?_ ?_
 exact wsc R (cz1 Zlu R fun w hw => Zbr w a_g.Members v0a (ra r0 hw) hv1) (fun _ => (zt (zc pk2 (zc pk2 zn)))) R fun x2o => waj H 6 R (nl R) (z, x2o) R R (su8 R R R R R R R R) (zc pk1 so3)
 exact wse R (ebs R ZaK) (fun _ => (zt (zc pk2 (zc pk2 zn)))) R fun b6o => waj H 7 R (nl R) (z, b6o) R R (su9 R R R R R R R R R) (zc pk1 so3)
 refine List.forall_mem_cons.2 ⟨fun H => ?_, ?_⟩
 intro z
 dsimp only
 refine wa_2 (i := 6) (j := 15) (by kernel_rfl) ?_ ?_
 exact wse R (ebs R ZaK) (fun _ => (zt (zc pk3 (zc pk3 zn)))) R fun b6o => waj H 8 R (nl R) (z.1, z.2, b6o) R R (su8 R R R R R R R R) so5
 exact wse R (eal (cs := [(sl hn), (sl hn), (sl hn), (sl hn), iv 0, iv 0]) ZE) (fun _ => (zt (zc pk3 (zc pk3 zn)))) R fun b15o => waj H 9 R (nl R) (b15o, z.1, z.2) R R (su8 R R R R R R R R) so5
 refine List.forall_mem_cons.2 ⟨fun H => ?_, ?_⟩
 intro z
 dsimp only
 refine wa_2 (i := 5) (j := 15) (by kernel_rfl) ?_ ?_
 exact wsc R (cz1 Zo6 R fun w hw => ZfL w a_g.Stock v1a (ra r1 hw) hv2) (fun _ => (zt (zc pk3 (zc pk3 zn)))) R fun x5o => waj H 8 R (nl R) (z.1, x5o, z.2) R R (su8 R R R R R R R R) (zc pk1 so4)
 exact wse R (eal (cs := [(sl hn), (sl hn), (sl hn), (sl hn), iv 0, iv 0]) ZE) (fun _ => (zt (zc pk3 (zc pk3 zn)))) R fun b15o => waj H 10 R (nl R) (b15o, z.1, z.2) R R (su9 R R R R R R R R R) so5
 refine List.forall_mem_cons.2 ⟨fun H => ?_, ?_⟩
 intro z
 dsimp only
 refine wa_2 (i := 5) (j := 6) (by kernel_rfl) ?_ ?_
 exact wsc R (cz1 Zo6 R fun w hw => ZfL w a_g.Stock v1a (ra r1 hw) hv2) (fun _ => (zt (zc pk3 (zc pk3 zn)))) R fun x5o => waj H 9 R (nl R) (z.1, z.2, x5o) R R (su8 R R R R R R R R) (zc pk1 so4)
 exact wse R (ebs R ZaK) (fun _ => (zt (zc pk3 (zc pk3 zn)))) R fun b6o => waj H 10 R (nl R) (z.1, z.2, b6o) R R (su9 R R R R R R R R R) (zc pk1 so4)
 refine List.forall_mem_cons.2 ⟨fun H => ?_, ?_⟩
 intro z
 dsimp only
 exact a1 2 (wsc R (cz1 Zlu R fun w hw => Zbr w a_g.Members v0a (ra r0 hw) hv1) (fun _ => (zt (zc pk3 (zc pk3 zn)))) R fun x2o => (waj H 10 R (nl R) (z.1, x2o, z.2) R R (su9 R R R R R R R R R) (zc pk1 (zc pk1 so3))))
 refine List.forall_mem_cons.2 ⟨fun H => ?_, ?_⟩
 intro z
 dsimp only
 refine wa_2 (i := 9) (j := 15) (by kernel_rfl) ?_ ?_
 refine wse R (Zf (xs := ([] : List GBooking)) (ys := a_g.Books) Zd5 (pbo pz (n := 0) (xs := ([] : List GBooking)) R R (by unfold maxLen; omega)) R R (Zi fun _ g => Rg.on (rga r3) g) g1) (fun _ => (zt (zc pk3 (zc pk3 zn)))) R fun x9o => ?_
 exact aq 14 R (Zl R (Zgs z.1 z.2.1 x9o a_g.Round a_g.Year)) (zc pk3 (zc pk3 zn)) R (waj H 11 R (nl R) (z.1, z.2.1, x9o) R R (su3 R R R) so5)
 exact wse R (eal (cs := [(sl hn), (sl hn), (sl hn), (sl hn), iv 0, iv 0]) ZE) (fun _ => (zt (zc pk4 (zc pk4 zn)))) R fun b15o => waj H 12 R (nl R) (b15o, z.1, z.2.1, z.2.2) R R (su9 R R R R R R R R R) so6
 refine List.forall_mem_cons.2 ⟨fun H => ?_, ?_⟩
 intro z
 dsimp only
 exact a1 6 (wse R (ebs R ZaK) (fun _ => (zt (zc pk4 (zc pk4 zn)))) R fun b6o => (waj H 12 R (nl R) (z.1, z.2.1, z.2.2, b6o) R R (su9 R R R R R R R R R) (zc pk1 so5)))
 refine List.forall_mem_cons.2 ⟨fun H => ?_, ?_⟩
 intro z
 dsimp only
 exact a1 5 (wsc R (cz1 Zo6 R fun w hw => ZfL w a_g.Stock v1a (ra r1 hw) hv2) (fun _ => (zt (zc pk4 (zc pk4 zn)))) R fun x5o => (waj H 12 R (nl R) (z.1, z.2.1, x5o, z.2.2) R R (su9 R R R R R R R R R) (zc pk1 (zc pk1 so4))))
 refine List.forall_mem_cons.2 ⟨fun H => ?_, ?_⟩
 intro z
 dsimp only
 exact a1 15 (wse R (eal (cs := [(sl hn), (sl hn), (sl hn), (sl hn), iv 0, iv 0]) ZE) (fun _ => (zt (zc pk4 (zc pk4 zn)))) R fun b15o => (waj H 13 R (nl R) (b15o, z.1, z.2.1, z.2.2) R R (su4 R R R R) so6))
 refine List.forall_mem_cons.2 ⟨fun H => ?_, ?_⟩
 intro z
 dsimp only
 refine a1 9 (wse R (Zf (xs := ([] : List GBooking)) (ys := a_g.Books) Zd5 (pbo pk1 (n := 0) (xs := ([] : List GBooking)) R R (by unfold maxLen; omega)) R R (Zi fun _ g => Rg.on (rga r3) g) g1) (fun _ => (zt (zc pk4 (zc pk4 zn)))) R fun x9o => ?_)
 exact aq 14 R (Zl R (Zgs z.2.1 z.2.2.1 x9o a_g.Round a_g.Year)) (zc pk4 (zc pk4 zn)) R (waj H 13 R (nl R) (z.1, z.2.1, z.2.2.1, x9o) R R (su4 R R R R) (zc pk1 so5))
 refine List.forall_mem_cons.2 ⟨fun H => ?_, ?_⟩
 intro z
 dsimp only
 refine a1 16 (ZR R (sbx (cs' := [(sl z.2.1), (sl z.2.2.1), (sl hn), (sl z.2.2.2), iv a_g.Round, iv a_g.Year]) Zb pz R R R R R R R) (Za2 (by kernel_rfl)) ?_)
 exact ae (wqm (z.1, z.2.1, z.2.2.1, z.2.2.2) trivial (su3 R R R) so6)
 exact fun _ h => nomatch h
 exact aq 0 R (pof Zct R) so2 R (aq (v := (sl v0a)) 1 R (plx ZeK pk1 R R) so2 R (aq 3 R (pof Zb1 R) so2 R (aq (v := (sl v1a)) 4 R (plx ZcA pk1 R R) so2 R (aq 7 R (pof ZdJ R) so2 R (aq (v := (sl v3a)) 8 R (plx Zhn pk1 R R) so2 R (aq 10 R (pof Zcs R) so2 R (aq (v := iv a_g.Round) 11 R (plx tk_3 pk1 R R) so2 R (aq 12 R (pof Zc3 R) so2 R (aq (v := iv a_g.Year) 13 R (plx tk_3 pk1 R R) so2 R (waj H 0 R (nl R) () R R (su7 R R R R R R R) so2))))))))))
 intro x1 _
 refine wqt (wcs (wcr (wlq (pof ZQ R) R (wlq (v := (sl v2a)) (plx Zas pk5 R R) R (wlq (pln (rga r2) ZaC R) R (mv R R (wnt (gdO t0 fun g2 t0 => (Zn t0 fun y1 l1 t0 => (wj (J := List GEntry) (X := Hd × (List Value)) (fun z => y1 = z) (fun _ _ => [(2, ptr b2 0), (3, ptr x1.1 0)]) (fun z x => [box x1.1 [(sl x1.2.1), (sl x1.2.2.1), (sl x.1), (sl x1.2.2.2), iv a_g.Round, iv a_g.Year], ownF (sl x1.2.2.2) (([] : List GBooking) ++ a_g.Books), ownF (sl x1.2.2.1) v2, ownF (sl x1.2.1) v1, box b2 [(sl hn), (sl hn), (sl hn), (sl hn), iv 0, iv 0], own (sl x.1) x.2 z]) ?_ ?_))))))))))
 refine wcb (wcf (X := Hd × (List Value)) l1 (fun k1 s1 x1l => [(2, ptr b2 0), (3, ptr x1.1 0), (22, (sl v2a)), (23, iv ((a_g.Entries.length : Nat) : Int)), (24, iv ((k1 : Nat) : Int))]) (fun k1 s1 x1l => [box x1.1 [(sl x1.2.1), (sl x1.2.2.1), (sl x1l.1), (sl x1.2.2.2), iv a_g.Round, iv a_g.Year], ownF (sl x1.2.2.2) (([] : List GBooking) ++ a_g.Books), ownF (sl x1.2.2.1) v2, ownF (sl x1.2.1) v1, box b2 [(sl hn), (sl hn), (sl hn), (sl hn), iv 0, iv 0], own (sl x1l.1) x1l.2 s1]) (hn, []) (su5 R R R R R) (zc pz (zc pz (zc pz (zc pz (zc pz (zc ZC zn)))))) fun k1 s1 x1l hN1 l1 => ?_)
 by_cases hk1 : k1 < a_g.Entries.length
 refine fos l1 hk1 fun _ t1 l1 => ?_
 unfold Zds at t1
 have c1 : (decide (((k1 : Nat) : Int) < ((a_g.Entries.length : Nat) : Int))) = true := ddt (by omega)
 refine wcr (wlq (pls R R) R (wnt (wcs (wft R c1 (wck (wqt (wcs (wcb (wcr (wlq (Zm (k := k1) (rga r2) ZaC R R hk1) R (ZdM (rga r2) hk1 ?_)))))))))))
 rintro ⟨_, _, he1⟩
 obtain ⟨w1, hc1, _⟩ := ZaX.1 he1
 refine wlq (v := .agg #[iv ((gx a_g.Entries k1).Owner), iv ((gx a_g.Entries k1).Day), iv (((gx a_g.Entries k1).Block).Size), (sl w1)]) (Zb7 (rga r2) Za0 R hc1 R R R) R (wle (eal (cs := [iv 0, iv 0, iv 0, (sl hn)]) Zgl) R fun b3 => (wls (sbx (cs' := [iv ((gx a_g.Entries k1).Owner), iv ((gx a_g.Entries k1).Day), iv (((gx a_g.Entries k1).Block).Size), (sl w1)]) Za0 pz R R R R R R R) (wnt (wcd [box b3 [iv ((gx a_g.Entries k1).Owner), iv ((gx a_g.Entries k1).Day), iv (((gx a_g.Entries k1).Block).Size), (sl w1)], box x1.1 [(sl x1.2.1), (sl x1.2.2.1), (sl x1l.1), (sl x1.2.2.2), iv a_g.Round, iv a_g.Year], ownF (sl x1.2.2.2) (([] : List GBooking) ++ a_g.Books), ownF (sl x1.2.2.1) v2, ownF (sl x1.2.1) v1, box b2 [(sl hn), (sl hn), (sl hn), (sl hn), iv 0, iv 0]] 13 mixed (aq 0 R (pof ZQ R) so6 R (aq (v := (sl x1l.1)) 1 R (plx Zas pk1 R R) so6 R (aq 2 R (pof ZdI R) so6 R (aq (v := iv ((gx a_g.Entries k1).Owner)) 3 R (plx tk_3 pz R R) so6 R (aq 4 R (pof Zb5 R) so6 R (aq (v := iv ((gx a_g.Entries k1).Day)) 5 R (plx tk_3 pz R R) so6 R (aq 6 R (pof ZaJ R) so6 R (aq (v := .agg #[iv (((gx a_g.Entries k1).Block).Size), (sl w1)]) 7 R (plb Zc pz R R R) so6 R (a1 8 (bdO t1 fun v3 hv3 t1 => (wsc R (cz1 ZlF R fun w hw => Zbk w ((gx a_g.Entries k1).Block) w1 (Rg.on (Zbg hc1 (rga r2) hk1) hw) hv3) (fun _ => (zt (zc pk1 (zc pk1 (zc pk1 (zc pk1 (zc pk1 (zc pk1 zn)))))))) R fun x3 => (aq 9 R (Zl R (Zf2 ((gx a_g.Entries k1).Owner) ((gx a_g.Entries k1).Day) v3.Size x3)) (zc pk1 (zc pk1 (zc pk1 (zc pk1 (zc pk1 (zc pk1 zn)))))) R (a1 10 (wse R (ebs R (ZmQ ((gx a_g.Entries k1).Owner) ((gx a_g.Entries k1).Day) v3.Size x3)) (fun _ => (zt (zc pk2 (zc pk2 (zc pk2 (zc pk2 (zc pk2 (zc pk2 zn)))))))) R fun b4 => (a1 11 (gdO t1 fun g3 t1 => (wse R (Zdb (us := x1l.2) (xs := s1) ZqU pk8 (Zjt (x := (GEntry.mk ((gx a_g.Entries k1).Owner) ((gx a_g.Entries k1).Day) v3)) pk1) pz R R R g3) (fun _ => (zt (zc pk2 (zc pk2 (zc pk2 (zc pk2 (zc pk2 (zc pk2 zn)))))))) R fun x4 => (aq 12 R (pof ZQ R) (zc pk2 (zc pk2 (zc pk2 (zc pk2 (zc pk2 (zc pk2 zn)))))) R (a1 13 (ZR R (sbx (cs' := [(sl x1.2.1), (sl x1.2.2.1), (sl x4), (sl x1.2.2.2), iv a_g.Round, iv a_g.Year]) Zas pk3 R R R R R R R) (Za2 (by kernel_rfl)) ?_))))))))))))))))))))))))
 refine ae (wqb (wqt (wcg (wlq (Zj R R (by omega)) R ?_))))
 exact mv R R (wln (Zk hk1 (stpN l1 t1) (x4, (x1l.2 ++ [iv ((gx a_g.Entries k1).Owner), iv ((gx a_g.Entries k1).Day), iv v3.Size, (sl x3)])) (su5 R R R R R) (zc pz (zc pk3 (zc pk3 (zc pk3 (zc pk3 so1)))))))
 have c1 : (decide (((k1 : Nat) : Int) < ((a_g.Entries.length : Nat) : Int))) = false := ddf (by omega)
 have en1 := foe l1 hk1
 exact wcr (wlq (pls R R) R (wnt (wcs (wff R c1 (wcx (wqe (wqe (wbx (wjm _ (x1l.1, x1l.2) (Sum.inl.inj en1) (su2 R R) so6)))))))))
 intro e1 x2 hp
 obtain rfl : e1 = y1 := hp.symm
 refine wqt (wcr (wlq (v := .agg #[(sl x1.2.1), (sl x1.2.2.1), (sl x2.1), (sl x1.2.2.2), iv a_g.Round, iv a_g.Year]) (plb Zb pz R R R) R (wls (sbx (cs' := [(sl x1.2.1), (sl x1.2.2.1), (sl x2.1), (sl x1.2.2.2), iv a_g.Round, iv a_g.Year]) Zb pk4 R R R R R R R) (wnt (wct ?_)))))
 obtain rfl := oi t0
 exact wqc R Zb R pz R fun w hw => ⟨(x1.2.1, x1.2.2.1, x2.1, x2.2, x1.2.2.2), R, hw.weak (zc pk4 (zc pk3 (zc pk3 (zc pk2 zn))))⟩

theorem Zoh (w : World) (a_list : List GMember) (v0a : Hd) (r0 : rdF w (dm w []) (sl v0a) a_list) (a_number : Int) (a_year : Int) {r : (List GMember) × Bool} (t0 : ZcX a_list a_number a_year = some r) : Calls Tryz.prog 92 #[(sl v0a), .int .i64 a_number, .int .i64 a_year] w fun e w' => ∃ x : Hd, e = .returned (.tuple #[(sl x), .bool r.2]) ∧ SH w [] [ownF (sl x) r.1] w' := by
 refine cwc (args := [_, _, _]) Tryz.func92 R Tryz.ntmps92 R ?_
 unfold ZcX at t0
 refine wcr (asg R R (asg R R (wnt (wcr (wle (ebs R Zc4) R fun b1 => (asg R R (asg R R (wnt (wcs (ZmU t0 fun y1 l1 t0 => (wj (J := Int) (X := Unit) (fun z => y1 = z) (fun z _ => [(0, (sl v0a)), (1, iv a_number), (2, iv a_year), (8, (sl (⟨some ⟨b1, 0, none⟩, 0, 0⟩ : Hd))), (9, iv z)]) (fun _ _ => [box b1 []]) ?_ ?_)))))))))))
 refine wcb (ZoL (X := Unit) l1 (fun s1 x1l => [(0, (sl v0a)), (1, iv a_number), (2, iv a_year), (8, (sl (⟨some ⟨b1, 0, none⟩, 0, 0⟩ : Hd))), (9, iv s1)]) (fun s1 x1l => [box b1 []]) () (su5 R R R R R) so1 fun m1 s1 x1l l1 => (Zlv l1 fun _ t1 l1 => ?_))
 unfold Zhq at t1
 refine wcs (wcs (bdO t1 fun y2 t2 t1 => (wj (J := Bool) (X := Unit) (fun z => y2 = z) (fun z _ => [(0, (sl v0a)), (1, iv a_number), (2, iv a_year), (8, (sl (⟨some ⟨b1, 0, none⟩, 0, 0⟩ : Hd))), (9, iv s1), (23, .bool z)]) (fun _ _ => [box b1 []]) ?_ ?_)))
 refine wcg (mv R R (mv R R (wlq (pln (rga r0) Zat R) R (wlq (pls R R) R (mv R R (wlo (t := 15) t2 R (fun h1 t2 => ?_) fun h1 t2 => ?_))))))
 exact wgn (j := 4) R R R (mv R R (wgn (j := 4) R R R (mv R R (gdO t2 fun g1 t2 => (wgn (j := 4) R R R (wlq (ZX (rga r0) Zat R R g1.1 g1.2) R (wgn (j := 4) R R R (wlq (Z5 (rga r0) (ZD g1) Zcq R) R (wgn (j := 4) R R R (wlq (v := iv ((gx a_list ((s1).toNat)).Number)) (Zw (rga r0) tk_3 R (ZD g1) R) R (wgn (j := 4) R R R (mv R R (wgn (j := 4) R R R (wlq (pls R R) R (wlq (pit R R) R (wln (wjm _ () (mtE t2) (su6 R R R R R R) so1)))))))))))))))))
 exact wgf (j := 4) R R R R R (wgf (j := 4) R R R R R (wgf (j := 4) R R R R R (wgf (j := 4) R R R R R (wgf (j := 4) R R R R R (wgf (j := 4) R R R R R (wgf (j := 4) R R R R R (wlq (pif R R) R (wln (wjm _ () (mtE t2) (su6 R R R R R R) so1)))))))))
 intro j1 _ hp
 obtain rfl : j1 = y2 := hp.symm
 refine wqt (wcO t1 R (fun h2 t1 => ?_) fun h2 t1 => ?_)
 exact wck (wqt (wcb (wcg (mv R R (wlq (Zaf R R) R (asg R R (wln (wqb (ZmR (stwN l1 t1) () (su5 R R R R R) so1)))))))))
 exact wcx (wqe (wqe (wbx (wjm _ () (Sum.inl.inj (stwB l1 t1)) (su5 R R R R R) so1))))
 intro e1 _ hp
 obtain rfl : e1 = y1 := hp.symm
 refine wqt (wcr (mv R R (mv R R (mv R R (gdO t0 fun g2 t0 => (wlq (ZiB (l := 0) (h := (e1).toNat) (rga r0) Zat R (.inl ⟨R, R⟩) (.inr ⟨_, R, ixn g2.1⟩) g2.2.1 g2.2.2) R (gdO t0 fun g3 t0 => (wle (Zf (xs := ([] : List GMember)) (ys := ((a_list.drop 0).take ((e1).toNat - 0))) Zd7 (pbo pz (n := 0) (xs := ([] : List GMember)) R R (by unfold maxLen; omega)) R R (Zi fun _ g => Rg.on (Zg7 (rga r0) g2.2.1 g2.2.2) g) g3) R fun x3 => ?_))))))))
 refine mv R R (mv R R (mv R R (wlq (Zaa R R) R (wlq (Zl R (Znt a_number a_year (wr (a_year - 1)))) R (wle (ebs R (Zsz a_number a_year (wr (a_year - 1)))) R fun b2 => (gdO t0 fun g4 t0 => (wle (Zf (xs := (([] : List GMember) ++ ((a_list.drop 0).take ((e1).toNat - 0)))) (ys := ([(GMember.mk a_number a_year (wr (a_year - 1)))] : List GMember)) Zd7 pk1 R R (Zi fun _ g => Rg.on (rgo (pbo pz (n := 1) (xs := ([(GMember.mk a_number a_year (wr (a_year - 1)))] : List GMember)) R R (by unfold maxLen; omega))) g) g4) R fun x4 => ?_)))))))
 refine asg R R (wnt (wcr (mv R R (mv R R (mv R R (gdO t0 fun g5 t0 => (wlq (ZiB (l := (e1).toNat) (h := a_list.length) (rga r0) Zat R (.inr ⟨_, R, ixn g5.1⟩) (.inl ⟨R, R⟩) g5.2.1 g5.2.2) R (gdO t0 fun g6 t0 => (wle (Zf (xs := ((([] : List GMember) ++ ((a_list.drop 0).take ((e1).toNat - 0))) ++ [(GMember.mk a_number a_year (wr (a_year - 1)))])) (ys := ((a_list.drop ((e1).toNat)).take (a_list.length - ((e1).toNat)))) Zd7 pz R R (Zi fun _ g => Rg.on (Zg7 (rga r0) g5.2.1 g5.2.2) g) g6) R fun x5 => (asg R R (wnt (wcs (wcs (bdO t0 fun y1 t1 t0 => (wj (J := Bool) (X := Unit) (fun z => y1 = z) (fun z _ => [(0, (sl v0a)), (8, (sl x5)), (50, .bool z)]) (fun _ _ => [ownF (sl x5) (((([] : List GMember) ++ ((a_list.drop 0).take ((e1).toNat - 0))) ++ [(GMember.mk a_number a_year (wr (a_year - 1)))]) ++ ((a_list.drop ((e1).toNat)).take (a_list.length - ((e1).toNat))))]) ?_ ?_)))))))))))))))
 refine wcg (mv R R (bdO t1 fun v1 hv1 t1 => (wlc (cz0 ZmO R fun w hw => ZcK w a_list v0a (ra r0 hw) hv1) R fun _ => (wlq (Zd R) R (mv R R (wlo (t := 46) t1 R (fun h3 t1 => ?_) fun h3 t1 => ?_))))))
 exact wgf (j := 3) R R R R R (wgf (j := 3) R R R R R (wgf (j := 3) R R R R R (wlq (pit R R) R (wln (wjm _ () (mtE t1) (su3 R R R) so1)))))
 exact wgn (j := 3) R R R (mv R R (bdO t1 fun v2 hv2 t1 => (wgn (j := 3) R R R (wlc (cz0 ZmO R fun w hw => ZcK w (((([] : List GMember) ++ ((a_list.drop 0).take ((e1).toNat - 0))) ++ [(GMember.mk a_number a_year (wr (a_year - 1)))]) ++ ((a_list.drop ((e1).toNat)).take (a_list.length - ((e1).toNat)))) x5 (Rg.on (rgo pz) hw) hv2) R (fun _ => (wgn (j := 3) R R R (wlq (Zd R) R (wlq (pif R R) R (wln (wjm _ () (mtE t1) (su3 R R R) so1))))))))))
 intro j2 _ hp
 obtain rfl : j2 = y1 := hp.symm
 refine wqt (wcO t0 R (fun h4 t0 => ?_) fun h4 t0 => ?_)
 refine wcr (mv R R (bdO t0 fun v3 hv3 t0 => (wlc (cz1 Zlu R fun w hw => Zbr w a_list v0a (ra r0 hw) hv3) R fun x7 => (asg R R (asg R R (wnt (wct (wqr ?_))))))))
 obtain rfl := oi t0
 exact ZJ R R R fun w hw => ⟨x7, R, hw.weak so1⟩
 refine wck (wqt (wcr (mv R R (asg R R (asg R R (wnt (wct ?_)))))))
 obtain rfl := oi t0
 exact ZJ R R R fun w hw => ⟨x5, R, hw.weak so1⟩

theorem Zp9 (w : World) (a_list : List GMember) (v0a : Hd) (r0 : rdF w (dm w []) (sl v0a) a_list) (a_number : Int) (a_years : Int) {r : (List GMember) × Bool} (t0 : ZgK a_list a_number a_years = some r) : Calls Tryz.prog 93 #[(sl v0a), .int .i64 a_number, .int .i64 a_years] w fun e w' => ∃ x : Hd, e = .returned (.tuple #[(sl x), .bool r.2]) ∧ SH w [] [ownF (sl x) r.1] w' := by
 refine cwc (args := [_, _, _]) Tryz.func93 R Tryz.ntmps93 R ?_
 unfold ZgK at t0
 refine wcr (asg R R (asg R R (wnt (wcr (mv R R (bdO t0 fun v1 hv1 t0 => (wlc (cz1 Zlu R fun w hw => Zbr w a_list v0a (ra r0 hw) hv1) R fun x1 => (asg R R (asg R R (wnt (wcs (wcs (bdO t0 fun y1 t1 t0 => (wj (J := Bool) (X := Unit) (fun z => y1 = z) (fun z _ => [(0, (sl v0a)), (1, iv a_number), (2, iv a_years), (8, (sl x1)), (9, .bool false), (20, .bool z)]) (fun _ _ => [ownF (sl x1) v1]) ?_ ?_))))))))))))))
 refine wcg (mv R R (bdO t1 fun v2 hv2 t1 => (wlc (cz0 ZmO R fun w hw => ZcK w a_list v0a (ra r0 hw) hv2) R fun _ => (wlq (Zd R) R (mv R R (wlo (t := 16) t1 R (fun h1 t1 => ?_) fun h1 t1 => ?_))))))
 exact wgf (j := 3) R R R R R (wgf (j := 3) R R R R R (wgf (j := 3) R R R R R (wlq (pit R R) R (wln (wjm _ () (mtE t1) (su6 R R R R R R) so1)))))
 exact wgn (j := 3) R R R (mv R R (bdO t1 fun v3 hv3 t1 => (wgn (j := 3) R R R (wlc (cz0 ZaH R fun w hw => Zq w a_years 1 10 hv3) R (fun _ => (wgn (j := 3) R R R (wlq (Zd R) R (wlq (pif R R) R (wln (wjm _ () (mtE t1) (su6 R R R R R R) so1))))))))))
 intro j1 _ hp
 obtain rfl : j1 = y1 := hp.symm
 refine wqt (wcO t0 R (fun h2 t0 => ?_) fun h2 t0 => ?_)
 refine wcr (mv R R (asg R R (asg R R (wnt (wct (wqr ?_))))))
 obtain rfl := oi t0
 exact ZJ R R R fun w hw => ⟨x1, R, hw.weak so1⟩
 refine wck (wqt (wcs (wcr (mv R R (wlq (pln (rgo pz) Zat R) R (mv R R (wnt (gdO t0 fun g1 t0 => (Zn t0 fun y1 l1 t0 => (wj (J := (List GMember) × Bool) (X := Unit) (fun z => y1 = z) (fun z _ => [(0, (sl v0a)), (8, (sl x1)), (9, .bool z.2)]) (fun z _ => [ownF (sl x1) z.1]) ?_ ?_))))))))))
 refine wcb (wcf (X := Unit) l1 (fun k1 s1 x1l => [(0, (sl v0a)), (1, iv a_number), (2, iv a_years), (8, (sl x1)), (9, .bool s1.2), (23, iv ((v1.length : Nat) : Int)), (24, iv ((k1 : Nat) : Int))]) (fun k1 s1 x1l => [ownF (sl x1) s1.1]) () (su7 R R R R R R R) so1 fun k1 s1 x1l hN1 l1 => ?_)
 by_cases hk1 : k1 < v1.length
 refine fos l1 hk1 fun _ t1 l1 => ?_
 unfold Zgu at t1
 have c1 : (decide (((k1 : Nat) : Int) < ((v1.length : Nat) : Int))) = true := ddt (by omega)
 refine wcr (wlq (pls R R) R (wnt (wcs (wft R c1 (wck (wqt (wcs (wcb (wcr (mv R R (asg R R (wnt (wcr (mv R R (mv R R (gdO t1 fun g2 t1 => (wlq (Zm (k := k1) (rgo pz) Zat R R g2) R (wlq (Z5 (rgo pz) g2 Zcq R) R (wlq (v := iv ((gx s1.1 k1).Number)) (Zw (rgo pz) tk_3 R g2 R) R (mv R R (wlq (pol R R) R (wnt (wcj (X := Unit) (fun _ => True) (fun _ => [(0, (sl v0a)), (1, iv a_number), (2, iv a_years), (8, (sl x1)), (9, .bool (((gx s1.1 k1).Number == a_number) || s1.2)), (23, iv ((v1.length : Nat) : Int)), (24, iv ((k1 : Nat) : Int))]) (fun _ => [ownF (sl x1) (bif ((gx s1.1 k1).Number == a_number) then (s1.1.set k1 (GMember.mk ((gx s1.1 k1).Number) ((gx s1.1 k1).Since) (wr ((gx s1.1 k1).Paid + a_years)))) else s1.1)]) ?_ ?_)))))))))))))))))))))))
 refine Zbn R (fun h3 => ?_) fun h3 => ?_
 exact wcr (mv R R (mv R R (wlq (Zm (k := k1) (rgo pz) Zat R R g2) R (wlq (Z5 (rgo pz) g2 Zg5 R) R (wlq (v := iv ((gx s1.1 k1).Paid)) (Zw (rgo pz) tk_3 R g2 R) R (mv R R (wlq (Zaf R R) R (wlq (Zm (k := k1) (rgo pz) Zat R R g2) R (wlq (Z5 (rgo pz) g2 Zg5 R) R (wls (Zhx (x' := (GMember.mk ((gx s1.1 k1).Number) ((gx s1.1 k1).Since) (wr ((gx s1.1 k1).Paid + a_years)))) tk_3 pz R R R R R R g2 R) (wnt (wcg (asg R R (wln (wqm () trivial (yc R (yc R (yc R (yc R (ZS R (by rw [h3]; rfl) (su2 R R)))))) (zc (by simp only [h3, cond_true]; exact pz) zn))))))))))))))))
 exact wck (wqm () trivial (yc R (yc R (yc R (yc R (ZS R (by rw [h3]; rfl) (su2 R R)))))) (zc (by simp only [h3, cond_false]; exact pz) zn))
 intro _ _
 refine wqb (wqt (wcg (wlq (Zj R R (by omega)) R ?_)))
 exact mv R R (wln (Zk hk1 (stpN l1 t1) () (su7 R R R R R R R) so1))
 have c1 : (decide (((k1 : Nat) : Int) < ((v1.length : Nat) : Int))) = false := ddf (by omega)
 have en1 := foe l1 hk1
 exact wcr (wlq (pls R R) R (wnt (wcs (wff R c1 (wcx (wqe (wqe (wbx (wjm _ () (Sum.inl.inj en1) (su3 R R R) so1)))))))))
 intro e1 _ hp
 obtain rfl : e1 = y1 := hp.symm
 refine wqt (wcs (wcs (bdO t0 fun y1 t1 t0 => (wj (J := Bool) (X := Unit) (fun z => y1 = z) (fun z _ => [(0, (sl v0a)), (8, (sl x1)), (50, .bool z)]) (fun _ _ => [ownF (sl x1) e1.1]) ?_ ?_))))
 refine wcg (mv R R (wlq (Zd R) R (mv R R (wlo (t := 46) t1 R (fun h4 t1 => ?_) fun h4 t1 => ?_))))
 exact wgf (j := 2) R R R R R (wgf (j := 2) R R R R R (wgf (j := 2) R R R R R (wlq (pit R R) R (wln (wjm _ () (mtE t1) (su3 R R R) so1)))))
 exact wgn (j := 2) R R R (mv R R (bdO t1 fun v4 hv4 t1 => (wgn (j := 2) R R R (wlc (cz0 ZmO R fun w hw => ZcK w e1.1 x1 (Rg.on (rgo pz) hw) hv4) R (fun _ => (wgn (j := 2) R R R (wlq (Zd R) R (wlq (pif R R) R (wln (wjm _ () (mtE t1) (su3 R R R) so1))))))))))
 intro j3 _ hp
 obtain rfl : j3 = y1 := hp.symm
 refine wqt (wcO t0 R (fun h5 t0 => ?_) fun h5 t0 => ?_)
 refine wcr (mv R R (bdO t0 fun v5 hv5 t0 => (wlc (cz1 Zlu R fun w hw => Zbr w a_list v0a (ra r0 hw) hv5) R fun x6 => (asg R R (asg R R (wnt (wct (wqr ?_))))))))
 obtain rfl := oi t0
 exact ZJ R R R fun w hw => ⟨x6, R, hw.weak so1⟩
 refine wck (wqt (wcr (mv R R (asg R R (asg R R (wnt (wct ?_)))))))
 obtain rfl := oi t0
 exact ZJ R R R fun w hw => ⟨x1, R, hw.weak so1⟩

theorem ZpH (w : World) (a_list : List GBooking) (v0a : Hd) (r0 : rdF w (dm w []) (sl v0a) a_list) (a_b : GBooking) {r : (List GBooking) × Bool} (t0 : ZgH a_list a_b = some r) : Calls Tryz.prog 94 #[(sl v0a), .agg #[.int .i64 a_b.Day, .int .i64 a_b.From, .int .i64 a_b.To, .int .i64 a_b.Sum]] w fun e w' => ∃ x : Hd, e = .returned (.tuple #[(sl x), .bool r.2]) ∧ SH w [] [ownF (sl x) r.1] w' := by
 refine cwc (args := [_, _]) Tryz.func94 R Tryz.ntmps94 R ?_
 unfold ZgH at t0
 refine wcr (wle (Zg R R) R fun b1 => (asg R R (asg R R (wnt (wcs (gdO t0 fun g1 t0 => (gdO t0 fun g2 t0 => (wcj (X := Hd) (fun _ => True) (fun z => [(0, (sl v0a)), (6, (sl z))]) (fun z => [ownF (sl z) ((([] : List GBooking) ++ a_list) ++ [a_b])]) ?_ ?_))))))))
 refine wcd [box b1 [iv a_b.Day, iv a_b.From, iv a_b.To, iv a_b.Sum]] 7 mixed (aq 1 R (pom R) so1 R (aq (v := .agg #[iv a_b.Day, iv a_b.From, iv a_b.To, iv a_b.Sum]) 3 R (plb ZmJ pz R R R) so1 R (wa_2 (i := 0) (j := 4) (by kernel_rfl) ?_ ?_)))
 refine wse R (ebs R ZaK) (fun _ => (zt (zc pk1 zn))) R fun b2 => wa_2 (i := 2) (j := 4) (by kernel_rfl) ?_ ?_
 refine wse R (Zf (xs := ([] : List GBooking)) (ys := a_list) Zd5 (pbo pz (n := 0) (xs := ([] : List GBooking)) R R (by unfold maxLen; omega)) R R (Zi fun _ g => Rg.on (rga r0) g) g1) (fun _ => (zt (zc pk1 zn))) R fun x1 => ?_
 refine a1 4 (wse R (ebs R (Zjw a_b.Day a_b.From a_b.To a_b.Sum)) (fun _ => (zt (zc pk2 zn))) R fun b3 => (a1 5 (wse R (Zf (xs := (([] : List GBooking) ++ a_list)) (ys := ([a_b] : List GBooking)) Zd5 pk1 R R (Zi fun _ g => Rg.on (rgo (pbo pz (n := 1) (xs := ([a_b] : List GBooking)) R R (by unfold maxLen; omega))) g) g2) (fun _ => (zt (zc pk2 zn))) R fun x2 => ?_)))
 exact aq 6 R (Zp R) (zc pk2 zn) R (ae (wqm x2 trivial (su2 R R) so1))
 refine wse R (ebs R (Zjw a_b.Day a_b.From a_b.To a_b.Sum)) (fun _ => (zt (zc pk2 zn))) R fun b4 => a1 2 (wse R (Zf (xs := ([] : List GBooking)) (ys := a_list) Zd5 (pbo pk1 (n := 0) (xs := ([] : List GBooking)) R R (by unfold maxLen; omega)) R R (Zi fun _ g => Rg.on (rga r0) g) g1) (fun _ => (zt (zc pk2 zn))) R fun x3 => ?_)
 refine a1 5 (wse R (Zf (xs := (([] : List GBooking) ++ a_list)) (ys := ([a_b] : List GBooking)) Zd5 pz R R (Zi fun _ g => Rg.on (rgo (pbo pk1 (n := 1) (xs := ([a_b] : List GBooking)) R R (by unfold maxLen; omega))) g) g2) (fun _ => (zt (zc pk2 zn))) R fun x4 => ?_)
 exact aq 6 R (Zp R) (zc pk2 zn) R (ae (wqm x4 trivial (su2 R R) so1))
 refine wse R (ebs R (Zjw a_b.Day a_b.From a_b.To a_b.Sum)) (fun _ => (zt (zc pk1 zn))) R fun b5 => a1 0 (wse R (ebs R ZaK) (fun _ => (zt (zc pk2 zn))) R fun b6 => (a1 2 (wse R (Zf (xs := ([] : List GBooking)) (ys := a_list) Zd5 (pbo pz (n := 0) (xs := ([] : List GBooking)) R R (by unfold maxLen; omega)) R R (Zi fun _ g => Rg.on (rga r0) g) g1) (fun _ => (zt (zc pk2 zn))) R fun x5 => ?_)))
 refine a1 5 (wse R (Zf (xs := (([] : List GBooking) ++ a_list)) (ys := ([a_b] : List GBooking)) Zd5 pz R R (Zi fun _ g => Rg.on (rgo (pbo pk1 (n := 1) (xs := ([a_b] : List GBooking)) R R (by unfold maxLen; omega))) g) g2) (fun _ => (zt (zc pk2 zn))) R fun x6 => ?_)
 exact aq 6 R (Zp R) (zc pk2 zn) R (ae (wqm x6 trivial (su2 R R) so1))
 intro x7 _
 refine wqt (wcs (wcs (bdO t0 fun y1 t1 t0 => (wj (J := Bool) (X := Unit) (fun z => y1 = z) (fun z _ => [(0, (sl v0a)), (6, (sl x7)), (20, .bool z)]) (fun _ _ => [ownF (sl x7) ((([] : List GBooking) ++ a_list) ++ [a_b])]) ?_ ?_))))
 refine wcg (mv R R (bdO t1 fun v1 hv1 t1 => (wlc (cz0 ZsT R fun w hw => Zig w a_list v0a (ra r0 hw) hv1) R fun _ => (wlq (Zd R) R (mv R R (wlo (t := 16) t1 R (fun h1 t1 => ?_) fun h1 t1 => ?_))))))
 exact wgf (j := 3) R R R R R (wgf (j := 3) R R R R R (wgf (j := 3) R R R R R (wlq (pit R R) R (wln (wjm _ () (mtE t1) (su3 R R R) so1)))))
 exact wgn (j := 3) R R R (mv R R (bdO t1 fun v2 hv2 t1 => (wgn (j := 3) R R R (wlc (cz0 ZsT R fun w hw => Zig w ((([] : List GBooking) ++ a_list) ++ [a_b]) x7 (Rg.on (rgo pz) hw) hv2) R (fun _ => (wgn (j := 3) R R R (wlq (Zd R) R (wlq (pif R R) R (wln (wjm _ () (mtE t1) (su3 R R R) so1))))))))))
 intro j1 _ hp
 obtain rfl : j1 = y1 := hp.symm
 refine wqt (wcO t0 R (fun h2 t0 => ?_) fun h2 t0 => ?_)
 refine wcr (wle (ebs R ZaK) R fun b7 => (mv R R (wle (Zf (xs := ([] : List GBooking)) (ys := a_list) Zd5 (pbo pz (n := 0) (xs := ([] : List GBooking)) R R (by unfold maxLen; omega)) R R (Zi fun _ g => Rg.on (rga r0) g) g1) R fun x9 => ?_)))
 refine asg R R (asg R R (wnt (wct (wqr ?_))))
 obtain rfl := oi t0
 exact ZJ R R R fun w hw => ⟨x9, R, hw.weak so1⟩
 refine wck (wqt (wcr (mv R R (asg R R (asg R R (wnt (wct ?_)))))))
 obtain rfl := oi t0
 exact ZJ R R R fun w hw => ⟨x7, R, hw.weak so1⟩

theorem ZaM (w : World) (fp : List Nat) (a_g : GGuild) (v0a : Hd) (r0 : rdF w (dm w fp) (sl v0a) a_g.Members) (v1a : Hd) (r1 : rdF w (dm w fp) (sl v1a) a_g.Stock) (v2a : Hd) (u2a : List Value) (r2 : RdL w (dm w fp) (sl v2a) u2a a_g.Entries) (v3a : Hd) (r3 : rdF w (dm w fp) (sl v3a) a_g.Books) (a_next : GGuild) (v4a : Hd) (v5a : Hd) (v6a : Hd) (u6a : List Value) (v7a : Hd) (a_ok : Bool) (o : Ow w [ownF (sl v4a) a_next.Members, ownF (sl v5a) a_next.Stock, own (sl v6a) u6a a_next.Entries, ownF (sl v7a) a_next.Books] fp) {r : GGuild × Bool} (t0 : Zaq a_g a_next a_ok = some r) : Calls Tryz.prog 95 #[.agg #[(sl v0a), (sl v1a), (sl v2a), (sl v3a), .int .i64 a_g.Round, .int .i64 a_g.Year], .agg #[(sl v4a), (sl v5a), (sl v6a), (sl v7a), .int .i64 a_next.Round, .int .i64 a_next.Year], .bool a_ok] w fun e w' => ∃ x : Hd × Hd × Hd × (List Value) × Hd, e = .returned (.tuple #[.agg #[(sl x.1), (sl x.2.1), (sl x.2.2.1), (sl x.2.2.2.2), .int .i64 r.1.Round, .int .i64 r.1.Year], .bool r.2]) ∧ SH w fp [ownF (sl x.1) r.1.Members, ownF (sl x.2.1) r.1.Stock, own (sl x.2.2.1) x.2.2.2.1 r.1.Entries, ownF (sl x.2.2.2.2) r.1.Books] w' := by
 refine Zh1 (args := [_, _, _]) o Tryz.func95 R Tryz.ntmps95 R ?_
 unfold Zaq at t0
 refine wcr (wle (Zg R R) R fun b1 => (wle (Zg R R) R fun b2 => (wle (eal (cs := [(sl hn), (sl hn), (sl hn), (sl hn), iv 0, iv 0]) ZE) R fun b3 => (asg R R (wnt (wcs (wcs (bdO t0 fun y1 t1 t0 => (wj (J := Bool) (X := Unit) (fun z => y1 = z) (fun z _ => [(3, ptr b1 0), (4, ptr b2 0), (6, ptr b3 0), (19, .bool z)]) (fun _ _ => [box b3 [(sl hn), (sl hn), (sl hn), (sl hn), iv 0, iv 0], box b2 [(sl v4a), (sl v5a), (sl v6a), (sl v7a), iv a_next.Round, iv a_next.Year], box b1 [(sl v0a), (sl v1a), (sl v2a), (sl v3a), iv a_g.Round, iv a_g.Year], ownF (sl v4a) a_next.Members, ownF (sl v5a) a_next.Stock, own (sl v6a) u6a a_next.Entries, ownF (sl v7a) a_next.Books]) ?_ ?_)))))))))
 refine wcg (wlq (v := .agg #[(sl v0a), (sl v1a), (sl v2a), (sl v3a), iv a_g.Round, iv a_g.Year]) (plb Zb pk2 R R R) R (bdO t1 fun v1 hv1 t1 => (wlc (cz0 Zko R fun w hw => Zb3 w a_g v0a (ra r0 hw) v1a (ra r1 hw) v2a u2a (ra r2 hw) v3a (ra r3 hw) hv1) R fun _ => (wlq (Zd R) R (mv R R (wlo (t := 11) t1 R (fun h1 t1 => ?_) fun h1 t1 => ?_))))))
 exact wgf (j := 3) R R R R R (wgf (j := 3) R R R R R (wlq (pit R R) R (mv R R (wgf (j := 7) R R R R R (wgf (j := 7) R R R R R (wgf (j := 7) R R R R R (wlq (pit R R) R (wln (wjm _ () (mtE t1) (su4 R R R R) so7)))))))))
 refine wgn (j := 3) R R R (mv R R (wgn (j := 3) R R R (wlq (Zd R) R (wlq (pif R R) R (mv R R (wlo (t := 15) t1 R (fun h2 t1 => ?_) fun h2 t1 => ?_))))))
 exact wgf (j := 7) R R R R R (wgf (j := 7) R R R R R (wgf (j := 7) R R R R R (wlq (pit R R) R (wln (wjm _ () (mtE t1) (su4 R R R R) so7)))))
 exact wgn (j := 7) R R R (wlq (v := .agg #[(sl v4a), (sl v5a), (sl v6a), (sl v7a), iv a_next.Round, iv a_next.Year]) (plb Zb pk1 R R R) R (bdO t1 fun v2 hv2 t1 => (wgn (j := 7) R R R (wlc (cz0 Zko R fun w hw => Zb3 w a_next v4a (Rg.on (rgo pk3) hw) v5a (Rg.on (rgo pk4) hw) v6a u6a (Rg.on (rgo pk5) hw) v7a (Rg.on (rgo pk6) hw) hv2) R (fun _ => (wgn (j := 7) R R R (wlq (Zd R) R (wlq (pif R R) R (wln (wjm _ () (mtE t1) (su4 R R R R) so7))))))))))
 intro j1 _ hp
 obtain rfl : j1 = y1 := hp.symm
 refine wqt (wcO t0 R (fun h3 t0 => ?_) fun h3 t0 => ?_)
 refine wcr (wlq (v := .agg #[(sl v0a), (sl v1a), (sl v2a), (sl v3a), iv a_g.Round, iv a_g.Year]) (plb Zb pk2 R R R) R (bdO t0 fun v3 hv3 t0 => (wlc (Zan Zg3 R fun w hw => ZZ w a_g v0a (ra r0 hw) v1a (ra r1 hw) v2a u2a (ra r2 hw) v3a (ra r3 hw) hv3) R fun x2 => (wls (sbx (cs' := [(sl x2.1), (sl x2.2.1), (sl x2.2.2.1), (sl x2.2.2.2.2), iv v3.Round, iv v3.Year]) Zb pk4 R R R R R R R) (asg R R (wnt (wct (wqr ?_))))))))
 obtain rfl := oi t0
 exact Zx R Zb R R pz R fun w hw => ⟨(x2.1, x2.2.1, x2.2.2.1, x2.2.2.2.1, x2.2.2.2.2), R, hw.weak (zc pk1 (zc pk1 (zc pk1 (zc pk1 zn))))⟩
 refine wck (wqt (wcr (wlq (v := .agg #[(sl v4a), (sl v5a), (sl v6a), (sl v7a), iv a_next.Round, iv a_next.Year]) (plb Zb pk1 R R R) R (wls (sbx (cs' := [(sl v4a), (sl v5a), (sl v6a), (sl v7a), iv a_next.Round, iv a_next.Year]) Zb pz R R R R R R R) (asg R R (wnt (wct ?_)))))))
 obtain rfl := oi t0
 exact Zx R Zb R R pz R fun w hw => ⟨(v4a, v5a, v6a, u6a, v7a), R, hw.weak (zc pk3 (zc pk3 (zc pk3 (zc pk3 zn))))⟩

theorem Zl9 (w : World) (a_g : GGuild) (v0a : Hd) (r0 : rdF w (dm w []) (sl v0a) a_g.Members) (v1a : Hd) (r1 : rdF w (dm w []) (sl v1a) a_g.Stock) (v2a : Hd) (u2a : List Value) (r2 : RdL w (dm w []) (sl v2a) u2a a_g.Entries) (v3a : Hd) (r3 : rdF w (dm w []) (sl v3a) a_g.Books) (a_number : Int) {r : GGuild × Bool} (t0 : Zdt a_g a_number = some r) : Calls Tryz.prog 43 #[.agg #[(sl v0a), (sl v1a), (sl v2a), (sl v3a), .int .i64 a_g.Round, .int .i64 a_g.Year], .int .i64 a_number] w fun e w' => ∃ x : Hd × Hd × Hd × (List Value) × Hd, e = .returned (.tuple #[.agg #[(sl x.1), (sl x.2.1), (sl x.2.2.1), (sl x.2.2.2.2), .int .i64 r.1.Round, .int .i64 r.1.Year], .bool r.2]) ∧ SH w [] [ownF (sl x.1) r.1.Members, ownF (sl x.2.1) r.1.Stock, own (sl x.2.2.1) x.2.2.2.1 r.1.Entries, ownF (sl x.2.2.2.2) r.1.Books] w' := by
 refine cwc (args := [_, _]) Tryz.func43 R Tryz.ntmps43 R ?_
 unfold Zdt at t0
 refine wcr (wle (Zg R R) R fun b1 => (wle (eal (cs := [(sl hn), (sl hn), (sl hn), (sl hn), iv 0, iv 0]) ZE) R fun b2 => (asg R R (wnt (wcr (wlq (v := .agg #[(sl v0a), (sl v1a), (sl v2a), (sl v3a), iv a_g.Round, iv a_g.Year]) (plb Zb pk1 R R R) R (bdO t0 fun v1 hv1 t0 => (wlc (Zan Zg3 R fun w hw => ZZ w a_g v0a (ra r0 hw) v1a (ra r1 hw) v2a u2a (ra r2 hw) v3a (ra r3 hw) hv1) R fun x1 => (wle (eal (cs := [(sl hn), (sl hn), (sl hn), (sl hn), iv 0, iv 0]) ZE) R fun b3 => (wls (sbx (cs' := [(sl x1.1), (sl x1.2.1), (sl x1.2.2.1), (sl x1.2.2.2.2), iv v1.Round, iv v1.Year]) Zb pz R R R R R R R) (asg R R (wnt (wcs (wcr (wlq (pof ZdJ R) R (wlq (v := (sl v3a)) (plx Zhn pk6 R R) R (wlq (pln (rga r3) Zgx R) R (asg R R (wnt (wcr (mv R R (wlq (Zad R R) R (wnt (bdO t0 fun y1 t1 t0 => (wj (J := Int) (X := Unit) (fun z => y1 = z) (fun z _ => [(1, iv a_number), (2, ptr b1 0), (4, ptr b2 0), (6, ptr b3 0), (7, iv z)]) (fun _ _ => [box b3 [(sl x1.1), (sl x1.2.1), (sl x1.2.2.1), (sl x1.2.2.2.2), iv v1.Round, iv v1.Year], box b2 [(sl hn), (sl hn), (sl hn), (sl hn), iv 0, iv 0], box b1 [(sl v0a), (sl v1a), (sl v2a), (sl v3a), iv a_g.Round, iv a_g.Year], ownF (sl x1.1) v1.Members, ownF (sl x1.2.1) v1.Stock, own (sl x1.2.2.1) x1.2.2.2.1 v1.Entries, ownF (sl x1.2.2.2.2) v1.Books]) ?_ ?_)))))))))))))))))))))))))
 refine wcO t1 R (fun h1 t1 => ?_) fun h1 t1 => ?_
 exact wcg (wlq (pof ZdJ R) R (wlq (v := (sl v3a)) (plx Zhn pk6 R R) R (mv R R (wlq (Zaa R R) R (gdO t1 fun g1 t1 => (wlq (ZX (rga r3) Zgx R R g1.1 g1.2) R (wlq (Z5 (rga r3) (ZD g1) Zh0 R) R (wlq (v := iv ((gx a_g.Books (((wr (((a_g.Books.length : Nat) : Int) - 1))).toNat)).Day)) (Zw (rga r3) tk_3 R (ZD g1) R) R (asg R R (wln (wjm _ () (mtE t1) (su5 R R R R R) (zc pz (zc pk4 (zc pk4 so4))))))))))))))
 exact wck (wjm _ () (mtE t1) (su5 R R R R R) (zc pz (zc pk4 (zc pk4 so4))))
 intro j1 _ hp
 obtain rfl : j1 = y1 := hp.symm
 refine wqt (wcr (wlq (pof Zct R) R (wlq (v := (sl x1.1)) (plx ZeK pz R R) R (mv R R (wlq (pof Zc3 R) R (wlq (v := iv a_g.Year) (plx tk_3 pk2 R R) R (bdO t0 fun v2 hv2 t0 => (wlc (cz1 Zw4 R fun w hw => Zoh w v1.Members x1.1 (Rg.on (rgo pk3) hw) a_number a_g.Year hv2) R fun x3 => (mv R R (wlq (pex R R) R (wlq (pex R R) R (asg R R (asg R R (wnt (wcr (mv R R (mv R R (bdO t0 fun v3 hv3 t0 => (wlc (cz1 ZwL R fun w hw => Zp9 w v2.1 x3 (Rg.on (rgo pz) hw) a_number 1 hv3) R fun x4 => (mv R R (wlq (pex R R) R (wlq (pex R R) R (asg R R (asg R R (wnt (wcr (wlq (pof ZdJ R) R (wlq (v := (sl x1.2.2.2.2)) (plx Zhn pk2 R R) R (mv R R (wlq (Zl R (ZlT j1 0 1 20)) R (bdO t0 fun v4 hv4 t0 => (wlc (cz1 ZwM R fun w hw => ZpH w v1.Books x1.2.2.2.2 (Rg.on (rgo pk8) hw) (GBooking.mk j1 0 1 20) hv4) R fun x5 => (mv R R (wlq (pex R R) R (wlq (pex R R) R (asg R R (asg R R (wnt (wcr ?_)))))))))))))))))))))))))))))))))))))))
 refine mv R R (mv R R (wlq (pof Zct R) R (wls (sbx (cs' := [(sl x4), (sl x1.2.1), (sl x1.2.2.1), (sl x1.2.2.2.2), iv v1.Round, iv v1.Year]) ZeK pk3 R R R R R R R) (wlq (pof ZdJ R) R (wls (sbx (cs' := [(sl x4), (sl x1.2.1), (sl x1.2.2.1), (sl x5), iv v1.Round, iv v1.Year]) Zhn pz R R R R R R R) (wnt (wcs (bdO t0 fun y1 t1 t0 => (wj (J := Bool × GGuild) (X := Hd × Hd × Hd × (List Value) × Hd) (fun z => y1 = z) (fun z _ => [(4, ptr b2 0), (5, .bool z.1)]) (fun z x => [box b2 [(sl x.1), (sl x.2.1), (sl x.2.2.1), (sl x.2.2.2.2), iv ((z.2).Round), iv ((z.2).Year)], ownF (sl x.1) ((z.2).Members), ownF (sl x.2.1) ((z.2).Stock), own (sl x.2.2.1) x.2.2.2.1 ((z.2).Entries), ownF (sl x.2.2.2.2) ((z.2).Books)]) ?_ ?_)))))))))
 refine wcg (wlq (v := .agg #[(sl v0a), (sl v1a), (sl v2a), (sl v3a), iv a_g.Round, iv a_g.Year]) (plb Zb pk5 R R R) R (wlq (v := .agg #[(sl x4), (sl x1.2.1), (sl x1.2.2.1), (sl x5), iv v1.Round, iv v1.Year]) (plb Zb pz R R R) R (mv R R (mv R R (wlo (t := 59) t1 R (fun h2 t1 => ?_) fun h2 t1 => ?_)))))
 refine wgn (j := 3) R R R (mv R R (wlq (pit R R) R (mv R R (wlo (t := 62) t1 R (fun h3 t1 => ?_) fun h3 t1 => ?_))))
 refine wgn (j := 6) R R R (mv R R (wlq (pit R R) R (mv R R (wlo (t := 65) t1 R (fun h4 t1 => ?_) fun h4 t1 => ?_))))
 exact wgn (j := 9) R R R (wlq (pof Zcs R) R (wgn (j := 9) R R R (wlq (v := iv a_g.Round) (plx tk_3 pk5 R R) R (wgn (j := 9) R R R (wlq (pol R R) R (wlq (pit R R) R (bdO t1 fun v5 hv5 t1 => (wlc (Zkl [ownF (sl x4) v3.1, ownF (sl x1.2.1) v1.Stock, own (sl x1.2.2.1) x1.2.2.2.1 v1.Entries, ownF (sl x5) v4.1] Zkb (zc pk2 (zc pk6 (zc pk6 (zc pk1 ZdD)))) R fun w fp hw => ZaM w fp a_g v0a ((Zaj r0) w fp hw) v1a ((Zaj r1) w fp hw) v2a u2a ((Zaj r2) w fp hw) v3a ((Zaj r3) w fp hw) (GGuild.mk v3.1 v1.Stock v1.Entries v4.1 v1.Round v1.Year) x4 x1.2.1 x1.2.2.1 x1.2.2.2.1 x5 (a_g.Round == 0) hw.ow hv5) R fun x7 => (wlq (pex R R) R (wlq (pex R R) R (wls (sbx (cs' := [(sl x7.1), (sl x7.2.1), (sl x7.2.2.1), (sl x7.2.2.2.2), iv v5.1.Round, iv v5.1.Year]) Zb pk6 R R R R R R R) (asg R R (wln (wjm _ (x7.1, x7.2.1, x7.2.2.1, x7.2.2.2.1, x7.2.2.2.2) (mtE t1) (su2 R R) so5))))))))))))))
 exact wgf (j := 9) R R R R R (wgf (j := 9) R R R R R (wgf (j := 9) R R R R R (wlq (pif R R) R (bdO t1 fun v6 hv6 t1 => (wlc (Zkl [ownF (sl x4) v3.1, ownF (sl x1.2.1) v1.Stock, own (sl x1.2.2.1) x1.2.2.2.1 v1.Entries, ownF (sl x5) v4.1] Zkb (zc pk2 (zc pk6 (zc pk6 (zc pk1 ZdD)))) R fun w fp hw => ZaM w fp a_g v0a ((Zaj r0) w fp hw) v1a ((Zaj r1) w fp hw) v2a u2a ((Zaj r2) w fp hw) v3a ((Zaj r3) w fp hw) (GGuild.mk v3.1 v1.Stock v1.Entries v4.1 v1.Round v1.Year) x4 x1.2.1 x1.2.2.1 x1.2.2.2.1 x5 false hw.ow hv6) R fun x8 => (wlq (pex R R) R (wlq (pex R R) R (wls (sbx (cs' := [(sl x8.1), (sl x8.2.1), (sl x8.2.2.1), (sl x8.2.2.2.2), iv v6.1.Round, iv v6.1.Year]) Zb pk6 R R R R R R R) (asg R R (wln (wjm _ (x8.1, x8.2.1, x8.2.2.1, x8.2.2.2.1, x8.2.2.2.2) (mtE t1) (su2 R R) so5)))))))))))
 exact wgf (j := 6) R R R R R (wlq (pif R R) R (mv R R (wgf (j := 9) R R R R R (wgf (j := 9) R R R R R (wgf (j := 9) R R R R R (wlq (pif R R) R (bdO t1 fun v7 hv7 t1 => (wlc (Zkl [ownF (sl x4) v3.1, ownF (sl x1.2.1) v1.Stock, own (sl x1.2.2.1) x1.2.2.2.1 v1.Entries, ownF (sl x5) v4.1] Zkb (zc pk2 (zc pk6 (zc pk6 (zc pk1 ZdD)))) R fun w fp hw => ZaM w fp a_g v0a ((Zaj r0) w fp hw) v1a ((Zaj r1) w fp hw) v2a u2a ((Zaj r2) w fp hw) v3a ((Zaj r3) w fp hw) (GGuild.mk v3.1 v1.Stock v1.Entries v4.1 v1.Round v1.Year) x4 x1.2.1 x1.2.2.1 x1.2.2.2.1 x5 false hw.ow hv7) R fun x9 => (wlq (pex R R) R (wlq (pex R R) R (wls (sbx (cs' := [(sl x9.1), (sl x9.2.1), (sl x9.2.2.1), (sl x9.2.2.2.2), iv v7.1.Round, iv v7.1.Year]) Zb pk6 R R R R R R R) (asg R R (wln (wjm _ (x9.1, x9.2.1, x9.2.2.1, x9.2.2.2.1, x9.2.2.2.2) (mtE t1) (su2 R R) so5))))))))))))))
 exact wgf (j := 3) R R R R R (wlq (pif R R) R (mv R R (wgf (j := 6) R R R R R (wlq (pif R R) R (mv R R (wgf (j := 9) R R R R R (wgf (j := 9) R R R R R (wgf (j := 9) R R R R R (wlq (pif R R) R (bdO t1 fun v8 hv8 t1 => (wlc (Zkl [ownF (sl x4) v3.1, ownF (sl x1.2.1) v1.Stock, own (sl x1.2.2.1) x1.2.2.2.1 v1.Entries, ownF (sl x5) v4.1] Zkb (zc pk2 (zc pk6 (zc pk6 (zc pk1 ZdD)))) R fun w fp hw => ZaM w fp a_g v0a ((Zaj r0) w fp hw) v1a ((Zaj r1) w fp hw) v2a u2a ((Zaj r2) w fp hw) v3a ((Zaj r3) w fp hw) (GGuild.mk v3.1 v1.Stock v1.Entries v4.1 v1.Round v1.Year) x4 x1.2.1 x1.2.2.1 x1.2.2.2.1 x5 false hw.ow hv8) R fun x10 => (wlq (pex R R) R (wlq (pex R R) R (wls (sbx (cs' := [(sl x10.1), (sl x10.2.1), (sl x10.2.2.1), (sl x10.2.2.2.2), iv v8.1.Round, iv v8.1.Year]) Zb pk6 R R R R R R R) (asg R R (wln (wjm _ (x10.1, x10.2.1, x10.2.2.1, x10.2.2.2.1, x10.2.2.2.2) (mtE t1) (su2 R R) so5)))))))))))))))))
 intro j2 x6 hp
 obtain rfl : j2 = y1 := hp.symm
 refine wqt (wct ?_)
 obtain rfl := oi t0
 exact Zx R Zb R R pz R fun w hw => ⟨(x6.1, x6.2.1, x6.2.2.1, x6.2.2.2.1, x6.2.2.2.2), R, hw.weak (zc pk1 (zc pk1 (zc pk1 (zc pk1 zn))))⟩

theorem Zl8 (w : World)  {r : GGuild} (t0 : ZcT = some r) : Calls Tryz.prog 19 #[] w fun e w' => ∃ x : Hd × Hd × Hd × (List Value) × Hd, e = .returned (.agg #[(sl x.1), (sl x.2.1), (sl x.2.2.1), (sl x.2.2.2.2), .int .i64 r.Round, .int .i64 r.Year]) ∧ SH w [] [ownF (sl x.1) r.Members, ownF (sl x.2.1) r.Stock, own (sl x.2.2.1) x.2.2.2.1 r.Entries, ownF (sl x.2.2.2.2) r.Books] w' := by
 refine cwc (args := []) Tryz.func19 R Tryz.ntmps19 R ?_
 unfold ZcT at t0
 refine wcr (wle (eal (cs := [(sl hn), (sl hn), (sl hn), (sl hn), iv 0, iv 0]) ZE) R fun b1 => (wnt (wcr (bdO t0 fun v1 hv1 t0 => (wlc (Zan Zxg R fun w hw => Zpc w 2020 hv1) R fun x1 => (mv R R (wlq (pex R R) R (wlq (pex R R) R (wle (eal (cs := [(sl hn), (sl hn), (sl hn), (sl hn), iv 0, iv 0]) ZE) R fun b2 => (wls (sbx (cs' := [(sl x1.1), (sl x1.2.1), (sl x1.2.2.1), (sl x1.2.2.2.2), iv v1.1.Round, iv v1.1.Year]) Zb pz R R R R R R R) (asg R R (wnt (wcs (wcr (asg R R (wnt (Zn t0 fun y1 l1 t0 => (wj (J := (List GMember) × (List Int) × (List GEntry) × (List GBooking) × Int × Int) (X := Hd × Hd × Hd × (List Value) × Hd) (fun z => y1 = z) (fun _ _ => [(0, ptr b1 0), (1, ptr b2 0)]) (fun z x => [box b2 [(sl x.1), (sl x.2.1), (sl x.2.2.1), (sl x.2.2.2.2), iv z.2.2.2.2.1, iv z.2.2.2.2.2], ownF (sl x.1) z.1, ownF (sl x.2.1) z.2.1, own (sl x.2.2.1) x.2.2.2.1 z.2.2.1, ownF (sl x.2.2.2.2) z.2.2.2.1, box b1 [(sl hn), (sl hn), (sl hn), (sl hn), iv 0, iv 0]]) ?_ ?_))))))))))))))))))
 refine wcb (wcf (X := Hd × Hd × Hd × (List Value) × Hd) l1 (fun k1 s1 x1l => [(0, ptr b1 0), (1, ptr b2 0), (3, iv (((k1 + 1) : Nat) : Int))]) (fun k1 s1 x1l => [box b2 [(sl x1l.1), (sl x1l.2.1), (sl x1l.2.2.1), (sl x1l.2.2.2.2), iv s1.2.2.2.2.1, iv s1.2.2.2.2.2], ownF (sl x1l.1) s1.1, ownF (sl x1l.2.1) s1.2.1, own (sl x1l.2.2.1) x1l.2.2.2.1 s1.2.2.1, ownF (sl x1l.2.2.2.2) s1.2.2.2.1, box b1 [(sl hn), (sl hn), (sl hn), (sl hn), iv 0, iv 0]]) (x1.1, x1.2.1, x1.2.2.1, x1.2.2.2.1, x1.2.2.2.2) (su3 R R R) so6 fun k1 s1 x1l hN1 l1 => ?_)
 by_cases hk1 : k1 < 3
 refine fos l1 hk1 fun _ t1 l1 => ?_
 unfold Zgd at t1
 have c1 : (decide ((((k1 + 1) : Nat) : Int) ≤ 3)) = true := ddt (by omega)
 refine wcs (wcr (mv R R (wlq (ZbQ R R) R (wnt (wft R c1 (wck (wqt (wcs (wcb (wcr (wlq (v := .agg #[(sl x1l.1), (sl x1l.2.1), (sl x1l.2.2.1), (sl x1l.2.2.2.2), iv s1.2.2.2.2.1, iv s1.2.2.2.2.2]) (plb Zb pz R R R) R (mv R R (bdO t1 fun v2 hv2 t1 => (wlc (Zan ZuZ R fun w hw => Zl9 w (GGuild.mk s1.1 s1.2.1 s1.2.2.1 s1.2.2.2.1 s1.2.2.2.2.1 s1.2.2.2.2.2) x1l.1 (Rg.on (rgo pk1) hw) x1l.2.1 (Rg.on (rgo pk2) hw) x1l.2.2.1 x1l.2.2.2.1 (Rg.on (rgo pk3) hw) x1l.2.2.2.2 (Rg.on (rgo pk4) hw) (((k1 + 1) : Nat) : Int) hv2) R fun x3 => (mv R R (wlq (pex R R) R (wlq (pex R R) R (wle (eal (cs := [(sl hn), (sl hn), (sl hn), (sl hn), iv 0, iv 0]) ZE) R fun b3 => (wls (sbx (cs' := [(sl x3.1), (sl x3.2.1), (sl x3.2.2.1), (sl x3.2.2.2.2), iv v2.1.Round, iv v2.1.Year]) Zb pz R R R R R R R) (asg R R (wnt (wcg (wlq (v := .agg #[(sl x3.1), (sl x3.2.1), (sl x3.2.2.1), (sl x3.2.2.2.2), iv v2.1.Round, iv v2.1.Year]) (plb Zb pz R R R) R (wls (sbx (cs' := [(sl x3.1), (sl x3.2.1), (sl x3.2.2.1), (sl x3.2.2.2.2), iv v2.1.Round, iv v2.1.Year]) Zb pk5 R R R R R R R) (wln (wqb (wqt (wcg (mv R R (wlq (Zj R R (by omega)) R ?_))))))))))))))))))))))))))))))
 exact asg R R (wln (Zk hk1 (stpN l1 t1) (x3.1, x3.2.1, x3.2.2.1, x3.2.2.2.1, x3.2.2.2.2) (su3 R R R) (zc pz (zc pk1 (zc pk1 (zc pk1 (zc pk1 (zc pk5 zn))))))))
 have c1 : (decide ((((k1 + 1) : Nat) : Int) ≤ 3)) = false := ddf (by omega)
 have en1 := foe l1 hk1
 exact wcs (wcr (mv R R (wlq (ZbQ R R) R (wnt (wff R c1 (wcx (wqe (wqe (wbx (wjm _ (x1l.1, x1l.2.1, x1l.2.2.1, x1l.2.2.2.1, x1l.2.2.2.2) (Sum.inl.inj en1) (su2 R R) so6))))))))))
 intro e1 x2 hp
 obtain rfl : e1 = y1 := hp.symm
 refine wqt (wcr (wlq (v := .agg #[(sl x2.1), (sl x2.2.1), (sl x2.2.2.1), (sl x2.2.2.2.2), iv e1.2.2.2.2.1, iv e1.2.2.2.2.2]) (plb Zb pz R R R) R (wls (sbx (cs' := [(sl x2.1), (sl x2.2.1), (sl x2.2.2.1), (sl x2.2.2.2.2), iv e1.2.2.2.2.1, iv e1.2.2.2.2.2]) Zb pk5 R R R R R R R) (wnt (wct ?_)))))
 obtain rfl := oi t0
 exact wqc R Zb R pz R fun w hw => ⟨(x2.1, x2.2.1, x2.2.2.1, x2.2.2.2.1, x2.2.2.2.2), R, hw.weak (zc pk2 (zc pk2 (zc pk2 (zc pk2 zn))))⟩

theorem ZhP (w : World) (a_a : Int) {r : GCell} (t0 : ZcL a_a = some r) : Calls Tryz.prog 122 #[.int .i64 a_a] w fun e w' => e = .returned (.agg #[.int .i64 r.Split, .int .i64 r.A, .int .i64 r.B]) ∧ SH w [] [] w' := by
 refine cwc (args := [_]) Tryz.func122 R Tryz.ntmps122 R ?_
 unfold ZcL at t0
 refine wcr (wle (eal (cs := [iv 0, iv 0, iv 0]) Zb8) R fun b1 => (wnt (wcs (wcr (mv R R (bdO t0 fun v1 hv1 t0 => (wlc (cz0 Zo1 R fun w hw => ZgV w a_a hv1) R fun _ => (wlq (Zd R) R (wnt (wcO t0 R (fun h1 t0 => ?_) fun h1 t0 => ?_))))))))))
 refine wcr (wlq (Zl R Ziq) R (wls (sbx (cs' := [iv 0, iv 0, iv 0]) Zh pz R R R R R R R) (wnt (wct (wqr ?_)))))
 obtain rfl := oi t0
 exact wqc R Zh R pz R fun w hw => ⟨R, hw.weak zn⟩
 refine wck (wqt (wcr (mv R R (mv R R (wlq (Zl R (Zqx a_a a_a)) R (wls (sbx (cs' := [iv 0, iv a_a, iv a_a]) Zh pz R R R R R R R) (wnt (wct ?_))))))))
 obtain rfl := oi t0
 exact wqc R Zh R pz R fun w hw => ⟨R, hw.weak zn⟩

theorem ZcI (w : World) (a_split : Int) (a_a : Int) (a_b : Int) {r : GCell} (t0 : Zbf a_split a_a a_b = some r) : Calls Tryz.prog 121 #[.int .i64 a_split, .int .i64 a_a, .int .i64 a_b] w fun e w' => e = .returned (.agg #[.int .i64 r.Split, .int .i64 r.A, .int .i64 r.B]) ∧ SH w [] [] w' := by
 refine cwc (args := [_, _, _]) Tryz.func121 R Tryz.ntmps121 R ?_
 unfold Zbf at t0
 refine wcr (wle (eal (cs := [iv 0, iv 0, iv 0]) Zb8) R fun b1 => (wnt (wcs (wcr (mv R R (mv R R (wlq (pol R R) R (wnt (wcO t0 R (fun h1 t0 => ?_) fun h1 t0 => ?_)))))))))
 refine wcr (mv R R (bdO t0 fun v1 hv1 t0 => (wlc (cz0 ZrS R fun w hw => ZhP w a_a hv1) R fun _ => (wls (sbx (cs' := [iv v1.Split, iv v1.A, iv v1.B]) Zh pz R R R R R R R) (wnt (wct (wqr ?_)))))))
 obtain rfl := oi t0
 exact wqc R Zh R pz R fun w hw => ⟨R, hw.weak zn⟩
 refine wck (wqt (wcr (mv R R (mv R R (mv R R (wlq (Zl R (Zbx a_split a_a a_b)) R (wle (eal (cs := [iv 0, iv 0, iv 0]) Zb8) R fun b2 => (wls (sbx (cs' := [iv a_split, iv a_a, iv a_b]) Zh pz R R R R R R R) (wnt (wcs (wcr (wlq (v := .agg #[iv a_split, iv a_a, iv a_b]) (plb Zh pz R R R) R (bdO t0 fun v2 hv2 t0 => (wlc (cz0 ZgL R fun w hw => Za9 w (GCell.mk a_split a_a a_b) hv2) R fun _ => (wlq (Zd R) R (wnt (wcO t0 R (fun h2 t0 => ?_) fun h2 t0 => ?_)))))))))))))))))
 refine wcr (wlq (Zl R Ziq) R (wls (sbx (cs' := [iv 0, iv 0, iv 0]) Zh pk1 R R R R R R R) (wnt (wct (wqr ?_)))))
 obtain rfl := oi t0
 exact wqc R Zh R pz R fun w hw => ⟨R, hw.weak zn⟩
 refine wck (wqt (wcr (wlq (v := .agg #[iv a_split, iv a_a, iv a_b]) (plb Zh pz R R R) R (wls (sbx (cs' := [iv a_split, iv a_a, iv a_b]) Zh pk1 R R R R R R R) (wnt (wct ?_))))))
 obtain rfl := oi t0
 exact wqc R Zh R pz R fun w hw => ⟨R, hw.weak zn⟩

theorem Zog (w : World)  {r : GBlock} (t0 : Zg0 = some r) : Calls Tryz.prog 118 #[] w fun e w' => ∃ x : Hd, e = .returned (.agg #[.int .i64 r.Size, (sl x)]) ∧ SH w [] [ownF (sl x) r.Cells] w' := by
 refine cwc (args := []) Tryz.func118 R Tryz.ntmps118 R ?_
 unfold Zg0 at t0
 refine wcr (wle (eal (cs := [iv 0, (sl hn)]) Zau) R fun b1 => (wnt (wcr (bdO t0 fun v1 hv1 t0 => (wlc (cz0 ZrS R fun w hw => ZhP w 1 hv1) R fun _ => (wle (eal (cs := [iv 0, iv 0, iv 0]) Zb8) R fun b2 => (wls (sbx (cs' := [iv v1.Split, iv v1.A, iv v1.B]) Zh pz R R R R R R R) (wnt (wcs (wcd [box b2 [iv v1.Split, iv v1.A, iv v1.B], box b1 [iv 0, (sl hn)]] 11 mixed (aq (v := .agg #[iv v1.Split, iv v1.A, iv v1.B]) 1 R (plb Zh pz R R R) so2 R (aq (v := .agg #[iv v1.Split, iv v1.A, iv v1.B]) 3 R (plb Zh pz R R R) so2 R (aq (v := .agg #[iv v1.Split, iv v1.A, iv v1.B]) 4 R (plb Zh pz R R R) so2 R (aq (v := .agg #[iv v1.Split, iv v1.A, iv v1.B]) 5 R (plb Zh pz R R R) so2 R (aq (v := .agg #[iv v1.Split, iv v1.A, iv v1.B]) 7 R (plb Zh pz R R R) so2 R (a1 0 (bdO t0 fun v2 hv2 t0 => (wsc R (cz0 ZkM R fun w hw => ZcI w 1 0 1 hv2) (fun _ => (zt so2)) R fun _ => (a1 2 (bdO t0 fun v3 hv3 t0 => (wsc R (cz0 ZkM R fun w hw => ZcI w 2 1 0 hv3) (fun _ => (zt so2)) R fun _ => (a1 6 (bdO t0 fun v4 hv4 t0 => (wsc R (cz0 ZkM R fun w hw => ZcI w 2 0 1 hv4) (fun _ => (zt so2)) R fun _ => (a1 8 (bdO t0 fun v5 hv5 t0 => (wsc R (cz0 ZkM R fun w hw => ZcI w 1 1 0 hv5) (fun _ => (zt so2)) R fun _ => (a1 9 (wse R (ebs (qs := [(0, .agg #[iv v2.Split, iv v2.A, iv v2.B]), (1, .agg #[iv v1.Split, iv v1.A, iv v1.B]), (2, .agg #[iv v3.Split, iv v3.A, iv v3.B]), (3, .agg #[iv v1.Split, iv v1.A, iv v1.B]), (4, .agg #[iv v1.Split, iv v1.A, iv v1.B]), (5, .agg #[iv v1.Split, iv v1.A, iv v1.B]), (6, .agg #[iv v4.Split, iv v4.A, iv v4.B]), (7, .agg #[iv v1.Split, iv v1.A, iv v1.B]), (8, .agg #[iv v5.Split, iv v5.A, iv v5.B])]) R (Zsv v2.Split v2.A v2.B v1.Split v1.A v1.B v3.Split v3.A v3.B v1.Split v1.A v1.B v1.Split v1.A v1.B v1.Split v1.A v1.B v4.Split v4.A v4.B v1.Split v1.A v1.B v5.Split v5.A v5.B)) (fun _ => (zt (zc pk1 (zc pk1 zn)))) R fun b3 => (aq 10 R (Zl R (Zkh 3 (⟨some ⟨b3, 0, none⟩, 9, 9⟩ : Hd))) (zc pk1 (zc pk1 zn)) R (a1 11 (ZR R (sbx (cs' := [iv 3, (sl (⟨some ⟨b3, 0, none⟩, 9, 9⟩ : Hd))]) Zc pk2 R R R R R R R) (Za2 (by kernel_rfl)) ?_))))))))))))))))))))))))))))))))
 refine ae (wqt (wct ?_))
 obtain rfl := oi t0
 exact wqc R Zc R pz R fun w hw => ⟨(⟨some ⟨b3, 0, none⟩, 9, 9⟩ : Hd), R, hw.weak (zc (pbo pk1 (n := 9) (xs := ([v2, v1, v3, v1, v1, v1, v4, v1, v5] : List GCell)) R R (by unfold maxLen; omega)) zn)⟩

theorem ZkX (w : World) (a_x : Int) (a_y : Int) (c_p2 : Int) (b2c : Nat) (q2 : Bx w b2c [.int .i64 c_p2]) {r : GCell} (t0 : Zd1 a_x a_y c_p2 = some r) : Calls Tryz.prog 120 #[.int .i64 a_x, .int .i64 a_y, ptr b2c 0] w fun e w' => e = .returned (.agg #[.int .i64 r.Split, .int .i64 r.A, .int .i64 r.B]) ∧ SH w [] [] w' := by
 refine cwc (args := [_, _, _]) Tryz.func120 R Tryz.ntmps120 R ?_
 unfold Zd1 at t0
 refine wcr (wle (eal (cs := [iv 0, iv 0, iv 0]) Zb8) R fun b1 => (wnt (wcs (wcr (mv R R (wlq (Zex R R) R (mv R R (wlq (Zaf R R) R (wlq (v := iv c_p2) (ZgC q2 tk_3 R R) R (wlq (ZhA R R (by decide)) R ?_))))))))))
 refine wlq (pls R R) R (wnt (wcO t0 R (fun h1 t0 => ?_) fun h1 t0 => ?_))
 refine wcr (bdO t0 fun v1 hv1 t0 => (wlc (cz0 ZkM R fun w hw => ZcI w 1 0 1 hv1) R fun _ => (wls (sbx (cs' := [iv v1.Split, iv v1.A, iv v1.B]) Zh pz R R R R R R R) (wnt (wct (wqr ?_))))))
 obtain rfl := oi t0
 exact wqc R Zh R pz R fun w hw => ⟨R, hw.weak zn⟩
 refine wck (wqt (wcr (wlq (v := iv c_p2) (ZgC q2 tk_3 R R) R (wlq (Zi1 R R (by decide)) R ?_))))
 refine wlq (Zaf R R) R (bdO t0 fun v2 hv2 t0 => (wlc (cz0 ZrS R fun w hw => ZhP w (wr ((wr (c_p2.tdiv 5)) + 1)) hv2) R fun _ => (wls (sbx (cs' := [iv v2.Split, iv v2.A, iv v2.B]) Zh pz R R R R R R R) (wnt (wct ?_)))))
 obtain rfl := oi t0
 exact wqc R Zh R pz R fun w hw => ⟨R, hw.weak zn⟩

theorem ZiT (w : World) (a_size : Int) (a_one : Int → Int → Option GCell) (f1 : Nat) (us1 : List Value) (fn1 : FnAt Tryz.prog f1) (hg1 : ∀ (w' : World) (z0 : Int) (z1 : Int) (_ : Keep [] w w') (z : GCell) (_ : a_one z0 z1 = some z), Calls Tryz.prog f1 (([.int .i64 z0, .int .i64 z1] : List Value) ++ us1).toArray w' fun e w'' => e = .returned (.agg #[.int .i64 z.Split, .int .i64 z.A, .int .i64 z.B]) ∧ SH w' [] [] w'') {r : GBlock} (t0 : Zff a_size a_one = some r) : Calls Tryz.prog 119 #[.int .i64 a_size, .func (.func f1) #[] us1.toArray] w fun e w' => ∃ x : Hd, e = .returned (.agg #[.int .i64 r.Size, (sl x)]) ∧ SH w [] [ownF (sl x) r.Cells] w' := by
 refine cwc (args := [_, _]) Tryz.func119 R Tryz.ntmps119 R ?_
 unfold Zff at t0
 refine wcr (wle (eal (cs := [iv 0, (sl hn)]) Zau) R fun b1 => (wnt (wcr (mv R R (wlq (Zl R (ZkK a_size)) R (wle (eal (cs := [iv 0, (sl hn)]) Zau) R fun b2 => (wls (sbx (cs' := [iv a_size, (sl hn)]) Zc pz R R R R R R R) (wnt (wcs (wcr (mv R R (mv R R (wnt (gdO t0 fun g1 t0 => (Zn t0 fun y1 l1 t0 => (wj (J := List GCell) (X := Hd) (fun z => y1 = z) (fun _ _ => [(4, ptr b1 0), (5, ptr b2 0)]) (fun z x => [box b2 [iv a_size, (sl x)], box b1 [iv 0, (sl hn)], ownF (sl x) z]) ?_ ?_))))))))))))))))
 refine wcb (wcf (X := Hd) l1 (fun k1 s1 x1l => [(0, iv a_size), (1, .func (.func f1) #[] us1.toArray), (4, ptr b1 0), (5, ptr b2 0), (10, iv a_size), (11, iv ((k1 : Nat) : Int))]) (fun k1 s1 x1l => [box b2 [iv a_size, (sl x1l)], box b1 [iv 0, (sl hn)], ownF (sl x1l) s1]) hn (su6 R R R R R R) (zc pz (zc pz (zc ZC zn))) fun k1 s1 x1l hN1 l1 => ?_)
 by_cases hk1 : k1 < (a_size).toNat
 refine fos l1 hk1 fun _ t1 l1 => ?_
 unfold Zh8 at t1
 have c1 : (decide (((k1 : Nat) : Int) < a_size)) = true := ddt (by omega)
 refine wcr (wlq (pls R R) R (wnt (wcs (wft R c1 (wck (wqt (wcs (wcb (wcr (mv R R (asg R R (wnt (wcr (mv R R (mv R R (wnt (Zn t1 fun y2 l2 t1 => (wj (J := List GCell) (X := Hd) (fun z => y2 = z) (fun _ _ => [(0, iv a_size), (1, .func (.func f1) #[] us1.toArray), (4, ptr b1 0), (5, ptr b2 0), (10, iv a_size), (11, iv ((k1 : Nat) : Int))]) (fun z x => [box b2 [iv a_size, (sl x)], box b1 [iv 0, (sl hn)], ownF (sl x) z]) ?_ ?_))))))))))))))))))
 refine wcb (wcf (X := Hd) l2 (fun k2 s2 x2l => [(0, iv a_size), (1, .func (.func f1) #[] us1.toArray), (4, ptr b1 0), (5, ptr b2 0), (6, iv ((k1 : Nat) : Int)), (10, iv a_size), (11, iv ((k1 : Nat) : Int)), (14, iv a_size), (15, iv ((k2 : Nat) : Int))]) (fun k2 s2 x2l => [box b2 [iv a_size, (sl x2l)], box b1 [iv 0, (sl hn)], ownF (sl x2l) s2]) x1l (su9 R R R R R R R R R) so3 fun k2 s2 x2l hN2 l2 => ?_)
 by_cases hk2 : k2 < (a_size).toNat
 refine fos l2 hk2 fun _ t2 l2 => ?_
 unfold Zh7 at t2
 have c2 : (decide (((k2 : Nat) : Int) < a_size)) = true := ddt (by omega)
 refine wcr (wlq (pls R R) R (wnt (wcs (wft R c2 (wck (wqt (wcs (wcb (wcr (mv R R (asg R R (wnt (wcd [box b2 [iv a_size, (sl x2l)], box b1 [iv 0, (sl hn)]] 9 mixed (aq 0 R (pof Zv R) so2 R (aq (v := (sl x2l)) 1 R (plx ZN pz R R) so2 R (aq 2 R (pom R) so2 R (aq 3 R (pom R) so2 R (aq 4 R (pom R) so2 R (a1 5 (bdO t2 fun v1 hv1 t2 => (wsc R (co_d fn1 R R fun w hw => hg1 w ((k2 : Nat) : Int) ((k1 : Nat) : Int) hw.keep _ hv1) (fun _ => (zt so2)) R fun _ => (a1 6 (wse R (ebs R (ZkW v1.Split v1.A v1.B)) (fun _ => (zt (zc pk1 (zc pk1 zn)))) R fun b3 => (a1 7 (gdO t2 fun g2 t2 => (wse R (Zf (xs := s2) (ys := ([v1] : List GCell)) Zk8 pk3 R R (Zi fun _ g => Rg.on (rgo (pbo pz (n := 1) (xs := ([v1] : List GCell)) R R (by unfold maxLen; omega))) g) g2) (fun _ => (zt (zc pk2 (zc pk2 zn)))) R fun x3 => ?_))))))))))))))))))))))))))
 refine aq 8 R (pof Zv R) (zc pk2 (zc pk2 zn)) R (a1 9 (ZR R (sbx (cs' := [iv a_size, (sl x3)]) ZN pk2 R R R R R R R) (Za2 (by kernel_rfl)) ?_))
 refine ae (wqb (wqt (wcg (wlq (Zj R R (by omega)) R ?_))))
 exact mv R R (wln (Zk hk2 (stpN l2 t2) x3 (su9 R R R R R R R R R) (zc pz (zc pk2 so1))))
 have c2 : (decide (((k2 : Nat) : Int) < a_size)) = false := ddf (by omega)
 have en1 := foe l2 hk2
 exact wcr (wlq (pls R R) R (wnt (wcs (wff R c2 (wcx (wqe (wqe (wbx (wjm _ x2l (Sum.inl.inj en1) (su6 R R R R R R) so3)))))))))
 intro e2 x2 hp
 obtain rfl : e2 = y2 := hp.symm
 refine wqb (wqt (wcg (wlq (Zj R R (by omega)) R ?_)))
 exact mv R R (wln (Zk hk1 (stpN l1 t1) x2 (su6 R R R R R R) so3))
 have c1 : (decide (((k1 : Nat) : Int) < a_size)) = false := ddf (by omega)
 have en2 := foe l1 hk1
 exact wcr (wlq (pls R R) R (wnt (wcs (wff R c1 (wcx (wqe (wqe (wbx (wjm _ x1l (Sum.inl.inj en2) (su2 R R) so3)))))))))
 intro e1 x1 hp
 obtain rfl : e1 = y1 := hp.symm
 refine wqt (wcr (wlq (v := .agg #[iv a_size, (sl x1)]) (plb Zc pz R R R) R (wls (sbx (cs' := [iv a_size, (sl x1)]) Zc pk1 R R R R R R R) (wnt (wct ?_)))))
 obtain rfl := oi t0
 exact wqc R Zc R pz R fun w hw => ⟨x1, R, hw.weak (zc pk2 zn)⟩

theorem Zmn (w : World) (a_n : Int) {r : GBlock} (t0 : ZdO a_n = some r) : Calls Tryz.prog 87 #[.int .i64 a_n] w fun e w' => ∃ x : Hd, e = .returned (.agg #[.int .i64 r.Size, (sl x)]) ∧ SH w [] [ownF (sl x) r.Cells] w' := by
 refine cwc (args := [_]) Tryz.func87 R Tryz.ntmps87 R ?_
 unfold ZdO at t0
 refine wcr (wle (Zg R R) R fun b1 => (wle (eal (cs := [iv 0, (sl hn)]) Zau) R fun b2 => (wnt (wcs (wcb (wcr (wlq (v := iv a_n) (plx tk_3 pk1 R R) R (wlq (pol R R) R (asg R R (wnt (wcO t0 R (fun h1 t0 => ?_) fun h1 t0 => ?_)))))))))))
 refine wcr (bdO t0 fun v1 hv1 t0 => (wlc (cz1 Zwk R fun w hw => Zog w hv1) R fun x1 => (wls (sbx (cs' := [iv v1.Size, (sl x1)]) Zc pk1 R R R R R R R) (wnt (wct (wbr (wqr ?_)))))))
 obtain rfl := oi t0
 exact wqc R Zc R pz R fun w hw => ⟨x1, R, hw.weak (zc pk1 zn)⟩
 refine wcr (wlq (v := iv a_n) (plx tk_3 pk1 R R) R (bdO t0 fun v2 hv2 t0 => (wlc (cz0 ZaH R fun w hw => Zq w a_n 1 9 hv2) R fun _ => (wlq (Zd R) R (asg R R (wnt (wcO t0 R (fun h2 t0 => ?_) fun h2 t0 => ?_)))))))
 refine wcr (wlq (Zl R Zik) R (wls (sbx (cs' := [iv 0, (sl hn)]) Zc pz R R R R R R R) (wnt (wct (wbr (wqr ?_))))))
 obtain rfl := oi t0
 exact wqc R Zc R pz R fun w hw => ⟨hn, R, hw.weak (zc ZC zn)⟩
 refine wck (wqb (wqt (wcr (wlq (ZiR R) R (bdO t0 fun v3 hv3 t0 => (wlc (cz1 Zpx R fun w hw => ZiT w 2 (fun z0 z1 => Zd1 z0 z1 a_n) 120 [ptr b1 0] Zv2 (fun w2 z0 z1  hk _ hz => ZkX w2 z0 z1 a_n b1 (Bx.keep (hw.at_box pk1) hk) hz) hv3) R fun x2 => (wls (sbx (cs' := [iv v3.Size, (sl x2)]) Zc pk1 R R R R R R R) (wnt (wct ?_)))))))))
 obtain rfl := oi t0
 exact wqc R Zc R pz R fun w hw => ⟨x2, R, hw.weak (zc pk1 zn)⟩

theorem Zlp (w : World) (a_b : GBlock) (v0a : Hd) (r0 : rdF w (dm w []) (sl v0a) a_b.Cells) (a_x : Int) (a_y : Int) {r : Bool} (t0 : ZcZ a_b a_x a_y = some r) : Calls Tryz.prog 128 #[.agg #[.int .i64 a_b.Size, (sl v0a)], .int .i64 a_x, .int .i64 a_y] w fun e w' => e = .returned (.bool r) ∧ SH w [] [] w' := by
 refine cwc (args := [_, _, _]) Tryz.func128 R Tryz.ntmps128 R ?_
 unfold ZcZ at t0
 refine wcr (wle (Zg R R) R fun b1 => (asg R R (wnt (wcs (bdO t0 fun y1 t1 t0 => (wj (J := Bool) (X := Unit) (fun z => y1 = z) (fun z _ => [(6, .bool z)]) (fun _ _ => []) ?_ ?_))))))
 refine wcg (wlq (v := .agg #[iv a_b.Size, (sl v0a)]) (plb Zc pz R R R) R (bdO t1 fun v1 hv1 t1 => (wlc (cz0 Zea R fun w hw => Z0 w a_b v0a (ra r0 hw) hv1) R fun _ => (mv R R (wlo (t := 9) t1 R (fun h1 t1 => ?_) fun h1 t1 => ?_)))))
 refine wgn (j := 2) R R R (mv R R (wgn (j := 2) R R R (wlq (pof ZM R) R (wgn (j := 2) R R R (wlq (v := iv a_b.Size) (plx tk_3 pz R R) R (wgn (j := 2) R R R (wlq (Zaa R R) R (bdO t1 fun v2 hv2 t1 => (wgn (j := 2) R R R (wlc (cz0 ZaH R fun w hw => Zq w a_x 0 (wr (a_b.Size - 1)) hv2) R (fun _ => (wlq (pit R R) R (mv R R (wlo (t := 16) t1 R (fun h2 t1 => ?_) fun h2 t1 => ?_))))))))))))))
 exact wgn (j := 9) R R R (mv R R (wgn (j := 9) R R R (wlq (pof ZM R) R (wgn (j := 9) R R R (wlq (v := iv a_b.Size) (plx tk_3 pz R R) R (wgn (j := 9) R R R (wlq (Zaa R R) R (bdO t1 fun v3 hv3 t1 => (wgn (j := 9) R R R (wlc (cz0 ZaH R fun w hw => Zq w a_y 0 (wr (a_b.Size - 1)) hv3) R (fun _ => (wlq (pit R R) R (asg R R (wln (wjm _ () (mtE t1) (su1 R) zn)))))))))))))))
 exact wgf (j := 9) R R R R R (wgf (j := 9) R R R R R (wgf (j := 9) R R R R R (wgf (j := 9) R R R R R (wgf (j := 9) R R R R R (wlq (pif R R) R (asg R R (wln (wjm _ () (mtE t1) (su1 R) zn))))))))
 exact wgf (j := 2) R R R R R (wgf (j := 2) R R R R R (wgf (j := 2) R R R R R (wgf (j := 2) R R R R R (wgf (j := 2) R R R R R (wlq (pif R R) R (mv R R (wgf (j := 9) R R R R R (wgf (j := 9) R R R R R (wgf (j := 9) R R R R R (wgf (j := 9) R R R R R (wgf (j := 9) R R R R R (wlq (pif R R) R (asg R R (wln (wjm _ () (mtE t1) (su1 R) zn)))))))))))))))
 intro j1 _ hp
 obtain rfl : j1 = y1 := hp.symm
 refine wqt (wct ?_)
 obtain rfl := oi t0
 exact wq1 R R fun w hw => ⟨R, hw.weak zn⟩

theorem ZhI (w : World) (a_b : GBlock) (v0a : Hd) (r0 : rdF w (dm w []) (sl v0a) a_b.Cells) (a_x : Int) (a_y : Int) {r : GCell} (t0 : ZdE a_b a_x a_y = some r) : Calls Tryz.prog 99 #[.agg #[.int .i64 a_b.Size, (sl v0a)], .int .i64 a_x, .int .i64 a_y] w fun e w' => e = .returned (.agg #[.int .i64 r.Split, .int .i64 r.A, .int .i64 r.B]) ∧ SH w [] [] w' := by
 refine cwc (args := [_, _, _]) Tryz.func99 R Tryz.ntmps99 R ?_
 unfold ZdE at t0
 refine wcr (wle (Zg R R) R fun b1 => (wle (eal (cs := [iv 0, iv 0, iv 0]) Zb8) R fun b2 => (wnt (wcs (wcr (wlq (v := .agg #[iv a_b.Size, (sl v0a)]) (plb Zc pk1 R R R) R (mv R R (mv R R (bdO t0 fun v1 hv1 t0 => (wlc (cz0 Zv5 R fun w hw => Zlp w a_b v0a (ra r0 hw) a_x a_y hv1) R fun _ => (wlq (Zd R) R (wnt (wcO t0 R (fun h1 t0 => ?_) fun h1 t0 => ?_)))))))))))))
 refine wcr (wlq (Zl R Ziq) R (wls (sbx (cs' := [iv 0, iv 0, iv 0]) Zh pz R R R R R R R) (wnt (wct (wqr ?_)))))
 obtain rfl := oi t0
 exact wqc R Zh R pz R fun w hw => ⟨R, hw.weak zn⟩
 refine wck (wqt (wcr (wlq (pof Zv R) R (wlq (v := (sl v0a)) (plx ZN pk1 R R) R (mv R R (wlq (pof ZM R) R (wlq (v := iv a_b.Size) (plx tk_3 pk1 R R) R (wlq (Zex R R) R (mv R R (wlq (Zaf R R) R (gdO t0 fun g1 t0 => (wlq (ZX (rga r0) ZU R R g1.1 g1.2) R (wlq (v := .agg #[iv ((gx a_b.Cells (((wr ((wr (a_y * a_b.Size)) + a_x))).toNat)).Split), iv ((gx a_b.Cells (((wr ((wr (a_y * a_b.Size)) + a_x))).toNat)).A), iv ((gx a_b.Cells (((wr ((wr (a_y * a_b.Size)) + a_x))).toNat)).B)]) (Zaw (rga r0) Zh R (ZD g1) R R R) R (wls (sbx (cs' := [iv ((gx a_b.Cells (((wr ((wr (a_y * a_b.Size)) + a_x))).toNat)).Split), iv ((gx a_b.Cells (((wr ((wr (a_y * a_b.Size)) + a_x))).toNat)).A), iv ((gx a_b.Cells (((wr ((wr (a_y * a_b.Size)) + a_x))).toNat)).B)]) Zh pz R R R R R R R) (wnt (wct ?_))))))))))))))))
 obtain rfl := oi t0
 exact wqc R Zh R pz R fun w hw => ⟨R, hw.weak zn⟩

theorem Zm2 (w : World) (a_c : GCell) {r : GCell} (t0 : Zen a_c = some r) : Calls Tryz.prog 214 #[.agg #[.int .i64 a_c.Split, .int .i64 a_c.A, .int .i64 a_c.B]] w fun e w' => e = .returned (.agg #[.int .i64 r.Split, .int .i64 r.A, .int .i64 r.B]) ∧ SH w [] [] w' := by
 refine cwc (args := [_]) Tryz.func214 R Tryz.ntmps214 R ?_
 unfold Zen at t0
 refine wcr (wle (Zg R R) R fun b1 => (wle (eal (cs := [iv 0, iv 0, iv 0]) Zb8) R fun b2 => (wnt (wcs (wcb (wcr (wlq (v := .agg #[iv a_c.Split, iv a_c.A, iv a_c.B]) (plb Zh pk1 R R R) R (bdO t0 fun v1 hv1 t0 => (wlc (cz0 ZgL R fun w hw => Za9 w a_c hv1) R fun _ => (wlq (Zd R) R (asg R R (wnt (wcO t0 R (fun h1 t0 => ?_) fun h1 t0 => ?_)))))))))))))
 refine wcr (wlq (Zl R Ziq) R (wls (sbx (cs' := [iv 0, iv 0, iv 0]) Zh pz R R R R R R R) (wnt (wct (wbr (wqr ?_))))))
 obtain rfl := oi t0
 exact wqc R Zh R pz R fun w hw => ⟨R, hw.weak zn⟩
 refine wcr (wlq (pof Zbc R) R (wlq (v := iv a_c.Split) (plx tk_3 pk1 R R) R (wlq (pol R R) R (asg R R (wnt (wcO t0 R (fun h2 t0 => ?_) fun h2 t0 => ?_))))))
 refine wcr (wlq (v := .agg #[iv a_c.Split, iv a_c.A, iv a_c.B]) (plb Zh pk1 R R R) R (wls (sbx (cs' := [iv a_c.Split, iv a_c.A, iv a_c.B]) Zh pz R R R R R R R) (wnt (wct (wbr (wqr ?_))))))
 obtain rfl := oi t0
 exact wqc R Zh R pz R fun w hw => ⟨R, hw.weak zn⟩
 refine wck (wqb (wqt (wcr (wlq (pof Zbc R) R (wlq (v := iv a_c.Split) (plx tk_3 pk1 R R) R (wlq (Zaa R R) R (wlq (pof Za6 R) R (wlq (v := iv a_c.B) (plx tk_3 pk1 R R) R (wlq (pof ZaT R) R (wlq (v := iv a_c.A) (plx tk_3 pk1 R R) R (wlq (Zl R (Zbx (wr (3 - a_c.Split)) a_c.B a_c.A)) R (wls (sbx (cs' := [iv (wr (3 - a_c.Split)), iv a_c.B, iv a_c.A]) Zh pz R R R R R R R) (wnt (wct ?_))))))))))))))
 obtain rfl := oi t0
 exact wqc R Zh R pz R fun w hw => ⟨R, hw.weak zn⟩

theorem Zk4 (w : World) (a_x : Int) (a_y : Int) (c_p2 : GBlock) (v0a : Hd) (r0 : rdF w (dm w []) (sl v0a) c_p2.Cells) (b2c : Nat) (q2 : Bx w b2c [.int .i64 c_p2.Size, (sl v0a)]) {r : GCell} (t0 : ZcE a_x a_y c_p2 = some r) : Calls Tryz.prog 213 #[.int .i64 a_x, .int .i64 a_y, ptr b2c 0] w fun e w' => e = .returned (.agg #[.int .i64 r.Split, .int .i64 r.A, .int .i64 r.B]) ∧ SH w [] [] w' := by
 refine cwc (args := [_, _, _]) Tryz.func213 R Tryz.ntmps213 R ?_
 unfold ZcE at t0
 refine wcr (wle (eal (cs := [iv 0, iv 0, iv 0]) Zb8) R fun b1 => (wnt (wcr (wlq (v := .agg #[iv c_p2.Size, (sl v0a)]) (Zjf q2 Zc R R R) R (wlq (pof ZM R) R (wlq (v := iv c_p2.Size) (ZgC q2 tk_3 R R) R (wlq (Zaa R R) R (mv R R (wlq (Zaa R R) R (mv R R (bdO t0 fun v1 hv1 t0 => (wlc (cz0 Zq2 R fun w hw => ZhI w c_p2 v0a (ra r0 hw) (wr ((wr (c_p2.Size - 1)) - a_x)) a_y hv1) R fun _ => (bdO t0 fun v2 hv2 t0 => (wlc (cz0 Zwc R fun w hw => Zm2 w v1 hv2) R fun _ => (wls (sbx (cs' := [iv v2.Split, iv v2.A, iv v2.B]) Zh pz R R R R R R R) (wnt (wct ?_)))))))))))))))))
 obtain rfl := oi t0
 exact wqc R Zh R pz R fun w hw => ⟨R, hw.weak zn⟩

theorem Zmx (w : World) (a_b : GBlock) (v0a : Hd) (r0 : rdF w (dm w []) (sl v0a) a_b.Cells) {r : GBlock} (t0 : ZdS a_b = some r) : Calls Tryz.prog 208 #[.agg #[.int .i64 a_b.Size, (sl v0a)]] w fun e w' => ∃ x : Hd, e = .returned (.agg #[.int .i64 r.Size, (sl x)]) ∧ SH w [] [ownF (sl x) r.Cells] w' := by
 refine cwc (args := [_]) Tryz.func208 R Tryz.ntmps208 R ?_
 unfold ZdS at t0
 refine wcr (wle (Zg R R) R fun b1 => (wle (eal (cs := [iv 0, (sl hn)]) Zau) R fun b2 => (wnt (wcs (wcr (wlq (v := .agg #[iv a_b.Size, (sl v0a)]) (plb Zc pk1 R R R) R (bdO t0 fun v1 hv1 t0 => (wlc (cz0 Zea R fun w hw => Z0 w a_b v0a (ra r0 hw) hv1) R fun _ => (wlq (Zd R) R (wnt (wcO t0 R (fun h1 t0 => ?_) fun h1 t0 => ?_)))))))))))
 refine wcr (wlq (Zl R Zik) R (wls (sbx (cs' := [iv 0, (sl hn)]) Zc pz R R R R R R R) (wnt (wct (wqr ?_)))))
 obtain rfl := oi t0
 exact wqc R Zc R pz R fun w hw => ⟨hn, R, hw.weak (zc ZC zn)⟩
 refine wck (wqt (wcr (wlq (pof ZM R) R (wlq (v := iv a_b.Size) (plx tk_3 pk1 R R) R (wlq (ZiR R) R (bdO t0 fun v2 hv2 t0 => (wlc (cz1 Zpx R fun w hw => ZiT w a_b.Size (fun z0 z1 => ZcE z0 z1 a_b) 213 [ptr b1 0] Zwz (fun w2 z0 z1  hk _ hz => Zk4 w2 z0 z1 a_b v0a (RdL.later (ra r0 hw) hk) b1 (Bx.keep (hw.at_box pk1) hk) hz) hv2) R fun x1 => (wls (sbx (cs' := [iv v2.Size, (sl x1)]) Zc pk1 R R R R R R R) (wnt (wct ?_))))))))))
 obtain rfl := oi t0
 exact wqc R Zc R pz R fun w hw => ⟨x1, R, hw.weak (zc pk1 zn)⟩

theorem ZpC (w : World) (a_c : GCell) {r : GCell} (t0 : ZfW a_c = some r) : Calls Tryz.prog 216 #[.agg #[.int .i64 a_c.Split, .int .i64 a_c.A, .int .i64 a_c.B]] w fun e w' => e = .returned (.agg #[.int .i64 r.Split, .int .i64 r.A, .int .i64 r.B]) ∧ SH w [] [] w' := by
 refine cwc (args := [_]) Tryz.func216 R Tryz.ntmps216 R ?_
 unfold ZfW at t0
 refine wcr (wle (Zg R R) R fun b1 => (wle (eal (cs := [iv 0, iv 0, iv 0]) Zb8) R fun b2 => (wnt (wcs (wcb (wcr (wlq (v := .agg #[iv a_c.Split, iv a_c.A, iv a_c.B]) (plb Zh pk1 R R R) R (bdO t0 fun v1 hv1 t0 => (wlc (cz0 ZgL R fun w hw => Za9 w a_c hv1) R fun _ => (wlq (Zd R) R (asg R R (wnt (wcO t0 R (fun h1 t0 => ?_) fun h1 t0 => ?_)))))))))))))
 refine wcr (wlq (Zl R Ziq) R (wls (sbx (cs' := [iv 0, iv 0, iv 0]) Zh pz R R R R R R R) (wnt (wct (wbr (wqr ?_))))))
 obtain rfl := oi t0
 exact wqc R Zh R pz R fun w hw => ⟨R, hw.weak zn⟩
 refine wcr (wlq (pof Zbc R) R (wlq (v := iv a_c.Split) (plx tk_3 pk1 R R) R (wlq (pol R R) R (asg R R (wnt (wcO t0 R (fun h2 t0 => ?_) fun h2 t0 => ?_))))))
 refine wcr (wlq (pof Za6 R) R (wlq (v := iv a_c.B) (plx tk_3 pk1 R R) R (wlq (pof ZaT R) R (wlq (v := iv a_c.A) (plx tk_3 pk1 R R) R (wlq (Zl R (Zbx 2 a_c.B a_c.A)) R (wls (sbx (cs' := [iv 2, iv a_c.B, iv a_c.A]) Zh pz R R R R R R R) (wnt (wct (wbr (wqr ?_))))))))))
 obtain rfl := oi t0
 exact wqc R Zh R pz R fun w hw => ⟨R, hw.weak zn⟩
 refine wcr (wlq (pof Zbc R) R (wlq (v := iv a_c.Split) (plx tk_3 pk1 R R) R (wlq (pol R R) R (asg R R (wnt (wcO t0 R (fun h3 t0 => ?_) fun h3 t0 => ?_))))))
 refine wcr (wlq (pof ZaT R) R (wlq (v := iv a_c.A) (plx tk_3 pk1 R R) R (wlq (pof Za6 R) R (wlq (v := iv a_c.B) (plx tk_3 pk1 R R) R (wlq (Zl R (Zbx 1 a_c.A a_c.B)) R (wls (sbx (cs' := [iv 1, iv a_c.A, iv a_c.B]) Zh pz R R R R R R R) (wnt (wct (wbr (wqr ?_))))))))))
 obtain rfl := oi t0
 exact wqc R Zh R pz R fun w hw => ⟨R, hw.weak zn⟩
 refine wck (wqb (wqt (wcr (wlq (v := .agg #[iv a_c.Split, iv a_c.A, iv a_c.B]) (plb Zh pk1 R R R) R (wls (sbx (cs' := [iv a_c.Split, iv a_c.A, iv a_c.B]) Zh pz R R R R R R R) (wnt (wct ?_)))))))
 obtain rfl := oi t0
 exact wqc R Zh R pz R fun w hw => ⟨R, hw.weak zn⟩

theorem ZlW (w : World) (a_x : Int) (a_y : Int) (c_p2 : GBlock) (v0a : Hd) (r0 : rdF w (dm w []) (sl v0a) c_p2.Cells) (b2c : Nat) (q2 : Bx w b2c [.int .i64 c_p2.Size, (sl v0a)]) {r : GCell} (t0 : Zdf a_x a_y c_p2 = some r) : Calls Tryz.prog 215 #[.int .i64 a_x, .int .i64 a_y, ptr b2c 0] w fun e w' => e = .returned (.agg #[.int .i64 r.Split, .int .i64 r.A, .int .i64 r.B]) ∧ SH w [] [] w' := by
 refine cwc (args := [_, _, _]) Tryz.func215 R Tryz.ntmps215 R ?_
 unfold Zdf at t0
 refine wcr (wle (eal (cs := [iv 0, iv 0, iv 0]) Zb8) R fun b1 => (wnt (wcr (wlq (v := .agg #[iv c_p2.Size, (sl v0a)]) (Zjf q2 Zc R R R) R (mv R R (wlq (pof ZM R) R (wlq (v := iv c_p2.Size) (ZgC q2 tk_3 R R) R (wlq (Zaa R R) R (mv R R (wlq (Zaa R R) R (bdO t0 fun v1 hv1 t0 => (wlc (cz0 Zq2 R fun w hw => ZhI w c_p2 v0a (ra r0 hw) a_y (wr ((wr (c_p2.Size - 1)) - a_x)) hv1) R fun _ => (bdO t0 fun v2 hv2 t0 => (wlc (cz0 Zwx R fun w hw => ZpC w v1 hv2) R fun _ => (wls (sbx (cs' := [iv v2.Split, iv v2.A, iv v2.B]) Zh pz R R R R R R R) (wnt (wct ?_)))))))))))))))))
 obtain rfl := oi t0
 exact wqc R Zh R pz R fun w hw => ⟨R, hw.weak zn⟩

theorem ZnO (w : World) (a_b : GBlock) (v0a : Hd) (r0 : rdF w (dm w []) (sl v0a) a_b.Cells) {r : GBlock} (t0 : ZeU a_b = some r) : Calls Tryz.prog 209 #[.agg #[.int .i64 a_b.Size, (sl v0a)]] w fun e w' => ∃ x : Hd, e = .returned (.agg #[.int .i64 r.Size, (sl x)]) ∧ SH w [] [ownF (sl x) r.Cells] w' := by
 refine cwc (args := [_]) Tryz.func209 R Tryz.ntmps209 R ?_
 unfold ZeU at t0
 refine wcr (wle (Zg R R) R fun b1 => (wle (eal (cs := [iv 0, (sl hn)]) Zau) R fun b2 => (wnt (wcs (wcr (wlq (v := .agg #[iv a_b.Size, (sl v0a)]) (plb Zc pk1 R R R) R (bdO t0 fun v1 hv1 t0 => (wlc (cz0 Zea R fun w hw => Z0 w a_b v0a (ra r0 hw) hv1) R fun _ => (wlq (Zd R) R (wnt (wcO t0 R (fun h1 t0 => ?_) fun h1 t0 => ?_)))))))))))
 refine wcr (wlq (Zl R Zik) R (wls (sbx (cs' := [iv 0, (sl hn)]) Zc pz R R R R R R R) (wnt (wct (wqr ?_)))))
 obtain rfl := oi t0
 exact wqc R Zc R pz R fun w hw => ⟨hn, R, hw.weak (zc ZC zn)⟩
 refine wck (wqt (wcr (wlq (pof ZM R) R (wlq (v := iv a_b.Size) (plx tk_3 pk1 R R) R (wlq (ZiR R) R (bdO t0 fun v2 hv2 t0 => (wlc (cz1 Zpx R fun w hw => ZiT w a_b.Size (fun z0 z1 => Zdf z0 z1 a_b) 215 [ptr b1 0] Zv9 (fun w2 z0 z1  hk _ hz => ZlW w2 z0 z1 a_b v0a (RdL.later (ra r0 hw) hk) b1 (Bx.keep (hw.at_box pk1) hk) hz) hv2) R fun x1 => (wls (sbx (cs' := [iv v2.Size, (sl x1)]) Zc pk1 R R R R R R R) (wnt (wct ?_))))))))))
 obtain rfl := oi t0
 exact wqc R Zc R pz R fun w hw => ⟨x1, R, hw.weak (zc pk1 zn)⟩

theorem ZoX (w : World) (a_b : GBlock) (v0a : Hd) (r0 : rdF w (dm w []) (sl v0a) a_b.Cells) (a_k : Int) {r : GBlock} (t0 : ZfR a_b a_k = some r) : Calls Tryz.prog 199 #[.agg #[.int .i64 a_b.Size, (sl v0a)], .int .i64 a_k] w fun e w' => ∃ x : Hd, e = .returned (.agg #[.int .i64 r.Size, (sl x)]) ∧ SH w [] [ownF (sl x) r.Cells] w' := by
 refine cwc (args := [_, _]) Tryz.func199 R Tryz.ntmps199 R ?_
 unfold ZfR at t0
 refine wcr (wle (Zg R R) R fun b1 => (wle (eal (cs := [iv 0, (sl hn)]) Zau) R fun b2 => (wnt (wcs (wcs (bdO t0 fun y1 t1 t0 => (wj (J := Bool) (X := Unit) (fun z => y1 = z) (fun z _ => [(1, iv a_k), (2, ptr b1 0), (4, ptr b2 0), (13, .bool z)]) (fun _ _ => [box b2 [iv 0, (sl hn)], box b1 [iv a_b.Size, (sl v0a)]]) ?_ ?_)))))))
 refine wcg (wlq (v := .agg #[iv a_b.Size, (sl v0a)]) (plb Zc pk1 R R R) R (bdO t1 fun v1 hv1 t1 => (wlc (cz0 Zea R fun w hw => Z0 w a_b v0a (ra r0 hw) hv1) R fun _ => (wlq (Zd R) R (mv R R (wlo (t := 9) t1 R (fun h1 t1 => ?_) fun h1 t1 => ?_))))))
 exact wgf (j := 3) R R R R R (wgf (j := 3) R R R R R (wgf (j := 3) R R R R R (wlq (pit R R) R (wln (wjm _ () (mtE t1) (su4 R R R R) so2)))))
 exact wgn (j := 3) R R R (mv R R (bdO t1 fun v2 hv2 t1 => (wgn (j := 3) R R R (wlc (cz0 ZaH R fun w hw => Zq w a_k 0 7 hv2) R (fun _ => (wgn (j := 3) R R R (wlq (Zd R) R (wlq (pif R R) R (wln (wjm _ () (mtE t1) (su4 R R R R) so2))))))))))
 intro j1 _ hp
 obtain rfl : j1 = y1 := hp.symm
 refine wqt (wcO t0 R (fun h2 t0 => ?_) fun h2 t0 => ?_)
 refine wcr (wlq (Zl R Zik) R (wls (sbx (cs' := [iv 0, (sl hn)]) Zc pz R R R R R R R) (wnt (wct (wqr ?_)))))
 obtain rfl := oi t0
 exact wqc R Zc R pz R fun w hw => ⟨hn, R, hw.weak (zc ZC zn)⟩
 refine wck (wqt (wcr (wlq (v := .agg #[iv a_b.Size, (sl v0a)]) (plb Zc pk1 R R R) R (bdO t0 fun v3 hv3 t0 => (wlc (cz1 ZlF R fun w hw => Zbk w a_b v0a (ra r0 hw) hv3) R fun x2 => (wle (eal (cs := [iv 0, (sl hn)]) Zau) R fun b3 => (wls (sbx (cs' := [iv v3.Size, (sl x2)]) Zc pz R R R R R R R) (wnt (wcs (wcr (mv R R (wlq (ZeS R R) R (wnt (bdO t0 fun y1 t1 t0 => (wj (J := GBlock) (X := Hd) (fun z => y1 = z) (fun _ _ => [(1, iv a_k), (4, ptr b2 0), (5, ptr b3 0)]) (fun z x => [box b3 [iv ((z).Size), (sl x)], box b2 [iv 0, (sl hn)], ownF (sl x) ((z).Cells)]) ?_ ?_)))))))))))))))
 refine wcO t1 R (fun h3 t1 => ?_) fun h3 t1 => ?_
 exact wcg (wlq (v := .agg #[iv a_b.Size, (sl v0a)]) (plb Zc pk3 R R R) R (bdO t1 fun v4 hv4 t1 => (wlc (cz1 Zwb R fun w hw => Zmx w a_b v0a (ra r0 hw) hv4) R fun x4 => (wls (sbx (cs' := [iv v4.Size, (sl x4)]) Zc pk1 R R R R R R R) (wln (wjm _ x4 (mtE t1) (su3 R R R) (zc pz (zc pk2 so1))))))))
 exact wck (wjm _ x2 (mtE t1) (su3 R R R) (zc pz (zc pk1 so1)))
 intro j2 x3 hp
 obtain rfl : j2 = y1 := hp.symm
 refine wqt (wcs (wcr (mv R R (wlq (ZhA R R (by decide)) R ?_))))
 refine mv R R (wnt (gdO t0 fun g1 t0 => (Zn t0 fun y1 l1 t0 => (wj (J := Int × (List GCell)) (X := Hd) (fun z => y1 = z) (fun _ _ => [(4, ptr b2 0), (5, ptr b3 0)]) (fun z x => [box b3 [iv z.1, (sl x)], box b2 [iv 0, (sl hn)], ownF (sl x) z.2]) ?_ ?_))))
 refine wcb (wcf (X := Hd) l1 (fun k1 s1 x1l => [(4, ptr b2 0), (5, ptr b3 0), (22, iv (a_k.tmod 4)), (23, iv ((k1 : Nat) : Int))]) (fun k1 s1 x1l => [box b3 [iv s1.1, (sl x1l)], box b2 [iv 0, (sl hn)], ownF (sl x1l) s1.2]) x3 (su4 R R R R) so3 fun k1 s1 x1l hN1 l1 => ?_)
 by_cases hk1 : k1 < ((a_k.tmod 4)).toNat
 refine fos l1 hk1 fun _ t1 l1 => ?_
 unfold Zfv at t1
 have c1 : (decide (((k1 : Nat) : Int) < (a_k.tmod 4))) = true := ddt (by omega)
 refine wcr (wlq (pls R R) R (wnt (wcs (wft R c1 (wck (wqt (wcs (wcb (wcg (wlq (v := .agg #[iv s1.1, (sl x1l)]) (plb Zc pz R R R) R (bdO t1 fun v5 hv5 t1 => (wlc (cz1 Zv6 R fun w hw => ZnO w (GBlock.mk s1.1 s1.2) x1l (Rg.on (rgo pk2) hw) hv5) R fun x6 => (wls (sbx (cs' := [iv v5.Size, (sl x6)]) Zc pk1 R R R R R R R) (wln (wqb (wqt (wcg (wlq (Zj R R (by omega)) R ?_))))))))))))))))))
 exact mv R R (wln (Zk hk1 (stpN l1 t1) x6 (su4 R R R R) (zc pz (zc pk1 so1))))
 have c1 : (decide (((k1 : Nat) : Int) < (a_k.tmod 4))) = false := ddf (by omega)
 have en1 := foe l1 hk1
 exact wcr (wlq (pls R R) R (wnt (wcs (wff R c1 (wcx (wqe (wqe (wbx (wjm _ x1l (Sum.inl.inj en1) (su2 R R) so3)))))))))
 intro e1 x5 hp
 obtain rfl : e1 = y1 := hp.symm
 refine wqt (wcr (wlq (v := .agg #[iv e1.1, (sl x5)]) (plb Zc pz R R R) R (wls (sbx (cs' := [iv e1.1, (sl x5)]) Zc pk1 R R R R R R R) (wnt (wct ?_)))))
 obtain rfl := oi t0
 exact wqc R Zc R pz R fun w hw => ⟨x5, R, hw.weak (zc pk2 zn)⟩

theorem Zmb (w : World) (a_b : GBlock) (v0a : Hd) (r0 : rdF w (dm w []) (sl v0a) a_b.Cells) {r : List GBlock} (t0 : Zhm a_b = some r) : Calls Tryz.prog 188 #[.agg #[.int .i64 a_b.Size, (sl v0a)]] w fun e w' => ∃ x : Hd × (List Value), e = .returned ((sl x.1)) ∧ SH w [] [own (sl x.1) x.2 r] w' := by
 refine cwc (args := [_]) Tryz.func188 R Tryz.ntmps188 R ?_
 unfold Zhm at t0
 refine wcr (wle (Zg R R) R fun b1 => (asg R R (wnt (wcr (wle (ebs R ZrI) R fun b2 => (asg R R (wnt (wcs (wcr (mv R R (wnt (Zn t0 fun y1 l1 t0 => (wj (J := List GBlock) (X := Hd × (List Value)) (fun z => y1 = z) (fun _ x => [(3, (sl x.1))]) (fun z x => [own (sl x.1) x.2 z]) ?_ ?_)))))))))))))
 refine wcb (wcf (X := Hd × (List Value)) l1 (fun k1 s1 x1l => [(1, ptr b1 0), (3, (sl x1l.1)), (6, iv ((k1 : Nat) : Int))]) (fun k1 s1 x1l => [box b1 [iv a_b.Size, (sl v0a)], own (sl x1l.1) x1l.2 s1]) ((⟨some ⟨b2, 0, none⟩, 0, 0⟩ : Hd), []) (su3 R R R) (zc pk1 (zc (ZjO pz) zn)) fun k1 s1 x1l hN1 l1 => ?_)
 by_cases hk1 : k1 < 8
 refine fos l1 hk1 fun _ t1 l1 => ?_
 unfold ZhF at t1
 have c1 : (decide (((k1 : Nat) : Int) < 8)) = true := ddt (by omega)
 refine wcr (wlq (pls R R) R (wnt (wcs (wft R c1 (wck (wqt (wcs (wcb (wcr (mv R R (asg R R (wnt (wcg (mv R R (wlq (v := .agg #[iv a_b.Size, (sl v0a)]) (plb Zc pz R R R) R (mv R R (bdO t1 fun v1 hv1 t1 => (wlc (cz1 Zwi R fun w hw => ZoX w a_b v0a (ra r0 hw) ((k1 : Nat) : Int) hv1) R fun x2 => (wle (ebs R (ZrW v1.Size x2)) R fun b3 => (gdO t1 fun g1 t1 => (wle (Zdb (us := x1l.2) (xs := s1) Zt6 pk3 (Zpg (x := v1) pk1) pz R R R g1) R fun x3 => (asg R R (wln (wqb (wqt (wcg (wlq (Zj R R (by omega)) R ?_)))))))))))))))))))))))))))
 exact mv R R (wln (Zk hk1 (stpN l1 t1) (x3, (x1l.2 ++ [iv v1.Size, (sl x2)])) (su3 R R R) (zc pk2 so1)))
 have c1 : (decide (((k1 : Nat) : Int) < 8)) = false := ddf (by omega)
 have en1 := foe l1 hk1
 exact wcr (wlq (pls R R) R (wnt (wcs (wff R c1 (wcx (wqe (wqe (wbx (wjm _ (x1l.1, x1l.2) (Sum.inl.inj en1) (su1 R) (zc pk1 zn))))))))))
 intro e1 x1 hp
 obtain rfl : e1 = y1 := hp.symm
 refine wqt (wcr (mv R R (asg R R (wnt (wct ?_)))))
 obtain rfl := oi t0
 exact wq1 R R fun w hw => ⟨(x1.1, x1.2), R, hw.weak so1⟩

theorem Zk0 (w : World) (a_list : List Int) (v0a : Hd) (r0 : rdF w (dm w []) (sl v0a) a_list) (a_n : Int) {r : Int} (t0 : ZdY a_list a_n = some r) : Calls Tryz.prog 210 #[(sl v0a), .int .i64 a_n] w fun e w' => e = .returned (.int .i64 r) ∧ SH w [] [] w' := by
 refine cwc (args := [_, _]) Tryz.func210 R Tryz.ntmps210 R ?_
 unfold ZdY at t0
 refine wcr (asg R R (wnt (wcs (wcr (mv R R (wlq (pln (rga r0) Zy R) R (mv R R (wnt (gdO t0 fun g1 t0 => (sqO t0 fun y1 l1 t0 => (wj (J := Unit) (X := Unit) (fun z => y1 = .inl z) (fun _ _ => []) (fun _ _ => []) ?_ ?_)))))))))))
 refine wcb (wcf (X := Unit) l1 (fun k1 s1 x1l => [(1, iv a_n), (7, (sl v0a)), (8, iv ((a_list.length : Nat) : Int)), (9, iv ((k1 : Nat) : Int))]) (fun k1 s1 x1l => []) () (su4 R R R R) zn fun k1 s1 x1l hN1 l1 => ?_)
 by_cases hk1 : k1 < a_list.length
 refine fos l1 hk1 fun _ t1 l1 => ?_
 unfold Zgw at t1
 have c1 : (decide (((k1 : Nat) : Int) < ((a_list.length : Nat) : Int))) = true := ddt (by omega)
 refine wcr (wlq (pls R R) R (wnt (wcs (wft R c1 (wck (wqt (wcs (wcb (wcr (mv R R (wlq (Zm (k := k1) (rga r0) Zy R R hk1) R (wlq (v := iv (gx a_list k1)) (Zw (rga r0) tk_3 R hk1 R) R (asg R R (asg R R (wnt (wcr (mv R R (mv R R (wlq (pol R R) R (wnt (wcO t1 R (fun h1 t1 => ?_) fun h1 t1 => ?_)))))))))))))))))))))
 refine wcr (mv R R (asg R R (wnt (wct (wbr (wqr (wqr (wbr (wqr (wqr ?_))))))))))
 replace t0 := lpR t0 l1 t1
 obtain rfl := oi t0
 exact wq1 R R fun w hw => ⟨R, hw.weak zn⟩
 refine wck (wqb (wqt (wcg (wlq (Zj R R (by omega)) R ?_))))
 exact mv R R (wln (Zk hk1 (stpN l1 t1) () (su4 R R R R) zn))
 have c1 : (decide (((k1 : Nat) : Int) < ((a_list.length : Nat) : Int))) = false := ddf (by omega)
 have en1 := foe l1 hk1
 exact wcr (wlq (pls R R) R (wnt (wcs (wff R c1 (wcx (wqe (wqe (wbx (wjm _ () en1 yn zn)))))))))
 intro e1 _ hp
 replace t0 := sqE (j := e1) t0 hp
 refine wqt (wcr (asg R R (wnt (wct ?_))))
 obtain rfl := oi t0
 exact wq1 R R fun w hw => ⟨R, hw.weak zn⟩

theorem ZsJ (w : World) (a_list : List Int) (v0a : Hd) (r0 : rdF w (dm w []) (sl v0a) a_list) (a_n : Int) {r : List Int} (t0 : ZjS a_list a_n = some r) : Calls Tryz.prog 220 #[(sl v0a), .int .i64 a_n] w fun e w' => ∃ x : Hd, e = .returned ((sl x)) ∧ SH w [] [ownF (sl x) r] w' := by
 refine cwc (args := [_, _]) Tryz.func220 R Tryz.ntmps220 R ?_
 unfold ZjS at t0
 refine wcr (asg R R (wnt (wcr (wle (ebs R Zai) R fun b1 => (asg R R (asg R R (wnt (wcs (wcr (mv R R (wlq (pln (rga r0) Zy R) R (mv R R (wnt (gdO t0 fun g1 t0 => (Zn t0 fun y1 l1 t0 => (wj (J := (List Int) × Bool) (X := Hd) (fun z => y1 = z) (fun z x => [(1, iv a_n), (5, (sl x)), (6, .bool z.2)]) (fun z x => [ownF (sl x) z.1]) ?_ ?_))))))))))))))))
 refine wcb (wcf (X := Hd) l1 (fun k1 s1 x1l => [(1, iv a_n), (5, (sl x1l)), (6, .bool s1.2), (10, (sl v0a)), (11, iv ((a_list.length : Nat) : Int)), (12, iv ((k1 : Nat) : Int))]) (fun k1 s1 x1l => [ownF (sl x1l) s1.1]) (⟨some ⟨b1, 0, none⟩, 0, 0⟩ : Hd) (su6 R R R R R R) (zc (pbo pz (n := 0) (xs := ([] : List Int)) R R (by unfold maxLen; omega)) zn) fun k1 s1 x1l hN1 l1 => ?_)
 by_cases hk1 : k1 < a_list.length
 refine fos l1 hk1 fun _ t1 l1 => ?_
 unfold ZiQ at t1
 have c1 : (decide (((k1 : Nat) : Int) < ((a_list.length : Nat) : Int))) = true := ddt (by omega)
 refine wcr (wlq (pls R R) R (wnt (wcs (wft R c1 (wck (wqt (wcs (wcb (wcr (wlq (Zm (k := k1) (rga r0) Zy R R hk1) R (wlq (v := iv (gx a_list k1)) (Zw (rga r0) tk_3 R hk1 R) R (asg R R (wnt (wcs (wcs (wcj (X := Unit) (fun _ => True) (fun _ => [(1, iv a_n), (5, (sl x1l)), (6, .bool s1.2), (8, iv (gx a_list k1)), (10, (sl v0a)), (11, iv ((a_list.length : Nat) : Int)), (12, iv ((k1 : Nat) : Int)), (22, .bool ((!s1.2) && (decide (a_n ≤ (gx a_list k1)))))]) (fun _ => [ownF (sl x1l) s1.1]) ?_ ?_))))))))))))))))
 refine wcg (mv R R (wlq (Zd R) R (mv R R (Zae (t := 18) R (fun h1 => ?_) fun h1 => ?_))))
 exact wgn (j := 2) R R R (mv R R (wgn (j := 2) R R R (mv R R (wgn (j := 2) R R R (wlq (ZbQ R R) R (wlq (pit R R) R (wln (wqm () trivial (yc R (yc R (yc R (yc R (yc R (yc R (yc R (ZS R (by rw [h1]; rfl) yn)))))))) so1))))))))
 exact wgf (j := 2) R R R R R (wgf (j := 2) R R R R R (wgf (j := 2) R R R R R (wlq (pif R R) R (wln (wqm () trivial (yc R (yc R (yc R (yc R (yc R (yc R (yc R (ZS R (by rw [h1]; rfl) yn)))))))) so1)))))
 intro _ _
 refine wqt (bdO t1 fun y2 t2 t1 => (wj (J := (List Int) × Bool) (X := Hd) (fun z => y2 = z) (fun z x => [(1, iv a_n), (5, (sl x)), (6, .bool z.2), (8, iv (gx a_list k1)), (10, (sl v0a)), (11, iv ((a_list.length : Nat) : Int)), (12, iv ((k1 : Nat) : Int))]) (fun z x => [ownF (sl x) z.1]) ?_ ?_))
 refine wcO t2 R (fun h2 t2 => ?_) fun h2 t2 => ?_
 refine wcr (mv R R (mv R R (wle (ebs R (ZaA a_n)) R fun b2 => (gdO t2 fun g2 t2 => (wle (Zf (xs := s1.1) (ys := ([a_n] : List Int)) Zbp pk1 R R (Zi fun _ g => Rg.on (rgo (pbo pz (n := 1) (xs := ([a_n] : List Int)) R R (by unfold maxLen; omega))) g) g2) R fun x4 => ?_)))))
 exact asg R R (wnt (wcg (asg R R (wln (wjm _ x4 (mtE t2) (su7 R R R R R R R) so1)))))
 exact wck (wjm _ x1l (mtE t2) (su7 R R R R R R R) so1)
 intro j2 x3 hp
 obtain rfl : j2 = y2 := hp.symm
 refine wqt (wcg (mv R R (mv R R (wle (ebs R (ZaA (gx a_list k1))) R fun b3 => (gdO t1 fun g3 t1 => (wle (Zf (xs := j2.1) (ys := ([(gx a_list k1)] : List Int)) Zbp pk1 R R (Zi fun _ g => Rg.on (rgo (pbo pz (n := 1) (xs := ([(gx a_list k1)] : List Int)) R R (by unfold maxLen; omega))) g) g3) R fun x5 => ?_))))))
 refine asg R R (wln (wqb (wqt (wcg (wlq (Zj R R (by omega)) R ?_)))))
 exact mv R R (wln (Zk hk1 (stpN l1 t1) x5 (su6 R R R R R R) so1))
 have c1 : (decide (((k1 : Nat) : Int) < ((a_list.length : Nat) : Int))) = false := ddf (by omega)
 have en1 := foe l1 hk1
 exact wcr (wlq (pls R R) R (wnt (wcs (wff R c1 (wcx (wqe (wqe (wbx (wjm _ x1l (Sum.inl.inj en1) (su3 R R R) so1)))))))))
 intro e1 x1 hp
 obtain rfl : e1 = y1 := hp.symm
 refine wqt (wcs (wcr (mv R R (wlq (Zd R) R (wnt (bdO t0 fun y1 t1 t0 => (wj (J := List Int) (X := Hd) (fun z => y1 = z) (fun _ x => [(5, (sl x))]) (fun z x => [ownF (sl x) z]) ?_ ?_)))))))
 refine wcO t1 R (fun h3 t1 => ?_) fun h3 t1 => ?_
 refine wcg (mv R R (mv R R (wle (ebs R (ZaA a_n)) R fun b4 => (gdO t1 fun g4 t1 => (wle (Zf (xs := e1.1) (ys := ([a_n] : List Int)) Zbp pk1 R R (Zi fun _ g => Rg.on (rgo (pbo pz (n := 1) (xs := ([a_n] : List Int)) R R (by unfold maxLen; omega))) g) g4) R fun x7 => ?_)))))
 exact asg R R (wln (wjm _ x7 (mtE t1) (su1 R) so1))
 exact wck (wjm _ x1 (mtE t1) (su1 R) so1)
 intro j3 x6 hp
 obtain rfl : j3 = y1 := hp.symm
 refine wqt (wcr (mv R R (asg R R (wnt (wct ?_)))))
 obtain rfl := oi t0
 exact wq1 R R fun w hw => ⟨x6, R, hw.weak so1⟩

theorem ZqN (w : World) (a_list : List Int) (v0a : Hd) (r0 : rdF w (dm w []) (sl v0a) a_list) {r : List Int} (t0 : Zhz a_list = some r) : Calls Tryz.prog 219 #[(sl v0a)] w fun e w' => ∃ x : Hd, e = .returned ((sl x)) ∧ SH w [] [ownF (sl x) r] w' := by
 refine cwc (args := [_]) Tryz.func219 R Tryz.ntmps219 R ?_
 unfold Zhz at t0
 refine wcr (asg R R (wnt (wcr (wle (ebs R Zai) R fun b1 => (asg R R (wnt (wcs (wcr (mv R R (wlq (pln (rga r0) Zy R) R (mv R R (wnt (gdO t0 fun g1 t0 => (Zn t0 fun y1 l1 t0 => (wj (J := List Int) (X := Hd) (fun z => y1 = z) (fun _ x => [(3, (sl x))]) (fun z x => [ownF (sl x) z]) ?_ ?_)))))))))))))))
 refine wcb (wcf (X := Hd) l1 (fun k1 s1 x1l => [(3, (sl x1l)), (7, (sl v0a)), (8, iv ((a_list.length : Nat) : Int)), (9, iv ((k1 : Nat) : Int))]) (fun k1 s1 x1l => [ownF (sl x1l) s1]) (⟨some ⟨b1, 0, none⟩, 0, 0⟩ : Hd) (su4 R R R R) (zc (pbo pz (n := 0) (xs := ([] : List Int)) R R (by unfold maxLen; omega)) zn) fun k1 s1 x1l hN1 l1 => ?_)
 by_cases hk1 : k1 < a_list.length
 refine fos l1 hk1 fun _ t1 l1 => ?_
 unfold Zg1 at t1
 have c1 : (decide (((k1 : Nat) : Int) < ((a_list.length : Nat) : Int))) = true := ddt (by omega)
 refine wcr (wlq (pls R R) R (wnt (wcs (wft R c1 (wck (wqt (wcs (wcb (wcr (wlq (Zm (k := k1) (rga r0) Zy R R hk1) R (wlq (v := iv (gx a_list k1)) (Zw (rga r0) tk_3 R hk1 R) R (asg R R (wnt (wcg (mv R R (mv R R (bdO t1 fun v1 hv1 t1 => (wlc (cz1 ZvR R fun w hw => ZsJ w s1 x1l (Rg.on (rgo pz) hw) (gx a_list k1) hv1) R fun x2 => (asg R R (wln (wqb (wqt (wcg (wlq (Zj R R (by omega)) R ?_))))))))))))))))))))))))
 exact mv R R (wln (Zk hk1 (stpN l1 t1) x2 (su4 R R R R) so1))
 have c1 : (decide (((k1 : Nat) : Int) < ((a_list.length : Nat) : Int))) = false := ddf (by omega)
 have en1 := foe l1 hk1
 exact wcr (wlq (pls R R) R (wnt (wcs (wff R c1 (wcx (wqe (wqe (wbx (wjm _ x1l (Sum.inl.inj en1) (su1 R) so1)))))))))
 intro e1 x1 hp
 obtain rfl : e1 = y1 := hp.symm
 refine wqt (wcr (mv R R (asg R R (wnt (wct ?_)))))
 obtain rfl := oi t0
 exact wq1 R R fun w hw => ⟨x1, R, hw.weak so1⟩

theorem ZoJ (w : World) (a_list : List Int) (v0a : Hd) (r0 : rdF w (dm w []) (sl v0a) a_list) (a_a : Int) (a_b : Int) {r : Bool} (t0 : ZfX a_list a_a a_b = some r) : Calls Tryz.prog 218 #[(sl v0a), .int .i64 a_a, .int .i64 a_b] w fun e w' => e = .returned (.bool r) ∧ SH w [] [] w' := by
 refine cwc (args := [_, _, _]) Tryz.func218 R Tryz.ntmps218 R ?_
 unfold ZfX at t0
 refine wcr (asg R R (wnt (wcs (wcr (mv R R (wlq (pln (rga r0) Zy R) R (mv R R (wnt (gdO t0 fun g1 t0 => (sqO t0 fun y1 l1 t0 => (wj (J := Unit) (X := Unit) (fun z => y1 = .inl z) (fun _ _ => [(0, (sl v0a)), (1, iv a_a), (2, iv a_b)]) (fun _ _ => []) ?_ ?_)))))))))))
 refine wcb (wcf (X := Unit) l1 (fun k1 s1 x1l => [(0, (sl v0a)), (1, iv a_a), (2, iv a_b), (9, iv ((a_list.length : Nat) : Int)), (10, iv ((k1 : Nat) : Int))]) (fun k1 s1 x1l => []) () (su5 R R R R R) zn fun k1 s1 x1l hN1 l1 => ?_)
 by_cases hk1 : k1 < a_list.length
 refine fos l1 hk1 fun _ t1 l1 => ?_
 unfold ZfA at t1
 have c1 : (decide (((k1 : Nat) : Int) < ((a_list.length : Nat) : Int))) = true := ddt (by omega)
 refine wcr (wlq (pls R R) R (wnt (wcs (wft R c1 (wck (wqt (wcs (wcb (wcr (mv R R (asg R R (wnt (wcs (bdO t1 fun y2 t2 t1 => (wj (J := Bool) (X := Unit) (fun z => y2 = z) (fun z _ => [(0, (sl v0a)), (1, iv a_a), (2, iv a_b), (9, iv ((a_list.length : Nat) : Int)), (10, iv ((k1 : Nat) : Int)), (26, .bool z)]) (fun _ _ => []) ?_ ?_)))))))))))))))
 refine wcd [] 14 mixed (aq 0 R (pom R) zn R (aq 1 R (Zad R R) zn R (aq 2 R (pom R) zn R (waO_ (t := 15) t2 R (fun h1 t2 => ?_) fun h1 t2 => ?_))))
 exact an 3 2 R R R R (pom R) zn R (an 4 2 R R R R (pom R) zn R (an 5 2 R R R R (Zm (k := k1) (rga r0) Zy R R hk1) zn R (an (v := iv (gx a_list k1)) 6 2 R R R R (Zw (rga r0) tk_3 R hk1 R) zn R (an 7 2 R R R R (pom R) zn R (an 8 2 R R R R (pom R) zn R (an 9 2 R R R R (Zaa R R) zn R (gdO t2 fun g2 t2 => (an 10 2 R R R R (ZX (rga r0) Zy R R g2.1 g2.2) zn R (an (v := iv (gx a_list (((wr (((k1 : Nat) : Int) - 1))).toNat))) 11 2 R R R R (Zw (rga r0) tk_3 R (ZD g2) R) zn R (an 12 2 R R R R (ZbQ R R) zn R (aq 13 R (pit R R) zn R (ae (wjm _ () (mtE t2) (su6 R R R R R R) zn)))))))))))))
 exact af 3 2 R R R R R zn R (af 4 2 R R R R R zn R (af 5 2 R R R R R zn R (af 6 2 R R R R R zn R (af 7 2 R R R R R zn R (af 8 2 R R R R R zn R (af 9 2 R R R R R zn R (af 10 2 R R R R R zn R (af 11 2 R R R R R zn R (af 12 2 R R R R R zn R (aq 13 R (pif R R) zn R (ae (wjm _ () (mtE t2) (su6 R R R R R R) zn))))))))))))
 intro j1 _ hp
 obtain rfl : j1 = y2 := hp.symm
 refine wqt (wcO t1 R (fun h2 t1 => ?_) fun h2 t1 => ?_)
 refine wcr (asg R R (wnt (wct (wbr (wqr (wqr (wbr (wqr (wqr ?_)))))))))
 replace t0 := lpR t0 l1 t1
 obtain rfl := oi t0
 exact wq1 R R fun w hw => ⟨R, hw.weak zn⟩
 refine wck (wqb (wqt (wcg (wlq (Zj R R (by omega)) R ?_))))
 exact mv R R (wln (Zk hk1 (stpN l1 t1) () (su5 R R R R R) zn))
 have c1 : (decide (((k1 : Nat) : Int) < ((a_list.length : Nat) : Int))) = false := ddf (by omega)
 have en1 := foe l1 hk1
 exact wcr (wlq (pls R R) R (wnt (wcs (wff R c1 (wcx (wqe (wqe (wbx (wjm _ () en1 (su3 R R R) zn)))))))))
 intro e1 _ hp
 replace t0 := sqE (j := e1) t0 hp
 refine wqt (wcr (mv R R (mv R R (mv R R (bdO t0 fun v1 hv1 t0 => (wlc (cz0 Zrk R fun w hw => ZhT w a_list v0a (ra r0 hw) a_a a_b hv1) R fun _ => (asg R R (wnt (wct ?_)))))))))
 obtain rfl := oi t0
 exact wq1 R R fun w hw => ⟨R, hw.weak zn⟩

theorem Zni (w : World) (a_l : List Int) (v0a : Hd) (r0 : rdF w (dm w []) (sl v0a) a_l) {r : Bool} (t0 : Zew a_l = some r) : Calls Tryz.prog 217 #[(sl v0a)] w fun e w' => e = .returned (.bool r) ∧ SH w [] [] w' := by
 refine cwc (args := [_]) Tryz.func217 R Tryz.ntmps217 R ?_
 unfold Zew at t0
 refine wcr (asg R R (wnt (wcs (bdO t0 fun y1 t1 t0 => (wj (J := Bool) (X := Unit) (fun z => y1 = z) (fun z _ => [(2, .bool z)]) (fun _ _ => []) ?_ ?_)))))
 refine wcg (mv R R (wlq (pln (rga r0) Zy R) R (wlq (pol R R) R (mv R R (wlo (t := 6) t1 R (fun h1 t1 => ?_) fun h1 t1 => ?_)))))
 exact wgn (j := 3) R R R (mv R R (bdO t1 fun v1 hv1 t1 => (wgn (j := 3) R R R (wlc (cz1 Zwo R fun w hw => ZqN w a_l v0a (ra r0 hw) hv1) R (fun x2 => (bdO t1 fun v2 hv2 t1 => (wgn (j := 3) R R R (wlc (cz0 Zv1 R fun w hw => ZoJ w v1 x2 (Rg.on (rgo pz) hw) 0 5 hv2) R (fun _ => (wlq (pit R R) R (asg R R (wln (wjm _ () (mtE t1) (su1 R) zn)))))))))))))
 exact wgf (j := 3) R R R R R (wgf (j := 3) R R R R R (wgf (j := 3) R R R R R (wlq (pif R R) R (asg R R (wln (wjm _ () (mtE t1) (su1 R) zn))))))
 intro j1 _ hp
 obtain rfl : j1 = y1 := hp.symm
 refine wqt (wct ?_)
 obtain rfl := oi t0
 exact wq1 R R fun w hw => ⟨R, hw.weak zn⟩

theorem ZoS (w : World) (a_l : List Int) (v0a : Hd) (r0 : rdF w (dm w []) (sl v0a) a_l) {r : List Int} (t0 : ZfQ a_l = some r) : Calls Tryz.prog 211 #[(sl v0a)] w fun e w' => ∃ x : Hd, e = .returned ((sl x)) ∧ SH w [] [ownF (sl x) r] w' := by
 refine cwc (args := [_]) Tryz.func211 R Tryz.ntmps211 R ?_
 unfold ZfQ at t0
 refine wcr (asg R R (wnt (wcs (wcr (mv R R (bdO t0 fun v1 hv1 t0 => (wlc (cz0 ZvJ R fun w hw => Zni w a_l v0a (ra r0 hw) hv1) R fun _ => (wlq (Zd R) R (wnt (wcO t0 R (fun h1 t0 => ?_) fun h1 t0 => ?_))))))))))
 refine wcr (asg R R (wnt (wct (wqr ?_))))
 obtain rfl := oi t0
 exact wq1 R R fun w hw => ⟨hn, R, hw.weak (zc ZC zn)⟩
 refine wck (wqt (wcr (wle (Zlw (n := 6) (0 : Int) ZqX R R R (by omega) R) R fun x1 => ?_)))
 refine asg R R (wnt (wcs (wcr (mv R R (wlq (pln (rga r0) Zy R) R (mv R R (wnt (gdO t0 fun g1 t0 => (Zn t0 fun y1 l1 t0 => (wj (J := List Int) (X := Unit) (fun z => y1 = z) (fun _ _ => [(3, (sl x1))]) (fun z _ => [ownF (sl x1) z]) ?_ ?_))))))))))
 refine wcb (wcf (X := Unit) l1 (fun k1 s1 x1l => [(3, (sl x1)), (10, (sl v0a)), (11, iv ((a_l.length : Nat) : Int)), (12, iv ((k1 : Nat) : Int))]) (fun k1 s1 x1l => [ownF (sl x1) s1]) () (su4 R R R R) so1 fun k1 s1 x1l hN1 l1 => ?_)
 by_cases hk1 : k1 < a_l.length
 refine fos l1 hk1 fun _ t1 l1 => ?_
 unfold Zfu at t1
 have c1 : (decide (((k1 : Nat) : Int) < ((a_l.length : Nat) : Int))) = true := ddt (by omega)
 refine wcr (wlq (pls R R) R (wnt (wcs (wft R c1 (wck (wqt (wcs (wcb (wcr (mv R R (wlq (Zm (k := k1) (rga r0) Zy R R hk1) R (wlq (v := iv (gx a_l k1)) (Zw (rga r0) tk_3 R hk1 R) R (asg R R (asg R R (wnt (wcg (mv R R (mv R R (mv R R (gdO t1 fun g2 t1 => (wlq (ZX (rgo pz) Zy R R g2.1 g2.2) R (wls (Zhx (x' := ((k1 : Nat) : Int)) tk_3 pz R R R R R R (ZD g2) R) (wln (wqb (wqt (wcg (wlq (Zj R R (by omega)) R ?_)))))))))))))))))))))))))))
 exact mv R R (wln (Zk hk1 (stpN l1 t1) () (su4 R R R R) so1))
 have c1 : (decide (((k1 : Nat) : Int) < ((a_l.length : Nat) : Int))) = false := ddf (by omega)
 have en1 := foe l1 hk1
 exact wcr (wlq (pls R R) R (wnt (wcs (wff R c1 (wcx (wqe (wqe (wbx (wjm _ () (Sum.inl.inj en1) (su1 R) so1)))))))))
 intro e1 _ hp
 obtain rfl : e1 = y1 := hp.symm
 refine wqt (wcr (mv R R (asg R R (wnt (wct ?_)))))
 obtain rfl := oi t0
 exact wq1 R R fun w hw => ⟨x1, R, hw.weak so1⟩

theorem Zks (w : World) (a_b : GBlock) (v0a : Hd) (r0 : rdF w (dm w []) (sl v0a) a_b.Cells) {r : List Int} (t0 : ZfS a_b = some r) : Calls Tryz.prog 200 #[.agg #[.int .i64 a_b.Size, (sl v0a)]] w fun e w' => ∃ x : Hd, e = .returned ((sl x)) ∧ SH w [] [ownF (sl x) r] w' := by
 refine cwc (args := [_]) Tryz.func200 R Tryz.ntmps200 R ?_
 unfold ZfS at t0
 refine wcr (wle (Zg R R) R fun b1 => (asg R R (wnt (wcs (wcr (wlq (v := .agg #[iv a_b.Size, (sl v0a)]) (plb Zc pz R R R) R (bdO t0 fun v1 hv1 t0 => (wlc (cz0 Zea R fun w hw => Z0 w a_b v0a (ra r0 hw) hv1) R fun _ => (wlq (Zd R) R (wnt (wcO t0 R (fun h1 t0 => ?_) fun h1 t0 => ?_)))))))))))
 refine wcr (asg R R (wnt (wct (wqr ?_))))
 obtain rfl := oi t0
 exact wq1 R R fun w hw => ⟨hn, R, hw.weak (zc ZC zn)⟩
 refine wck (wqt (wcr (wle (ebs R Zai) R fun b2 => (asg R R (wnt (wcs (wcr (wlq (pof Zv R) R (wlq (v := (sl v0a)) (plx ZN pk1 R R) R (wlq (pln (rga r0) ZU R) R (mv R R (wnt (gdO t0 fun g1 t0 => (Zn t0 fun y1 l1 t0 => (wj (J := List Int) (X := Hd) (fun z => y1 = z) (fun _ x => [(3, (sl x))]) (fun z x => [ownF (sl x) z]) ?_ ?_)))))))))))))))
 refine wcb (wcf (X := Hd) l1 (fun k1 s1 x1l => [(3, (sl x1l)), (14, (sl v0a)), (15, iv ((a_b.Cells.length : Nat) : Int)), (16, iv ((k1 : Nat) : Int))]) (fun k1 s1 x1l => [ownF (sl x1l) s1]) (⟨some ⟨b2, 0, none⟩, 0, 0⟩ : Hd) (su4 R R R R) (zc (pbo pz (n := 0) (xs := ([] : List Int)) R R (by unfold maxLen; omega)) zn) fun k1 s1 x1l hN1 l1 => ?_)
 by_cases hk1 : k1 < a_b.Cells.length
 refine fos l1 hk1 fun _ t1 l1 => ?_
 unfold ZfD at t1
 have c1 : (decide (((k1 : Nat) : Int) < ((a_b.Cells.length : Nat) : Int))) = true := ddt (by omega)
 refine wcr (wlq (pls R R) R (wnt (wcs (wft R c1 (wck (wqt (wcs (wcb (wcr (wlq (Zm (k := k1) (rga r0) ZU R R hk1) R (wlq (v := .agg #[iv ((gx a_b.Cells k1).Split), iv ((gx a_b.Cells k1).A), iv ((gx a_b.Cells k1).B)]) (Zaw (rga r0) Zh R hk1 R R R) R (wle (eal (cs := [iv 0, iv 0, iv 0]) Zb8) R fun b3 => (wls (sbx (cs' := [iv ((gx a_b.Cells k1).Split), iv ((gx a_b.Cells k1).A), iv ((gx a_b.Cells k1).B)]) Zh pz R R R R R R R) (wnt (wcr (wlq (pof ZaT R) R (wlq (v := iv ((gx a_b.Cells k1).A)) (plx tk_3 pz R R) R (wlq (pof Za6 R) R (wlq (v := iv ((gx a_b.Cells k1).B)) (plx tk_3 pz R R) R (wle (ebs R (ZmT ((gx a_b.Cells k1).A) ((gx a_b.Cells k1).B))) R fun b4 => (wlq (pln (rgo (pbo pz (n := 2) (xs := ([(gx a_b.Cells k1).A, (gx a_b.Cells k1).B] : List Int)) R R (by unfold maxLen; omega))) Zy R) R ?_)))))))))))))))))))))
 refine mv R R (wnt (gdO t1 fun g2 t1 => (Zn t1 fun y2 l2 t1 => (wj (J := List Int) (X := Hd) (fun z => y2 = z) (fun _ x => [(3, (sl x)), (14, (sl v0a)), (15, iv ((a_b.Cells.length : Nat) : Int)), (16, iv ((k1 : Nat) : Int))]) (fun z x => [ownF (sl x) z]) ?_ ?_))))
 refine wcb (wcf (X := Hd) l2 (fun k2 s2 x2l => [(3, (sl x2l)), (14, (sl v0a)), (15, iv ((a_b.Cells.length : Nat) : Int)), (16, iv ((k1 : Nat) : Int)), (24, (sl (⟨some ⟨b4, 0, none⟩, 2, 2⟩ : Hd))), (25, iv ((([(gx a_b.Cells k1).A, (gx a_b.Cells k1).B] : List Int).length : Nat) : Int)), (26, iv ((k2 : Nat) : Int))]) (fun k2 s2 x2l => [box b4 [iv ((gx a_b.Cells k1).A), iv ((gx a_b.Cells k1).B)], ownF (sl x2l) s2]) x1l (su7 R R R R R R R) (zc pz (zc pk1 zn)) fun k2 s2 x2l hN2 l2 => ?_)
 by_cases hk2 : k2 < ([(gx a_b.Cells k1).A, (gx a_b.Cells k1).B] : List Int).length
 refine fos l2 hk2 fun _ t2 l2 => ?_
 unfold ZfB at t2
 have c2 : (decide (((k2 : Nat) : Int) < ((([(gx a_b.Cells k1).A, (gx a_b.Cells k1).B] : List Int).length : Nat) : Int))) = true := ddt (by omega)
 refine wcr (wlq (pls R R) R (wnt (wcs (wft R c2 (wck (wqt (wcs (wcb (wcr (wlq (Zm (k := k2) (rgo (pbo pz (n := 2) (xs := ([(gx a_b.Cells k1).A, (gx a_b.Cells k1).B] : List Int)) R R (by unfold maxLen; omega))) Zy R R hk2) R ?_))))))))))
 refine wlq (v := iv (gx ([(gx a_b.Cells k1).A, (gx a_b.Cells k1).B] : List Int) k2)) (Zw (rgo (pbo pz (n := 2) (xs := ([(gx a_b.Cells k1).A, (gx a_b.Cells k1).B] : List Int)) R R (by unfold maxLen; omega))) tk_3 R hk2 R) R ?_
 refine asg R R (wnt (wcr (mv R R (mv R R (bdO t2 fun v2 hv2 t2 => (wlc (cz0 Ztd R fun w hw => Zk0 w s2 x2l (Rg.on (rgo pk1) hw) (gx ([(gx a_b.Cells k1).A, (gx a_b.Cells k1).B] : List Int) k2) hv2) R fun _ => (wlq (pls R R) R (wnt (bdO t2 fun y3 t3 t2 => (wj (J := List Int) (X := Hd) (fun z => y3 = z) (fun _ x => [(3, (sl x)), (14, (sl v0a)), (15, iv ((a_b.Cells.length : Nat) : Int)), (16, iv ((k1 : Nat) : Int)), (24, (sl (⟨some ⟨b4, 0, none⟩, 2, 2⟩ : Hd))), (25, iv ((([(gx a_b.Cells k1).A, (gx a_b.Cells k1).B] : List Int).length : Nat) : Int)), (26, iv ((k2 : Nat) : Int))]) (fun z x => [box b4 [iv ((gx a_b.Cells k1).A), iv ((gx a_b.Cells k1).B)], ownF (sl x) z]) ?_ ?_))))))))))
 refine wcO t3 R (fun h2 t3 => ?_) fun h2 t3 => ?_
 refine wcg (mv R R (mv R R (wle (ebs R (ZaA (gx ([(gx a_b.Cells k1).A, (gx a_b.Cells k1).B] : List Int) k2))) R fun b5 => (gdO t3 fun g3 t3 => (wle (Zf (xs := s2) (ys := ([(gx ([(gx a_b.Cells k1).A, (gx a_b.Cells k1).B] : List Int) k2)] : List Int)) Zbp pk2 R R (Zi fun _ g => Rg.on (rgo (pbo pz (n := 1) (xs := ([(gx ([(gx a_b.Cells k1).A, (gx a_b.Cells k1).B] : List Int) k2)] : List Int)) R R (by unfold maxLen; omega))) g) g3) R fun x4 => ?_)))))
 exact asg R R (wln (wjm _ x4 (mtE t3) (su7 R R R R R R R) (zc pk2 so1)))
 exact wck (wjm _ x2l (mtE t3) (su7 R R R R R R R) so2)
 intro j1 x3 hp
 obtain rfl : j1 = y3 := hp.symm
 refine wqb (wqt (wcg (wlq (Zj R R (by omega)) R ?_)))
 exact mv R R (wln (Zk hk2 (stpN l2 t2) x3 (su7 R R R R R R R) so2))
 have c2 : (decide (((k2 : Nat) : Int) < ((([(gx a_b.Cells k1).A, (gx a_b.Cells k1).B] : List Int).length : Nat) : Int))) = false := ddf (by omega)
 have en1 := foe l2 hk2
 exact wcr (wlq (pls R R) R (wnt (wcs (wff R c2 (wcx (wqe (wqe (wbx (wjm _ x2l (Sum.inl.inj en1) (su4 R R R R) (zc pk1 zn))))))))))
 intro e2 x2 hp
 obtain rfl : e2 = y2 := hp.symm
 refine wqb (wqt (wcg (wlq (Zj R R (by omega)) R ?_)))
 exact mv R R (wln (Zk hk1 (stpN l1 t1) x2 (su4 R R R R) so1))
 have c1 : (decide (((k1 : Nat) : Int) < ((a_b.Cells.length : Nat) : Int))) = false := ddf (by omega)
 have en2 := foe l1 hk1
 exact wcr (wlq (pls R R) R (wnt (wcs (wff R c1 (wcx (wqe (wqe (wbx (wjm _ x1l (Sum.inl.inj en2) (su1 R) so1)))))))))
 intro e1 x1 hp
 obtain rfl : e1 = y1 := hp.symm
 refine wqt (wcs (wcr (mv R R (wnt (Zn t0 fun y1 l1 t0 => (wj (J := List Int) (X := Hd) (fun z => y1 = z) (fun _ x => [(3, (sl x))]) (fun z x => [ownF (sl x) z]) ?_ ?_))))))
 refine wcb (wcf (X := Hd) l1 (fun k3 s3 x3l => [(3, (sl x3l)), (40, iv ((k3 : Nat) : Int))]) (fun k3 s3 x3l => [ownF (sl x3l) s3]) x1 (su2 R R) so1 fun k3 s3 x3l hN3 l1 => ?_)
 by_cases hk3 : k3 < 6
 refine fos l1 hk3 fun _ t1 l1 => ?_
 unfold Zfx at t1
 have c3 : (decide (((k3 : Nat) : Int) < 6)) = true := ddt (by omega)
 refine wcr (wlq (pls R R) R (wnt (wcs (wft R c3 (wck (wqt (wcs (wcb (wcr (mv R R (asg R R (wnt (wcr (mv R R (mv R R (bdO t1 fun v3 hv3 t1 => (wlc (cz0 Ztd R fun w hw => Zk0 w s3 x3l (Rg.on (rgo pz) hw) ((k3 : Nat) : Int) hv3) R fun _ => (wlq (pls R R) R (wnt (bdO t1 fun y2 t2 t1 => (wj (J := List Int) (X := Hd) (fun z => y2 = z) (fun _ x => [(3, (sl x)), (40, iv ((k3 : Nat) : Int))]) (fun z x => [ownF (sl x) z]) ?_ ?_)))))))))))))))))))))
 refine wcO t2 R (fun h3 t2 => ?_) fun h3 t2 => ?_
 refine wcg (mv R R (mv R R (wle (ebs R (ZaA ((k3 : Nat) : Int))) R fun b6 => (gdO t2 fun g4 t2 => (wle (Zf (xs := s3) (ys := ([((k3 : Nat) : Int)] : List Int)) Zbp pk1 R R (Zi fun _ g => Rg.on (rgo (pbo pz (n := 1) (xs := ([((k3 : Nat) : Int)] : List Int)) R R (by unfold maxLen; omega))) g) g4) R fun x7 => ?_)))))
 exact asg R R (wln (wjm _ x7 (mtE t2) (su2 R R) so1))
 exact wck (wjm _ x3l (mtE t2) (su2 R R) so1)
 intro j2 x6 hp
 obtain rfl : j2 = y2 := hp.symm
 refine wqb (wqt (wcg (wlq (Zj R R (by omega)) R ?_)))
 exact mv R R (wln (Zk hk3 (stpN l1 t1) x6 (su2 R R) so1))
 have c3 : (decide (((k3 : Nat) : Int) < 6)) = false := ddf (by omega)
 have en3 := foe l1 hk3
 exact wcr (wlq (pls R R) R (wnt (wcs (wff R c3 (wcx (wqe (wqe (wbx (wjm _ x3l (Sum.inl.inj en3) (su1 R) so1)))))))))
 intro e3 x5 hp
 obtain rfl : e3 = y1 := hp.symm
 refine wqt (wcr (mv R R (bdO t0 fun v4 hv4 t0 => (wlc (cz1 Zws R fun w hw => ZoS w e3 x5 (Rg.on (rgo pz) hw) hv4) R fun x8 => (asg R R (wnt (wct ?_)))))))
 obtain rfl := oi t0
 exact wq1 R R fun w hw => ⟨x8, R, hw.weak so1⟩

theorem ZlS (w : World) (a_l : List Int) (v0a : Hd) (r0 : rdF w (dm w []) (sl v0a) a_l) {r : Bool} (t0 : Zf1 a_l = some r) : Calls Tryz.prog 202 #[(sl v0a)] w fun e w' => e = .returned (.bool r) ∧ SH w [] [] w' := by
 refine cwc (args := [_]) Tryz.func202 R Tryz.ntmps202 R ?_
 unfold Zf1 at t0
 refine wcr (asg R R (wnt (wcs (bdO t0 fun y1 t1 t0 => (wj (J := Bool) (X := Unit) (fun z => y1 = z) (fun z _ => [(2, .bool z)]) (fun _ _ => []) ?_ ?_)))))
 refine wcg (mv R R (wlq (pln (rga r0) Zy R) R (wlq (pol R R) R (mv R R (wlo (t := 6) t1 R (fun h1 t1 => ?_) fun h1 t1 => ?_)))))
 exact wgn (j := 3) R R R (mv R R (bdO t1 fun v1 hv1 t1 => (wgn (j := 3) R R R (wlc (cz0 Zrk R fun w hw => ZhT w a_l v0a (ra r0 hw) 0 5 hv1) R (fun _ => (wlq (pit R R) R (asg R R (wln (wjm _ () (mtE t1) (su1 R) zn)))))))))
 exact wgf (j := 3) R R R R R (wgf (j := 3) R R R R R (wlq (pif R R) R (asg R R (wln (wjm _ () (mtE t1) (su1 R) zn)))))
 intro j1 _ hp
 obtain rfl : j1 = y1 := hp.symm
 refine wqt (wct ?_)
 obtain rfl := oi t0
 exact wq1 R R fun w hw => ⟨R, hw.weak zn⟩

end Go.Proofs.YtjfjbgihojiijacGreatDoor
