/-
 Each Go function computes its Lean function (part 3).
-/
import Derived.Test.YtjfjbgihojiijacGreatDoorWalks2
namespace Go.Proofs.YtjfjbgihojiijacGreatDoor
open Go Go.RowKit Go.Proofs
set_option maxRecDepth 100000

theorem ZlN (w : World) (a_b : GBlock) (v0a : Hd) (r0 : rdF w (dm w []) (sl v0a) a_b.Cells) {r : Str} (t0 : Zey a_b = some r) : Calls Tryz.prog 184 #[.agg #[.int .i64 a_b.Size, (sl v0a)]] w fun e w' => e = .returned (bs r) ∧ SH w [] [] w' := by
 refine cwc (args := [_]) Tryz.func184 R Tryz.ntmps184 R ?_
 unfold Zey at t0
 refine wcr (wle (Zg R R) R fun b1 => (asg R R (wnt (wcr (asg R R (wnt (wcs (wcr (asg R R (wnt (gdO t0 fun g1 t0 => (Zn t0 fun y1 l1 t0 => (wj (J := Str) (X := Unit) (fun z => y1 = z) (fun z _ => [(3, bs z)]) (fun _ _ => []) ?_ ?_)))))))))))))
 refine wcb (wcf (X := Unit) l1 (fun k1 s1 x1l => [(1, ptr b1 0), (3, bs s1), (4, iv ((k1 : Nat) : Int))]) (fun k1 s1 x1l => [box b1 [iv a_b.Size, (sl v0a)]]) () (su3 R R R) so1 fun k1 s1 x1l hN1 l1 => ?_)
 by_cases hk1 : k1 < a_b.Cells.length
 refine fos l1 hk1 fun _ t1 l1 => ?_
 unfold ZgY at t1
 have c1 : (decide (((k1 : Nat) : Int) < ((a_b.Cells.length : Nat) : Int))) = true := ddt (by omega)
 refine wcs (wcr (mv R R (wlq (pof Zv R) R (wlq (v := (sl v0a)) (plx ZN pz R R) R (wlq (pln (rga r0) ZU R) R (wlq (pls R R) R (mv R R (Zef (t := 10) R c1 (wgn (j := 5) R R R (wlq (v := .agg #[iv a_b.Size, (sl v0a)]) (plb Zc pz R R R) R (bdO t1 fun v1 hv1 t1 => (wgn (j := 5) R R R (wlc (cz0 ZeH R fun w hw => Zag w a_b v0a (ra r0 hw) hv1) R (fun _ => (wlq (pit R R) R (wnt (wcO t1 R (fun h1 t1 => ?_) fun h1 t1 => ?_)))))))))))))))))
 refine wck (wqt (wcs (wcb (wcg (mv R R (wlq (pof Zv R) R (wlq (v := (sl v0a)) (plx ZN pz R R) R (mv R R (wlq (Zm (k := k1) (rga r0) ZU R R hk1) R (wlq (v := .agg #[iv ((gx a_b.Cells k1).Split), iv ((gx a_b.Cells k1).A), iv ((gx a_b.Cells k1).B)]) (Zaw (rga r0) Zh R hk1 R R R) R (bdO t1 fun v2 hv2 t1 => (wlc (cz0 ZuV R fun w hw => Zkt w (gx a_b.Cells k1) hv2) R fun _ => (gdO t1 fun g2 t1 => (wlq (ZO R R g2) R (gdO t1 fun g3 t1 => (wlq (ZO R R g3) R (asg R R (wln (wqb (wqt (wcg (mv R R (wlq (Zj R R (by omega)) R ?_)))))))))))))))))))))))
 exact asg R R (wln (Zk hk1 (stpN l1 t1) () (su3 R R R) so1))
 exact wcx (wqe (wqe (wbx (wjm _ () (Sum.inl.inj (stpB l1 t1)) (su1 R) zn))))
 have c1 : (decide (((k1 : Nat) : Int) < ((a_b.Cells.length : Nat) : Int))) = false := ddf (by omega)
 have en1 := foe l1 hk1
 exact wcs (wcr (mv R R (wlq (pof Zv R) R (wlq (v := (sl v0a)) (plx ZN pz R R) R (wlq (pln (rga r0) ZU R) R (wlq (pls R R) R (mv R R (Zef (t := 10) R c1 (wgf (j := 5) R R R R R (wgf (j := 5) R R R R R (wlq (pif R R) R (wnt (wff R R (wcx (wqe (wqe (wbx (wjm _ () (Sum.inl.inj en1) (su1 R) zn))))))))))))))))))
 intro e1 _ hp
 obtain rfl : e1 = y1 := hp.symm
 refine wqt (wcr (mv R R (asg R R (wnt (wct ?_)))))
 obtain rfl := oi t0
 exact wq1 R R fun w hw => ⟨R, hw.weak zn⟩

theorem Ziv (w : World) (a_b : GBlock) (v0a : Hd) (r0 : rdF w (dm w []) (sl v0a) a_b.Cells) {r : GBlock} (t0 : Zco a_b = some r) : Calls Tryz.prog 166 #[.agg #[.int .i64 a_b.Size, (sl v0a)]] w fun e w' => ∃ x : Hd, e = .returned (.agg #[.int .i64 r.Size, (sl x)]) ∧ SH w [] [ownF (sl x) r.Cells] w' := by
 refine cwc (args := [_]) Tryz.func166 R Tryz.ntmps166 R ?_
 unfold Zco at t0
 refine wcr (wle (Zg R R) R fun b1 => (wle (eal (cs := [iv 0, (sl hn)]) Zau) R fun b2 => (wnt (wcs (wcr (wlq (v := .agg #[iv a_b.Size, (sl v0a)]) (plb Zc pk1 R R R) R (bdO t0 fun v1 hv1 t0 => (wlc (cz0 ZeH R fun w hw => Zag w a_b v0a (ra r0 hw) hv1) R fun _ => (wlq (Zd R) R (wnt (wcO t0 R (fun h1 t0 => ?_) fun h1 t0 => ?_)))))))))))
 refine wcr (wlq (Zl R Zik) R (wls (sbx (cs' := [iv 0, (sl hn)]) Zc pz R R R R R R R) (wnt (wct (wqr ?_)))))
 obtain rfl := oi t0
 exact wqc R Zc R pz R fun w hw => ⟨hn, R, hw.weak (zc ZC zn)⟩
 refine wck (wqt (wcr (wlq (v := .agg #[iv a_b.Size, (sl v0a)]) (plb Zc pk1 R R R) R (bdO t0 fun v2 hv2 t0 => (wlc (cz1 Ztg R fun w hw => Zkk w a_b v0a (ra r0 hw) hv2) R fun x1 => (wle (eal (cs := [iv 0, (sl hn)]) Zau) R fun b3 => (wls (sbx (cs' := [iv v2.Size, (sl x1)]) Zc pz R R R R R R R) (wnt (wcs (wcr (asg R R (wnt (Zn t0 fun y1 l1 t0 => (wj (J := Int × (List GCell)) (X := Hd) (fun z => y1 = z) (fun _ _ => [(2, ptr b2 0), (3, ptr b3 0)]) (fun z x => [box b3 [iv z.1, (sl x)], ownF (sl x) z.2, box b2 [iv 0, (sl hn)]]) ?_ ?_))))))))))))))
 refine wcb (wcf (X := Hd) l1 (fun k1 s1 x1l => [(1, ptr b1 0), (2, ptr b2 0), (3, ptr b3 0), (4, iv (((k1 + 1) : Nat) : Int))]) (fun k1 s1 x1l => [box b3 [iv s1.1, (sl x1l)], ownF (sl x1l) s1.2, box b2 [iv 0, (sl hn)], box b1 [iv a_b.Size, (sl v0a)]]) x1 (su4 R R R R) so4 fun k1 s1 x1l hN1 l1 => ?_)
 by_cases hk1 : k1 < 7
 refine fos l1 hk1 fun _ t1 l1 => ?_
 unfold ZdA at t1
 have c1 : (decide ((((k1 + 1) : Nat) : Int) < 8)) = true := ddt (by omega)
 refine wcs (wcr (mv R R (wlq (pls R R) R (wnt (wft R c1 (wck (wqt (wcs (wcb (wcr (wlq (v := .agg #[iv a_b.Size, (sl v0a)]) (plb Zc pk3 R R R) R (mv R R (bdO t1 fun v3 hv3 t1 => (wlc (cz1 Ztq R fun w hw => Zkr w a_b v0a (ra r0 hw) (((k1 + 1) : Nat) : Int) hv3) R fun x3 => (bdO t1 fun v4 hv4 t1 => (wlc (cz1 Ztg R fun w hw => Zkk w v3 x3 (Rg.on (rgo pz) hw) hv4) R fun x4 => (wle (eal (cs := [iv 0, (sl hn)]) Zau) R fun b4 => (wls (sbx (cs' := [iv v4.Size, (sl x4)]) Zc pz R R R R R R R) (wnt (wcs (wcd [box b4 [iv v4.Size, (sl x4)], ownF (sl x4) v4.Cells, ownF (sl x3) v3.Cells, box b3 [iv s1.1, (sl x1l)], ownF (sl x1l) s1.2, box b2 [iv 0, (sl hn)], box b1 [iv a_b.Size, (sl v0a)]] 5 mixed (aq (v := .agg #[iv v4.Size, (sl x4)]) 0 R (plb Zc pz R R R) so7 R (aq (v := .agg #[iv s1.1, (sl x1l)]) 2 R (plb Zc pk3 R R R) so7 R (a1 1 (bdO t1 fun v5 hv5 t1 => (wsc R (cz0 ZtR R fun w hw => ZlN w v4 x4 (Rg.on (rgo pk1) hw) hv5) (fun _ => (zt so7)) R fun _ => (a1 3 (bdO t1 fun v6 hv6 t1 => (wsc R (cz0 ZtR R fun w hw => ZlN w (GBlock.mk s1.1 s1.2) x1l (Rg.on (rgo pk4) hw) hv6) (fun _ => (zt so7)) R fun _ => (aq 4 R (ZsA R R) so7 R (ae (wqt (wcj (X := Hd) (fun _ => True) (fun z => [(1, ptr b1 0), (2, ptr b2 0), (3, ptr b3 0), (4, iv (((k1 + 1) : Nat) : Int))]) (fun z => [box b3 [iv ((bif (slt v5 v6) then v4 else (GBlock.mk s1.1 s1.2)).Size), (sl z)], box b2 [iv 0, (sl hn)], box b1 [iv a_b.Size, (sl v0a)], ownF (sl z) ((bif (slt v5 v6) then v4 else (GBlock.mk s1.1 s1.2)).Cells)]) ?_ ?_)))))))))))))))))))))))))))))))))
 refine Zbn R (fun h2 => ?_) fun h2 => ?_
 exact wcg (wlq (v := .agg #[iv v4.Size, (sl x4)]) (plb Zc pz R R R) R (wls (sbx (cs' := [iv v4.Size, (sl x4)]) Zc pk3 R R R R R R R) (wln (wqm x4 trivial (su4 R R R R) (zc (by simp only [h2, cond_true]; exact pz) (zc pk4 (zc pk4 (zc (by simp only [h2, cond_true]; exact pk1) zn))))))))
 exact wck (wqm x1l trivial (su4 R R R R) (zc (by simp only [h2, cond_false]; exact pk3) (zc pk4 (zc pk4 (zc (by simp only [h2, cond_false]; exact pk3) zn)))))
 intro x5 _
 refine wqb (wqt (wcg (mv R R (wlq (Zj R R (by omega)) R ?_))))
 exact asg R R (wln (Zk hk1 (stpN l1 t1) x5 (su4 R R R R) (zc pz (zc pk2 so2))))
 have c1 : (decide ((((k1 + 1) : Nat) : Int) < 8)) = false := ddf (by omega)
 have en1 := foe l1 hk1
 exact wcs (wcr (mv R R (wlq (pls R R) R (wnt (wff R c1 (wcx (wqe (wqe (wbx (wjm _ x1l (Sum.inl.inj en1) (su2 R R) so3))))))))))
 intro e1 x2 hp
 obtain rfl : e1 = y1 := hp.symm
 refine wqt (wcr (wlq (v := .agg #[iv e1.1, (sl x2)]) (plb Zc pz R R R) R (wls (sbx (cs' := [iv e1.1, (sl x2)]) Zc pk2 R R R R R R R) (wnt (wct ?_)))))
 obtain rfl := oi t0
 exact wqc R Zc R pz R fun w hw => ⟨x2, R, hw.weak (zc pk2 zn)⟩

theorem Zoq (w : World) (a_b : GBlock) (v0a : Hd) (r0 : rdF w (dm w []) (sl v0a) a_b.Cells) (a_d : GBlock) (v1a : Hd) (r1 : rdF w (dm w []) (sl v1a) a_d.Cells) {r : Bool} (t0 : ZeW a_b a_d = some r) : Calls Tryz.prog 165 #[.agg #[.int .i64 a_b.Size, (sl v0a)], .agg #[.int .i64 a_d.Size, (sl v1a)]] w fun e w' => e = .returned (.bool r) ∧ SH w [] [] w' := by
 refine cwc (args := [_, _]) Tryz.func165 R Tryz.ntmps165 R ?_
 unfold ZeW at t0
 refine wcr (wle (Zg R R) R fun b1 => (wle (Zg R R) R fun b2 => (asg R R (wnt (wcs (wcs (wcj (X := Unit) (fun _ => True) (fun _ => [(2, ptr b1 0), (3, ptr b2 0), (19, .bool ((a_b.Size != a_d.Size) || (((a_b.Cells.length : Nat) : Int) != ((a_d.Cells.length : Nat) : Int))))]) (fun _ => [box b2 [iv a_d.Size, (sl v1a)], box b1 [iv a_b.Size, (sl v0a)]]) ?_ ?_)))))))
 refine wcg (wlq (pof ZM R) R (wlq (v := iv a_b.Size) (plx tk_3 pk1 R R) R (wlq (pof ZM R) R (wlq (v := iv a_d.Size) (plx tk_3 pz R R) R (wlq (ZcD R R) R (mv R R (Zae (t := 11) R (fun h1 => ?_) fun h1 => ?_)))))))
 exact wgf (j := 5) R R R R R (wgf (j := 5) R R R R R (wgf (j := 5) R R R R R (wgf (j := 5) R R R R R (wgf (j := 5) R R R R R (wgf (j := 5) R R R R R (wgf (j := 5) R R R R R (wlq (pit R R) R (wln (wqm () trivial (yc R (yc R (ZS R (by rw [h1]; rfl) yn))) so2)))))))))
 exact wgn (j := 5) R R R (wlq (pof Zv R) R (wgn (j := 5) R R R (wlq (v := (sl v0a)) (plx ZN pk1 R R) R (wgn (j := 5) R R R (wlq (pln (rga r0) ZU R) R (wgn (j := 5) R R R (wlq (pof Zv R) R (wgn (j := 5) R R R (wlq (v := (sl v1a)) (plx ZN pz R R) R (wgn (j := 5) R R R (wlq (pln (rga r1) ZU R) R (wgn (j := 5) R R R (wlq (ZcD R R) R (wlq (pif R R) R (wln (wqm () trivial (yc R (yc R (ZS R (by rw [h1]; rfl) yn))) so2))))))))))))))))
 intro _ _
 refine wqt (wcO t0 R (fun h2 t0 => ?_) fun h2 t0 => ?_)
 refine wcr (asg R R (wnt (wct (wqr ?_))))
 obtain rfl := oi t0
 exact wq1 R R fun w hw => ⟨R, hw.weak zn⟩
 refine wck (wqt (wcs (wcr (asg R R (wnt (gdO t0 fun g1 t0 => (sqO t0 fun y1 l1 t0 => (wj (J := Unit) (X := Unit) (fun z => y1 = .inl z) (fun _ _ => []) (fun _ _ => []) ?_ ?_))))))))
 refine wcb (wcf (X := Unit) l1 (fun k1 s1 x1l => [(2, ptr b1 0), (3, ptr b2 0), (5, iv ((k1 : Nat) : Int))]) (fun k1 s1 x1l => [box b2 [iv a_d.Size, (sl v1a)], box b1 [iv a_b.Size, (sl v0a)]]) () (su3 R R R) so2 fun k1 s1 x1l hN1 l1 => ?_)
 by_cases hk1 : k1 < a_b.Cells.length
 refine fos l1 hk1 fun _ t1 l1 => ?_
 unfold ZeC at t1
 have c1 : (decide (((k1 : Nat) : Int) < ((a_b.Cells.length : Nat) : Int))) = true := ddt (by omega)
 refine wcs (wcr (mv R R (wlq (pof Zv R) R (wlq (v := (sl v0a)) (plx ZN pk1 R R) R (wlq (pln (rga r0) ZU R) R (wlq (pls R R) R (wnt (wft R c1 (wck (wqt (wcs (wcb (wcs (wcd [box b2 [iv a_d.Size, (sl v1a)], box b1 [iv a_b.Size, (sl v0a)]] 11 mixed (aq 0 R (pof Zv R) so2 R (aq (v := (sl v0a)) 1 R (plx ZN pk1 R R) so2 R (aq 2 R (pom R) so2 R (aq 3 R (Zm (k := k1) (rga r0) ZU R R hk1) so2 R (aq (v := .agg #[iv ((gx a_b.Cells k1).Split), iv ((gx a_b.Cells k1).A), iv ((gx a_b.Cells k1).B)]) 4 R (Zaw (rga r0) Zh R hk1 R R R) so2 R (aq 5 R (pof Zv R) so2 R (aq (v := (sl v1a)) 6 R (plx ZN pz R R) so2 R (aq 7 R (pom R) so2 R (gdO t1 fun g2 t1 => (aq 8 R (Zm (k := k1) (rga r1) ZU R R g2) so2 R (aq (v := .agg #[iv ((gx a_d.Cells k1).Split), iv ((gx a_d.Cells k1).A), iv ((gx a_d.Cells k1).B)]) 9 R (Zaw (rga r1) Zh R g2 R R R) so2 R (aq 10 R (ZlO (ps := [(gx a_b.Cells k1).Split, (gx a_b.Cells k1).A, (gx a_b.Cells k1).B]) (qs := [(gx a_d.Cells k1).Split, (gx a_d.Cells k1).A, (gx a_d.Cells k1).B]) ZuR R R R R) so2 R (ae (wqt (wcO t1 R (fun h3 t1 => ?_) fun h3 t1 => ?_)))))))))))))))))))))))))))))
 refine wcr (asg R R (wnt (wct (wbr (wqr (wqr (wbr (wqr (wqr ?_)))))))))
 replace t0 := lpR t0 l1 t1
 obtain rfl := oi t0
 exact wq1 R R fun w hw => ⟨R, hw.weak zn⟩
 refine wck (wqb (wqt (wcg (mv R R (wlq (Zj R R (by omega)) R ?_)))))
 exact asg R R (wln (Zk hk1 (stpN l1 t1) () (su3 R R R) so2))
 have c1 : (decide (((k1 : Nat) : Int) < ((a_b.Cells.length : Nat) : Int))) = false := ddf (by omega)
 have en1 := foe l1 hk1
 exact wcs (wcr (mv R R (wlq (pof Zv R) R (wlq (v := (sl v0a)) (plx ZN pk1 R R) R (wlq (pln (rga r0) ZU R) R (wlq (pls R R) R (wnt (wff R c1 (wcx (wqe (wqe (wbx (wjm _ () en1 yn zn)))))))))))))
 intro e1 _ hp
 replace t0 := sqE (j := e1) t0 hp
 refine wqt (wcr (asg R R (wnt (wct ?_))))
 obtain rfl := oi t0
 exact wq1 R R fun w hw => ⟨R, hw.weak zn⟩

theorem ZkE (w : World) (a_b : GBlock) (v0a : Hd) (r0 : rdF w (dm w []) (sl v0a) a_b.Cells) (a_d : GBlock) (v1a : Hd) (r1 : rdF w (dm w []) (sl v1a) a_d.Cells) {r : Bool} (t0 : Zch a_b a_d = some r) : Calls Tryz.prog 150 #[.agg #[.int .i64 a_b.Size, (sl v0a)], .agg #[.int .i64 a_d.Size, (sl v1a)]] w fun e w' => e = .returned (.bool r) ∧ SH w [] [] w' := by
 refine cwc (args := [_, _]) Tryz.func150 R Tryz.ntmps150 R ?_
 unfold Zch at t0
 refine wcr (wle (Zg R R) R fun b1 => (wle (Zg R R) R fun b2 => (asg R R (wnt (wcs (bdO t0 fun y1 t1 t0 => (wj (J := Bool) (X := Unit) (fun z => y1 = z) (fun z _ => [(4, .bool z)]) (fun _ _ => []) ?_ ?_)))))))
 refine wcd [box b2 [iv a_d.Size, (sl v1a)], box b1 [iv a_b.Size, (sl v0a)]] 14 mixed (aq (v := .agg #[iv a_b.Size, (sl v0a)]) 0 R (plb Zc pk1 R R R) so2 R (a1 1 (bdO t1 fun v1 hv1 t1 => (wsc R (cz0 ZeH R fun w hw => Zag w a_b v0a (ra r0 hw) hv1) (fun _ => (zt so2)) R fun _ => (aq 2 R (pom R) so2 R (waO_ (t := 7) t1 R (fun h1 t1 => ?_) fun h1 t1 => ?_))))))
 refine an (v := .agg #[iv a_d.Size, (sl v1a)]) 3 2 R R R R (plb Zc pz R R R) so2 R (a1 4 (bdO t1 fun v2 hv2 t1 => (ZL (j := 2) R R R R (cz0 ZeH R fun w hw => Zag w a_d v1a (ra r1 hw) hv2) (fun _ => (zt so2)) R fun _ => (aq 5 R (pit R R) so2 R (aq 6 R (pom R) so2 R (waO_ (t := 11) t1 R (fun h2 t1 => ?_) fun h2 t1 => ?_))))))
 exact an (v := .agg #[iv a_b.Size, (sl v0a)]) 7 6 R R R R (plb Zc pk1 R R R) so2 R (an (v := .agg #[iv a_d.Size, (sl v1a)]) 9 6 R R R R (plb Zc pz R R R) so2 R (a1 8 (bdO t1 fun v3 hv3 t1 => (ZL (j := 6) R R R R (cz1 ZtF R fun w hw => Ziv w a_b v0a (ra r0 hw) hv3) (fun _ => (zt (zc pk1 (zc pk1 zn)))) R fun x2 => (a1 10 (bdO t1 fun v4 hv4 t1 => (ZL (j := 6) R R R R (cz1 ZtF R fun w hw => Ziv w a_d v1a (ra r1 hw) hv4) (fun _ => (zt (zc pk2 (zc pk2 zn)))) R fun x3 => (a1 11 (bdO t1 fun v5 hv5 t1 => (ZL (j := 6) R R R R (cz0 Zwh R fun w hw => Zoq w v3 x2 (Rg.on (rgo pk1) hw) v4 x3 (Rg.on (rgo pz) hw) hv5) (fun _ => (zt (zc pk2 (zc pk2 zn)))) R fun _ => (aq 12 R (pit R R) (zc pk2 (zc pk2 zn)) R (aq 13 R (Zp R) (zc pk2 (zc pk2 zn)) R (ae (wjm _ () (mtE t1) (su1 R) zn))))))))))))))
 exact af 7 6 R R R R R so2 R (af 8 6 R R R R R so2 R (af 9 6 R R R R R so2 R (af 10 6 R R R R R so2 R (af 11 6 R R R R R so2 R (aq 12 R (pif R R) so2 R (aq 13 R (Zp R) so2 R (ae (wjm _ () (mtE t1) (su1 R) zn))))))))
 exact af 3 2 R R R R R so2 R (af 4 2 R R R R R so2 R (aq 5 R (pif R R) so2 R (aq 6 R (pom R) so2 R (af 7 6 R R R R R so2 R (af 8 6 R R R R R so2 R (af 9 6 R R R R R so2 R (af 10 6 R R R R R so2 R (af 11 6 R R R R R so2 R (aq 12 R (pif R R) so2 R (aq 13 R (Zp R) so2 R (ae (wjm _ () (mtE t1) (su1 R) zn))))))))))))
 intro j1 _ hp
 obtain rfl : j1 = y1 := hp.symm
 refine wqt (wct ?_)
 obtain rfl := oi t0
 exact wq1 R R fun w hw => ⟨R, hw.weak zn⟩

theorem Zpm (w : World) (a_b : GBlock) (v0a : Hd) (r0 : rdF w (dm w []) (sl v0a) a_b.Cells) {r : List Int} (t0 : ZfY a_b = some r) : Calls Tryz.prog 167 #[.agg #[.int .i64 a_b.Size, (sl v0a)]] w fun e w' => ∃ x : Hd, e = .returned ((sl x)) ∧ SH w [] [ownF (sl x) r] w' := by
 refine cwc (args := [_]) Tryz.func167 R Tryz.ntmps167 R ?_
 unfold ZfY at t0
 refine wcr (wle (Zg R R) R fun b1 => (asg R R (wnt (wcr (wle (ebs R Zai) R fun b2 => (asg R R (wnt (wcs (wcr (wlq (v := .agg #[iv a_b.Size, (sl v0a)]) (plb Zc pk1 R R R) R (bdO t0 fun v1 hv1 t0 => (wlc (cz0 ZeH R fun w hw => Zag w a_b v0a (ra r0 hw) hv1) R fun _ => (wlq (Zd R) R (wnt (wcO t0 R (fun h1 t0 => ?_) fun h1 t0 => ?_)))))))))))))))
 refine wcr (mv R R (asg R R (wnt (wct (wqr ?_)))))
 obtain rfl := oi t0
 exact wq1 R R fun w hw => ⟨(⟨some ⟨b2, 0, none⟩, 0, 0⟩ : Hd), R, hw.weak (zc (pbo pz (n := 0) (xs := ([] : List Int)) R R (by unfold maxLen; omega)) zn)⟩
 refine wck (wqt (wcs (wcr (asg R R (wnt (Zn t0 fun y1 l1 t0 => (wj (J := List Int) (X := Hd) (fun z => y1 = z) (fun _ x => [(3, (sl x))]) (fun z x => [ownF (sl x) z]) ?_ ?_)))))))
 refine wcb (wcf (X := Hd) l1 (fun k1 s1 x1l => [(1, ptr b1 0), (3, (sl x1l)), (4, iv ((k1 : Nat) : Int))]) (fun k1 s1 x1l => [box b1 [iv a_b.Size, (sl v0a)], ownF (sl x1l) s1]) (⟨some ⟨b2, 0, none⟩, 0, 0⟩ : Hd) (su3 R R R) (zc pk1 (zc (pbo pz (n := 0) (xs := ([] : List Int)) R R (by unfold maxLen; omega)) zn)) fun k1 s1 x1l hN1 l1 => ?_)
 by_cases hk1 : k1 < 6
 refine fos l1 hk1 fun _ t1 l1 => ?_
 unfold Zfk at t1
 have c1 : (decide (((k1 : Nat) : Int) < 6)) = true := ddt (by omega)
 refine wcs (wcr (mv R R (wlq (pls R R) R (wnt (wft R c1 (wck (wqt (wcs (wcb (wcr (asg R R (wnt (wcs (wcr (asg R R (wnt (gdO t1 fun g1 t1 => (Zn t1 fun y2 l2 t1 => (wj (J := Bool) (X := Unit) (fun z => y2 = z) (fun z _ => [(1, ptr b1 0), (3, (sl x1l)), (4, iv ((k1 : Nat) : Int)), (5, .bool z)]) (fun _ _ => [box b1 [iv a_b.Size, (sl v0a)], ownF (sl x1l) s1]) ?_ ?_)))))))))))))))))))
 refine wcb (wcf (X := Unit) l2 (fun k2 s2 x2l => [(1, ptr b1 0), (3, (sl x1l)), (4, iv ((k1 : Nat) : Int)), (5, .bool s2), (6, iv ((k2 : Nat) : Int))]) (fun k2 s2 x2l => [box b1 [iv a_b.Size, (sl v0a)], ownF (sl x1l) s1]) () (su5 R R R R R) so2 fun k2 s2 x2l hN2 l2 => ?_)
 by_cases hk2 : k2 < a_b.Cells.length
 refine fos l2 hk2 fun _ t2 l2 => ?_
 unfold Zfy at t2
 have c2 : (decide (((k2 : Nat) : Int) < ((a_b.Cells.length : Nat) : Int))) = true := ddt (by omega)
 refine wcs (wcr (mv R R (wlq (pof Zv R) R (wlq (v := (sl v0a)) (plx ZN pz R R) R (wlq (pln (rga r0) ZU R) R (wlq (pls R R) R (wnt (wft R c2 (wck (wqt (wcs (wcb (wcj (X := Unit) (fun _ => True) (fun _ => [(1, ptr b1 0), (3, (sl x1l)), (4, iv ((k1 : Nat) : Int)), (5, .bool (s2 || (((gx a_b.Cells k2).A == ((k1 : Nat) : Int)) || ((gx a_b.Cells k2).B == ((k1 : Nat) : Int))))), (6, iv ((k2 : Nat) : Int))]) (fun _ => [box b1 [iv a_b.Size, (sl v0a)], ownF (sl x1l) s1]) ?_ ?_)))))))))))))
 refine wcg (mv R R (mv R R (Zae (t := 24) R (fun h2 => ?_) fun h2 => ?_)))
 exact wgf (j := 1) R R R R R (wgf (j := 1) R R R R R (wgf (j := 1) R R R R R (wgf (j := 1) R R R R R (wgf (j := 1) R R R R R (wgf (j := 1) R R R R R (wgf (j := 1) R R R R R (wgf (j := 1) R R R R R (wlq (pit R R) R (mv R R (wgf (j := 11) R R R R R (wgf (j := 11) R R R R R (wgf (j := 11) R R R R R (wgf (j := 11) R R R R R (wgf (j := 11) R R R R R (wgf (j := 11) R R R R R (wgf (j := 11) R R R R R (wgf (j := 11) R R R R R (wlq (pit R R) R (asg R R (wln (wqm () trivial (yc R (yc R (yc R (ZS R (by rw [h2]; rfl) (su1 R))))) so2)))))))))))))))))))))
 refine wgn (j := 1) R R R (wlq (pof Zv R) R (wgn (j := 1) R R R (wlq (v := (sl v0a)) (plx ZN pz R R) R (wgn (j := 1) R R R (mv R R (wgn (j := 1) R R R (wlq (Zm (k := k2) (rga r0) ZU R R hk2) R (wgn (j := 1) R R R (wlq (Z5 (rga r0) hk2 ZaT R) R (wgn (j := 1) R R R (wlq (v := iv ((gx a_b.Cells k2).A)) (Zw (rga r0) tk_3 R hk2 R) R (wgn (j := 1) R R R (mv R R (wgn (j := 1) R R R (wlq (pol R R) R (wlq (pif R R) R (mv R R (Zae (t := 34) R (fun h3 => ?_) fun h3 => ?_))))))))))))))))))
 exact wgf (j := 11) R R R R R (wgf (j := 11) R R R R R (wgf (j := 11) R R R R R (wgf (j := 11) R R R R R (wgf (j := 11) R R R R R (wgf (j := 11) R R R R R (wgf (j := 11) R R R R R (wgf (j := 11) R R R R R (wlq (pit R R) R (asg R R (wln (wqm () trivial (yc R (yc R (yc R (ZS R (by rw [h2, h3]; rfl) (su1 R))))) so2)))))))))))
 exact wgn (j := 11) R R R (wlq (pof Zv R) R (wgn (j := 11) R R R (wlq (v := (sl v0a)) (plx ZN pz R R) R (wgn (j := 11) R R R (mv R R (wgn (j := 11) R R R (wlq (Zm (k := k2) (rga r0) ZU R R hk2) R (wgn (j := 11) R R R (wlq (Z5 (rga r0) hk2 Za6 R) R (wgn (j := 11) R R R (wlq (v := iv ((gx a_b.Cells k2).B)) (Zw (rga r0) tk_3 R hk2 R) R (wgn (j := 11) R R R (mv R R (wgn (j := 11) R R R (wlq (pol R R) R (wlq (pif R R) R (asg R R (wln (wqm () trivial (yc R (yc R (yc R (ZS R (by rw [h2, h3]; rfl) (su1 R))))) so2)))))))))))))))))))
 intro _ _
 refine wqb (wqt (wcg (mv R R (wlq (Zj R R (by omega)) R ?_))))
 exact asg R R (wln (Zk hk2 (stpN l2 t2) () (su5 R R R R R) so2))
 have c2 : (decide (((k2 : Nat) : Int) < ((a_b.Cells.length : Nat) : Int))) = false := ddf (by omega)
 have en1 := foe l2 hk2
 exact wcs (wcr (mv R R (wlq (pof Zv R) R (wlq (v := (sl v0a)) (plx ZN pz R R) R (wlq (pln (rga r0) ZU R) R (wlq (pls R R) R (wnt (wff R c2 (wcx (wqe (wqe (wbx (wjm _ () (Sum.inl.inj en1) (su4 R R R R) so2)))))))))))))
 intro e2 _ hp
 obtain rfl : e2 = y2 := hp.symm
 refine wqt (wcr (mv R R (wnt (bdO t1 fun y2 t2 t1 => (wj (J := List Int) (X := Hd) (fun z => y2 = z) (fun _ x => [(1, ptr b1 0), (3, (sl x)), (4, iv ((k1 : Nat) : Int))]) (fun z x => [box b1 [iv a_b.Size, (sl v0a)], ownF (sl x) z]) ?_ ?_)))))
 refine wcO t2 R (fun h4 t2 => ?_) fun h4 t2 => ?_
 refine wcg (mv R R (mv R R (wle (ebs R (ZaA ((k1 : Nat) : Int))) R fun b3 => (gdO t2 fun g2 t2 => (wle (Zf (xs := s1) (ys := ([((k1 : Nat) : Int)] : List Int)) Zbp pk2 R R (Zi fun _ g => Rg.on (rgo (pbo pz (n := 1) (xs := ([((k1 : Nat) : Int)] : List Int)) R R (by unfold maxLen; omega))) g) g2) R fun x5 => ?_)))))
 exact asg R R (wln (wjm _ x5 (mtE t2) (su3 R R R) (zc pk2 so1)))
 exact wck (wjm _ x1l (mtE t2) (su3 R R R) so2)
 intro j2 x4 hp
 obtain rfl : j2 = y2 := hp.symm
 refine wqb (wqt (wcg (mv R R (wlq (Zj R R (by omega)) R ?_))))
 exact asg R R (wln (Zk hk1 (stpN l1 t1) x4 (su3 R R R) so2))
 have c1 : (decide (((k1 : Nat) : Int) < 6)) = false := ddf (by omega)
 have en2 := foe l1 hk1
 exact wcs (wcr (mv R R (wlq (pls R R) R (wnt (wff R c1 (wcx (wqe (wqe (wbx (wjm _ x1l (Sum.inl.inj en2) (su1 R) (zc pk1 zn)))))))))))
 intro e1 x1 hp
 obtain rfl : e1 = y1 := hp.symm
 refine wqt (wcr (mv R R (asg R R (wnt (wct ?_)))))
 obtain rfl := oi t0
 exact wq1 R R fun w hw => ⟨x1, R, hw.weak so1⟩

theorem ZrV (w : World) (a_b : GBlock) (v0a : Hd) (r0 : rdF w (dm w []) (sl v0a) a_b.Cells) (a_d : GBlock) (v1a : Hd) (r1 : rdF w (dm w []) (sl v1a) a_d.Cells) {r : Bool} (t0 : Zh2 a_b a_d = some r) : Calls Tryz.prog 168 #[.agg #[.int .i64 a_b.Size, (sl v0a)], .agg #[.int .i64 a_d.Size, (sl v1a)]] w fun e w' => e = .returned (.bool r) ∧ SH w [] [] w' := by
 refine cwc (args := [_, _]) Tryz.func168 R Tryz.ntmps168 R ?_
 unfold Zh2 at t0
 refine wcr (wle (Zg R R) R fun b1 => (wle (Zg R R) R fun b2 => (asg R R (wnt (wcs (bdO t0 fun y1 t1 t0 => (wj (J := Bool) (X := Unit) (fun z => y1 = z) (fun z _ => [(4, .bool z)]) (fun _ _ => []) ?_ ?_)))))))
 refine wcg (wlq (v := .agg #[iv a_b.Size, (sl v0a)]) (plb Zc pk1 R R R) R (bdO t1 fun v1 hv1 t1 => (wlc (cz0 ZeH R fun w hw => Zag w a_b v0a (ra r0 hw) hv1) R fun _ => (mv R R (wlo (t := 7) t1 R (fun h1 t1 => ?_) fun h1 t1 => ?_)))))
 refine wgn (j := 2) R R R (wlq (v := .agg #[iv a_d.Size, (sl v1a)]) (plb Zc pz R R R) R (bdO t1 fun v2 hv2 t1 => (wgn (j := 2) R R R (wlc (cz0 ZeH R fun w hw => Zag w a_d v1a (ra r1 hw) hv2) R (fun _ => (wlq (pit R R) R (mv R R (wlo (t := 11) t1 R (fun h2 t1 => ?_) fun h2 t1 => ?_))))))))
 exact wgn (j := 6) R R R (wlq (pof ZM R) R (wgn (j := 6) R R R (wlq (v := iv a_b.Size) (plx tk_3 pk1 R R) R (wgn (j := 6) R R R (wlq (pof ZM R) R (wgn (j := 6) R R R (wlq (v := iv a_d.Size) (plx tk_3 pz R R) R (wgn (j := 6) R R R (wlq (pol R R) R (wlq (pit R R) R (asg R R (wln (wjm _ () (mtE t1) (su1 R) zn)))))))))))))
 exact wgf (j := 6) R R R R R (wgf (j := 6) R R R R R (wgf (j := 6) R R R R R (wgf (j := 6) R R R R R (wgf (j := 6) R R R R R (wlq (pif R R) R (asg R R (wln (wjm _ () (mtE t1) (su1 R) zn))))))))
 exact wgf (j := 2) R R R R R (wgf (j := 2) R R R R R (wlq (pif R R) R (mv R R (wgf (j := 6) R R R R R (wgf (j := 6) R R R R R (wgf (j := 6) R R R R R (wgf (j := 6) R R R R R (wgf (j := 6) R R R R R (wlq (pif R R) R (asg R R (wln (wjm _ () (mtE t1) (su1 R) zn))))))))))))
 intro j1 _ hp
 obtain rfl : j1 = y1 := hp.symm
 refine wqt (wct ?_)
 obtain rfl := oi t0
 exact wq1 R R fun w hw => ⟨R, hw.weak zn⟩

theorem ZkI (w : World) (a_c : GCell) (a_side : Int) {r : Int} (t0 : Zfb a_c a_side = some r) : Calls Tryz.prog 185 #[.agg #[.int .i64 a_c.Split, .int .i64 a_c.A, .int .i64 a_c.B], .int .i64 a_side] w fun e w' => e = .returned (.int .i64 r) ∧ SH w [] [] w' := by
 refine cwc (args := [_, _]) Tryz.func185 R Tryz.ntmps185 R ?_
 unfold Zfb at t0
 refine wcr (wle (Zg R R) R fun b1 => (asg R R (wnt (wcs (wcs (bdO t0 fun y1 t1 t0 => (wj (J := Bool) (X := Unit) (fun z => y1 = z) (fun z _ => [(1, iv a_side), (2, ptr b1 0), (12, .bool z)]) (fun _ _ => [box b1 [iv a_c.Split, iv a_c.A, iv a_c.B]]) ?_ ?_)))))))
 refine wcg (wlq (v := .agg #[iv a_c.Split, iv a_c.A, iv a_c.B]) (plb Zh pz R R R) R (bdO t1 fun v1 hv1 t1 => (wlc (cz0 ZiV R fun w hw => Zcy w a_c hv1) R fun _ => (wlq (Zd R) R (mv R R (wlo (t := 8) t1 R (fun h1 t1 => ?_) fun h1 t1 => ?_))))))
 exact wgf (j := 3) R R R R R (wgf (j := 3) R R R R R (wgf (j := 3) R R R R R (wlq (pit R R) R (wln (wjm _ () (mtE t1) (su3 R R R) so1)))))
 exact wgn (j := 3) R R R (mv R R (bdO t1 fun v2 hv2 t1 => (wgn (j := 3) R R R (wlc (cz0 Zbb R fun w hw => ZF w a_side 0 3 hv2) R (fun _ => (wgn (j := 3) R R R (wlq (Zd R) R (wlq (pif R R) R (wln (wjm _ () (mtE t1) (su3 R R R) so1))))))))))
 intro j1 _ hp
 obtain rfl : j1 = y1 := hp.symm
 refine wqt (wcO t0 R (fun h2 t0 => ?_) fun h2 t0 => ?_)
 refine wcr (asg R R (wnt (wct (wqr ?_))))
 obtain rfl := oi t0
 exact wq1 R R fun w hw => ⟨R, hw.weak zn⟩
 refine wck (wqt (wcs (wcs (wcj (X := Unit) (fun _ => True) (fun _ => [(2, ptr b1 0), (32, .bool ((a_side == 0) || (bif (a_side == 1) then ((a_c.Split == 1) || ((a_side == 3) && (a_c.Split == 2))) else ((a_side == 3) && (a_c.Split == 2)))))]) (fun _ => [box b1 [iv a_c.Split, iv a_c.A, iv a_c.B]]) ?_ ?_))))
 refine wcg (mv R R (wlq (pol R R) R (mv R R (Zae (t := 15) R (fun h3 => ?_) fun h3 => ?_))))
 exact wgf (j := 2) R R R R R (wgf (j := 2) R R R R R (wgf (j := 2) R R R R R (ZW (j := 5) R R R R (ZW (j := 5) R R R R (ZW (j := 5) R R R R (wgf (j := 2) R R R R R (wlq (pit R R) R (mv R R (wgf (j := 11) R R R R R (wgf (j := 11) R R R R R (wgf (j := 11) R R R R R (ZW (j := 14) R R R R (ZW (j := 14) R R R R (ZW (j := 14) R R R R (wgf (j := 11) R R R R R (wlq (pit R R) R (wln (wqm () trivial (yc R (ZS R (by rw [h3]; rfl) yn)) so1))))))))))))))))))
 refine wgn (j := 2) R R R (mv R R (wgn (j := 2) R R R (wlq (pol R R) R (wgn (j := 2) R R R (mv R R (Zae (t := 18) R (fun h4 => ?_) fun h4 => ?_))))))
 refine wgn (j := 5) R R R (wlq (pof Zbc R) R (wgn (j := 5) R R R (wlq (v := iv a_c.Split) (plx tk_3 pz R R) R (wgn (j := 5) R R R (wlq (pol R R) R (wgn (j := 2) R R R (wlq (pit R R) R (wlq (pif R R) R (mv R R (Zae (t := 24) R (fun h5 => ?_) fun h5 => ?_))))))))))
 exact wgf (j := 11) R R R R R (wgf (j := 11) R R R R R (wgf (j := 11) R R R R R (ZW (j := 14) R R R R (ZW (j := 14) R R R R (ZW (j := 14) R R R R (wgf (j := 11) R R R R R (wlq (pit R R) R (wln (wqm () trivial (yc R (ZS R (by rw [h3, h4, h5]; rfl) yn)) so1)))))))))
 refine wgn (j := 11) R R R (mv R R (wgn (j := 11) R R R (wlq (pol R R) R (wgn (j := 11) R R R (mv R R (Zae (t := 27) R (fun h6 => ?_) fun h6 => ?_))))))
 exact wgn (j := 14) R R R (wlq (pof Zbc R) R (wgn (j := 14) R R R (wlq (v := iv a_c.Split) (plx tk_3 pz R R) R (wgn (j := 14) R R R (wlq (pol R R) R (wgn (j := 11) R R R (wlq (pit R R) R (wlq (pif R R) R (wln (wqm () trivial (yc R (ZS R (by rw [h3, h4, h5, h6]; rfl) yn)) so1))))))))))
 exact wgf (j := 14) R R R R R (wgf (j := 14) R R R R R (wgf (j := 14) R R R R R (wgn (j := 11) R R R (wlq (pif R R) R (wlq (pif R R) R (wln (wqm () trivial (yc R (ZS R (by rw [h3, h4, h5, h6]; rfl) yn)) so1)))))))
 refine wgf (j := 5) R R R R R (wgf (j := 5) R R R R R (wgf (j := 5) R R R R R (wgn (j := 2) R R R (wlq (pif R R) R (wlq (pif R R) R (mv R R (wgn (j := 11) R R R (mv R R (wgn (j := 11) R R R (wlq (pol R R) R (wgn (j := 11) R R R (mv R R (Zae (t := 27) R (fun h7 => ?_) fun h7 => ?_)))))))))))))
 exact wgn (j := 14) R R R (wlq (pof Zbc R) R (wgn (j := 14) R R R (wlq (v := iv a_c.Split) (plx tk_3 pz R R) R (wgn (j := 14) R R R (wlq (pol R R) R (wgn (j := 11) R R R (wlq (pit R R) R (wlq (pif R R) R (wln (wqm () trivial (yc R (ZS R (by rw [h3, h4, h7]; rfl) yn)) so1))))))))))
 exact wgf (j := 14) R R R R R (wgf (j := 14) R R R R R (wgf (j := 14) R R R R R (wgn (j := 11) R R R (wlq (pif R R) R (wlq (pif R R) R (wln (wqm () trivial (yc R (ZS R (by rw [h3, h4, h7]; rfl) yn)) so1)))))))
 intro _ _
 refine wqt (wcO t0 R (fun h8 t0 => ?_) fun h8 t0 => ?_)
 refine wcr (wlq (pof ZaT R) R (wlq (v := iv a_c.A) (plx tk_3 pz R R) R (asg R R (wnt (wct (wqr ?_))))))
 obtain rfl := oi t0
 exact wq1 R R fun w hw => ⟨R, hw.weak zn⟩
 refine wck (wqt (wcr (wlq (pof Za6 R) R (wlq (v := iv a_c.B) (plx tk_3 pz R R) R (asg R R (wnt (wct ?_)))))))
 obtain rfl := oi t0
 exact wq1 R R fun w hw => ⟨R, hw.weak zn⟩

theorem Zpe (w : World) (a_b : GBlock) (v0a : Hd) (r0 : rdF w (dm w []) (sl v0a) a_b.Cells) (a_d : GBlock) (v1a : Hd) (r1 : rdF w (dm w []) (sl v1a) a_d.Cells) {r : List (List Int)} (t0 : ZfU a_b a_d = some r) : Calls Tryz.prog 170 #[.agg #[.int .i64 a_b.Size, (sl v0a)], .agg #[.int .i64 a_d.Size, (sl v1a)]] w fun e w' => ∃ x : Hd × (List Value), e = .returned ((sl x.1)) ∧ SH w [] [own (sl x.1) x.2 r] w' := by
 refine cwc (args := [_, _]) Tryz.func170 R Tryz.ntmps170 R ?_
 unfold ZfU at t0
 refine wcr (wle (Zg R R) R fun b1 => (wle (Zg R R) R fun b2 => (asg R R (wnt (wcr (wle (ebs R Zus) R fun b3 => (asg R R (wnt (wcs (wcr (asg R R (wnt (Zn t0 fun y1 l1 t0 => (wj (J := List (List Int)) (X := Hd × (List Value)) (fun z => y1 = z) (fun _ x => [(2, ptr b1 0), (3, ptr b2 0), (5, (sl x.1))]) (fun z x => [box b2 [iv a_d.Size, (sl v1a)], box b1 [iv a_b.Size, (sl v0a)], own (sl x.1) x.2 z]) ?_ ?_))))))))))))))
 refine wcb (wcf (X := Hd × (List Value)) l1 (fun k1 s1 x1l => [(2, ptr b1 0), (3, ptr b2 0), (5, (sl x1l.1)), (6, iv ((k1 : Nat) : Int))]) (fun k1 s1 x1l => [box b2 [iv a_d.Size, (sl v1a)], box b1 [iv a_b.Size, (sl v0a)], own (sl x1l.1) x1l.2 s1]) ((⟨some ⟨b3, 0, none⟩, 0, 0⟩ : Hd), []) (su4 R R R R) (zc pk1 (zc pk1 (zc (ZjO pz) zn))) fun k1 s1 x1l hN1 l1 => ?_)
 by_cases hk1 : k1 < 6
 refine fos l1 hk1 fun _ t1 l1 => ?_
 unfold ZhK at t1
 have c1 : (decide (((k1 : Nat) : Int) < 6)) = true := ddt (by omega)
 refine wcs (wcr (mv R R (wlq (pls R R) R (wnt (wft R c1 (wck (wqt (wcs (wcb (wcg (mv R R (wle (Zlw (n := 6) (0 : Int) ZqX R R R (by omega) R) R fun x2 => ?_))))))))))))
 refine wle (ebs R (ZuC x2)) R fun b4 => gdO t1 fun g1 t1 => wle (Zdb (us := x1l.2) (xs := s1) ZwE pk4 (Zt5 pk1) pz R R R g1) R fun x3 => asg R R (wln (wqb (wqt (wcg (mv R R (wlq (Zj R R (by omega)) R ?_))))))
 exact asg R R (wln (Zk hk1 (stpN l1 t1) (x3, (x1l.2 ++ [(sl x2)])) (su4 R R R R) (zc pk2 (zc pk2 so1))))
 have c1 : (decide (((k1 : Nat) : Int) < 6)) = false := ddf (by omega)
 have en1 := foe l1 hk1
 exact wcs (wcr (mv R R (wlq (pls R R) R (wnt (wff R c1 (wcx (wqe (wqe (wbx (wjm _ (x1l.1, x1l.2) (Sum.inl.inj en1) (su3 R R R) so3))))))))))
 intro e1 x1 hp
 obtain rfl : e1 = y1 := hp.symm
 refine wqt (wcs (wcr (asg R R (wnt (gdO t0 fun g2 t0 => (Zn t0 fun y1 l1 t0 => (wj (J := List (List Int)) (X := List Value) (fun z => y1 = z) (fun _ _ => [(5, (sl x1.1))]) (fun z x => [own (sl x1.1) x z]) ?_ ?_)))))))
 refine wcb (wcf (X := List Value) l1 (fun k2 s2 x2l => [(2, ptr b1 0), (3, ptr b2 0), (5, (sl x1.1)), (7, iv ((k2 : Nat) : Int))]) (fun k2 s2 x2l => [box b2 [iv a_d.Size, (sl v1a)], box b1 [iv a_b.Size, (sl v0a)], own (sl x1.1) x2l s2]) x1.2 (su4 R R R R) so3 fun k2 s2 x2l hN2 l1 => ?_)
 by_cases hk2 : k2 < a_b.Cells.length
 refine fos l1 hk2 fun _ t1 l1 => ?_
 unfold Zfs at t1
 have c2 : (decide (((k2 : Nat) : Int) < ((a_b.Cells.length : Nat) : Int))) = true := ddt (by omega)
 refine wcs (wcr (mv R R (wlq (pof Zv R) R (wlq (v := (sl v0a)) (plx ZN pk1 R R) R (wlq (pln (rga r0) ZU R) R (wlq (pls R R) R (wnt (wft R c2 (wck (wqt (wcs (wcb (wcr (asg R R (wnt (Zn t1 fun y2 l2 t1 => (wj (J := List (List Int)) (X := List Value) (fun z => y2 = z) (fun _ _ => [(2, ptr b1 0), (3, ptr b2 0), (5, (sl x1.1)), (7, iv ((k2 : Nat) : Int))]) (fun z x => [box b2 [iv a_d.Size, (sl v1a)], box b1 [iv a_b.Size, (sl v0a)], own (sl x1.1) x z]) ?_ ?_)))))))))))))))))
 refine wcb (wcf (X := List Value) l2 (fun k3 s3 x3l => [(2, ptr b1 0), (3, ptr b2 0), (5, (sl x1.1)), (7, iv ((k2 : Nat) : Int)), (8, iv ((k3 : Nat) : Int))]) (fun k3 s3 x3l => [box b2 [iv a_d.Size, (sl v1a)], box b1 [iv a_b.Size, (sl v0a)], own (sl x1.1) x3l s3]) x2l (su5 R R R R R) so3 fun k3 s3 x3l hN3 l2 => ?_)
 by_cases hk3 : k3 < 4
 refine fos l2 hk3 fun _ t2 l2 => ?_
 unfold Zfg at t2
 have c3 : (decide (((k3 : Nat) : Int) < 4)) = true := ddt (by omega)
 refine wcs (wcr (mv R R (wlq (pls R R) R (wnt (wft R c3 (wck (wqt (wcs (wcb (wcr (wlq (pof Zv R) R (wlq (v := (sl v1a)) (plx ZN pz R R) R (mv R R (gdO t2 fun g3 t2 => (wlq (Zm (k := k2) (rga r1) ZU R R g3) R (wlq (v := .agg #[iv ((gx a_d.Cells k2).Split), iv ((gx a_d.Cells k2).A), iv ((gx a_d.Cells k2).B)]) (Zaw (rga r1) Zh R g3 R R R) R (mv R R (bdO t2 fun v1 hv1 t2 => (wlc (cz0 Zto R fun w hw => ZkI w (gx a_d.Cells k2) ((k3 : Nat) : Int) hv1) R fun _ => (asg R R (wnt (wcr (wlq (pof Zv R) R (wlq (v := (sl v0a)) (plx ZN pk1 R R) R (mv R R (wlq (Zm (k := k2) (rga r0) ZU R R hk2) R (wlq (v := .agg #[iv ((gx a_b.Cells k2).Split), iv ((gx a_b.Cells k2).A), iv ((gx a_b.Cells k2).B)]) (Zaw (rga r0) Zh R hk2 R R R) R (mv R R (bdO t2 fun v2 hv2 t2 => (wlc (cz0 Zto R fun w hw => ZkI w (gx a_b.Cells k2) ((k3 : Nat) : Int) hv2) R fun _ => (asg R R (wnt (wcd [box b2 [iv a_d.Size, (sl v1a)], box b1 [iv a_b.Size, (sl v0a)], own (sl x1.1) x3l s3] 14 mixed (aq 0 R (pom R) so3 R (aq 1 R (pom R) so3 R (gdO t2 fun g4 t2 => (aq 2 R (ZX (rgo pk2) ZrE R R g4.1 g4.2) so3 R (ZhZ (rgo pk2) (ZD g4) ?_))))))))))))))))))))))))))))))))))))))
 rintro ⟨_, _, he1⟩
 obtain ⟨w1, hc1, _⟩ := Zs4.1 he1
 refine aq (v := (sl w1)) 3 R (ZjC (rgo pk2) ZcA R hc1 R) so3 R (aq 4 R (pom R) so3 R (aq 5 R (pom R) so3 R (aq 6 R (pom R) so3 R (aq 7 R (ZX (rgo pk2) ZrE R R g4.1 g4.2) so3 R (aq (v := (sl w1)) 8 R (ZjC (rgo pk2) ZcA R hc1 R) so3 R (aq 9 R (pom R) so3 R (gdO t2 fun g5 t2 => (aq 10 R (ZX (ZoE hc1 (rgo pk2) (ZD g4)) Zy R R g5.1 g5.2) so3 R (aq (v := iv (gx (gx s3 ((v1).toNat)) ((v2).toNat))) 11 R (Zw (ZoE hc1 (rgo pk2) (ZD g4)) tk_3 R (ZD g5) R) so3 R (aq 12 R (Zaf R R) so3 R (aq 13 R (ZX (ZoE hc1 (rgo pk2) (ZD g4)) Zy R R g5.1 g5.2) so3 R (a1 14 (Zww (Ent.trans Zxp (Zqp pk2 (ZD g4) hc1)) (ZR R (Zhx (x' := (wr ((gx (gx s3 ((v1).toNat)) ((v2).toNat)) + 1))) tk_3 pz R R R R R R (ZD g5) R) (Za2 (by kernel_rfl)) ?_))))))))))))))
 refine ZwD (Zuo pk1 (Zt5 pz) (ZD g4) hc1) ?_
 refine ae (wqb (wqt (wcg (mv R R (wlq (Zj R R (by omega)) R ?_)))))
 exact asg R R (wln (Zk hk3 (stpN l2 t2) x3l (su5 R R R R R) (zc pk1 (zc pk1 so1))))
 have c3 : (decide (((k3 : Nat) : Int) < 4)) = false := ddf (by omega)
 have en2 := foe l2 hk3
 exact wcs (wcr (mv R R (wlq (pls R R) R (wnt (wff R c3 (wcx (wqe (wqe (wbx (wjm _ x3l (Sum.inl.inj en2) (su4 R R R R) so3))))))))))
 intro e3 x5 hp
 obtain rfl : e3 = y2 := hp.symm
 refine wqb (wqt (wcg (mv R R (wlq (Zj R R (by omega)) R ?_))))
 exact asg R R (wln (Zk hk2 (stpN l1 t1) x5 (su4 R R R R) so3))
 have c2 : (decide (((k2 : Nat) : Int) < ((a_b.Cells.length : Nat) : Int))) = false := ddf (by omega)
 have en3 := foe l1 hk2
 exact wcs (wcr (mv R R (wlq (pof Zv R) R (wlq (v := (sl v0a)) (plx ZN pk1 R R) R (wlq (pln (rga r0) ZU R) R (wlq (pls R R) R (wnt (wff R c2 (wcx (wqe (wqe (wbx (wjm _ x2l (Sum.inl.inj en3) (su1 R) (zc pk2 zn))))))))))))))
 intro e2 x4 hp
 obtain rfl : e2 = y1 := hp.symm
 refine wqt (wcr (mv R R (asg R R (wnt (wct ?_)))))
 obtain rfl := oi t0
 exact wq1 R R fun w hw => ⟨(x1.1, x4), R, hw.weak so1⟩

theorem Zp2 : ∀ (fuel : Nat) (w : World) (a_t : List (List Int)) (v0a : Hd) (u0a : List Value) (r0 : RdL w (dm w []) (sl v0a) u0a a_t) (a_l : List Int) (v1a : Hd) (r1 : rdF w (dm w []) (sl v1a) a_l) (a_at : Int) (a_used : Int) {r : Int} (t0 : Zcf fuel a_t a_l a_at a_used = some r), Calls Tryz.prog 169 #[(sl v0a), (sl v1a), .int .i64 a_at, .int .i64 a_used] w fun e w' => e = .returned (.int .i64 r) ∧ SH w [] [] w' := by
 intro fuel
 induction fuel with
 | zero => intros; rename_i t0; exact nomatch t0
 | succ fuel ih =>
 intro w a_t v0a u0a r0 a_l v1a r1 a_at a_used r t0
 refine cwc (args := [_, _, _, _]) Tryz.func169 R Tryz.ntmps169 R ?_
 unfold Zcf at t0
 refine wcr (asg R R (wnt (wcs (wcr (mv R R (mv R R (wlq (pln (rga r1) Zy R) R (wlq (pol R R) R (wnt (wcO t0 R (fun h1 t0 => ?_) fun h1 t0 => ?_))))))))))
 refine wcr (asg R R (wnt (wct (wqr ?_))))
 obtain rfl := oi t0
 exact wq1 R R fun w hw => ⟨R, hw.weak zn⟩
 refine wck (wqt (wcr (asg R R (wnt (wcs (wcr (asg R R (wnt (Zn t0 fun y1 l1 t0 => (wj (J := Int) (X := Unit) (fun z => y1 = z) (fun z _ => [(9, iv z)]) (fun _ _ => []) ?_ ?_))))))))))
 refine wcb (wcf (X := Unit) l1 (fun k1 s1 x1l => [(0, (sl v0a)), (1, (sl v1a)), (2, iv a_at), (3, iv a_used), (9, iv s1), (10, iv ((k1 : Nat) : Int))]) (fun k1 s1 x1l => []) () (su6 R R R R R R) zn fun k1 s1 x1l hN1 l1 => ?_)
 by_cases hk1 : k1 < 6
 refine fos l1 hk1 fun _ t1 l1 => ?_
 unfold Zgo at t1
 have c1 : (decide (((k1 : Nat) : Int) < 6)) = true := ddt (by omega)
 refine wcs (wcr (mv R R (wlq (pls R R) R (wnt (wft R c1 (wck (wqt (wcs (wcb (wcr (mv R R (mv R R (gdO t1 fun g1 t1 => (wlq (ZvD R R g1) R (wlq (Zwa R R) R (wlq (pol R R) R (wnt (bdO t1 fun y2 t2 t1 => (wj (J := Int) (X := Unit) (fun z => y2 = z) (fun z _ => [(0, (sl v0a)), (1, (sl v1a)), (2, iv a_at), (3, iv a_used), (9, iv z), (10, iv ((k1 : Nat) : Int))]) (fun _ _ => []) ?_ ?_)))))))))))))))))))
 refine wcO t2 R (fun h2 t2 => ?_) fun h2 t2 => ?_
 refine wcd [] 23 mixed (aq 0 R (pom R) zn R (aq 1 R (pom R) zn R (aq 2 R (pom R) zn R (aq 3 R (pom R) zn R (gdO t2 fun g2 t2 => (aq 4 R (ZX (rga r1) Zy R R g2.1 g2.2) zn R (aq (v := iv (gx a_l ((a_at).toNat))) 5 R (Zw (rga r1) tk_3 R (ZD g2) R) zn R (gdO t2 fun g3 t2 => (aq 6 R (ZX (rga r0) ZrE R R g3.1 g3.2) zn R (ZhZ (rga r0) (ZD g3) ?_))))))))))
 rintro ⟨_, _, he1⟩
 obtain ⟨w1, hc1, _⟩ := Zs4.1 he1
 exact aq (v := (sl w1)) 7 R (ZjC (rga r0) ZcA R hc1 R) zn R (aq 8 R (pom R) zn R (gdO t2 fun g4 t2 => (aq 9 R (Zm (k := k1) (ZoE hc1 (rga r0) (ZD g3)) Zy R R g4) zn R (aq (v := iv (gx (gx a_t (((gx a_l ((a_at).toNat))).toNat)) k1)) 10 R (Zw (ZoE hc1 (rga r0) (ZD g3)) tk_3 R g4 R) zn R (aq 11 R (pom R) zn R (aq 12 R (pom R) zn R (aq 13 R (pom R) zn R (aq 14 R (Zaf R R) zn R (aq 15 R (pom R) zn R (aq 16 R (pom R) zn R (aq 17 R (ZwB R R g1) zn R (aq 18 R (Zxd R R) zn R (a1 19 (bdO t2 fun v1 hv1 t2 => (wsc R (cz0 Ztx R fun w hw => ih w a_t v0a u0a (ra r0 hw) a_l v1a (ra r1 hw) (wr (a_at + 1)) (orI a_used (shlI 1 ((k1 : Nat) : Int))) hv1) (fun _ => (zt zn)) R fun _ => (aq 20 R (Zaf R R) zn R (aq 21 R (Zk2 R R) zn R (aq 22 R (Zp R) zn R (ae (wjm _ () (mtE t2) (su6 R R R R R R) zn))))))))))))))))))))
 exact wck (wjm _ () (mtE t2) (su6 R R R R R R) zn)
 intro j1 _ hp
 obtain rfl : j1 = y2 := hp.symm
 refine wqb (wqt (wcg (mv R R (wlq (Zj R R (by omega)) R ?_))))
 exact asg R R (wln (Zk hk1 (stpN l1 t1) () (su6 R R R R R R) zn))
 have c1 : (decide (((k1 : Nat) : Int) < 6)) = false := ddf (by omega)
 have en1 := foe l1 hk1
 exact wcs (wcr (mv R R (wlq (pls R R) R (wnt (wff R c1 (wcx (wqe (wqe (wbx (wjm _ () (Sum.inl.inj en1) (su1 R) zn))))))))))
 intro e1 _ hp
 obtain rfl : e1 = y1 := hp.symm
 refine wqt (wcr (mv R R (asg R R (wnt (wct ?_)))))
 obtain rfl := oi t0
 exact wq1 R R fun w hw => ⟨R, hw.weak zn⟩

theorem Zku (w : World) (a_b : GBlock) (v0a : Hd) (r0 : rdF w (dm w []) (sl v0a) a_b.Cells) (a_d : GBlock) (v1a : Hd) (r1 : rdF w (dm w []) (sl v1a) a_d.Cells) {r : Int} (t0 : Zci a_b a_d = some r) : Calls Tryz.prog 151 #[.agg #[.int .i64 a_b.Size, (sl v0a)], .agg #[.int .i64 a_d.Size, (sl v1a)]] w fun e w' => e = .returned (.int .i64 r) ∧ SH w [] [] w' := by
 refine cwc (args := [_, _]) Tryz.func151 R Tryz.ntmps151 R ?_
 unfold Zci at t0
 refine wcr (wle (Zg R R) R fun b1 => (wle (Zg R R) R fun b2 => (asg R R (wnt (wcr (wlq (v := .agg #[iv a_d.Size, (sl v1a)]) (plb Zc pz R R R) R (bdO t0 fun v1 hv1 t0 => (wlc (cz1 ZvF R fun w hw => Zpm w a_d v1a (ra r1 hw) hv1) R fun x1 => (asg R R (wnt (wcr (asg R R (wnt (wcs (wcs (bdO t0 fun y1 t1 t0 => (wj (J := Bool) (X := Unit) (fun z => y1 = z) (fun z _ => [(2, ptr b1 0), (3, ptr b2 0), (5, (sl x1)), (6, iv 0), (18, .bool z)]) (fun _ _ => [box b2 [iv a_d.Size, (sl v1a)], box b1 [iv a_b.Size, (sl v0a)], ownF (sl x1) v1]) ?_ ?_)))))))))))))))))
 refine wcg (wlq (v := .agg #[iv a_b.Size, (sl v0a)]) (plb Zc pk2 R R R) R (wlq (v := .agg #[iv a_d.Size, (sl v1a)]) (plb Zc pk1 R R R) R (bdO t1 fun v2 hv2 t1 => (wlc (cz0 Zwp R fun w hw => ZrV w a_b v0a (ra r0 hw) a_d v1a (ra r1 hw) hv2) R fun _ => (wlq (Zd R) R (mv R R (wlo (t := 14) t1 R (fun h1 t1 => ?_) fun h1 t1 => ?_)))))))
 exact wgf (j := 4) R R R R R (wgf (j := 4) R R R R R (wgf (j := 4) R R R R R (wlq (pit R R) R (wln (wjm _ () (mtE t1) (su5 R R R R R) (zc pk1 (zc pk1 so1)))))))
 exact wgn (j := 4) R R R (mv R R (wgn (j := 4) R R R (wlq (pln (rgo pz) Zy R) R (wgn (j := 4) R R R (wlq (Zad R R) R (wlq (pif R R) R (wln (wjm _ () (mtE t1) (su5 R R R R R) (zc pk1 (zc pk1 so1))))))))))
 intro j1 _ hp
 obtain rfl : j1 = y1 := hp.symm
 refine wqt (wcO t0 R (fun h2 t0 => ?_) fun h2 t0 => ?_)
 refine wcr (asg R R (wnt (wct (wqr ?_))))
 obtain rfl := oi t0
 exact wq1 R R fun w hw => ⟨R, hw.weak zn⟩
 refine wck (wqt (wcs (wcr (asg R R (wnt (Zn t0 fun y1 l1 t0 => (wj (J := Int) (X := Unit) (fun z => y1 = z) (fun z _ => [(6, iv z)]) (fun _ _ => []) ?_ ?_)))))))
 refine wcb (wcf (X := Unit) l1 (fun k1 s1 x1l => [(2, ptr b1 0), (3, ptr b2 0), (5, (sl x1)), (6, iv s1), (7, iv ((k1 : Nat) : Int))]) (fun k1 s1 x1l => [box b2 [iv a_d.Size, (sl v1a)], box b1 [iv a_b.Size, (sl v0a)], ownF (sl x1) v1]) () (su5 R R R R R) so3 fun k1 s1 x1l hN1 l1 => ?_)
 by_cases hk1 : k1 < 8
 refine fos l1 hk1 fun _ t1 l1 => ?_
 unfold Zcz at t1
 have c1 : (decide (((k1 : Nat) : Int) < 8)) = true := ddt (by omega)
 refine wcs (wcr (mv R R (wlq (pls R R) R (wnt (wft R c1 (wck (wqt (wcs (wcb (wcd [box b2 [iv a_d.Size, (sl v1a)], box b1 [iv a_b.Size, (sl v0a)], ownF (sl x1) v1] 10 mixed (aq 0 R (pom R) so3 R (aq (v := .agg #[iv a_b.Size, (sl v0a)]) 1 R (plb Zc pk1 R R R) so3 R (aq (v := .agg #[iv a_d.Size, (sl v1a)]) 2 R (plb Zc pz R R R) so3 R (aq 3 R (pom R) so3 R (aq 6 R (pom R) so3 R (a1 4 (bdO t1 fun v3 hv3 t1 => (wsc R (cz1 Ztq R fun w hw => Zkr w a_d v1a (ra r1 hw) ((k1 : Nat) : Int) hv3) (fun _ => (zt (zc pk1 (zc pk1 (zc pk1 zn))))) R fun x4 => (a1 5 (bdO t1 fun v4 hv4 t1 => (wsc R (cz1 ZvO R fun w hw => Zpe w a_b v0a (ra r0 hw) v3 x4 (Rg.on (rgo pz) hw) hv4) (fun _ => (zt (zc pk2 (zc pk2 (zc pk2 zn))))) R fun x5 => (a1 7 (bdO t1 fun v5 hv5 t1 => (wsc R (cz0 Ztx R fun w hw => Zp2 (v1.length + 1) w v4 x5.1 x5.2 (Rg.on (rgo pz) hw) v1 x1 (Rg.on (rgo pk4) hw) 0 0 hv5) (fun _ => (zt (zc pk2 (zc pk2 (zc pk2 zn))))) R fun _ => (aq 8 R (Zk2 R R) (zc pk2 (zc pk2 (zc pk2 zn))) R (aq 9 R (Zp R) (zc pk2 (zc pk2 (zc pk2 zn))) R (ae (wqb (wqt (wcg (mv R R (wlq (Zj R R (by omega)) R ?_))))))))))))))))))))))))))))))))
 exact asg R R (wln (Zk hk1 (stpN l1 t1) () (su5 R R R R R) (zc pk2 (zc pk2 (zc pk2 zn)))))
 have c1 : (decide (((k1 : Nat) : Int) < 8)) = false := ddf (by omega)
 have en1 := foe l1 hk1
 exact wcs (wcr (mv R R (wlq (pls R R) R (wnt (wff R c1 (wcx (wqe (wqe (wbx (wjm _ () (Sum.inl.inj en1) (su1 R) zn))))))))))
 intro e1 _ hp
 obtain rfl : e1 = y1 := hp.symm
 refine wqt (wcr (mv R R (asg R R (wnt (wct ?_)))))
 obtain rfl := oi t0
 exact wq1 R R fun w hw => ⟨R, hw.weak zn⟩

theorem Zn2 (w : World) (a_e : GEntry) (v0a : Hd) (r0 : rdF w (dm w []) (sl v0a) a_e.Block.Cells) (a_f : GEntry) (v1a : Hd) (r1 : rdF w (dm w []) (sl v1a) a_f.Block.Cells) {r : Int} (t0 : ZeR a_e a_f = some r) : Calls Tryz.prog 129 #[.agg #[.int .i64 a_e.Owner, .int .i64 a_e.Day, .int .i64 a_e.Block.Size, (sl v0a)], .agg #[.int .i64 a_f.Owner, .int .i64 a_f.Day, .int .i64 a_f.Block.Size, (sl v1a)]] w fun e w' => e = .returned (.int .i64 r) ∧ SH w [] [] w' := by
 refine cwc (args := [_, _]) Tryz.func129 R Tryz.ntmps129 R ?_
 unfold ZeR at t0
 refine wcr (wle (Zg R R) R fun b1 => (wle (Zg R R) R fun b2 => (asg R R (wnt (wcs (wcb (wcs (bdO t0 fun y1 t1 t0 => (wj (J := Bool) (X := Unit) (fun z => y1 = z) (fun z _ => [(2, ptr b1 0), (3, ptr b2 0), (5, .bool z)]) (fun _ _ => [box b2 [iv a_f.Owner, iv a_f.Day, iv a_f.Block.Size, (sl v1a)], box b1 [iv a_e.Owner, iv a_e.Day, iv a_e.Block.Size, (sl v0a)]]) ?_ ?_)))))))))
 refine wcg (wlq (v := .agg #[iv a_e.Owner, iv a_e.Day, iv a_e.Block.Size, (sl v0a)]) (plb Za0 pk1 R R R) R (bdO t1 fun v1 hv1 t1 => (wlc (cz0 Zs7 R fun w hw => ZiA w a_e v0a (ra r0 hw) hv1) R fun _ => (wlq (Zd R) R (mv R R (wlo (t := 9) t1 R (fun h1 t1 => ?_) fun h1 t1 => ?_))))))
 exact wgf (j := 3) R R R R R (wgf (j := 3) R R R R R (wgf (j := 3) R R R R R (wlq (pit R R) R (mv R R (wgf (j := 8) R R R R R (wgf (j := 8) R R R R R (wgf (j := 8) R R R R R (wgf (j := 8) R R R R R (wgf (j := 8) R R R R R (wgf (j := 8) R R R R R (wgf (j := 8) R R R R R (wlq (pit R R) R (asg R R (wln (wjm _ () (mtE t1) (su3 R R R) so2)))))))))))))))
 refine wgn (j := 3) R R R (wlq (v := .agg #[iv a_f.Owner, iv a_f.Day, iv a_f.Block.Size, (sl v1a)]) (plb Za0 pz R R R) R (bdO t1 fun v2 hv2 t1 => (wgn (j := 3) R R R (wlc (cz0 Zs7 R fun w hw => ZiA w a_f v1a (ra r1 hw) hv2) R (fun _ => (wgn (j := 3) R R R (wlq (Zd R) R (wlq (pif R R) R (mv R R (wlo (t := 14) t1 R (fun h2 t1 => ?_) fun h2 t1 => ?_))))))))))
 exact wgf (j := 8) R R R R R (wgf (j := 8) R R R R R (wgf (j := 8) R R R R R (wgf (j := 8) R R R R R (wgf (j := 8) R R R R R (wgf (j := 8) R R R R R (wgf (j := 8) R R R R R (wlq (pit R R) R (asg R R (wln (wjm _ () (mtE t1) (su3 R R R) so2))))))))))
 exact wgn (j := 8) R R R (wlq (pof ZaJ R) R (wgn (j := 8) R R R (wlq (pof ZM R) R (wgn (j := 8) R R R (wlq (v := iv a_e.Block.Size) (plx tk_3 pk1 R R) R (wgn (j := 8) R R R (wlq (pof ZaJ R) R (wgn (j := 8) R R R (wlq (pof ZM R) R (wgn (j := 8) R R R (wlq (v := iv a_f.Block.Size) (plx tk_3 pz R R) R (wgn (j := 8) R R R (wlq (ZcD R R) R (wlq (pif R R) R (asg R R (wln (wjm _ () (mtE t1) (su3 R R R) so2)))))))))))))))))
 intro j1 _ hp
 obtain rfl : j1 = y1 := hp.symm
 refine wqt (wcO t0 R (fun h3 t0 => ?_) fun h3 t0 => ?_)
 refine wcr (asg R R (wnt (wct (wbr (wqr ?_)))))
 obtain rfl := oi t0
 exact wq1 R R fun w hw => ⟨R, hw.weak zn⟩
 refine wcr (wlq (pof ZaJ R) R (wlq (v := .agg #[iv a_e.Block.Size, (sl v0a)]) (plb Zc pk1 R R R) R (wlq (pof ZaJ R) R (wlq (v := .agg #[iv a_f.Block.Size, (sl v1a)]) (plb Zc pz R R R) R (bdO t0 fun v3 hv3 t0 => (wlc (cz0 ZwA R fun w hw => ZkE w a_e.Block v0a (ra r0 hw) a_f.Block v1a (ra r1 hw) hv3) R fun _ => (asg R R (wnt (wcO t0 R (fun h4 t0 => ?_) fun h4 t0 => ?_)))))))))
 refine wcr (asg R R (wnt (wct (wbr (wqr ?_)))))
 obtain rfl := oi t0
 exact wq1 R R fun w hw => ⟨R, hw.weak zn⟩
 refine wcs (wcd [box b2 [iv a_f.Owner, iv a_f.Day, iv a_f.Block.Size, (sl v1a)], box b1 [iv a_e.Owner, iv a_e.Day, iv a_e.Block.Size, (sl v0a)]] 13 mixed (aq 0 R (pof ZaJ R) so2 R (aq (v := .agg #[iv a_e.Block.Size, (sl v0a)]) 1 R (plb Zc pk1 R R R) so2 R (aq 2 R (pof ZaJ R) so2 R (aq (v := .agg #[iv a_f.Block.Size, (sl v1a)]) 3 R (plb Zc pz R R R) so2 R (aq 6 R (pof ZaJ R) so2 R (aq 7 R (pof Zv R) so2 R (aq (v := (sl v0a)) 8 R (plx ZN pk1 R R) so2 R (aq 9 R (pln (rga r0) ZU R) so2 R (aq 10 R (Zex R R) so2 R (a1 4 (bdO t0 fun v4 hv4 t0 => (wsc R (cz0 Zv7 R fun w hw => Zku w a_e.Block v0a (ra r0 hw) a_f.Block v1a (ra r1 hw) hv4) (fun _ => (zt so2)) R fun _ => (aq 5 R (Zex R R) so2 R (aq 11 R (ZeS R R) so2 R (aq 12 R (Zp R) so2 R (ae (wqt (wcO t0 R (fun h5 t0 => ?_) fun h5 t0 => ?_)))))))))))))))))))
 refine wcr (asg R R (wnt (wct (wbr (wqr ?_)))))
 obtain rfl := oi t0
 exact wq1 R R fun w hw => ⟨R, hw.weak zn⟩
 refine wck (wqb (wqt (wcr (asg R R (wnt (wct ?_))))))
 obtain rfl := oi t0
 exact wq1 R R fun w hw => ⟨R, hw.weak zn⟩

theorem ZqE (w : World) (a_e : GEntry) (v0a : Hd) (r0 : rdF w (dm w []) (sl v0a) a_e.Block.Cells) (a_f : GEntry) (v1a : Hd) (r1 : rdF w (dm w []) (sl v1a) a_f.Block.Cells) {r : Bool} (t0 : Zhu a_e a_f = some r) : Calls Tryz.prog 101 #[.agg #[.int .i64 a_e.Owner, .int .i64 a_e.Day, .int .i64 a_e.Block.Size, (sl v0a)], .agg #[.int .i64 a_f.Owner, .int .i64 a_f.Day, .int .i64 a_f.Block.Size, (sl v1a)]] w fun e w' => e = .returned (.bool r) ∧ SH w [] [] w' := by
 refine cwc (args := [_, _]) Tryz.func101 R Tryz.ntmps101 R ?_
 unfold Zhu at t0
 refine wcr (wle (Zg R R) R fun b1 => (wle (Zg R R) R fun b2 => (asg R R (wnt (wcr (wlq (v := .agg #[iv a_e.Owner, iv a_e.Day, iv a_e.Block.Size, (sl v0a)]) (plb Za0 pk1 R R R) R (wlq (v := .agg #[iv a_f.Owner, iv a_f.Day, iv a_f.Block.Size, (sl v1a)]) (plb Za0 pz R R R) R (bdO t0 fun v1 hv1 t0 => (wlc (cz0 Zwt R fun w hw => Zn2 w a_e v0a (ra r0 hw) a_f v1a (ra r1 hw) hv1) R fun _ => (asg R R (wnt (wcs (wcj (X := Unit) (fun _ => True) (fun _ => [(4, .bool (bif (v1 == 3) then ((a_e.Owner != a_f.Owner) && (decide (a_e.Day > a_f.Day))) else ((v1 == 2) && ((a_e.Owner != a_f.Owner) && (decide (a_e.Day > a_f.Day))))))]) (fun _ => []) ?_ ?_)))))))))))))
 refine wcg (mv R R (wlq (pol R R) R (mv R R (Zae (t := 11) R (fun h1 => ?_) fun h1 => ?_))))
 refine wgf (j := 2) R R R R R (wgf (j := 2) R R R R R (wlq (pit R R) R (mv R R (wgn (j := 6) R R R (wlq (pof ZdI R) R (wgn (j := 6) R R R (wlq (v := iv a_e.Owner) (plx tk_3 pk1 R R) R (wgn (j := 6) R R R (wlq (pof ZdI R) R (wgn (j := 6) R R R (wlq (v := iv a_f.Owner) (plx tk_3 pz R R) R (wgn (j := 6) R R R (wlq (ZcD R R) R (wlq (pit R R) R (mv R R (Zae (t := 22) R (fun h2 => ?_) fun h2 => ?_))))))))))))))))
 exact wgn (j := 13) R R R (wlq (pof Zb5 R) R (wgn (j := 13) R R R (wlq (v := iv a_e.Day) (plx tk_3 pk1 R R) R (wgn (j := 13) R R R (wlq (pof Zb5 R) R (wgn (j := 13) R R R (wlq (v := iv a_f.Day) (plx tk_3 pz R R) R (wgn (j := 13) R R R (wlq (Zad R R) R (wlq (pit R R) R (asg R R (wln (wqm () trivial (ZS R (by rw [h1, h2]; rfl) yn) zn)))))))))))))
 exact wgf (j := 13) R R R R R (wgf (j := 13) R R R R R (wgf (j := 13) R R R R R (wgf (j := 13) R R R R R (wgf (j := 13) R R R R R (wlq (pif R R) R (asg R R (wln (wqm () trivial (ZS R (by rw [h1, h2]; rfl) yn) zn))))))))
 refine wgn (j := 2) R R R (mv R R (wgn (j := 2) R R R (wlq (pol R R) R (wlq (pif R R) R (mv R R (Zae (t := 15) R (fun h3 => ?_) fun h3 => ?_))))))
 refine wgn (j := 6) R R R (wlq (pof ZdI R) R (wgn (j := 6) R R R (wlq (v := iv a_e.Owner) (plx tk_3 pk1 R R) R (wgn (j := 6) R R R (wlq (pof ZdI R) R (wgn (j := 6) R R R (wlq (v := iv a_f.Owner) (plx tk_3 pz R R) R (wgn (j := 6) R R R (wlq (ZcD R R) R (wlq (pit R R) R (mv R R (Zae (t := 22) R (fun h4 => ?_) fun h4 => ?_))))))))))))
 exact wgn (j := 13) R R R (wlq (pof Zb5 R) R (wgn (j := 13) R R R (wlq (v := iv a_e.Day) (plx tk_3 pk1 R R) R (wgn (j := 13) R R R (wlq (pof Zb5 R) R (wgn (j := 13) R R R (wlq (v := iv a_f.Day) (plx tk_3 pz R R) R (wgn (j := 13) R R R (wlq (Zad R R) R (wlq (pit R R) R (asg R R (wln (wqm () trivial (ZS R (by rw [h1, h3, h4]; rfl) yn) zn)))))))))))))
 exact wgf (j := 13) R R R R R (wgf (j := 13) R R R R R (wgf (j := 13) R R R R R (wgf (j := 13) R R R R R (wgf (j := 13) R R R R R (wlq (pif R R) R (asg R R (wln (wqm () trivial (ZS R (by rw [h1, h3, h4]; rfl) yn) zn))))))))
 exact wgf (j := 6) R R R R R (wgf (j := 6) R R R R R (wgf (j := 6) R R R R R (wgf (j := 6) R R R R R (wgf (j := 6) R R R R R (wlq (pif R R) R (mv R R (wgf (j := 13) R R R R R (wgf (j := 13) R R R R R (wgf (j := 13) R R R R R (wgf (j := 13) R R R R R (wgf (j := 13) R R R R R (wlq (pif R R) R (asg R R (wln (wqm () trivial (ZS R (by rw [h1, h3]; rfl) yn) zn)))))))))))))))
 intro _ _
 refine wqt (wct ?_)
 obtain rfl := oi t0
 exact wq1 R R fun w hw => ⟨R, hw.weak zn⟩

theorem ZqS (w : World) (a_g : GGuild) (v0a : Hd) (r0 : rdF w (dm w []) (sl v0a) a_g.Members) (v1a : Hd) (r1 : rdF w (dm w []) (sl v1a) a_g.Stock) (v2a : Hd) (u2a : List Value) (r2 : RdL w (dm w []) (sl v2a) u2a a_g.Entries) (v3a : Hd) (r3 : rdF w (dm w []) (sl v3a) a_g.Books) (a_number : Int) (a_day : Int) (a_b : GBlock) (v4a : Hd) (r4 : rdF w (dm w []) (sl v4a) a_b.Cells) {r : GGuild × Bool} (t0 : Zhy a_g a_number a_day a_b = some r) : Calls Tryz.prog 56 #[.agg #[(sl v0a), (sl v1a), (sl v2a), (sl v3a), .int .i64 a_g.Round, .int .i64 a_g.Year], .int .i64 a_number, .int .i64 a_day, .agg #[.int .i64 a_b.Size, (sl v4a)]] w fun e w' => ∃ x : Hd × Hd × Hd × (List Value) × Hd, e = .returned (.tuple #[.agg #[(sl x.1), (sl x.2.1), (sl x.2.2.1), (sl x.2.2.2.2), .int .i64 r.1.Round, .int .i64 r.1.Year], .bool r.2]) ∧ SH w [] [ownF (sl x.1) r.1.Members, ownF (sl x.2.1) r.1.Stock, own (sl x.2.2.1) x.2.2.2.1 r.1.Entries, ownF (sl x.2.2.2.2) r.1.Books] w' := by
 refine cwc (args := [_, _, _, _]) Tryz.func56 R Tryz.ntmps56 R ?_
 unfold Zhy at t0
 refine wcr (wle (Zg R R) R fun b1 => (wle (Zg R R) R fun b2 => (wle (eal (cs := [(sl hn), (sl hn), (sl hn), (sl hn), iv 0, iv 0]) ZE) R fun b3 => (asg R R (wnt (wcr (wlq (v := .agg #[(sl v0a), (sl v1a), (sl v2a), (sl v3a), iv a_g.Round, iv a_g.Year]) (plb Zb pk2 R R R) R (bdO t0 fun v1 hv1 t0 => (wlc (Zan Zia R fun w hw => Za1 w a_g v0a (ra r0 hw) v1a (ra r1 hw) v2a u2a (ra r2 hw) v3a (ra r3 hw) hv1) R fun x1 => (wle (eal (cs := [(sl hn), (sl hn), (sl hn), (sl hn), iv 0, iv 0]) ZE) R fun b4 => (wls (sbx (cs' := [(sl x1.1), (sl x1.2.1), (sl x1.2.2.1), (sl x1.2.2.2.2), iv v1.Round, iv v1.Year]) Zb pz R R R R R R R) (wnt (wcr (mv R R (mv R R (wlq (v := .agg #[iv a_b.Size, (sl v4a)]) (plb Zc pk6 R R R) R (bdO t0 fun v2 hv2 t0 => (wlc (cz1 Zq1 R fun w hw => Zg6 w a_b v4a (ra r4 hw) hv2) R fun x2 => (wlq (Zl R (Zf2 a_number a_day v2.Size x2)) R (wle (eal (cs := [iv 0, iv 0, iv 0, (sl hn)]) Zgl) R fun b5 => (wls (sbx (cs' := [iv a_number, iv a_day, iv v2.Size, (sl x2)]) Za0 pz R R R R R R R) (wnt (wcs (wcr (wlq (v := .agg #[(sl v0a), (sl v1a), (sl v2a), (sl v3a), iv a_g.Round, iv a_g.Year]) (plb Zb pk9 R R R) R (bdO t0 fun v3 hv3 t0 => (wlc (cz0 Zhb R fun w hw => ZaB w a_g v0a (ra r0 hw) v1a (ra r1 hw) v2a u2a (ra r2 hw) v3a (ra r3 hw) hv3) R fun _ => (wlq (Zd R) R (wnt (wcO t0 R (fun h1 t0 => ?_) fun h1 t0 => ?_))))))))))))))))))))))))))))))
 refine wcr (wlq (v := .agg #[(sl x1.1), (sl x1.2.1), (sl x1.2.2.1), (sl x1.2.2.2.2), iv v1.Round, iv v1.Year]) (plb Zb pk2 R R R) R (wls (sbx (cs' := [(sl x1.1), (sl x1.2.1), (sl x1.2.2.1), (sl x1.2.2.2.2), iv v1.Round, iv v1.Year]) Zb pk7 R R R R R R R) (asg R R (wnt (wct (wqr ?_))))))
 obtain rfl := oi t0
 exact Zx R Zb R R pz R fun w hw => ⟨(x1.1, x1.2.1, x1.2.2.1, x1.2.2.2.1, x1.2.2.2.2), R, hw.weak (zc pk4 (zc pk4 (zc pk4 (zc pk4 zn))))⟩
 refine wck (wqt (wcs (wcr (asg R R (wnt (gdO t0 fun g1 t0 => (sqO t0 fun y1 l1 t0 => (wj (J := Unit) (X := Unit) (fun z => y1 = .inl z) (fun _ _ => [(4, ptr b1 0), (8, ptr b3 0), (10, ptr b4 0), (11, ptr b5 0)]) (fun _ _ => [box b5 [iv a_number, iv a_day, iv v2.Size, (sl x2)], ownF (sl x2) v2.Cells, box b4 [(sl x1.1), (sl x1.2.1), (sl x1.2.2.1), (sl x1.2.2.2.2), iv v1.Round, iv v1.Year], ownF (sl x1.1) v1.Members, ownF (sl x1.2.1) v1.Stock, own (sl x1.2.2.1) x1.2.2.2.1 v1.Entries, ownF (sl x1.2.2.2.2) v1.Books, box b3 [(sl hn), (sl hn), (sl hn), (sl hn), iv 0, iv 0], box b1 [(sl v0a), (sl v1a), (sl v2a), (sl v3a), iv a_g.Round, iv a_g.Year]]) ?_ ?_))))))))
 refine wcb (wcf (X := Unit) l1 (fun k1 s1 x1l => [(4, ptr b1 0), (8, ptr b3 0), (10, ptr b4 0), (11, ptr b5 0), (12, iv ((k1 : Nat) : Int))]) (fun k1 s1 x1l => [box b5 [iv a_number, iv a_day, iv v2.Size, (sl x2)], ownF (sl x2) v2.Cells, box b4 [(sl x1.1), (sl x1.2.1), (sl x1.2.2.1), (sl x1.2.2.2.2), iv v1.Round, iv v1.Year], ownF (sl x1.1) v1.Members, ownF (sl x1.2.1) v1.Stock, own (sl x1.2.2.1) x1.2.2.2.1 v1.Entries, ownF (sl x1.2.2.2.2) v1.Books, box b3 [(sl hn), (sl hn), (sl hn), (sl hn), iv 0, iv 0], box b1 [(sl v0a), (sl v1a), (sl v2a), (sl v3a), iv a_g.Round, iv a_g.Year]]) () (su5 R R R R R) (zc pz (zc pz (zc pz (zc pz (zc pz (zc pz (zc pz (zc pz (zc pk1 zn))))))))) fun k1 s1 x1l hN1 l1 => ?_)
 by_cases hk1 : k1 < a_g.Entries.length
 refine fos l1 hk1 fun _ t1 l1 => ?_
 unfold ZgX at t1
 have c1 : (decide (((k1 : Nat) : Int) < ((a_g.Entries.length : Nat) : Int))) = true := ddt (by omega)
 refine wcs (wcr (mv R R (wlq (pof ZQ R) R (wlq (v := (sl v2a)) (plx Zas pk8 R R) R (wlq (pln (rga r2) ZaC R) R (wlq (pls R R) R (wnt (wft R c1 (wck (wqt (wcs (wcb (wcs (wcd [box b5 [iv a_number, iv a_day, iv v2.Size, (sl x2)], ownF (sl x2) v2.Cells, box b4 [(sl x1.1), (sl x1.2.1), (sl x1.2.2.1), (sl x1.2.2.2.2), iv v1.Round, iv v1.Year], ownF (sl x1.1) v1.Members, ownF (sl x1.2.1) v1.Stock, own (sl x1.2.2.1) x1.2.2.2.1 v1.Entries, ownF (sl x1.2.2.2.2) v1.Books, box b3 [(sl hn), (sl hn), (sl hn), (sl hn), iv 0, iv 0], box b1 [(sl v0a), (sl v1a), (sl v2a), (sl v3a), iv a_g.Round, iv a_g.Year]] 7 mixed (aq (v := .agg #[iv a_number, iv a_day, iv v2.Size, (sl x2)]) 0 R (plb Za0 pz R R R) so9 R (aq 1 R (pof ZQ R) so9 R (aq (v := (sl v2a)) 2 R (plx Zas pk8 R R) so9 R (aq 3 R (pom R) so9 R (aq 4 R (Zm (k := k1) (rga r2) ZaC R R hk1) so9 R (ZhZ (rga r2) hk1 ?_))))))))))))))))))))
 rintro ⟨_, _, he1⟩
 obtain ⟨w1, hc1, _⟩ := ZaX.1 he1
 refine aq (v := .agg #[iv ((gx a_g.Entries k1).Owner), iv ((gx a_g.Entries k1).Day), iv (((gx a_g.Entries k1).Block).Size), (sl w1)]) 5 R (Zb7 (rga r2) Za0 R hc1 R R R) so9 R (a1 6 (bdO t1 fun v4 hv4 t1 => (wsc R (cz0 ZwF R fun w hw => ZqE w (GEntry.mk a_number a_day v2) x2 (Rg.on (rgo pk1) hw) (gx a_g.Entries k1) w1 (Rg.on (Zbg hc1 (rga r2) hk1) hw) hv4) (fun _ => (zt so9)) R fun _ => (ae (wqt (wcO t1 R (fun h2 t1 => ?_) fun h2 t1 => ?_))))))
 refine wcr (wlq (v := .agg #[(sl x1.1), (sl x1.2.1), (sl x1.2.2.1), (sl x1.2.2.2.2), iv v1.Round, iv v1.Year]) (plb Zb pk2 R R R) R (wls (sbx (cs' := [(sl x1.1), (sl x1.2.1), (sl x1.2.2.1), (sl x1.2.2.2.2), iv v1.Round, iv v1.Year]) Zb pk7 R R R R R R R) (asg R R (wnt (wct (wbr (wqr (wqr (wbr (wqr (wqr ?_)))))))))))
 replace t0 := lpR t0 l1 t1
 obtain rfl := oi t0
 exact Zx R Zb R R pz R fun w hw => ⟨(x1.1, x1.2.1, x1.2.2.1, x1.2.2.2.1, x1.2.2.2.2), R, hw.weak (zc pk4 (zc pk4 (zc pk4 (zc pk4 zn))))⟩
 refine wck (wqb (wqt (wcg (mv R R (wlq (Zj R R (by omega)) R ?_)))))
 exact asg R R (wln (Zk hk1 (stpN l1 t1) () (su5 R R R R R) so9))
 have c1 : (decide (((k1 : Nat) : Int) < ((a_g.Entries.length : Nat) : Int))) = false := ddf (by omega)
 have en1 := foe l1 hk1
 exact wcs (wcr (mv R R (wlq (pof ZQ R) R (wlq (v := (sl v2a)) (plx Zas pk8 R R) R (wlq (pln (rga r2) ZaC R) R (wlq (pls R R) R (wnt (wff R c1 (wcx (wqe (wqe (wbx (wjm _ () en1 (su4 R R R R) so9)))))))))))))
 intro e1 _ hp
 replace t0 := sqE (j := e1) t0 hp
 refine wqt (wcr (wlq (v := .agg #[(sl v0a), (sl v1a), (sl v2a), (sl v3a), iv a_g.Round, iv a_g.Year]) (plb Zb pk8 R R R) R (bdO t0 fun v5 hv5 t0 => (wlc (Zan Zia R fun w hw => Za1 w a_g v0a (ra r0 hw) v1a (ra r1 hw) v2a u2a (ra r2 hw) v3a (ra r3 hw) hv5) R fun x4 => (wle (eal (cs := [(sl hn), (sl hn), (sl hn), (sl hn), iv 0, iv 0]) ZE) R fun b6 => (wls (sbx (cs' := [(sl x4.1), (sl x4.2.1), (sl x4.2.2.1), (sl x4.2.2.2.2), iv v5.Round, iv v5.Year]) Zb pz R R R R R R R) (wnt (wcr (wlq (pof ZQ R) R (wlq (v := (sl x4.2.2.1)) (plx Zas pz R R) R (wlq (v := .agg #[iv a_number, iv a_day, iv v2.Size, (sl x2)]) (plb Za0 pk5 R R R) R (wle (ebs R (ZmQ a_number a_day v2.Size x2)) R fun b7 => (gdO t0 fun g2 t0 => (wle (Zdb (us := x4.2.2.2.1) (xs := v5.Entries) ZqU pk4 (Zjt (x := (GEntry.mk a_number a_day v2)) pk6) pz R R R g2) R fun x5 => (wlq (pof ZQ R) R (wls (sbx (cs' := [(sl x4.1), (sl x4.2.1), (sl x5), (sl x4.2.2.2.2), iv v5.Round, iv v5.Year]) Zas pk2 R R R R R R R) (wnt (wcs (wcr (wlq (v := .agg #[(sl x4.1), (sl x4.2.1), (sl x5), (sl x4.2.2.2.2), iv v5.Round, iv v5.Year]) (plb Zb pz R R R) R (bdO t0 fun v6 hv6 t0 => (wlc (cz0 Zhb R fun w hw => ZaB w (GGuild.mk v5.Members v5.Stock (v5.Entries ++ [(GEntry.mk a_number a_day v2)]) v5.Books v5.Round v5.Year) x4.1 (Rg.on (rgo pk3) hw) x4.2.1 (Rg.on (rgo pk4) hw) x5 (x4.2.2.2.1 ++ [iv a_number, iv a_day, iv v2.Size, (sl x2)]) (Rg.on (rgo pk1) hw) x4.2.2.2.2 (Rg.on (rgo pk5) hw) hv6) R fun _ => (wlq (Zd R) R (wnt (wcO t0 R (fun h3 t0 => ?_) fun h3 t0 => ?_)))))))))))))))))))))))))
 refine wcr (wlq (v := .agg #[(sl x1.1), (sl x1.2.1), (sl x1.2.2.1), (sl x1.2.2.2.2), iv v1.Round, iv v1.Year]) (plb Zb pk7 R R R) R (wls (sbx (cs' := [(sl x1.1), (sl x1.2.1), (sl x1.2.2.1), (sl x1.2.2.2.2), iv v1.Round, iv v1.Year]) Zb pk12 R R R R R R R) (asg R R (wnt (wct (wqr ?_))))))
 obtain rfl := oi t0
 exact Zx R Zb R R pz R fun w hw => ⟨(x1.1, x1.2.1, x1.2.2.1, x1.2.2.2.1, x1.2.2.2.2), R, hw.weak (zc pk9 (zc pk9 (zc pk9 (zc pk9 zn))))⟩
 refine wck (wqt (wcr (wlq (v := .agg #[(sl x4.1), (sl x4.2.1), (sl x5), (sl x4.2.2.2.2), iv v5.Round, iv v5.Year]) (plb Zb pz R R R) R (wls (sbx (cs' := [(sl x4.1), (sl x4.2.1), (sl x5), (sl x4.2.2.2.2), iv v5.Round, iv v5.Year]) Zb pk12 R R R R R R R) (asg R R (wnt (wct ?_)))))))
 obtain rfl := oi t0
 exact Zx R Zb R R pz R fun w hw => ⟨(x4.1, x4.2.1, x5, (x4.2.2.2.1 ++ [iv a_number, iv a_day, iv v2.Size, (sl x2)]), x4.2.2.2.2), R, hw.weak (zc pk4 (zc pk4 (zc pk2 (zc pk3 zn))))⟩

theorem ZoV (w : World) (a_c : GCell) (a_a : Int) {r : Int} (t0 : ZfN a_c a_a = some r) : Calls Tryz.prog 130 #[.agg #[.int .i64 a_c.Split, .int .i64 a_c.A, .int .i64 a_c.B], .int .i64 a_a] w fun e w' => e = .returned (.int .i64 r) ∧ SH w [] [] w' := by
 refine cwc (args := [_, _]) Tryz.func130 R Tryz.ntmps130 R ?_
 unfold ZfN at t0
 refine wcr (wle (Zg R R) R fun b1 => (asg R R (wnt (wcr (asg R R (wnt (wcs (wcr (wlq (v := .agg #[iv a_c.Split, iv a_c.A, iv a_c.B]) (plb Zh pz R R R) R (bdO t0 fun v1 hv1 t0 => (wlc (cz0 ZiV R fun w hw => Zcy w a_c hv1) R fun _ => (wlq (Zd R) R (wnt (wcO t0 R (fun h1 t0 => ?_) fun h1 t0 => ?_))))))))))))))
 refine wcr (asg R R (wnt (wct (wqr ?_))))
 obtain rfl := oi t0
 exact wq1 R R fun w hw => ⟨R, hw.weak zn⟩
 refine wck (wqt (wcs (wcr (wlq (pof ZaT R) R (wlq (v := iv a_c.A) (plx tk_3 pz R R) R (mv R R (wlq (pol R R) R (wnt (wcj (X := Unit) (fun _ => True) (fun _ => [(1, iv a_a), (2, ptr b1 0), (5, iv (bif (a_c.A == a_a) then (wr (0 + 2)) else 0))]) (fun _ => [box b1 [iv a_c.Split, iv a_c.A, iv a_c.B]]) ?_ ?_)))))))))
 refine Zbn R (fun h2 => ?_) fun h2 => ?_
 exact wcg (mv R R (wlq (Zaf R R) R (asg R R (wln (wqm () trivial (yc R (yc R (Zee R (by simp only [h2, cond_true]) yn))) so1)))))
 exact wck (wqm () trivial (yc R (yc R (Zee R (by simp only [h2, cond_false]) yn))) so1)
 intro _ _
 refine wqt (wcs (wcr (wlq (pof Za6 R) R (wlq (v := iv a_c.B) (plx tk_3 pz R R) R (mv R R (wlq (pol R R) R (wnt (wcj (X := Unit) (fun _ => True) (fun _ => [(5, iv (bif (a_c.B == a_a) then (wr ((bif (a_c.A == a_a) then (wr (0 + 2)) else 0) + 2)) else (bif (a_c.A == a_a) then (wr (0 + 2)) else 0)))]) (fun _ => []) ?_ ?_))))))))
 refine Zbn R (fun h3 => ?_) fun h3 => ?_
 exact wcg (mv R R (wlq (Zaf R R) R (asg R R (wln (wqm () trivial (Zee R (by simp only [h3, cond_true]) yn) zn)))))
 exact wck (wqm () trivial (Zee R (by simp only [h3, cond_false]) yn) zn)
 intro _ _
 refine wqt (wcr (mv R R (asg R R (wnt (wct ?_)))))
 obtain rfl := oi t0
 exact wq1 R R fun w hw => ⟨R, hw.weak zn⟩

theorem ZqH (w : World) (a_b : GBlock) (v0a : Hd) (r0 : rdF w (dm w []) (sl v0a) a_b.Cells) (a_a : Int) {r : Int} (t0 : ZhC a_b a_a = some r) : Calls Tryz.prog 106 #[.agg #[.int .i64 a_b.Size, (sl v0a)], .int .i64 a_a] w fun e w' => e = .returned (.int .i64 r) ∧ SH w [] [] w' := by
 refine cwc (args := [_, _]) Tryz.func106 R Tryz.ntmps106 R ?_
 unfold ZhC at t0
 refine wcr (wle (Zg R R) R fun b1 => (asg R R (wnt (wcr (asg R R (wnt (wcs (wcr (wlq (v := .agg #[iv a_b.Size, (sl v0a)]) (plb Zc pz R R R) R (bdO t0 fun v1 hv1 t0 => (wlc (cz0 ZeH R fun w hw => Zag w a_b v0a (ra r0 hw) hv1) R fun _ => (wlq (Zd R) R (wnt (wcO t0 R (fun h1 t0 => ?_) fun h1 t0 => ?_))))))))))))))
 refine wcr (asg R R (wnt (wct (wqr ?_))))
 obtain rfl := oi t0
 exact wq1 R R fun w hw => ⟨R, hw.weak zn⟩
 refine wck (wqt (wcs (wcr (asg R R (wnt (gdO t0 fun g1 t0 => (Zn t0 fun y1 l1 t0 => (wj (J := Int) (X := Unit) (fun z => y1 = z) (fun z _ => [(5, iv z)]) (fun _ _ => []) ?_ ?_))))))))
 refine wcb (wcf (X := Unit) l1 (fun k1 s1 x1l => [(1, iv a_a), (2, ptr b1 0), (5, iv s1), (6, iv ((k1 : Nat) : Int))]) (fun k1 s1 x1l => [box b1 [iv a_b.Size, (sl v0a)]]) () (su4 R R R R) so1 fun k1 s1 x1l hN1 l1 => ?_)
 by_cases hk1 : k1 < a_b.Cells.length
 refine fos l1 hk1 fun _ t1 l1 => ?_
 unfold Zg9 at t1
 have c1 : (decide (((k1 : Nat) : Int) < ((a_b.Cells.length : Nat) : Int))) = true := ddt (by omega)
 refine wcs (wcr (mv R R (wlq (pof Zv R) R (wlq (v := (sl v0a)) (plx ZN pz R R) R (wlq (pln (rga r0) ZU R) R (wlq (pls R R) R (wnt (wft R c1 (wck (wqt (wcs (wcb (wcg (mv R R (wlq (pof Zv R) R (wlq (v := (sl v0a)) (plx ZN pz R R) R (mv R R (wlq (Zm (k := k1) (rga r0) ZU R R hk1) R (wlq (v := .agg #[iv ((gx a_b.Cells k1).Split), iv ((gx a_b.Cells k1).A), iv ((gx a_b.Cells k1).B)]) (Zaw (rga r0) Zh R hk1 R R R) R (mv R R (bdO t1 fun v2 hv2 t1 => (wlc (cz0 ZvP R fun w hw => ZoV w (gx a_b.Cells k1) a_a hv2) R fun _ => (wlq (Zaf R R) R (asg R R (wln (wqb (wqt (wcg (mv R R (wlq (Zj R R (by omega)) R ?_))))))))))))))))))))))))))))))
 exact asg R R (wln (Zk hk1 (stpN l1 t1) () (su4 R R R R) so1))
 have c1 : (decide (((k1 : Nat) : Int) < ((a_b.Cells.length : Nat) : Int))) = false := ddf (by omega)
 have en1 := foe l1 hk1
 exact wcs (wcr (mv R R (wlq (pof Zv R) R (wlq (v := (sl v0a)) (plx ZN pz R R) R (wlq (pln (rga r0) ZU R) R (wlq (pls R R) R (wnt (wff R c1 (wcx (wqe (wqe (wbx (wjm _ () (Sum.inl.inj en1) (su1 R) zn)))))))))))))
 intro e1 _ hp
 obtain rfl : e1 = y1 := hp.symm
 refine wqt (wcr (mv R R (asg R R (wnt (wct ?_)))))
 obtain rfl := oi t0
 exact wq1 R R fun w hw => ⟨R, hw.weak zn⟩

theorem ZhR (w : World) (a_b : GBlock) (v0a : Hd) (r0 : rdF w (dm w []) (sl v0a) a_b.Cells) {r : List Int} (t0 : ZcU a_b = some r) : Calls Tryz.prog 62 #[.agg #[.int .i64 a_b.Size, (sl v0a)]] w fun e w' => ∃ x : Hd, e = .returned ((sl x)) ∧ SH w [] [ownF (sl x) r] w' := by
 refine cwc (args := [_]) Tryz.func62 R Tryz.ntmps62 R ?_
 unfold ZcU at t0
 refine wcr (wle (Zg R R) R fun b1 => (asg R R (wnt (wcr (wle (ebs R Zai) R fun b2 => (asg R R (wnt (wcs (wcr (asg R R (wnt (Zn t0 fun y1 l1 t0 => (wj (J := List Int) (X := Hd) (fun z => y1 = z) (fun _ x => [(3, (sl x))]) (fun z x => [ownF (sl x) z]) ?_ ?_)))))))))))))
 refine wcb (wcf (X := Hd) l1 (fun k1 s1 x1l => [(1, ptr b1 0), (3, (sl x1l)), (4, iv ((k1 : Nat) : Int))]) (fun k1 s1 x1l => [box b1 [iv a_b.Size, (sl v0a)], ownF (sl x1l) s1]) (⟨some ⟨b2, 0, none⟩, 0, 0⟩ : Hd) (su3 R R R) (zc pk1 (zc (pbo pz (n := 0) (xs := ([] : List Int)) R R (by unfold maxLen; omega)) zn)) fun k1 s1 x1l hN1 l1 => ?_)
 by_cases hk1 : k1 < 6
 refine fos l1 hk1 fun _ t1 l1 => ?_
 unfold ZbJ at t1
 have c1 : (decide (((k1 : Nat) : Int) < 6)) = true := ddt (by omega)
 refine wcs (wcr (mv R R (wlq (pls R R) R (mv R R (Zef (t := 8) R c1 (wgn (j := 2) R R R (wlq (v := .agg #[iv a_b.Size, (sl v0a)]) (plb Zc pz R R R) R (bdO t1 fun v1 hv1 t1 => (wgn (j := 2) R R R (wlc (cz0 ZeH R fun w hw => Zag w a_b v0a (ra r0 hw) hv1) R (fun _ => (wlq (pit R R) R (wnt (wcO t1 R (fun h1 t1 => ?_) fun h1 t1 => ?_))))))))))))))
 refine wck (wqt (wcs (wcb (wcg (mv R R (wlq (v := .agg #[iv a_b.Size, (sl v0a)]) (plb Zc pz R R R) R (mv R R (bdO t1 fun v2 hv2 t1 => (wlc (cz0 ZwG R fun w hw => ZqH w a_b v0a (ra r0 hw) ((k1 : Nat) : Int) hv2) R fun _ => (wle (ebs R (ZaA v2)) R fun b3 => (gdO t1 fun g1 t1 => (wle (Zf (xs := s1) (ys := ([v2] : List Int)) Zbp pk2 R R (Zi fun _ g => Rg.on (rgo (pbo pz (n := 1) (xs := ([v2] : List Int)) R R (by unfold maxLen; omega))) g) g1) R fun x2 => ?_))))))))))))
 refine asg R R (wln (wqb (wqt (wcg (mv R R (wlq (Zj R R (by omega)) R ?_))))))
 exact asg R R (wln (Zk hk1 (stpN l1 t1) x2 (su3 R R R) (zc pk2 so1)))
 exact wcx (wqe (wqe (wbx (wjm _ x1l (Sum.inl.inj (stpB l1 t1)) (su1 R) (zc pk1 zn)))))
 have c1 : (decide (((k1 : Nat) : Int) < 6)) = false := ddf (by omega)
 have en1 := foe l1 hk1
 exact wcs (wcr (mv R R (wlq (pls R R) R (mv R R (Zef (t := 8) R c1 (wgf (j := 2) R R R R R (wgf (j := 2) R R R R R (wlq (pif R R) R (wnt (wff R R (wcx (wqe (wqe (wbx (wjm _ x1l (Sum.inl.inj en1) (su1 R) (zc pk1 zn))))))))))))))))
 intro e1 x1 hp
 obtain rfl : e1 = y1 := hp.symm
 refine wqt (wcr (mv R R (asg R R (wnt (wct ?_)))))
 obtain rfl := oi t0
 exact wq1 R R fun w hw => ⟨x1, R, hw.weak so1⟩

theorem Zn0 (w : World) (a_stock : List Int) (v0a : Hd) (r0 : rdF w (dm w []) (sl v0a) a_stock) (a_need : List Int) (v1a : Hd) (r1 : rdF w (dm w []) (sl v1a) a_need) {r : Bool} (t0 : ZeY a_stock a_need = some r) : Calls Tryz.prog 105 #[(sl v0a), (sl v1a)] w fun e w' => e = .returned (.bool r) ∧ SH w [] [] w' := by
 refine cwc (args := [_, _]) Tryz.func105 R Tryz.ntmps105 R ?_
 unfold ZeY at t0
 refine wcr (asg R R (wnt (wcs (wcs (bdO t0 fun y1 t1 t0 => (wj (J := Bool) (X := Unit) (fun z => y1 = z) (fun z _ => [(0, (sl v0a)), (1, (sl v1a)), (13, .bool z)]) (fun _ _ => []) ?_ ?_))))))
 refine wcg (mv R R (bdO t1 fun v1 hv1 t1 => (wlc (cz0 Zo2 R fun w hw => Ze1 w a_stock v0a (ra r0 hw) hv1) R fun _ => (wlq (Zd R) R (mv R R (wlo (t := 9) t1 R (fun h1 t1 => ?_) fun h1 t1 => ?_))))))
 exact wgf (j := 3) R R R R R (wgf (j := 3) R R R R R (wgf (j := 3) R R R R R (wlq (pit R R) R (wln (wjm _ () (mtE t1) (su3 R R R) zn)))))
 exact wgn (j := 3) R R R (mv R R (bdO t1 fun v2 hv2 t1 => (wgn (j := 3) R R R (wlc (cz0 Zo2 R fun w hw => Ze1 w a_need v1a (ra r1 hw) hv2) R (fun _ => (wgn (j := 3) R R R (wlq (Zd R) R (wlq (pif R R) R (wln (wjm _ () (mtE t1) (su3 R R R) zn))))))))))
 intro j1 _ hp
 obtain rfl : j1 = y1 := hp.symm
 refine wqt (wcO t0 R (fun h2 t0 => ?_) fun h2 t0 => ?_)
 refine wcr (asg R R (wnt (wct (wqr ?_))))
 obtain rfl := oi t0
 exact wq1 R R fun w hw => ⟨R, hw.weak zn⟩
 refine wck (wqt (wcs (wcr (asg R R (wnt (sqO t0 fun y1 l1 t0 => (wj (J := Unit) (X := Unit) (fun z => y1 = .inl z) (fun _ _ => []) (fun _ _ => []) ?_ ?_)))))))
 refine wcb (wcf (X := Unit) l1 (fun k1 s1 x1l => [(0, (sl v0a)), (1, (sl v1a)), (5, iv ((k1 : Nat) : Int))]) (fun k1 s1 x1l => []) () (su3 R R R) zn fun k1 s1 x1l hN1 l1 => ?_)
 by_cases hk1 : k1 < 6
 refine fos l1 hk1 fun _ t1 l1 => ?_
 unfold ZeO at t1
 have c1 : (decide (((k1 : Nat) : Int) < 6)) = true := ddt (by omega)
 refine wcs (wcr (mv R R (wlq (pls R R) R (wnt (wft R c1 (wck (wqt (wcs (wcb (wcs (wcd [] 9 mixed (aq 0 R (pom R) zn R (aq 1 R (pom R) zn R (gdO t1 fun g1 t1 => (aq 2 R (Zm (k := k1) (rga r1) Zy R R g1) zn R (aq (v := iv (gx a_need k1)) 3 R (Zw (rga r1) tk_3 R g1 R) zn R (aq 4 R (pom R) zn R (aq 5 R (pom R) zn R (gdO t1 fun g2 t1 => (aq 6 R (Zm (k := k1) (rga r0) Zy R R g2) zn R (aq (v := iv (gx a_stock k1)) 7 R (Zw (rga r0) tk_3 R g2 R) zn R (aq 8 R (Zad R R) zn R (ae (wqt (wcO t1 R (fun h3 t1 => ?_) fun h3 t1 => ?_)))))))))))))))))))))))))
 refine wcr (asg R R (wnt (wct (wbr (wqr (wqr (wbr (wqr (wqr ?_)))))))))
 replace t0 := lpR t0 l1 t1
 obtain rfl := oi t0
 exact wq1 R R fun w hw => ⟨R, hw.weak zn⟩
 refine wck (wqb (wqt (wcg (mv R R (wlq (Zj R R (by omega)) R ?_)))))
 exact asg R R (wln (Zk hk1 (stpN l1 t1) () (su3 R R R) zn))
 have c1 : (decide (((k1 : Nat) : Int) < 6)) = false := ddf (by omega)
 have en1 := foe l1 hk1
 exact wcs (wcr (mv R R (wlq (pls R R) R (wnt (wff R c1 (wcx (wqe (wqe (wbx (wjm _ () en1 yn zn))))))))))
 intro e1 _ hp
 replace t0 := sqE (j := e1) t0 hp
 refine wqt (wcr (asg R R (wnt (wct ?_))))
 obtain rfl := oi t0
 exact wq1 R R fun w hw => ⟨R, hw.weak zn⟩

theorem Zph (w : World) (a_g : GGuild) (v0a : Hd) (r0 : rdF w (dm w []) (sl v0a) a_g.Members) (v1a : Hd) (r1 : rdF w (dm w []) (sl v1a) a_g.Stock) (v2a : Hd) (u2a : List Value) (r2 : RdL w (dm w []) (sl v2a) u2a a_g.Entries) (v3a : Hd) (r3 : rdF w (dm w []) (sl v3a) a_g.Books) (a_k : Int) {r : GGuild × Bool} (t0 : Zei a_g a_k = some r) : Calls Tryz.prog 58 #[.agg #[(sl v0a), (sl v1a), (sl v2a), (sl v3a), .int .i64 a_g.Round, .int .i64 a_g.Year], .int .i64 a_k] w fun e w' => ∃ x : Hd × Hd × Hd × (List Value) × Hd, e = .returned (.tuple #[.agg #[(sl x.1), (sl x.2.1), (sl x.2.2.1), (sl x.2.2.2.2), .int .i64 r.1.Round, .int .i64 r.1.Year], .bool r.2]) ∧ SH w [] [ownF (sl x.1) r.1.Members, ownF (sl x.2.1) r.1.Stock, own (sl x.2.2.1) x.2.2.2.1 r.1.Entries, ownF (sl x.2.2.2.2) r.1.Books] w' := by
 refine cwc (args := [_, _]) Tryz.func58 R Tryz.ntmps58 R ?_
 unfold Zei at t0
 refine wcr (wle (Zg R R) R fun b1 => (wle (eal (cs := [(sl hn), (sl hn), (sl hn), (sl hn), iv 0, iv 0]) ZE) R fun b2 => (asg R R (wnt (wcr (wlq (v := .agg #[(sl v0a), (sl v1a), (sl v2a), (sl v3a), iv a_g.Round, iv a_g.Year]) (plb Zb pk1 R R R) R (bdO t0 fun v1 hv1 t0 => (wlc (Zan Zia R fun w hw => Za1 w a_g v0a (ra r0 hw) v1a (ra r1 hw) v2a u2a (ra r2 hw) v3a (ra r3 hw) hv1) R fun x1 => (wle (eal (cs := [(sl hn), (sl hn), (sl hn), (sl hn), iv 0, iv 0]) ZE) R fun b3 => (wls (sbx (cs' := [(sl x1.1), (sl x1.2.1), (sl x1.2.2.1), (sl x1.2.2.2.2), iv v1.Round, iv v1.Year]) Zb pz R R R R R R R) (wnt (wcs (wcs (bdO t0 fun y1 t1 t0 => (wj (J := Bool) (X := Unit) (fun z => y1 = z) (fun z _ => [(1, iv a_k), (2, ptr b1 0), (4, ptr b2 0), (6, ptr b3 0), (35, .bool z)]) (fun _ _ => [box b3 [(sl x1.1), (sl x1.2.1), (sl x1.2.2.1), (sl x1.2.2.2.2), iv v1.Round, iv v1.Year], box b2 [(sl hn), (sl hn), (sl hn), (sl hn), iv 0, iv 0], box b1 [(sl v0a), (sl v1a), (sl v2a), (sl v3a), iv a_g.Round, iv a_g.Year], ownF (sl x1.1) v1.Members, ownF (sl x1.2.1) v1.Stock, own (sl x1.2.2.1) x1.2.2.2.1 v1.Entries, ownF (sl x1.2.2.2.2) v1.Books]) ?_ ?_)))))))))))))))
 refine wcd [box b3 [(sl x1.1), (sl x1.2.1), (sl x1.2.2.1), (sl x1.2.2.2.2), iv v1.Round, iv v1.Year], ownF (sl x1.1) v1.Members, ownF (sl x1.2.1) v1.Stock, own (sl x1.2.2.1) x1.2.2.2.1 v1.Entries, ownF (sl x1.2.2.2.2) v1.Books, box b2 [(sl hn), (sl hn), (sl hn), (sl hn), iv 0, iv 0], box b1 [(sl v0a), (sl v1a), (sl v2a), (sl v3a), iv a_g.Round, iv a_g.Year]] 25 mixed (aq (v := .agg #[(sl v0a), (sl v1a), (sl v2a), (sl v3a), iv a_g.Round, iv a_g.Year]) 0 R (plb Zb pk6 R R R) so7 R (a1 1 (bdO t1 fun v2 hv2 t1 => (wsc R (cz0 Zhb R fun w hw => ZaB w a_g v0a (ra r0 hw) v1a (ra r1 hw) v2a u2a (ra r2 hw) v3a (ra r3 hw) hv2) (fun _ => (zt so7)) R fun _ => (aq 2 R (Zd R) so7 R (aq 3 R (pom R) so7 R (waO_ (t := 14) t1 R (fun h1 t1 => ?_) fun h1 t1 => ?_)))))))
 exact af 4 3 R R R R R so7 R (af 5 3 R R R R R so7 R (af 6 3 R R R R R so7 R (af 7 3 R R R R R so7 R (af 8 3 R R R R R so7 R (af 9 3 R R R R R so7 R (af 10 3 R R R R R so7 R (aq 11 R (pit R R) so7 R (aq 12 R (pom R) so7 R (af 13 12 R R R R R so7 R (af 14 12 R R R R R so7 R (af 15 12 R R R R R so7 R (af 16 12 R R R R R so7 R (af 17 12 R R R R R so7 R (af 18 12 R R R R R so7 R (af 19 12 R R R R R so7 R (af 20 12 R R R R R so7 R (af 21 12 R R R R R so7 R (af 22 12 R R R R R so7 R (af 23 12 R R R R R so7 R (aq 24 R (pit R R) so7 R (ae (wjm _ () (mtE t1) (su5 R R R R R) (zc pz (zc pk4 (zc pk4 so4)))))))))))))))))))))))))
 refine an 4 3 R R R R (pom R) so7 R (an 5 3 R R R R (pof ZQ R) so7 R (an (v := (sl v2a)) 6 3 R R R R (plx Zas pk6 R R) so7 R (an 7 3 R R R R (pln (rga r2) ZaC R) so7 R (an 8 3 R R R R (Zaa R R) so7 R (a1 9 (bdO t1 fun v3 hv3 t1 => (ZL (j := 3) R R R R (cz0 Zbb R fun w hw => ZF w a_k 0 (wr (((a_g.Entries.length : Nat) : Int) - 1)) hv3) (fun _ => (zt so7)) R fun _ => (an 10 3 R R R R (Zd R) so7 R (aq 11 R (pif R R) so7 R (aq 12 R (pom R) so7 R (waO_ (t := 23) t1 R (fun h2 t1 => ?_) fun h2 t1 => ?_)))))))))))
 exact af 13 12 R R R R R so7 R (af 14 12 R R R R R so7 R (af 15 12 R R R R R so7 R (af 16 12 R R R R R so7 R (af 17 12 R R R R R so7 R (af 18 12 R R R R R so7 R (af 19 12 R R R R R so7 R (af 20 12 R R R R R so7 R (af 21 12 R R R R R so7 R (af 22 12 R R R R R so7 R (af 23 12 R R R R R so7 R (aq 24 R (pit R R) so7 R (ae (wjm _ () (mtE t1) (su5 R R R R R) (zc pz (zc pk4 (zc pk4 so4))))))))))))))))
 refine an 13 12 R R R R (pof Zb1 R) so7 R (an (v := (sl v1a)) 14 12 R R R R (plx ZcA pk6 R R) so7 R (an 15 12 R R R R (pof ZQ R) so7 R (an (v := (sl v2a)) 16 12 R R R R (plx Zas pk6 R R) so7 R (an 17 12 R R R R (pom R) so7 R (gdO t1 fun g1 t1 => (an 18 12 R R R R (ZX (rga r2) ZaC R R g1.1 g1.2) so7 R (an 19 12 R R R R (Z5 (rga r2) (ZD g1) ZaJ R) so7 R (ZhZ (rga r2) (ZD g1) ?_))))))))
 rintro ⟨_, _, he1⟩
 obtain ⟨w1, hc1, _⟩ := ZaX.1 he1
 exact an (v := .agg #[iv (((gx a_g.Entries ((a_k).toNat)).Block).Size), (sl w1)]) 20 12 R R R R (Zb7 (rga r2) Zc R hc1 R R R) so7 R (a1 21 (bdO t1 fun v4 hv4 t1 => (ZL (j := 12) R R R R (cz1 Zs1 R fun w hw => ZhR w ((gx a_g.Entries ((a_k).toNat)).Block) w1 (Rg.on (Zbg hc1 (rga r2) (ZD g1)) hw) hv4) (fun _ => (zt (zc pk1 (zc pk1 (zc pk1 (zc pk1 (zc pk1 (zc pk1 (zc pk1 zn))))))))) R fun x3 => (a1 22 (bdO t1 fun v5 hv5 t1 => (ZL (j := 12) R R R R (cz0 ZvM R fun w hw => Zn0 w a_g.Stock v1a (ra r1 hw) v4 x3 (Rg.on (rgo pz) hw) hv5) (fun _ => (zt (zc pk1 (zc pk1 (zc pk1 (zc pk1 (zc pk1 (zc pk1 (zc pk1 zn))))))))) R fun _ => (an 23 12 R R R R (Zd R) (zc pk1 (zc pk1 (zc pk1 (zc pk1 (zc pk1 (zc pk1 (zc pk1 zn))))))) R (aq 24 R (pif R R) (zc pk1 (zc pk1 (zc pk1 (zc pk1 (zc pk1 (zc pk1 (zc pk1 zn))))))) R (ae (wjm _ () (mtE t1) (su5 R R R R R) (zc pk1 (zc pk5 (zc pk5 (zc pk1 (zc pk1 (zc pk1 (zc pk1 zn)))))))))))))))))
 intro j1 _ hp
 obtain rfl : j1 = y1 := hp.symm
 refine wqt (wcO t0 R (fun h3 t0 => ?_) fun h3 t0 => ?_)
 refine wcr (wlq (v := .agg #[(sl x1.1), (sl x1.2.1), (sl x1.2.2.1), (sl x1.2.2.2.2), iv v1.Round, iv v1.Year]) (plb Zb pz R R R) R (wls (sbx (cs' := [(sl x1.1), (sl x1.2.1), (sl x1.2.2.1), (sl x1.2.2.2.2), iv v1.Round, iv v1.Year]) Zb pk1 R R R R R R R) (asg R R (wnt (wct (wqr ?_))))))
 obtain rfl := oi t0
 exact Zx R Zb R R pz R fun w hw => ⟨(x1.1, x1.2.1, x1.2.2.1, x1.2.2.2.1, x1.2.2.2.2), R, hw.weak (zc pk3 (zc pk3 (zc pk3 (zc pk3 zn))))⟩
 refine wck (wqt (wcr (wlq (pof ZQ R) R (wlq (v := (sl v2a)) (plx Zas pk2 R R) R (mv R R (gdO t0 fun g2 t0 => (wlq (ZX (rga r2) ZaC R R g2.1 g2.2) R (wlq (Z5 (rga r2) (ZD g2) ZaJ R) R (ZdM (rga r2) (ZD g2) ?_)))))))))
 rintro ⟨_, _, he2⟩
 obtain ⟨w2, hc2, _⟩ := ZaX.1 he2
 refine wlq (v := .agg #[iv (((gx a_g.Entries ((a_k).toNat)).Block).Size), (sl w2)]) (Zb7 (rga r2) Zc R hc2 R R R) R (bdO t0 fun v6 hv6 t0 => (wlc (cz1 Zs1 R fun w hw => ZhR w ((gx a_g.Entries ((a_k).toNat)).Block) w2 (Rg.on (Zbg hc2 (rga r2) (ZD g2)) hw) hv6) R fun x4 => (asg R R (wnt (wcs (wcr (asg R R (wnt (Zn t0 fun y1 l1 t0 => (wj (J := List Int) (X := Unit) (fun z => y1 = z) (fun _ _ => [(4, ptr b2 0), (6, ptr b3 0)]) (fun z _ => [box b3 [(sl x1.1), (sl x1.2.1), (sl x1.2.2.1), (sl x1.2.2.2.2), iv v1.Round, iv v1.Year], box b2 [(sl hn), (sl hn), (sl hn), (sl hn), iv 0, iv 0], ownF (sl x1.1) v1.Members, ownF (sl x1.2.1) z, own (sl x1.2.2.1) x1.2.2.2.1 v1.Entries, ownF (sl x1.2.2.2.2) v1.Books]) ?_ ?_))))))))))
 refine wcb (wcf (X := Unit) l1 (fun k1 s1 x1l => [(2, ptr b1 0), (4, ptr b2 0), (6, ptr b3 0), (7, (sl x4)), (8, iv ((k1 : Nat) : Int))]) (fun k1 s1 x1l => [ownF (sl x4) v6, box b3 [(sl x1.1), (sl x1.2.1), (sl x1.2.2.1), (sl x1.2.2.2.2), iv v1.Round, iv v1.Year], box b2 [(sl hn), (sl hn), (sl hn), (sl hn), iv 0, iv 0], box b1 [(sl v0a), (sl v1a), (sl v2a), (sl v3a), iv a_g.Round, iv a_g.Year], ownF (sl x1.1) v1.Members, ownF (sl x1.2.1) s1, own (sl x1.2.2.1) x1.2.2.2.1 v1.Entries, ownF (sl x1.2.2.2.2) v1.Books]) () (su5 R R R R R) so8 fun k1 s1 x1l hN1 l1 => ?_)
 by_cases hk1 : k1 < 6
 refine fos l1 hk1 fun _ t1 l1 => ?_
 unfold Zfp at t1
 have c1 : (decide (((k1 : Nat) : Int) < 6)) = true := ddt (by omega)
 refine wcs (wcr (mv R R (wlq (pls R R) R (wnt (wft R c1 (wck (wqt (wcs (wcb (wcd [ownF (sl x4) v6, box b3 [(sl x1.1), (sl x1.2.1), (sl x1.2.2.1), (sl x1.2.2.2.2), iv v1.Round, iv v1.Year], box b2 [(sl hn), (sl hn), (sl hn), (sl hn), iv 0, iv 0], box b1 [(sl v0a), (sl v1a), (sl v2a), (sl v3a), iv a_g.Round, iv a_g.Year], ownF (sl x1.1) v1.Members, ownF (sl x1.2.1) s1, own (sl x1.2.2.1) x1.2.2.2.1 v1.Entries, ownF (sl x1.2.2.2.2) v1.Books] 14 mixed (aq 0 R (pof Zb1 R) so8 R (aq (v := (sl x1.2.1)) 1 R (plx ZcA pk1 R R) so8 R (aq 2 R (pom R) so8 R (aq 3 R (pof Zb1 R) so8 R (aq (v := (sl v1a)) 4 R (plx ZcA pk3 R R) so8 R (aq 5 R (pom R) so8 R (gdO t1 fun g3 t1 => (aq 6 R (Zm (k := k1) (rga r1) Zy R R g3) so8 R (aq (v := iv (gx a_g.Stock k1)) 7 R (Zw (rga r1) tk_3 R g3 R) so8 R (aq 8 R (pom R) so8 R (aq 9 R (pom R) so8 R (gdO t1 fun g4 t1 => (aq 10 R (Zm (k := k1) (rgo pz) Zy R R g4) so8 R (aq (v := iv (gx v6 k1)) 11 R (Zw (rgo pz) tk_3 R g4 R) so8 R (aq 12 R (Zaa R R) so8 R (gdO t1 fun g5 t1 => (aq 13 R (Zm (k := k1) (rgo pk5) Zy R R g5) so8 R (a1 14 (ZR R (Zhx (x' := (wr ((gx a_g.Stock k1) - (gx v6 k1)))) tk_3 pk5 R R R R R R g5 R) (Za2 (by kernel_rfl)) ?_)))))))))))))))))))))))))))))
 refine ae (wqb (wqt (wcg (mv R R (wlq (Zj R R (by omega)) R ?_)))))
 exact asg R R (wln (Zk hk1 (stpN l1 t1) () (su5 R R R R R) (zc pk1 (zc pk1 (zc pk1 (zc pk1 (zc pk1 so3)))))))
 have c1 : (decide (((k1 : Nat) : Int) < 6)) = false := ddf (by omega)
 have en1 := foe l1 hk1
 exact wcs (wcr (mv R R (wlq (pls R R) R (wnt (wff R c1 (wcx (wqe (wqe (wbx (wjm _ () (Sum.inl.inj en1) (su2 R R) (zc pk1 (zc pk1 (zc pk2 (zc pk2 (zc pk2 (zc pk2 zn))))))))))))))))
 intro e1 _ hp
 obtain rfl : e1 = y1 := hp.symm
 refine wqt (wcr (wlq (v := .agg #[(sl x1.1), (sl x1.2.1), (sl x1.2.2.1), (sl x1.2.2.2.2), iv v1.Round, iv v1.Year]) (plb Zb pz R R R) R (wls (sbx (cs' := [(sl x1.1), (sl x1.2.1), (sl x1.2.2.1), (sl x1.2.2.2.2), iv v1.Round, iv v1.Year]) Zb pk1 R R R R R R R) (asg R R (wnt (wct ?_))))))
 obtain rfl := oi t0
 exact Zx R Zb R R pz R fun w hw => ⟨(x1.1, x1.2.1, x1.2.2.1, x1.2.2.2.1, x1.2.2.2.2), R, hw.weak (zc pk2 (zc pk2 (zc pk2 (zc pk2 zn))))⟩

theorem ZnW (w : World) (a_g : GGuild) (v0a : Hd) (r0 : rdF w (dm w []) (sl v0a) a_g.Members) (v1a : Hd) (r1 : rdF w (dm w []) (sl v1a) a_g.Stock) (v2a : Hd) (u2a : List Value) (r2 : RdL w (dm w []) (sl v2a) u2a a_g.Entries) (v3a : Hd) (r3 : rdF w (dm w []) (sl v3a) a_g.Books) {r : GGuild × Bool} (t0 : ZeV a_g = some r) : Calls Tryz.prog 59 #[.agg #[(sl v0a), (sl v1a), (sl v2a), (sl v3a), .int .i64 a_g.Round, .int .i64 a_g.Year]] w fun e w' => ∃ x : Hd × Hd × Hd × (List Value) × Hd, e = .returned (.tuple #[.agg #[(sl x.1), (sl x.2.1), (sl x.2.2.1), (sl x.2.2.2.2), .int .i64 r.1.Round, .int .i64 r.1.Year], .bool r.2]) ∧ SH w [] [ownF (sl x.1) r.1.Members, ownF (sl x.2.1) r.1.Stock, own (sl x.2.2.1) x.2.2.2.1 r.1.Entries, ownF (sl x.2.2.2.2) r.1.Books] w' := by
 refine cwc (args := [_]) Tryz.func59 R Tryz.ntmps59 R ?_
 unfold ZeV at t0
 refine wcr (wle (Zg R R) R fun b1 => (wle (eal (cs := [(sl hn), (sl hn), (sl hn), (sl hn), iv 0, iv 0]) ZE) R fun b2 => (asg R R (wnt (wcr (wlq (v := .agg #[(sl v0a), (sl v1a), (sl v2a), (sl v3a), iv a_g.Round, iv a_g.Year]) (plb Zb pk1 R R R) R (bdO t0 fun v1 hv1 t0 => (wlc (Zan Zia R fun w hw => Za1 w a_g v0a (ra r0 hw) v1a (ra r1 hw) v2a u2a (ra r2 hw) v3a (ra r3 hw) hv1) R fun x1 => (wle (eal (cs := [(sl hn), (sl hn), (sl hn), (sl hn), iv 0, iv 0]) ZE) R fun b3 => (wls (sbx (cs' := [(sl x1.1), (sl x1.2.1), (sl x1.2.2.1), (sl x1.2.2.2.2), iv v1.Round, iv v1.Year]) Zb pz R R R R R R R) (wnt (wcr (wlq (pof Zcs R) R (wlq (v := iv v1.Round) (plx tk_3 pz R R) R (wlq (Zaf R R) R (wlq (pof Zcs R) R (wls (sbx (cs' := [(sl x1.1), (sl x1.2.1), (sl x1.2.2.1), (sl x1.2.2.2.2), iv (wr (v1.Round + 1)), iv v1.Year]) tk_3 pz R R R R R R R) (wnt (wcs (wcs (bdO t0 fun y1 t1 t0 => (wj (J := Bool) (X := Unit) (fun z => y1 = z) (fun z _ => [(1, ptr b1 0), (2, ptr b2 0), (4, ptr b3 0), (18, .bool z)]) (fun _ _ => [box b3 [(sl x1.1), (sl x1.2.1), (sl x1.2.2.1), (sl x1.2.2.2.2), iv (wr (v1.Round + 1)), iv v1.Year], box b2 [(sl hn), (sl hn), (sl hn), (sl hn), iv 0, iv 0], box b1 [(sl v0a), (sl v1a), (sl v2a), (sl v3a), iv a_g.Round, iv a_g.Year], ownF (sl x1.1) v1.Members, ownF (sl x1.2.1) v1.Stock, own (sl x1.2.2.1) x1.2.2.2.1 v1.Entries, ownF (sl x1.2.2.2.2) v1.Books]) ?_ ?_))))))))))))))))))))))
 refine wcg (wlq (v := .agg #[(sl v0a), (sl v1a), (sl v2a), (sl v3a), iv a_g.Round, iv a_g.Year]) (plb Zb pk6 R R R) R (bdO t1 fun v2 hv2 t1 => (wlc (cz0 Zhb R fun w hw => ZaB w a_g v0a (ra r0 hw) v1a (ra r1 hw) v2a u2a (ra r2 hw) v3a (ra r3 hw) hv2) R fun _ => (wlq (Zd R) R (mv R R (wlo (t := 14) t1 R (fun h1 t1 => ?_) fun h1 t1 => ?_))))))
 exact wgf (j := 3) R R R R R (wgf (j := 3) R R R R R (wgf (j := 3) R R R R R (wlq (pit R R) R (wln (wjm _ () (mtE t1) (su4 R R R R) (zc pz (zc pk4 (zc pk4 so4))))))))
 exact wgn (j := 3) R R R (wlq (v := .agg #[(sl x1.1), (sl x1.2.1), (sl x1.2.2.1), (sl x1.2.2.2.2), iv (wr (v1.Round + 1)), iv v1.Year]) (plb Zb pz R R R) R (bdO t1 fun v3 hv3 t1 => (wgn (j := 3) R R R (wlc (cz0 Zhb R fun w hw => ZaB w (GGuild.mk v1.Members v1.Stock v1.Entries v1.Books (wr (v1.Round + 1)) v1.Year) x1.1 (Rg.on (rgo pk1) hw) x1.2.1 (Rg.on (rgo pk2) hw) x1.2.2.1 x1.2.2.2.1 (Rg.on (rgo pk3) hw) x1.2.2.2.2 (Rg.on (rgo pk4) hw) hv3) R (fun _ => (wgn (j := 3) R R R (wlq (Zd R) R (wlq (pif R R) R (wln (wjm _ () (mtE t1) (su4 R R R R) (zc pz (zc pk4 (zc pk4 so4)))))))))))))
 intro j1 _ hp
 obtain rfl : j1 = y1 := hp.symm
 refine wqt (wcO t0 R (fun h2 t0 => ?_) fun h2 t0 => ?_)
 refine wcr (wlq (v := .agg #[(sl v0a), (sl v1a), (sl v2a), (sl v3a), iv a_g.Round, iv a_g.Year]) (plb Zb pk2 R R R) R (bdO t0 fun v4 hv4 t0 => (wlc (Zan Zia R fun w hw => Za1 w a_g v0a (ra r0 hw) v1a (ra r1 hw) v2a u2a (ra r2 hw) v3a (ra r3 hw) hv4) R fun x3 => (wls (sbx (cs' := [(sl x3.1), (sl x3.2.1), (sl x3.2.2.1), (sl x3.2.2.2.2), iv v4.Round, iv v4.Year]) Zb pk5 R R R R R R R) (asg R R (wnt (wct (wqr ?_))))))))
 obtain rfl := oi t0
 exact Zx R Zb R R pz R fun w hw => ⟨(x3.1, x3.2.1, x3.2.2.1, x3.2.2.2.1, x3.2.2.2.2), R, hw.weak (zc pk1 (zc pk1 (zc pk1 (zc pk1 zn))))⟩
 refine wck (wqt (wcr (wlq (v := .agg #[(sl x1.1), (sl x1.2.1), (sl x1.2.2.1), (sl x1.2.2.2.2), iv (wr (v1.Round + 1)), iv v1.Year]) (plb Zb pz R R R) R (wls (sbx (cs' := [(sl x1.1), (sl x1.2.1), (sl x1.2.2.1), (sl x1.2.2.2.2), iv (wr (v1.Round + 1)), iv v1.Year]) Zb pk1 R R R R R R R) (asg R R (wnt (wct ?_)))))))
 obtain rfl := oi t0
 exact Zx R Zb R R pz R fun w hw => ⟨(x1.1, x1.2.1, x1.2.2.1, x1.2.2.2.1, x1.2.2.2.2), R, hw.weak (zc pk3 (zc pk3 (zc pk3 (zc pk3 zn))))⟩

theorem Zp3 (w : World) (a_g : GGuild) (v0a : Hd) (r0 : rdF w (dm w []) (sl v0a) a_g.Members) (v1a : Hd) (r1 : rdF w (dm w []) (sl v1a) a_g.Stock) (v2a : Hd) (u2a : List Value) (r2 : RdL w (dm w []) (sl v2a) u2a a_g.Entries) (v3a : Hd) (r3 : rdF w (dm w []) (sl v3a) a_g.Books) {r : GGuild × Bool} (t0 : ZgJ a_g = some r) : Calls Tryz.prog 60 #[.agg #[(sl v0a), (sl v1a), (sl v2a), (sl v3a), .int .i64 a_g.Round, .int .i64 a_g.Year]] w fun e w' => ∃ x : Hd × Hd × Hd × (List Value) × Hd, e = .returned (.tuple #[.agg #[(sl x.1), (sl x.2.1), (sl x.2.2.1), (sl x.2.2.2.2), .int .i64 r.1.Round, .int .i64 r.1.Year], .bool r.2]) ∧ SH w [] [ownF (sl x.1) r.1.Members, ownF (sl x.2.1) r.1.Stock, own (sl x.2.2.1) x.2.2.2.1 r.1.Entries, ownF (sl x.2.2.2.2) r.1.Books] w' := by
 refine cwc (args := [_]) Tryz.func60 R Tryz.ntmps60 R ?_
 unfold ZgJ at t0
 refine wcr (wle (Zg R R) R fun b1 => (wle (eal (cs := [(sl hn), (sl hn), (sl hn), (sl hn), iv 0, iv 0]) ZE) R fun b2 => (asg R R (wnt (wcr (wlq (v := .agg #[(sl v0a), (sl v1a), (sl v2a), (sl v3a), iv a_g.Round, iv a_g.Year]) (plb Zb pk1 R R R) R (bdO t0 fun v1 hv1 t0 => (wlc (Zan Zia R fun w hw => Za1 w a_g v0a (ra r0 hw) v1a (ra r1 hw) v2a u2a (ra r2 hw) v3a (ra r3 hw) hv1) R fun x1 => (wle (eal (cs := [(sl hn), (sl hn), (sl hn), (sl hn), iv 0, iv 0]) ZE) R fun b3 => (wls (sbx (cs' := [(sl x1.1), (sl x1.2.1), (sl x1.2.2.1), (sl x1.2.2.2.2), iv v1.Round, iv v1.Year]) Zb pz R R R R R R R) (wnt (wcr (wlq (pof Zcs R) R (wls (sbx (cs' := [(sl x1.1), (sl x1.2.1), (sl x1.2.2.1), (sl x1.2.2.2.2), iv 0, iv v1.Year]) tk_3 pz R R R R R R R) (wnt (wcr (wlq (pof Zc3 R) R (wlq (v := iv v1.Year) (plx tk_3 pz R R) R (wlq (Zaf R R) R (wlq (pof Zc3 R) R (wls (sbx (cs' := [(sl x1.1), (sl x1.2.1), (sl x1.2.2.1), (sl x1.2.2.2.2), iv 0, iv (wr (v1.Year + 1))]) tk_3 pz R R R R R R R) (wnt (wcs (wcs (bdO t0 fun y1 t1 t0 => (wj (J := Bool) (X := Unit) (fun z => y1 = z) (fun z _ => [(1, ptr b1 0), (2, ptr b2 0), (4, ptr b3 0), (26, .bool z)]) (fun _ _ => [box b3 [(sl x1.1), (sl x1.2.1), (sl x1.2.2.1), (sl x1.2.2.2.2), iv 0, iv (wr (v1.Year + 1))], box b2 [(sl hn), (sl hn), (sl hn), (sl hn), iv 0, iv 0], box b1 [(sl v0a), (sl v1a), (sl v2a), (sl v3a), iv a_g.Round, iv a_g.Year], ownF (sl x1.1) v1.Members, ownF (sl x1.2.1) v1.Stock, own (sl x1.2.2.1) x1.2.2.2.1 v1.Entries, ownF (sl x1.2.2.2.2) v1.Books]) ?_ ?_))))))))))))))))))))))))))
 refine wcd [box b3 [(sl x1.1), (sl x1.2.1), (sl x1.2.2.1), (sl x1.2.2.2.2), iv 0, iv (wr (v1.Year + 1))], ownF (sl x1.1) v1.Members, ownF (sl x1.2.1) v1.Stock, own (sl x1.2.2.1) x1.2.2.2.1 v1.Entries, ownF (sl x1.2.2.2.2) v1.Books, box b2 [(sl hn), (sl hn), (sl hn), (sl hn), iv 0, iv 0], box b1 [(sl v0a), (sl v1a), (sl v2a), (sl v3a), iv a_g.Round, iv a_g.Year]] 15 mixed (aq (v := .agg #[(sl v0a), (sl v1a), (sl v2a), (sl v3a), iv a_g.Round, iv a_g.Year]) 0 R (plb Zb pk6 R R R) so7 R (a1 1 (bdO t1 fun v2 hv2 t1 => (wsc R (cz0 Zhb R fun w hw => ZaB w a_g v0a (ra r0 hw) v1a (ra r1 hw) v2a u2a (ra r2 hw) v3a (ra r3 hw) hv2) (fun _ => (zt so7)) R fun _ => (aq 2 R (Zd R) so7 R (aq 3 R (pom R) so7 R (waO_ (t := 15) t1 R (fun h1 t1 => ?_) fun h1 t1 => ?_)))))))
 exact af 4 3 R R R R R so7 R (af 5 3 R R R R R so7 R (af 6 3 R R R R R so7 R (af 7 3 R R R R R so7 R (af 8 3 R R R R R so7 R (aq 9 R (pit R R) so7 R (aq 10 R (pom R) so7 R (af 11 10 R R R R R so7 R (af 12 10 R R R R R so7 R (af 13 10 R R R R R so7 R (aq 14 R (pit R R) so7 R (ae (wjm _ () (mtE t1) (su4 R R R R) (zc pz (zc pk4 (zc pk4 so4)))))))))))))))
 refine an 4 3 R R R R (pof Zcs R) so7 R (an (v := iv a_g.Round) 5 3 R R R R (plx tk_3 pk6 R R) so7 R (an (v := .agg #[(sl v0a), (sl v1a), (sl v2a), (sl v3a), iv a_g.Round, iv a_g.Year]) 6 3 R R R R (plb Zb pk6 R R R) so7 R (a1 7 (bdO t1 fun v3 hv3 t1 => (ZL (j := 3) R R R R (cz0 Zs3 R fun w hw => Zho w a_g v0a (ra r0 hw) v1a (ra r1 hw) v2a u2a (ra r2 hw) v3a (ra r3 hw) hv3) (fun _ => (zt so7)) R fun _ => (an 8 3 R R R R (pls R R) so7 R (aq 9 R (pif R R) so7 R (aq 10 R (pom R) so7 R (waO_ (t := 22) t1 R (fun h2 t1 => ?_) fun h2 t1 => ?_)))))))))
 exact af 11 10 R R R R R so7 R (af 12 10 R R R R R so7 R (af 13 10 R R R R R so7 R (aq 14 R (pit R R) so7 R (ae (wjm _ () (mtE t1) (su4 R R R R) (zc pz (zc pk4 (zc pk4 so4))))))))
 exact an (v := .agg #[(sl x1.1), (sl x1.2.1), (sl x1.2.2.1), (sl x1.2.2.2.2), iv 0, iv (wr (v1.Year + 1))]) 11 10 R R R R (plb Zb pz R R R) so7 R (a1 12 (bdO t1 fun v4 hv4 t1 => (ZL (j := 10) R R R R (cz0 Zhb R fun w hw => ZaB w (GGuild.mk v1.Members v1.Stock v1.Entries v1.Books 0 (wr (v1.Year + 1))) x1.1 (Rg.on (rgo pk1) hw) x1.2.1 (Rg.on (rgo pk2) hw) x1.2.2.1 x1.2.2.2.1 (Rg.on (rgo pk3) hw) x1.2.2.2.2 (Rg.on (rgo pk4) hw) hv4) (fun _ => (zt so7)) R fun _ => (an 13 10 R R R R (Zd R) so7 R (aq 14 R (pif R R) so7 R (ae (wjm _ () (mtE t1) (su4 R R R R) (zc pz (zc pk4 (zc pk4 so4))))))))))
 intro j1 _ hp
 obtain rfl : j1 = y1 := hp.symm
 refine wqt (wcO t0 R (fun h3 t0 => ?_) fun h3 t0 => ?_)
 refine wcr (wlq (v := .agg #[(sl v0a), (sl v1a), (sl v2a), (sl v3a), iv a_g.Round, iv a_g.Year]) (plb Zb pk2 R R R) R (bdO t0 fun v5 hv5 t0 => (wlc (Zan Zia R fun w hw => Za1 w a_g v0a (ra r0 hw) v1a (ra r1 hw) v2a u2a (ra r2 hw) v3a (ra r3 hw) hv5) R fun x3 => (wls (sbx (cs' := [(sl x3.1), (sl x3.2.1), (sl x3.2.2.1), (sl x3.2.2.2.2), iv v5.Round, iv v5.Year]) Zb pk5 R R R R R R R) (asg R R (wnt (wct (wqr ?_))))))))
 obtain rfl := oi t0
 exact Zx R Zb R R pz R fun w hw => ⟨(x3.1, x3.2.1, x3.2.2.1, x3.2.2.2.1, x3.2.2.2.2), R, hw.weak (zc pk1 (zc pk1 (zc pk1 (zc pk1 zn))))⟩
 refine wck (wqt (wcr (wlq (v := .agg #[(sl x1.1), (sl x1.2.1), (sl x1.2.2.1), (sl x1.2.2.2.2), iv 0, iv (wr (v1.Year + 1))]) (plb Zb pz R R R) R (wls (sbx (cs' := [(sl x1.1), (sl x1.2.1), (sl x1.2.2.1), (sl x1.2.2.2.2), iv 0, iv (wr (v1.Year + 1))]) Zb pk1 R R R R R R R) (asg R R (wnt (wct ?_)))))))
 obtain rfl := oi t0
 exact Zx R Zb R R pz R fun w hw => ⟨(x1.1, x1.2.1, x1.2.2.1, x1.2.2.2.1, x1.2.2.2.2), R, hw.weak (zc pk3 (zc pk3 (zc pk3 (zc pk3 zn))))⟩

theorem Zqz (w : World) (a_stock : List Int) (v0a : Hd) (r0 : rdF w (dm w []) (sl v0a) a_stock) (a_need : List Int) (v1a : Hd) (r1 : rdF w (dm w []) (sl v1a) a_need) {r : List Int} (t0 : Zhw a_stock a_need = some r) : Calls Tryz.prog 61 #[(sl v0a), (sl v1a)] w fun e w' => ∃ x : Hd, e = .returned ((sl x)) ∧ SH w [] [ownF (sl x) r] w' := by
 refine cwc (args := [_, _]) Tryz.func61 R Tryz.ntmps61 R ?_
 unfold Zhw at t0
 refine wcr (asg R R (wnt (wcr (wle (ebs R Zai) R fun b1 => (asg R R (wnt (wcs (wcr (asg R R (wnt (Zn t0 fun y1 l1 t0 => (wj (J := List Int) (X := Hd) (fun z => y1 = z) (fun _ x => [(5, (sl x))]) (fun z x => [ownF (sl x) z]) ?_ ?_))))))))))))
 refine wcb (wcf (X := Hd) l1 (fun k1 s1 x1l => [(0, (sl v0a)), (1, (sl v1a)), (5, (sl x1l)), (6, iv ((k1 : Nat) : Int))]) (fun k1 s1 x1l => [ownF (sl x1l) s1]) (⟨some ⟨b1, 0, none⟩, 0, 0⟩ : Hd) (su4 R R R R) (zc (pbo pz (n := 0) (xs := ([] : List Int)) R R (by unfold maxLen; omega)) zn) fun k1 s1 x1l hN1 l1 => ?_)
 by_cases hk1 : k1 < 6
 refine fos l1 hk1 fun _ t1 l1 => ?_
 unfold ZgR at t1
 have c1 : (decide (((k1 : Nat) : Int) < 6)) = true := ddt (by omega)
 refine wcs (wcs (bdO t1 fun y2 t2 t1 => (wj (J := Bool × Bool) (X := Unit) (fun z => y2 = z) (fun z _ => [(0, (sl v0a)), (1, (sl v1a)), (5, (sl x1l)), (6, iv ((k1 : Nat) : Int)), (11, (sl v0a)), (12, .bool z.1), (17, .bool z.2)]) (fun _ _ => [ownF (sl x1l) s1]) ?_ ?_)))
 refine wcg (mv R R (wlq (pls R R) R (mv R R (Zef (t := 10) R c1 (wgn (j := 2) R R R (mv R R (bdO t2 fun v1 hv1 t2 => (wgn (j := 2) R R R (wlc (cz0 Zo2 R fun w hw => Ze1 w a_stock v0a (ra r0 hw) hv1) R (fun _ => (wlq (pit R R) R (mv R R (wlo (t := 14) t2 R (fun h1 t2 => ?_) fun h1 t2 => ?_)))))))))))))
 exact wgn (j := 6) R R R (mv R R (bdO t2 fun v2 hv2 t2 => (wgn (j := 6) R R R (wlc (cz0 Zo2 R fun w hw => Ze1 w a_need v1a (ra r1 hw) hv2) R (fun _ => (wlq (pit R R) R (wln (wjm _ () (mtE t2) (su7 R R R R R R R) so1))))))))
 exact wgf (j := 6) R R R R R (wgf (j := 6) R R R R R (wlq (pif R R) R (wln (wjm _ () (mtE t2) (su7 R R R R R R R) so1))))
 intro j1 _ hp
 obtain rfl : j1 = y2 := hp.symm
 refine wqt (wcO t1 R (fun h2 t1 => ?_) fun h2 t1 => ?_)
 refine wck (wqt (wcs (wcb (wcd [] 14 mixed (aq 0 R (pom R) zn R (aq 1 R (pom R) zn R (aq 2 R (pom R) zn R (gdO t1 fun g1 t1 => (aq 3 R (Zm (k := k1) (rga r1) Zy R R g1) zn R (aq (v := iv (gx a_need k1)) 4 R (Zw (rga r1) tk_3 R g1 R) zn R (aq 5 R (pom R) zn R (aq 6 R (pom R) zn R (gdO t1 fun g2 t1 => (aq 7 R (Zm (k := k1) (rga r0) Zy R R g2) zn R (aq (v := iv (gx a_stock k1)) 8 R (Zw (rga r0) tk_3 R g2 R) zn R (aq 9 R (Zaa R R) zn R (aq 10 R (Zk2 R R) zn R (a1 11 (wse R (ebs R (ZaA (if (wr ((gx a_need k1) - (gx a_stock k1))) > 0 then (wr ((gx a_need k1) - (gx a_stock k1))) else 0))) (fun _ => (zt zn)) R fun b2 => (a1 12 (gdO t1 fun g3 t1 => (wse R (Zf (xs := s1) (ys := ([(if (wr ((gx a_need k1) - (gx a_stock k1))) > 0 then (wr ((gx a_need k1) - (gx a_stock k1))) else 0)] : List Int)) Zbp pk1 R R (Zi fun _ g => Rg.on (rgo (pbo pz (n := 1) (xs := ([(if (wr ((gx a_need k1) - (gx a_stock k1))) > 0 then (wr ((gx a_need k1) - (gx a_stock k1))) else 0)] : List Int)) R R (by unfold maxLen; omega))) g) g3) (fun _ => (zt zn)) R fun x3 => ?_))))))))))))))))))))))
 refine aq 13 R (Zp R) zn R (ae (wqb (wqt (wcg (mv R R (wlq (Zj R R (by omega)) R ?_))))))
 exact asg R R (wln (Zk hk1 (stpN l1 t1) x3 (su4 R R R R) so1))
 exact wcx (wqe (wqe (wbx (wjm _ x1l (Sum.inl.inj (stpB l1 t1)) (su1 R) so1))))
 have c1 : (decide (((k1 : Nat) : Int) < 6)) = false := ddf (by omega)
 have en1 := foe l1 hk1
 exact wcs (wcr (mv R R (wlq (pls R R) R (mv R R (Zef (t := 10) R c1 (wgf (j := 2) R R R R R (wgf (j := 2) R R R R R (wlq (pif R R) R (mv R R (wgf (j := 6) R R R R R (wgf (j := 6) R R R R R (wlq (pif R R) R (wnt (wff R R (wcx (wqe (wqe (wbx (wjm _ x1l (Sum.inl.inj en1) (su1 R) so1)))))))))))))))))))
 intro e1 x1 hp
 obtain rfl : e1 = y1 := hp.symm
 refine wqt (wcr (mv R R (asg R R (wnt (wct ?_)))))
 obtain rfl := oi t0
 exact wq1 R R fun w hw => ⟨x1, R, hw.weak so1⟩

theorem Zp0 (w : World) (a_ok : Bool) {r : Int} (t0 : ZgA a_ok = some r) : Calls Tryz.prog 63 #[.bool a_ok] w fun e w' => e = .returned (.int .i64 r) ∧ SH w [] [] w' := by
 refine cwc (args := [_]) Tryz.func63 R Tryz.ntmps63 R ?_
 unfold ZgA at t0
 refine wcr (asg R R (wnt (wcs (wcr (mv R R (wnt (wcO t0 R (fun h1 t0 => ?_) fun h1 t0 => ?_)))))))
 refine wcr (asg R R (wnt (wct (wqr ?_))))
 obtain rfl := oi t0
 exact wq1 R R fun w hw => ⟨R, hw.weak zn⟩
 refine wck (wqt (wcr (asg R R (wnt (wct ?_)))))
 obtain rfl := oi t0
 exact wq1 R R fun w hw => ⟨R, hw.weak zn⟩

theorem Zmu (w : World) (a_g : GGuild) (v0a : Hd) (r0 : rdF w (dm w []) (sl v0a) a_g.Members) (v1a : Hd) (r1 : rdF w (dm w []) (sl v1a) a_g.Stock) (v2a : Hd) (u2a : List Value) (r2 : RdL w (dm w []) (sl v2a) u2a a_g.Entries) (v3a : Hd) (r3 : rdF w (dm w []) (sl v3a) a_g.Books) (a_a : GAct) {r : GGuild × Int} (t0 : ZdB a_g a_a = some r) : Calls Tryz.prog 28 #[.agg #[(sl v0a), (sl v1a), (sl v2a), (sl v3a), .int .i64 a_g.Round, .int .i64 a_g.Year], .agg #[.int .i64 a_a.Kind, .int .i64 a_a.A, .int .i64 a_a.B]] w fun e w' => ∃ x : Hd × Hd × Hd × (List Value) × Hd, e = .returned (.tuple #[.agg #[(sl x.1), (sl x.2.1), (sl x.2.2.1), (sl x.2.2.2.2), .int .i64 r.1.Round, .int .i64 r.1.Year], .int .i64 r.2]) ∧ SH w [] [ownF (sl x.1) r.1.Members, ownF (sl x.2.1) r.1.Stock, own (sl x.2.2.1) x.2.2.2.1 r.1.Entries, ownF (sl x.2.2.2.2) r.1.Books] w' := by
 refine cwc (args := [_, _]) Tryz.func28 R Tryz.ntmps28 R ?_
 unfold ZdB at t0
 refine wcr (wle (Zg R R) R fun b1 => (wle (Zg R R) R fun b2 => (wle (eal (cs := [(sl hn), (sl hn), (sl hn), (sl hn), iv 0, iv 0]) ZE) R fun b3 => (asg R R (wnt (wcr (wlq (v := .agg #[(sl v0a), (sl v1a), (sl v2a), (sl v3a), iv a_g.Round, iv a_g.Year]) (plb Zb pk2 R R R) R (bdO t0 fun v1 hv1 t0 => (wlc (Zan Zia R fun w hw => Za1 w a_g v0a (ra r0 hw) v1a (ra r1 hw) v2a u2a (ra r2 hw) v3a (ra r3 hw) hv1) R fun x1 => (wle (eal (cs := [(sl hn), (sl hn), (sl hn), (sl hn), iv 0, iv 0]) ZE) R fun b4 => (wls (sbx (cs' := [(sl x1.1), (sl x1.2.1), (sl x1.2.2.1), (sl x1.2.2.2.2), iv v1.Round, iv v1.Year]) Zb pz R R R R R R R) (wnt (wcs (wcs (bdO t0 fun y1 t1 t0 => (wj (J := Bool) (X := Unit) (fun z => y1 = z) (fun z _ => [(2, ptr b1 0), (3, ptr b2 0), (4, ptr b3 0), (6, ptr b4 0), (21, .bool z)]) (fun _ _ => [box b4 [(sl x1.1), (sl x1.2.1), (sl x1.2.2.1), (sl x1.2.2.2.2), iv v1.Round, iv v1.Year], box b3 [(sl hn), (sl hn), (sl hn), (sl hn), iv 0, iv 0], box b2 [iv a_a.Kind, iv a_a.A, iv a_a.B], box b1 [(sl v0a), (sl v1a), (sl v2a), (sl v3a), iv a_g.Round, iv a_g.Year], ownF (sl x1.1) v1.Members, ownF (sl x1.2.1) v1.Stock, own (sl x1.2.2.1) x1.2.2.2.1 v1.Entries, ownF (sl x1.2.2.2.2) v1.Books]) ?_ ?_))))))))))))))))
 refine wcg (wlq (v := .agg #[(sl v0a), (sl v1a), (sl v2a), (sl v3a), iv a_g.Round, iv a_g.Year]) (plb Zb pk7 R R R) R (bdO t1 fun v2 hv2 t1 => (wlc (cz0 Zhb R fun w hw => ZaB w a_g v0a (ra r0 hw) v1a (ra r1 hw) v2a u2a (ra r2 hw) v3a (ra r3 hw) hv2) R fun _ => (wlq (Zd R) R (mv R R (wlo (t := 17) t1 R (fun h1 t1 => ?_) fun h1 t1 => ?_))))))
 exact wgf (j := 3) R R R R R (wgf (j := 3) R R R R R (wgf (j := 3) R R R R R (wlq (pit R R) R (wln (wjm _ () (mtE t1) (su5 R R R R R) (zc pz (zc pk4 (zc pk4 (zc pk4 so4)))))))))
 exact wgn (j := 3) R R R (wlq (v := .agg #[iv a_a.Kind, iv a_a.A, iv a_a.B]) (plb Za3 pk6 R R R) R (bdO t1 fun v3 hv3 t1 => (wgn (j := 3) R R R (wlc (cz0 ZuN R fun w hw => Zme w a_a hv3) R (fun _ => (wgn (j := 3) R R R (wlq (Zd R) R (wlq (pif R R) R (wln (wjm _ () (mtE t1) (su5 R R R R R) (zc pz (zc pk4 (zc pk4 (zc pk4 so4))))))))))))))
 intro j1 _ hp
 obtain rfl : j1 = y1 := hp.symm
 refine wqt (wcO t0 R (fun h2 t0 => ?_) fun h2 t0 => ?_)
 refine wcr (wlq (v := .agg #[(sl x1.1), (sl x1.2.1), (sl x1.2.2.1), (sl x1.2.2.2.2), iv v1.Round, iv v1.Year]) (plb Zb pz R R R) R (wls (sbx (cs' := [(sl x1.1), (sl x1.2.1), (sl x1.2.2.1), (sl x1.2.2.2.2), iv v1.Round, iv v1.Year]) Zb pk1 R R R R R R R) (asg R R (wnt (wct (wqr ?_))))))
 obtain rfl := oi t0
 exact Zx R Zb R R pz R fun w hw => ⟨(x1.1, x1.2.1, x1.2.2.1, x1.2.2.2.1, x1.2.2.2.2), R, hw.weak (zc pk4 (zc pk4 (zc pk4 (zc pk4 zn))))⟩
 refine wck (wqt (wcr (asg R R (wnt (wcs (wcr (wlq (pof Zf8 R) R (wlq (v := iv a_a.Kind) (plx tk_3 pk2 R R) R (wnt (wcb (wcr (wlq (pol R R) R (asg R R (wnt (sqO t0 fun y1 t1 t0 => (wj (J := Bool × GGuild) (X := Hd × Hd × Hd × (List Value) × Hd) (fun z => y1 = .inl z) (fun z _ => [(4, ptr b3 0), (6, ptr b4 0), (7, .bool z.1)]) (fun z x => [box b4 [(sl x.1), (sl x.2.1), (sl x.2.2.1), (sl x.2.2.2.2), iv ((z.2).Round), iv ((z.2).Year)], box b3 [(sl hn), (sl hn), (sl hn), (sl hn), iv 0, iv 0], ownF (sl x.1) ((z.2).Members), ownF (sl x.2.1) ((z.2).Stock), own (sl x.2.2.1) x.2.2.2.1 ((z.2).Entries), ownF (sl x.2.2.2.2) ((z.2).Books)]) ?_ ?_))))))))))))))))
 refine wcO t1 R (fun h3 t1 => ?_) fun h3 t1 => ?_
 exact wcg (wlq (v := .agg #[(sl v0a), (sl v1a), (sl v2a), (sl v3a), iv a_g.Round, iv a_g.Year]) (plb Zb pk3 R R R) R (wlq (pof ZaU R) R (wlq (v := iv a_a.A) (plx tk_3 pk2 R R) R (bdO t1 fun v4 hv4 t1 => (wlc (Zan Zu4 R fun w hw => Zmr w a_g v0a (ra r0 hw) v1a (ra r1 hw) v2a u2a (ra r2 hw) v3a (ra r3 hw) a_a.A hv4) R fun x4 => (mv R R (wlq (pex R R) R (wlq (pex R R) R (wls (sbx (cs' := [(sl x4.1), (sl x4.2.1), (sl x4.2.2.1), (sl x4.2.2.2.2), iv v4.1.Round, iv v4.1.Year]) Zb pk4 R R R R R R R) (asg R R (wln (wjm _ (x4.1, x4.2.1, x4.2.2.1, x4.2.2.2.1, x4.2.2.2.2) (mtE t1) (su3 R R R) (zc pz (zc pk4 so4))))))))))))))
 refine wcr (wlq (pol R R) R (asg R R (wnt (wcO t1 R (fun h4 t1 => ?_) fun h4 t1 => ?_))))
 refine wcr (asg R R (wnt (wcs (wcr (wlq (pof ZQ R) R (wlq (v := (sl v2a)) (plx Zas pk3 R R) R (wlq (pln (rga r2) ZaC R) R (wlq (Zad R R) R (wnt (bdO t1 fun y2 t2 t1 => (wj (J := Int) (X := Unit) (fun z => y2 = z) (fun z _ => [(2, ptr b1 0), (3, ptr b2 0), (4, ptr b3 0), (6, ptr b4 0), (8, iv z)]) (fun _ _ => [box b4 [(sl x1.1), (sl x1.2.1), (sl x1.2.2.1), (sl x1.2.2.2.2), iv v1.Round, iv v1.Year], box b3 [(sl hn), (sl hn), (sl hn), (sl hn), iv 0, iv 0], box b2 [iv a_a.Kind, iv a_a.A, iv a_a.B], box b1 [(sl v0a), (sl v1a), (sl v2a), (sl v3a), iv a_g.Round, iv a_g.Year], ownF (sl x1.1) v1.Members, ownF (sl x1.2.1) v1.Stock, own (sl x1.2.2.1) x1.2.2.2.1 v1.Entries, ownF (sl x1.2.2.2.2) v1.Books]) ?_ ?_)))))))))))
 refine wcO t2 R (fun h5 t2 => ?_) fun h5 t2 => ?_
 refine wcg (wlq (pof ZQ R) R (wlq (v := (sl v2a)) (plx Zas pk3 R R) R (wlq (pof ZQ R) R (wlq (v := (sl v2a)) (plx Zas pk3 R R) R (wlq (pln (rga r2) ZaC R) R (wlq (Zaa R R) R (gdO t2 fun g1 t2 => (wlq (ZX (rga r2) ZaC R R g1.1 g1.2) R (wlq (Z5 (rga r2) (ZD g1) Zb5 R) R (ZdM (rga r2) (ZD g1) ?_))))))))))
 rintro ⟨_, _, he1⟩
 obtain ⟨w1, hc1, _⟩ := ZaX.1 he1
 exact wlq (v := iv ((gx a_g.Entries (((wr (((a_g.Entries.length : Nat) : Int) - 1))).toNat)).Day)) (ZjC (rga r2) tk_3 R hc1 R) R (wlq (Zaf R R) R (asg R R (wln (wjm _ () (mtE t2) (su5 R R R R R) so8))))
 exact wck (wjm _ () (mtE t2) (su5 R R R R R) so8)
 intro j3 _ hp
 obtain rfl : j3 = y2 := hp.symm
 exact wqt (wcd [box b3 [(sl hn), (sl hn), (sl hn), (sl hn), iv 0, iv 0], box b2 [iv a_a.Kind, iv a_a.A, iv a_a.B], box b1 [(sl v0a), (sl v1a), (sl v2a), (sl v3a), iv a_g.Round, iv a_g.Year], ownF (sl x1.1) v1.Members, ownF (sl x1.2.1) v1.Stock, own (sl x1.2.2.1) x1.2.2.2.1 v1.Entries, ownF (sl x1.2.2.2.2) v1.Books] 13 mixed (aq (v := .agg #[(sl v0a), (sl v1a), (sl v2a), (sl v3a), iv a_g.Round, iv a_g.Year]) 0 R (plb Zb pk2 R R R) (zc pk1 (zc pk1 (zc pk1 (zc pk1 (zc pk1 (zc pk1 (zc pk1 zn))))))) R (aq 1 R (pof ZaU R) (zc pk1 (zc pk1 (zc pk1 (zc pk1 (zc pk1 (zc pk1 (zc pk1 zn))))))) R (aq (v := iv a_a.A) 2 R (plx tk_3 pk1 R R) (zc pk1 (zc pk1 (zc pk1 (zc pk1 (zc pk1 (zc pk1 (zc pk1 zn))))))) R (aq 3 R (pom R) (zc pk1 (zc pk1 (zc pk1 (zc pk1 (zc pk1 (zc pk1 (zc pk1 zn))))))) R (aq 4 R (pof Zc5 R) (zc pk1 (zc pk1 (zc pk1 (zc pk1 (zc pk1 (zc pk1 (zc pk1 zn))))))) R (aq (v := iv a_a.B) 5 R (plx tk_3 pk1 R R) (zc pk1 (zc pk1 (zc pk1 (zc pk1 (zc pk1 (zc pk1 (zc pk1 zn))))))) R (a1 6 (bdO t1 fun v5 hv5 t1 => (wsc R (cz1 ZwJ R fun w hw => Zmc w a_a.B hv5) (fun _ => (zt (zc pk2 (zc pk2 (zc pk2 (zc pk2 (zc pk2 (zc pk2 (zc pk2 zn))))))))) R fun x6 => (a1 7 (bdO t1 fun v6 hv6 t1 => (wsc R (Zan Zxe R fun w hw => ZqS w a_g v0a (ra r0 hw) v1a (ra r1 hw) v2a u2a (ra r2 hw) v3a (ra r3 hw) a_a.A j3 v5 x6 (Rg.on (rgo pz) hw) hv6) (fun _ => (zt (zc pk6 (zc pk6 (zc pk6 (zc pk6 (zc pk6 (zc pk6 (zc pk6 zn))))))))) R fun x7 => (aq 8 R (pom R) (zc pk6 (zc pk6 (zc pk6 (zc pk6 (zc pk6 (zc pk6 (zc pk6 zn))))))) R (aq 9 R (pex R R) (zc pk6 (zc pk6 (zc pk6 (zc pk6 (zc pk6 (zc pk6 (zc pk6 zn))))))) R (aq 10 R (pex R R) (zc pk6 (zc pk6 (zc pk6 (zc pk6 (zc pk6 (zc pk6 (zc pk6 zn))))))) R (a1 11 (ZR R (sbx (cs' := [(sl x7.1), (sl x7.2.1), (sl x7.2.2.1), (sl x7.2.2.2.2), iv v6.1.Round, iv v6.1.Year]) Zb pk5 R R R R R R R) (zt (zc pk6 (zc pk6 (zc pk6 (zc pk6 (zc pk6 (zc pk6 (zc pk6 zn)))))))) (aq 12 R (Zp R) (zc pk6 (zc pk6 (zc pk6 (zc pk6 (zc pk6 (zc pk6 (zc pk6 zn))))))) R (ae (wjm _ (x7.1, x7.2.1, x7.2.2.1, x7.2.2.2.1, x7.2.2.2.2) (mtE t1) (su3 R R R) (zc pz (zc pk5 so4)))))))))))))))))))))))
 refine wcr (wlq (pol R R) R (asg R R (wnt (wcO t1 R (fun h6 t1 => ?_) fun h6 t1 => ?_))))
 exact wcg (wlq (v := .agg #[(sl v0a), (sl v1a), (sl v2a), (sl v3a), iv a_g.Round, iv a_g.Year]) (plb Zb pk3 R R R) R (wlq (pof ZaU R) R (wlq (v := iv a_a.A) (plx tk_3 pk2 R R) R (bdO t1 fun v7 hv7 t1 => (wlc (Zan ZwR R fun w hw => Zph w a_g v0a (ra r0 hw) v1a (ra r1 hw) v2a u2a (ra r2 hw) v3a (ra r3 hw) a_a.A hv7) R fun x8 => (mv R R (wlq (pex R R) R (wlq (pex R R) R (wls (sbx (cs' := [(sl x8.1), (sl x8.2.1), (sl x8.2.2.1), (sl x8.2.2.2.2), iv v7.1.Round, iv v7.1.Year]) Zb pk4 R R R R R R R) (asg R R (wln (wjm _ (x8.1, x8.2.1, x8.2.2.1, x8.2.2.2.1, x8.2.2.2.2) (mtE t1) (su3 R R R) (zc pz (zc pk4 so4))))))))))))))
 refine wcr (wlq (pol R R) R (asg R R (wnt (wcO t1 R (fun h7 t1 => ?_) fun h7 t1 => ?_))))
 exact wcg (wlq (v := .agg #[(sl v0a), (sl v1a), (sl v2a), (sl v3a), iv a_g.Round, iv a_g.Year]) (plb Zb pk3 R R R) R (bdO t1 fun v8 hv8 t1 => (wlc (Zan Zw5 R fun w hw => ZnW w a_g v0a (ra r0 hw) v1a (ra r1 hw) v2a u2a (ra r2 hw) v3a (ra r3 hw) hv8) R fun x9 => (mv R R (wlq (pex R R) R (wlq (pex R R) R (wls (sbx (cs' := [(sl x9.1), (sl x9.2.1), (sl x9.2.2.1), (sl x9.2.2.2.2), iv v8.1.Round, iv v8.1.Year]) Zb pk4 R R R R R R R) (asg R R (wln (wjm _ (x9.1, x9.2.1, x9.2.2.1, x9.2.2.2.1, x9.2.2.2.2) (mtE t1) (su3 R R R) (zc pz (zc pk4 so4))))))))))))
 refine wcr (wlq (pol R R) R (asg R R (wnt (wcO t1 R (fun h8 t1 => ?_) fun h8 t1 => ?_))))
 exact wcg (wlq (v := .agg #[(sl v0a), (sl v1a), (sl v2a), (sl v3a), iv a_g.Round, iv a_g.Year]) (plb Zb pk3 R R R) R (bdO t1 fun v9 hv9 t1 => (wlc (Zan ZwT R fun w hw => Zp3 w a_g v0a (ra r0 hw) v1a (ra r1 hw) v2a u2a (ra r2 hw) v3a (ra r3 hw) hv9) R fun x10 => (mv R R (wlq (pex R R) R (wlq (pex R R) R (wls (sbx (cs' := [(sl x10.1), (sl x10.2.1), (sl x10.2.2.1), (sl x10.2.2.2.2), iv v9.1.Round, iv v9.1.Year]) Zb pk4 R R R R R R R) (asg R R (wln (wjm _ (x10.1, x10.2.1, x10.2.2.1, x10.2.2.2.1, x10.2.2.2.2) (mtE t1) (su3 R R R) (zc pz (zc pk4 so4))))))))))))
 refine wcr (wlq (pol R R) R (asg R R (wnt (wcO t1 R (fun h9 t1 => ?_) fun h9 t1 => ?_))))
 refine wcr (asg R R (wnt (wcs (wcr (wlq (pof ZaU R) R (wlq (v := iv a_a.A) (plx tk_3 pk2 R R) R (wlq (pof ZQ R) R (wlq (v := (sl v2a)) (plx Zas pk3 R R) R (wlq (pln (rga r2) ZaC R) R (wlq (pls R R) R (wnt (bdO t1 fun y2 t2 t1 => (wj (J := Int) (X := Unit) (fun z => y2 = z) (fun z _ => [(4, ptr b3 0), (6, ptr b4 0), (9, iv z)]) (fun _ _ => [box b4 [(sl x1.1), (sl x1.2.1), (sl x1.2.2.1), (sl x1.2.2.2.2), iv v1.Round, iv v1.Year], box b3 [(sl hn), (sl hn), (sl hn), (sl hn), iv 0, iv 0], ownF (sl x1.1) v1.Members, ownF (sl x1.2.1) v1.Stock, own (sl x1.2.2.1) x1.2.2.2.1 v1.Entries, ownF (sl x1.2.2.2.2) v1.Books]) ?_ ?_)))))))))))))
 refine wcO t2 R (fun h10 t2 => ?_) fun h10 t2 => ?_
 refine wcs (wcd [box b4 [(sl x1.1), (sl x1.2.1), (sl x1.2.2.1), (sl x1.2.2.2.2), iv v1.Round, iv v1.Year], box b3 [(sl hn), (sl hn), (sl hn), (sl hn), iv 0, iv 0], box b2 [iv a_a.Kind, iv a_a.A, iv a_a.B], box b1 [(sl v0a), (sl v1a), (sl v2a), (sl v3a), iv a_g.Round, iv a_g.Year], ownF (sl x1.1) v1.Members, ownF (sl x1.2.1) v1.Stock, own (sl x1.2.2.1) x1.2.2.2.1 v1.Entries, ownF (sl x1.2.2.2.2) v1.Books] 12 mixed (aq 0 R (pof Zb1 R) so8 R (aq (v := (sl v1a)) 1 R (plx ZcA pk3 R R) so8 R (aq 2 R (pof ZQ R) so8 R (aq (v := (sl v2a)) 3 R (plx Zas pk3 R R) so8 R (aq 4 R (pof ZaU R) so8 R (aq (v := iv a_a.A) 5 R (plx tk_3 pk2 R R) so8 R (gdO t2 fun g2 t2 => (aq 6 R (ZX (rga r2) ZaC R R g2.1 g2.2) so8 R (aq 7 R (Z5 (rga r2) (ZD g2) ZaJ R) so8 R (ZhZ (rga r2) (ZD g2) ?_)))))))))))
 rintro ⟨_, _, he2⟩
 obtain ⟨w2, hc2, _⟩ := ZaX.1 he2
 refine aq (v := .agg #[iv (((gx a_g.Entries ((a_a.A).toNat)).Block).Size), (sl w2)]) 8 R (Zb7 (rga r2) Zc R hc2 R R R) so8 R (a1 9 (bdO t2 fun v10 hv10 t2 => (wsc R (cz1 Zs1 R fun w hw => ZhR w ((gx a_g.Entries ((a_a.A).toNat)).Block) w2 (Rg.on (Zbg hc2 (rga r2) (ZD g2)) hw) hv10) (fun _ => (zt (zc pk1 (zc pk1 (zc pk1 (zc pk1 (zc pk1 (zc pk1 (zc pk1 (zc pk1 zn)))))))))) R fun x12 => (a1 10 (bdO t2 fun v11 hv11 t2 => (wsc R (cz1 ZwV R fun w hw => Zqz w a_g.Stock v1a (ra r1 hw) v10 x12 (Rg.on (rgo pz) hw) hv11) (fun _ => (zt (zc pk2 (zc pk2 (zc pk2 (zc pk2 (zc pk2 (zc pk2 (zc pk2 (zc pk2 zn)))))))))) R fun x13 => (aq 11 R (Zp R) (zc pk2 (zc pk2 (zc pk2 (zc pk2 (zc pk2 (zc pk2 (zc pk2 (zc pk2 zn)))))))) R (ae (wqt (wcr (asg R R (wnt (gdO t2 fun g3 t2 => (Zn t2 fun y3 l3 t2 => (wj (J := Int) (X := Unit) (fun z => y3 = z) (fun z _ => [(4, ptr b3 0), (6, ptr b4 0), (9, iv z)]) (fun _ _ => [box b4 [(sl x1.1), (sl x1.2.1), (sl x1.2.2.1), (sl x1.2.2.2.2), iv v1.Round, iv v1.Year], box b3 [(sl hn), (sl hn), (sl hn), (sl hn), iv 0, iv 0], ownF (sl x1.1) v1.Members, ownF (sl x1.2.1) v1.Stock, own (sl x1.2.2.1) x1.2.2.2.1 v1.Entries, ownF (sl x1.2.2.2.2) v1.Books]) ?_ ?_)))))))))))))))
 refine wcb (wcf (X := Unit) l3 (fun k1 s1 x1l => [(4, ptr b3 0), (6, ptr b4 0), (9, iv s1), (10, (sl x13)), (11, iv ((k1 : Nat) : Int))]) (fun k1 s1 x1l => [ownF (sl x13) v11, box b4 [(sl x1.1), (sl x1.2.1), (sl x1.2.2.1), (sl x1.2.2.2.2), iv v1.Round, iv v1.Year], box b3 [(sl hn), (sl hn), (sl hn), (sl hn), iv 0, iv 0], ownF (sl x1.1) v1.Members, ownF (sl x1.2.1) v1.Stock, own (sl x1.2.2.1) x1.2.2.2.1 v1.Entries, ownF (sl x1.2.2.2.2) v1.Books]) () (su5 R R R R R) (zc pz (zc pk1 (zc pk1 (zc pk3 (zc pk3 (zc pk3 (zc pk3 zn))))))) fun k1 s1 x1l hN1 l3 => ?_)
 by_cases hk1 : k1 < v11.length
 refine fos l3 hk1 fun _ t3 l3 => ?_
 unfold Zjc at t3
 have c1 : (decide (((k1 : Nat) : Int) < ((v11.length : Nat) : Int))) = true := ddt (by omega)
 refine wcs (wcr (mv R R (mv R R (wlq (pln (rgo pz) Zy R) R (wlq (pls R R) R (wnt (wft R c1 (wck (wqt (wcs (wcb (wcg (mv R R (mv R R (mv R R (wlq (Zm (k := k1) (rgo pz) Zy R R hk1) R (wlq (v := iv (gx v11 k1)) (Zw (rgo pz) tk_3 R hk1 R) R (wlq (Zaf R R) R (asg R R (wln (wqb (wqt (wcg (mv R R (wlq (Zj R R (by omega)) R ?_)))))))))))))))))))))))))
 exact asg R R (wln (Zk hk1 (stpN l3 t3) () (su5 R R R R R) so7))
 have c1 : (decide (((k1 : Nat) : Int) < ((v11.length : Nat) : Int))) = false := ddf (by omega)
 have en1 := foe l3 hk1
 exact wcs (wcr (mv R R (mv R R (wlq (pln (rgo pz) Zy R) R (wlq (pls R R) R (wnt (wff R c1 (wcx (wqe (wqe (wbx (wjm _ () (Sum.inl.inj en1) (su3 R R R) (zc pk1 (zc pk1 (zc pk1 (zc pk1 (zc pk1 (zc pk1 zn))))))))))))))))))
 intro e1 _ hp
 obtain rfl : e1 = y3 := hp.symm
 exact wjm _ () (mtE t2) (su3 R R R) so6
 exact wck (wjm _ () (mtE t2) (su3 R R R) (zc pz (zc pz (zc pk2 (zc pk2 (zc pk2 (zc pk2 zn)))))))
 intro j4 _ hp
 obtain rfl : j4 = y2 := hp.symm
 refine wqt (wcr (wlq (v := .agg #[(sl x1.1), (sl x1.2.1), (sl x1.2.2.1), (sl x1.2.2.2.2), iv v1.Round, iv v1.Year]) (plb Zb pz R R R) R (mv R R (wls (sbx (cs' := [(sl x1.1), (sl x1.2.1), (sl x1.2.2.1), (sl x1.2.2.2.2), iv v1.Round, iv v1.Year]) Zb pk1 R R R R R R R) (asg R R (wnt (wct (wqr (wbr (wqr ?_))))))))))
 replace t0 := sqR t0 t1
 obtain rfl := oi t0
 exact Zx R Zb R R pz R fun w hw => ⟨(x1.1, x1.2.1, x1.2.2.1, x1.2.2.2.1, x1.2.2.2.2), R, hw.weak (zc pk2 (zc pk2 (zc pk2 (zc pk2 zn))))⟩
 exact wck (wjm _ (x1.1, x1.2.1, x1.2.2.1, x1.2.2.2.1, x1.2.2.2.2) (mtE t1) (su3 R R R) (zc pz (zc pz (zc pk2 (zc pk2 (zc pk2 (zc pk2 zn)))))))
 intro j2 x3 hp
 replace t0 := sqE (j := j2) t0 hp
 refine wqb (wqt (wcs (wcd [box b4 [(sl x3.1), (sl x3.2.1), (sl x3.2.2.1), (sl x3.2.2.2.2), iv ((j2.2).Round), iv ((j2.2).Year)], ownF (sl x3.1) ((j2.2).Members), ownF (sl x3.2.1) ((j2.2).Stock), own (sl x3.2.2.1) x3.2.2.2.1 ((j2.2).Entries), ownF (sl x3.2.2.2.2) ((j2.2).Books)] 5 mixed (aq (v := .agg #[(sl x3.1), (sl x3.2.1), (sl x3.2.2.1), (sl x3.2.2.2.2), iv ((j2.2).Round), iv ((j2.2).Year)]) 0 R (plb Zb pz R R R) (zc pz (zc pk1 (zc pk1 (zc pk1 (zc pk1 zn))))) R (aq 1 R (pom R) (zc pz (zc pk1 (zc pk1 (zc pk1 (zc pk1 zn))))) R (a1 2 (bdO t0 fun v12 hv12 t0 => (wsc R (cz0 ZwW R fun w hw => Zp0 w j2.1 hv12) (fun _ => (zt (zc pz (zc pk1 (zc pk1 (zc pk1 (zc pk1 zn))))))) R fun _ => (a1 3 (ZR R (sbx (cs' := [(sl x3.1), (sl x3.2.1), (sl x3.2.2.1), (sl x3.2.2.2.2), iv ((j2.2).Round), iv ((j2.2).Year)]) Zb pk1 R R R R R R R) (zt (zc pk1 (zc pk1 (zc pk1 (zc pk1 (zc pk1 zn)))))) (aq 4 R (Zp R) (zc pk1 (zc pk1 (zc pk1 (zc pk1 (zc pk1 zn))))) R (ae (wqt (wct ?_))))))))))))))
 obtain rfl := oi t0
 exact Zx R Zb R R pz R fun w hw => ⟨(x3.1, x3.2.1, x3.2.2.1, x3.2.2.2.1, x3.2.2.2.2), R, hw.weak (zc pk2 (zc pk2 (zc pk2 (zc pk2 zn))))⟩

end Go.Proofs.YtjfjbgihojiijacGreatDoor
