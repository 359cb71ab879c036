/-
 Each Go function computes its Lean function (part 3).
-/
import Derived.Test.YtgbcpjffnkiabaaGreatDoorWalks2
namespace Go.Proofs.YtgbcpjffnkiabaaGreatDoor
open Go Go.RowKit Go.Proofs
set_option maxRecDepth 100000

theorem c_impl_PatternLikeness (w : World) (a_b : GBlock) (v0a : Hd) (r0 : rdF w (dm w []) (sl v0a) a_b.Cells) (a_d : GBlock) (v1a : Hd) (r1 : rdF w (dm w []) (sl v1a) a_d.Cells) {r : Int} (t0 : impl_PatternLikeness a_b a_d = some r) : Calls Tryz.prog 18 #[.agg #[.int .i64 a_b.Size, (sl v0a)], .agg #[.int .i64 a_d.Size, (sl v1a)]] w fun e w' => e = .returned (.int .i64 r) ∧ SH w [] [] w' := by
 refine cwc (args := [_, _]) Tryz.func18 R Tryz.ntmps18 R ?_
 unfold impl_PatternLikeness at t0
 refine wcr (wle (eo_box R R) R fun b1 => (wle (eo_box R R) R fun b2 => (asg R R (wnt (wcs (wcs (bdO t0 fun y1 t1 t0 => (wj (J := Bool) (X := Unit) (fun z => y1 = z) (fun z _ => [(2, ptr b1 0), (3, ptr b2 0), (18, .bool z)]) (fun _ _ => [box b2 [iv a_d.Size, (sl v1a)], box b1 [iv a_b.Size, (sl v0a)]]) ?_ ?_))))))))
 refine wcg (wlq (v := .agg #[iv a_b.Size, (sl v0a)]) (plb tk_26 pk1 R R R) R (wlq (v := .agg #[iv a_d.Size, (sl v1a)]) (plb tk_26 pz R R R) R (bdO t1 fun v1 hv1 t1 => (wlc (cz0 fa_34 R fun w hw => c_impl_arePaired w a_b v0a (ra r0 hw) a_d v1a (ra r1 hw) hv1) R fun _ => (wlq (po_not R) R (mv R R (wlo (t := 13) t1 R (fun h1 t1 => ?_) fun h1 t1 => ?_)))))))
 exact wgf (j := 4) R R R R R (wgf (j := 4) R R R R R (wgf (j := 4) R R R R R (wgf (j := 4) R R R R R (wlq (pit R R) R (wln (wjm _ () (mtE t1) (su3 R R R) so2))))))
 exact wgn (j := 4) R R R (wlq (v := .agg #[iv a_d.Size, (sl v1a)]) (plb tk_26 pz R R R) R (bdO t1 fun v2 hv2 t1 => (wgn (j := 4) R R R (wlc (cz1 fa_35 R fun w hw => c_impl_ColorsOf w a_d v1a (ra r1 hw) hv2) R (fun x2 => (wgn (j := 4) R R R (wlq (pln (rgo pz) el_38 R) R (wgn (j := 4) R R R (wlq (po_gtr R R) R (wlq (pif R R) R (wln (wjm _ () (mtE t1) (su3 R R R) (zc pk1 (zc pk1 zn))))))))))))))
 intro j1 _ hp
 obtain rfl : j1 = y1 := hp.symm
 refine wqt (wcO t0 R (fun h2 t0 => ?_) fun h2 t0 => ?_)
 refine wcr (asg R R (wnt (wct (wqr ?_))))
 obtain rfl := oi t0
 exact wq1 R R fun w hw => ⟨R, hw.weak zn⟩
 refine wck (wqt (wcr (asg R R (wnt (wcs (wcr (wlq (v := .agg #[iv a_d.Size, (sl v1a)]) (plb tk_26 pz R R R) R (bdO t0 fun v3 hv3 t0 => (wlc (cz0 fa_36 R fun w hw => c_impl_ColorwayCount w a_d v1a (ra r1 hw) hv3) R fun _ => (mv R R (wnt (gdO t0 fun g1 t0 => (lpO_inv t0 fun y1 l1 t0 => (wj (J := Int) (X := Unit) (fun z => y1 = z) (fun z _ => [(5, iv z)]) (fun _ _ => []) ?_ ?_))))))))))))))
 refine wcb (wcf (X := Unit) l1 (fun k1 s1 x1l => [(2, ptr b1 0), (3, ptr b2 0), (5, iv s1), (20, iv v3), (21, iv ((k1 : Nat) : Int))]) (fun k1 s1 x1l => [box b2 [iv a_d.Size, (sl v1a)], box b1 [iv a_b.Size, (sl v0a)]]) () (su5 R R R R R) so2 fun k1 s1 x1l hN1 l1 => ?_)
 by_cases hk1 : k1 < (v3).toNat
 refine fos l1 hk1 fun _ t1 l1 => ?_
 unfold impl_PatternLikeness_L1 at t1
 have c1 : (decide (((k1 : Nat) : Int) < v3)) = true := ddt (by omega)
 refine wcr (wlq (pls R R) R (wnt (wcs (wft R c1 (wck (wqt (wcs (wcb (wcr (mv R R (asg R R (wnt (wcr (wlq (v := .agg #[iv a_d.Size, (sl v1a)]) (plb tk_26 pz R R R) R (mv R R (bdO t1 fun v4 hv4 t1 => (wlc (cz1 fa_37 R fun w hw => c_impl_ColorwayAt w a_d v1a (ra r1 hw) ((k1 : Nat) : Int) hv4) R fun x4 => (mv R R (wlq (pex R R) R (wlq (pex R R) R (wle (eal (cs := [iv 0, (sl hn)]) za_26) R fun b3 => (wls (sbx (cs' := [iv v4.1.Size, (sl x4)]) tk_26 pz R R R R R R R) (asg R R (wnt (wcg (mv R R (wlq (v := .agg #[iv a_b.Size, (sl v0a)]) (plb tk_26 pk3 R R R) R (wlq (v := .agg #[iv v4.1.Size, (sl x4)]) (plb tk_26 pz R R R) R (bdO t1 fun v5 hv5 t1 => (wlc (cz0 fa_38 R fun w hw => c_impl_BestLikeness w a_b v0a (ra r0 hw) v4.1 x4 (Rg.on (rgo pk1) hw) hv5) R fun _ => (wlq (po_max R R) R (asg R R (wln (wqb (wqt (wcg (wlq (po_inc R R (by omega)) R ?_)))))))))))))))))))))))))))))))))))))
 exact mv R R (wln (wq_rnd hk1 (stpN l1 t1) () (su5 R R R R R) (zc pk2 (zc pk2 zn))))
 have c1 : (decide (((k1 : Nat) : Int) < v3)) = false := ddf (by omega)
 have en1 := foe l1 hk1
 exact wcr (wlq (pls R R) R (wnt (wcs (wff R c1 (wcx (wqe (wqe (wbx (wjm _ () (Sum.inl.inj en1) (su1 R) zn)))))))))
 intro e1 _ hp
 obtain rfl : e1 = y1 := hp.symm
 refine wqt (wcr (mv R R (asg R R (wnt (wct ?_)))))
 obtain rfl := oi t0
 exact wq1 R R fun w hw => ⟨R, hw.weak zn⟩

theorem c_impl_VerdictOn (w : World) (a_e : GEntry) (v0a : Hd) (r0 : rdF w (dm w []) (sl v0a) a_e.Block.Cells) (a_f : GEntry) (v1a : Hd) (r1 : rdF w (dm w []) (sl v1a) a_f.Block.Cells) {r : Int} (t0 : impl_VerdictOn a_e a_f = some r) : Calls Tryz.prog 6 #[.agg #[.int .i64 a_e.Owner, .int .i64 a_e.Day, .int .i64 a_e.Block.Size, (sl v0a)], .agg #[.int .i64 a_f.Owner, .int .i64 a_f.Day, .int .i64 a_f.Block.Size, (sl v1a)]] w fun e w' => e = .returned (.int .i64 r) ∧ SH w [] [] w' := by
 refine cwc (args := [_, _]) Tryz.func6 R Tryz.ntmps6 R ?_
 unfold impl_VerdictOn at t0
 refine wcr (wle (eo_box R R) R fun b1 => (wle (eo_box R R) R fun b2 => (asg R R (wnt (wcs (wcb (wcs (bdO t0 fun y1 t1 t0 => (wj (J := Bool) (X := Unit) (fun z => y1 = z) (fun z _ => [(2, ptr b1 0), (3, ptr b2 0), (5, .bool z)]) (fun _ _ => [box b2 [iv a_f.Owner, iv a_f.Day, iv a_f.Block.Size, (sl v1a)], box b1 [iv a_e.Owner, iv a_e.Day, iv a_e.Block.Size, (sl v0a)]]) ?_ ?_)))))))))
 refine wcg (wlq (v := .agg #[iv a_e.Owner, iv a_e.Day, iv a_e.Block.Size, (sl v0a)]) (plb tk_28 pk1 R R R) R (bdO t1 fun v1 hv1 t1 => (wlc (cz0 fa_13 R fun w hw => c_impl_EntryOk w a_e v0a (ra r0 hw) hv1) R fun _ => (wlq (po_not R) R (mv R R (wlo (t := 9) t1 R (fun h1 t1 => ?_) fun h1 t1 => ?_))))))
 exact wgf (j := 3) R R R R R (wgf (j := 3) R R R R R (wgf (j := 3) R R R R R (wlq (pit R R) R (mv R R (wgf (j := 8) R R R R R (wgf (j := 8) R R R R R (wgf (j := 8) R R R R R (wgf (j := 8) R R R R R (wgf (j := 8) R R R R R (wgf (j := 8) R R R R R (wgf (j := 8) R R R R R (wlq (pit R R) R (asg R R (wln (wjm _ () (mtE t1) (su3 R R R) so2)))))))))))))))
 refine wgn (j := 3) R R R (wlq (v := .agg #[iv a_f.Owner, iv a_f.Day, iv a_f.Block.Size, (sl v1a)]) (plb tk_28 pz R R R) R (bdO t1 fun v2 hv2 t1 => (wgn (j := 3) R R R (wlc (cz0 fa_13 R fun w hw => c_impl_EntryOk w a_f v1a (ra r1 hw) hv2) R (fun _ => (wgn (j := 3) R R R (wlq (po_not R) R (wlq (pif R R) R (mv R R (wlo (t := 14) t1 R (fun h2 t1 => ?_) fun h2 t1 => ?_))))))))))
 exact wgf (j := 8) R R R R R (wgf (j := 8) R R R R R (wgf (j := 8) R R R R R (wgf (j := 8) R R R R R (wgf (j := 8) R R R R R (wgf (j := 8) R R R R R (wgf (j := 8) R R R R R (wlq (pit R R) R (asg R R (wln (wjm _ () (mtE t1) (su3 R R R) so2))))))))))
 exact wgn (j := 8) R R R (wlq (pof fo_28_2 R) R (wgn (j := 8) R R R (wlq (pof fo_26_0 R) R (wgn (j := 8) R R R (wlq (v := iv a_e.Block.Size) (plx tk_3 pk1 R R) R (wgn (j := 8) R R R (wlq (pof fo_28_2 R) R (wgn (j := 8) R R R (wlq (pof fo_26_0 R) R (wgn (j := 8) R R R (wlq (v := iv a_f.Block.Size) (plx tk_3 pz R R) R (wgn (j := 8) R R R (wlq (po_neq R R) R (wlq (pif R R) R (asg R R (wln (wjm _ () (mtE t1) (su3 R R R) so2)))))))))))))))))
 intro j1 _ hp
 obtain rfl : j1 = y1 := hp.symm
 refine wqt (wcO t0 R (fun h3 t0 => ?_) fun h3 t0 => ?_)
 refine wcr (asg R R (wnt (wct (wbr (wqr ?_)))))
 obtain rfl := oi t0
 exact wq1 R R fun w hw => ⟨R, hw.weak zn⟩
 refine wcr (wlq (pof fo_28_2 R) R (wlq (v := .agg #[iv a_e.Block.Size, (sl v0a)]) (plb tk_26 pk1 R R R) R (wlq (pof fo_28_2 R) R (wlq (v := .agg #[iv a_f.Block.Size, (sl v1a)]) (plb tk_26 pz R R R) R (bdO t0 fun v3 hv3 t0 => (wlc (cz0 fa_17 R fun w hw => c_impl_ArePatternsSame w a_e.Block v0a (ra r0 hw) a_f.Block v1a (ra r1 hw) hv3) R fun _ => (asg R R (wnt (wcO t0 R (fun h4 t0 => ?_) fun h4 t0 => ?_)))))))))
 refine wcr (asg R R (wnt (wct (wbr (wqr ?_)))))
 obtain rfl := oi t0
 exact wq1 R R fun w hw => ⟨R, hw.weak zn⟩
 refine wcs (wcd [box b2 [iv a_f.Owner, iv a_f.Day, iv a_f.Block.Size, (sl v1a)], box b1 [iv a_e.Owner, iv a_e.Day, iv a_e.Block.Size, (sl v0a)]] 13 mixed (aq 0 R (pof fo_28_2 R) so2 R (aq (v := .agg #[iv a_e.Block.Size, (sl v0a)]) 1 R (plb tk_26 pk1 R R R) so2 R (aq 2 R (pof fo_28_2 R) so2 R (aq (v := .agg #[iv a_f.Block.Size, (sl v1a)]) 3 R (plb tk_26 pz R R R) so2 R (aq 6 R (pof fo_28_2 R) so2 R (aq 7 R (pof fo_26_1 R) so2 R (aq (v := (sl v0a)) 8 R (plx tk_24 pk1 R R) so2 R (aq 9 R (pln (rga r0) el_24 R) so2 R (aq 10 R (po_mul R R) so2 R (a1 4 (bdO t0 fun v4 hv4 t0 => (wsc R (cz0 fa_18 R fun w hw => c_impl_PatternLikeness w a_e.Block v0a (ra r0 hw) a_f.Block v1a (ra r1 hw) hv4) (fun _ => (zt so2)) R fun _ => (aq 5 R (po_mul R R) so2 R (aq 11 R (po_geq R R) so2 R (aq 12 R (po_assign R) so2 R (ae (wqt (wcO t0 R (fun h5 t0 => ?_) fun h5 t0 => ?_)))))))))))))))))))
 refine wcr (asg R R (wnt (wct (wbr (wqr ?_)))))
 obtain rfl := oi t0
 exact wq1 R R fun w hw => ⟨R, hw.weak zn⟩
 refine wck (wqb (wqt (wcr (asg R R (wnt (wct ?_))))))
 obtain rfl := oi t0
 exact wq1 R R fun w hw => ⟨R, hw.weak zn⟩

theorem c_impl_WitnessOf (w : World) (a_e : GEntry) (v0a : Hd) (r0 : rdF w (dm w []) (sl v0a) a_e.Block.Cells) (a_f : GEntry) (v1a : Hd) (r1 : rdF w (dm w []) (sl v1a) a_f.Block.Cells) {r : Int} (t0 : impl_WitnessOf a_e a_f = some r) : Calls Tryz.prog 7 #[.agg #[.int .i64 a_e.Owner, .int .i64 a_e.Day, .int .i64 a_e.Block.Size, (sl v0a)], .agg #[.int .i64 a_f.Owner, .int .i64 a_f.Day, .int .i64 a_f.Block.Size, (sl v1a)]] w fun e w' => e = .returned (.int .i64 r) ∧ SH w [] [] w' := by
 refine cwc (args := [_, _]) Tryz.func7 R Tryz.ntmps7 R ?_
 unfold impl_WitnessOf at t0
 refine wcr (wle (eo_box R R) R fun b1 => (wle (eo_box R R) R fun b2 => (asg R R (wnt (wcs (wcs (bdO t0 fun y1 t1 t0 => (wj (J := Bool) (X := Unit) (fun z => y1 = z) (fun z _ => [(2, ptr b1 0), (3, ptr b2 0), (15, .bool z)]) (fun _ _ => [box b2 [iv a_f.Owner, iv a_f.Day, iv a_f.Block.Size, (sl v1a)], box b1 [iv a_e.Owner, iv a_e.Day, iv a_e.Block.Size, (sl v0a)]]) ?_ ?_))))))))
 refine wcg (wlq (v := .agg #[iv a_e.Owner, iv a_e.Day, iv a_e.Block.Size, (sl v0a)]) (plb tk_28 pk1 R R R) R (bdO t1 fun v1 hv1 t1 => (wlc (cz0 fa_13 R fun w hw => c_impl_EntryOk w a_e v0a (ra r0 hw) hv1) R fun _ => (wlq (po_not R) R (mv R R (wlo (t := 11) t1 R (fun h1 t1 => ?_) fun h1 t1 => ?_))))))
 exact wgf (j := 3) R R R R R (wgf (j := 3) R R R R R (wgf (j := 3) R R R R R (wlq (pit R R) R (wln (wjm _ () (mtE t1) (su3 R R R) so2)))))
 exact wgn (j := 3) R R R (wlq (v := .agg #[iv a_f.Owner, iv a_f.Day, iv a_f.Block.Size, (sl v1a)]) (plb tk_28 pz R R R) R (bdO t1 fun v2 hv2 t1 => (wgn (j := 3) R R R (wlc (cz0 fa_13 R fun w hw => c_impl_EntryOk w a_f v1a (ra r1 hw) hv2) R (fun _ => (wgn (j := 3) R R R (wlq (po_not R) R (wlq (pif R R) R (wln (wjm _ () (mtE t1) (su3 R R R) so2))))))))))
 intro j1 _ hp
 obtain rfl : j1 = y1 := hp.symm
 refine wqt (wcO t0 R (fun h2 t0 => ?_) fun h2 t0 => ?_)
 refine wcr (asg R R (wnt (wct (wqr ?_))))
 obtain rfl := oi t0
 exact wq1 R R fun w hw => ⟨R, hw.weak zn⟩
 refine wck (wqt (wcr (wlq (pof fo_28_2 R) R (wlq (v := .agg #[iv a_e.Block.Size, (sl v0a)]) (plb tk_26 pk1 R R R) R (bdO t0 fun v3 hv3 t0 => (wlc (cz1 fa_19 R fun w hw => c_impl_plain w a_e.Block v0a (ra r0 hw) hv3) R fun x2 => (wle (eal (cs := [iv 0, (sl hn)]) za_26) R fun b3 => (wls (sbx (cs' := [iv v3.Size, (sl x2)]) tk_26 pz R R R R R R R) (wnt (wcs (wcr (wlq (pof fo_28_2 R) R (wlq (v := .agg #[iv a_f.Block.Size, (sl v1a)]) (plb tk_26 pk2 R R R) R (bdO t0 fun v4 hv4 t0 => (wlc (cz1 fa_20 R fun w hw => c_impl_views w a_f.Block v1a (ra r1 hw) hv4) R fun x3 => (wlq (pln (rgo pz) el_47 R) R (mv R R (wnt (gdO t0 fun g1 t0 => (sqO t0 fun y1 l1 t0 => (wj (J := Unit) (X := Unit) (fun z => y1 = .inl z) (fun _ _ => []) (fun _ _ => []) ?_ ?_)))))))))))))))))))))
 refine wcb (wcf (X := Unit) l1 (fun k1 s1 x1l => [(5, ptr b3 0), (21, (sl x3.1)), (22, iv ((v4.length : Nat) : Int)), (23, iv ((k1 : Nat) : Int))]) (fun k1 s1 x1l => [own (sl x3.1) x3.2 v4, box b3 [iv v3.Size, (sl x2)], ownF (sl x2) v3.Cells]) () (su4 R R R R) so3 fun k1 s1 x1l hN1 l1 => ?_)
 by_cases hk1 : k1 < v4.length
 refine fos l1 hk1 fun _ t1 l1 => ?_
 unfold impl_WitnessOf_L1 at t1
 have c1 : (decide (((k1 : Nat) : Int) < ((v4.length : Nat) : Int))) = true := ddt (by omega)
 refine wcr (wlq (pls R R) R (wnt (wcs (wft R c1 (wck (wqt (wcs (wcb (wcr (mv R R (wlq (po_ixn (k := k1) (rgo pz) el_47 R R hk1) R (wl_elem (rgo pz) hk1 ?_))))))))))))
 rintro ⟨_, _, he1⟩
 obtain ⟨w1, hc1, _⟩ := rd_GBlock.1 he1
 refine wlq (v := .agg #[iv ((gx v4 k1).Size), (sl w1)]) (po_ldns (rgo pz) tk_26 R hc1 R R R) R (wle (eal (cs := [iv 0, (sl hn)]) za_26) R fun b4 => (asg R R (wls (sbx (cs' := [iv ((gx v4 k1).Size), (sl w1)]) tk_26 pz R R R R R R R) (wnt (wcs (wcd [box b4 [iv ((gx v4 k1).Size), (sl w1)], own (sl x3.1) x3.2 v4, box b3 [iv v3.Size, (sl x2)], ownF (sl x2) v3.Cells] 4 mixed (aq (v := .agg #[iv ((gx v4 k1).Size), (sl w1)]) 0 R (plb tk_26 pz R R R) so4 R (aq (v := .agg #[iv v3.Size, (sl x2)]) 2 R (plb tk_26 pk2 R R R) so4 R (a1 1 (bdO t1 fun v5 hv5 t1 => (wsc R (cz1 fa_19 R fun w hw => c_impl_plain w (gx v4 k1) w1 (Rg.on (er_GBlock_0 hc1 (rgo pk1) hk1) hw) hv5) (fun _ => (zt (zc pk1 (zc pk1 (zc pk1 (zc pk1 zn)))))) R fun x5 => (a1 3 (bdO t1 fun v6 hv6 t1 => (wsc R (cz0 fa_21 R fun w hw => c_impl_SameBlock w v5 x5 (Rg.on (rgo pz) hw) v3 x2 (Rg.on (rgo pk4) hw) hv6) (fun _ => (zt (zc pk1 (zc pk1 (zc pk1 (zc pk1 zn)))))) R fun _ => (ae (wqt (wcO t1 R (fun h3 t1 => ?_) fun h3 t1 => ?_)))))))))))))))))
 refine wcr (mv R R (asg R R (wnt (wct (wbr (wqr (wqr (wbr (wqr (wqr ?_))))))))))
 replace t0 := lpR t0 l1 t1
 obtain rfl := oi t0
 exact wq1 R R fun w hw => ⟨R, hw.weak zn⟩
 refine wck (wqb (wqt (wcg (wlq (po_inc R R (by omega)) R ?_))))
 exact mv R R (wln (wq_rnd hk1 (stpN l1 t1) () (su4 R R R R) (zc pk2 (zc pk2 (zc pk2 zn)))))
 have c1 : (decide (((k1 : Nat) : Int) < ((v4.length : Nat) : Int))) = false := ddf (by omega)
 have en1 := foe l1 hk1
 exact wcr (wlq (pls R R) R (wnt (wcs (wff R c1 (wcx (wqe (wqe (wbx (wjm _ () en1 yn zn)))))))))
 intro e1 _ hp
 replace t0 := sqE (j := e1) t0 hp
 refine wqt (wcr (asg R R (wnt (wct ?_))))
 obtain rfl := oi t0
 exact wq1 R R fun w hw => ⟨R, hw.weak zn⟩

theorem c_impl_IsCopy (w : World) (a_e : GEntry) (v0a : Hd) (r0 : rdF w (dm w []) (sl v0a) a_e.Block.Cells) (a_f : GEntry) (v1a : Hd) (r1 : rdF w (dm w []) (sl v1a) a_f.Block.Cells) {r : Bool} (t0 : impl_IsCopy a_e a_f = some r) : Calls Tryz.prog 8 #[.agg #[.int .i64 a_e.Owner, .int .i64 a_e.Day, .int .i64 a_e.Block.Size, (sl v0a)], .agg #[.int .i64 a_f.Owner, .int .i64 a_f.Day, .int .i64 a_f.Block.Size, (sl v1a)]] w fun e w' => e = .returned (.bool r) ∧ SH w [] [] w' := by
 refine cwc (args := [_, _]) Tryz.func8 R Tryz.ntmps8 R ?_
 unfold impl_IsCopy at t0
 refine wcr (wle (eo_box R R) R fun b1 => (wle (eo_box R R) R fun b2 => (asg R R (wnt (wcs (bdO t0 fun y1 t1 t0 => (wj (J := Bool) (X := Unit) (fun z => y1 = z) (fun z _ => [(4, .bool z)]) (fun _ _ => []) ?_ ?_)))))))
 refine wcg (wlq (pof fo_28_0 R) R (wlq (v := iv a_e.Owner) (plx tk_3 pk1 R R) R (wlq (pof fo_28_0 R) R (wlq (v := iv a_f.Owner) (plx tk_3 pz R R) R (wlq (po_neq R R) R (mv R R (wlo (t := 10) t1 R (fun h1 t1 => ?_) fun h1 t1 => ?_)))))))
 refine wgn (j := 5) R R R (wlq (pof fo_28_1 R) R (wgn (j := 5) R R R (wlq (v := iv a_e.Day) (plx tk_3 pk1 R R) R (wgn (j := 5) R R R (wlq (pof fo_28_1 R) R (wgn (j := 5) R R R (wlq (v := iv a_f.Day) (plx tk_3 pz R R) R (wgn (j := 5) R R R (wlq (po_gtr R R) R (wlq (pit R R) R (mv R R (wlo (t := 17) t1 R (fun h2 t1 => ?_) fun h2 t1 => ?_))))))))))))
 exact wgn (j := 12) R R R (wlq (v := .agg #[iv a_e.Owner, iv a_e.Day, iv a_e.Block.Size, (sl v0a)]) (plb tk_28 pk1 R R R) R (wgn (j := 12) R R R (wlq (v := .agg #[iv a_f.Owner, iv a_f.Day, iv a_f.Block.Size, (sl v1a)]) (plb tk_28 pz R R R) R (bdO t1 fun v1 hv1 t1 => (wgn (j := 12) R R R (wlc (cz0 fa_6 R fun w hw => c_impl_VerdictOn w a_e v0a (ra r0 hw) a_f v1a (ra r1 hw) hv1) R (fun _ => (wgn (j := 12) R R R (wlq (po_geq R R) R (wlq (pit R R) R (asg R R (wln (wjm _ () (mtE t1) (su1 R) zn)))))))))))))
 exact wgf (j := 12) R R R R R (wgf (j := 12) R R R R R (wgf (j := 12) R R R R R (wgf (j := 12) R R R R R (wlq (pif R R) R (asg R R (wln (wjm _ () (mtE t1) (su1 R) zn)))))))
 exact wgf (j := 5) R R R R R (wgf (j := 5) R R R R R (wgf (j := 5) R R R R R (wgf (j := 5) R R R R R (wgf (j := 5) R R R R R (wlq (pif R R) R (mv R R (wgf (j := 12) R R R R R (wgf (j := 12) R R R R R (wgf (j := 12) R R R R R (wgf (j := 12) R R R R R (wlq (pif R R) R (asg R R (wln (wjm _ () (mtE t1) (su1 R) zn))))))))))))))
 intro j1 _ hp
 obtain rfl : j1 = y1 := hp.symm
 refine wqt (wct ?_)
 obtain rfl := oi t0
 exact wq1 R R fun w hw => ⟨R, hw.weak zn⟩

theorem c_spec_EntryOk (w : World) (a_e : GEntry) (v0a : Hd) (r0 : rdF w (dm w []) (sl v0a) a_e.Block.Cells) {r : Bool} (t0 : spec_EntryOk a_e = some r) : Calls Tryz.prog 9 #[.agg #[.int .i64 a_e.Owner, .int .i64 a_e.Day, .int .i64 a_e.Block.Size, (sl v0a)]] w fun e w' => e = .returned (.bool r) ∧ SH w [] [] w' := by
 refine cwc (args := [_]) Tryz.func9 R Tryz.ntmps9 R ?_
 unfold spec_EntryOk at t0
 refine wcr (wle (eo_box R R) R fun b1 => (asg R R (wnt (wcs (bdO t0 fun y1 t1 t0 => (wj (J := Bool) (X := Unit) (fun z => y1 = z) (fun z _ => [(2, .bool z)]) (fun _ _ => []) ?_ ?_))))))
 refine wcg (wlq (pof fo_28_0 R) R (wlq (v := iv a_e.Owner) (plx tk_3 pz R R) R (bdO t1 fun v1 hv1 t1 => (wlc (cz0 fa_22 R fun w hw => c_spec_l01In w a_e.Owner 0 99 hv1) R fun _ => (mv R R (wlo (t := 6) t1 R (fun h1 t1 => ?_) fun h1 t1 => ?_))))))
 refine wgn (j := 3) R R R (wlq (pof fo_28_1 R) R (wgn (j := 3) R R R (wlq (v := iv a_e.Day) (plx tk_3 pz R R) R (bdO t1 fun v2 hv2 t1 => (wgn (j := 3) R R R (wlc (cz0 fa_22 R fun w hw => c_spec_l01In w a_e.Day 0 9999 hv2) R (fun _ => (wlq (pit R R) R (mv R R (wlo (t := 11) t1 R (fun h2 t1 => ?_) fun h2 t1 => ?_))))))))))
 exact wgn (j := 8) R R R (wlq (pof fo_28_2 R) R (wgn (j := 8) R R R (wlq (v := .agg #[iv a_e.Block.Size, (sl v0a)]) (plb tk_26 pz R R R) R (bdO t1 fun v3 hv3 t1 => (wgn (j := 8) R R R (wlc (cz0 fa_23 R fun w hw => c_spec_BlockOk w a_e.Block v0a (ra r0 hw) hv3) R (fun _ => (wlq (pit R R) R (asg R R (wln (wjm _ () (mtE t1) (su1 R) zn)))))))))))
 exact wgf (j := 8) R R R R R (wgf (j := 8) R R R R R (wgf (j := 8) R R R R R (wlq (pif R R) R (asg R R (wln (wjm _ () (mtE t1) (su1 R) zn))))))
 exact wgf (j := 3) R R R R R (wgf (j := 3) R R R R R (wgf (j := 3) R R R R R (wlq (pif R R) R (mv R R (wgf (j := 8) R R R R R (wgf (j := 8) R R R R R (wgf (j := 8) R R R R R (wlq (pif R R) R (asg R R (wln (wjm _ () (mtE t1) (su1 R) zn)))))))))))
 intro j1 _ hp
 obtain rfl : j1 = y1 := hp.symm
 refine wqt (wct ?_)
 obtain rfl := oi t0
 exact wq1 R R fun w hw => ⟨R, hw.weak zn⟩

theorem c_spec_SwapList (w : World) (a_a : Int) (a_b : Int) {r : List Int} (t0 : spec_SwapList a_a a_b = some r) : Calls Tryz.prog 47 #[.int .i64 a_a, .int .i64 a_b] w fun e w' => ∃ x : Hd, e = .returned ((sl x)) ∧ SH w [] [ownF (sl x) r] w' := by
 refine cwc (args := [_, _]) Tryz.func47 R Tryz.ntmps47 R ?_
 unfold spec_SwapList at t0
 refine wcr (asg R R (wnt (wcs (wcs (bdO t0 fun y1 t1 t0 => (wj (J := Bool) (X := Unit) (fun z => y1 = z) (fun z _ => [(0, iv a_a), (1, iv a_b), (13, .bool z)]) (fun _ _ => []) ?_ ?_))))))
 refine wcg (mv R R (bdO t1 fun v1 hv1 t1 => (wlc (cz0 fa_22 R fun w hw => c_spec_l01In w a_a 0 5 hv1) R fun _ => (wlq (po_not R) R (mv R R (wlo (t := 9) t1 R (fun h1 t1 => ?_) fun h1 t1 => ?_))))))
 exact wgf (j := 3) R R R R R (wgf (j := 3) R R R R R (wgf (j := 3) R R R R R (wlq (pit R R) R (wln (wjm _ () (mtE t1) (su3 R R R) zn)))))
 exact wgn (j := 3) R R R (mv R R (bdO t1 fun v2 hv2 t1 => (wgn (j := 3) R R R (wlc (cz0 fa_22 R fun w hw => c_spec_l01In w a_b 0 5 hv2) R (fun _ => (wgn (j := 3) R R R (wlq (po_not R) R (wlq (pif R R) R (wln (wjm _ () (mtE t1) (su3 R R R) zn))))))))))
 intro j1 _ hp
 obtain rfl : j1 = y1 := hp.symm
 refine wqt (wcO t0 R (fun h2 t0 => ?_) fun h2 t0 => ?_)
 refine wcr (wle (ebs R sb_38_0) R fun b1 => (asg R R (wnt (wct (wqr ?_)))))
 obtain rfl := oi t0
 exact wq1 R R fun w hw => ⟨(⟨some ⟨b1, 0, none⟩, 0, 0⟩ : Hd), R, hw.weak (zc (pbo pz (n := 0) (xs := ([] : List Int)) R R (by unfold maxLen; omega)) zn)⟩
 refine wck (wqt (wcr (bdO t0 fun v3 hv3 t0 => (wlc (cz1 fa_73 R fun w hw => c_spec_l06Same w hv3) R fun x2 => (asg R R (wnt (wcr (mv R R (mv R R (mv R R (gdO t0 fun g1 t0 => (wlq (po_ixr (rgo pz) el_38 R R g1.1 g1.2) R (wls (so_own (x' := a_b) tk_3 pz R R R R R R (ix_lt g1) R) (wnt (wcr (mv R R (mv R R (mv R R (gdO t0 fun g2 t0 => (wlq (po_ixr (rgo pz) el_38 R R g2.1 g2.2) R (wls (so_own (x' := a_a) tk_3 pz R R R R R R (ix_lt g2) R) (wnt (wcr (mv R R (asg R R (wnt (wct ?_)))))))))))))))))))))))))))
 obtain rfl := oi t0
 exact wq1 R R fun w hw => ⟨x2, R, hw.weak so1⟩

theorem c_spec_l30List (w : World) (fp : List Nat) (b0p : Nat) (a_c0 : List UInt8) (v0a : Hd) (r0 : rdF w (dm w fp) (sl v0a) a_c0) (a_c1 : Int) (a_c2 : Int) (o : Ow w [box b0p [(sl v0a), .int .i64 a_c1, .int .i64 a_c2]] fp) {r : (List GEntry) × Int × Int} (t0 : spec_l30List a_c0 a_c1 a_c2 = some r) : Calls Tryz.prog 24 #[ptr b0p 0] w fun e w' => ∃ x : Hd × (List Value), e = .returned ((sl x.1)) ∧ SH w fp [own (sl x.1) x.2 r.1, box b0p [(sl v0a), .int .i64 r.2.1, .int .i64 r.2.2]] w' := by
 refine calls_of_wc_own (args := [_]) o Tryz.func24 R Tryz.ntmps24 R ?_
 unfold spec_l30List at t0
 refine wcr (asg R R (wnt (wcr (wle (ebs R sb_34_0) R fun b1 => (asg R R (wnt (wcr (mv R R (bdO t0 fun v1 hv1 t0 => (wlc (co_o1 [box b0p [(sl v0a), iv a_c1, iv a_c2]] fa_31 (zc pk1 some_refl) R fun w fp hw => c_spec_l01Below w fp b0p a_c0 v0a ((rdo_arg r0) w fp hw) a_c1 a_c2 5 hw.ow hv1) R fun _ => (asg R R (wnt (wcs (wcr (asg R R (wnt (gdO t0 fun g1 t0 => (lpO_inv t0 fun y1 l1 t0 => (wj (J := (List GEntry) × Int × Int) (X := Hd × (List Value)) (fun z => y1 = z) (fun _ x => [(3, (sl x.1))]) (fun z x => [box b0p [(sl v0a), iv z.2.1, iv z.2.2], own (sl x.1) x.2 z.1]) ?_ ?_)))))))))))))))))))
 refine wcb (wcf (X := Hd × (List Value)) l1 (fun k1 s1 x1l => [(0, ptr b0p 0), (3, (sl x1l.1)), (4, iv v1.1), (5, iv ((k1 : Nat) : Int))]) (fun k1 s1 x1l => [box b0p [(sl v0a), iv s1.2.1, iv s1.2.2], own (sl x1l.1) x1l.2 s1.1]) ((⟨some ⟨b1, 0, none⟩, 0, 0⟩ : Hd), []) (su4 R R R R) (zc pz (zc (pick_box_nil pz) zn)) fun k1 s1 x1l hN1 l1 => ?_)
 by_cases hk1 : k1 < (v1.1).toNat
 refine fos l1 hk1 fun _ t1 l1 => ?_
 unfold spec_l30List_L1 at t1
 have c1 : (decide (((k1 : Nat) : Int) < v1.1)) = true := ddt (by omega)
 refine wcs (wcr (mv R R (mv R R (wlq (pls R R) R (wnt (wft R c1 (wck (wqt (wcs (wcb (wcr (wlq (po_build R (bd_26_0 2)) R (wle (eal (cs := [iv 0, (sl hn)]) za_26) R fun b2 => (wls (sbx (cs' := [iv 2, (sl hn)]) tk_26 pz R R R R R R R) (wnt (wcs (wcr (asg R R (wnt (lpO_inv t1 fun y2 l2 t1 => (wj (J := (List GCell) × Int × Int) (X := Hd) (fun z => y2 = z) (fun _ _ => [(0, ptr b0p 0), (3, (sl x1l.1)), (4, iv v1.1), (5, iv ((k1 : Nat) : Int)), (6, ptr b2 0)]) (fun z x => [box b2 [iv 2, (sl x)], box b0p [(sl v0a), iv z.2.1, iv z.2.2], own (sl x1l.1) x1l.2 s1.1, ownF (sl x) z.1]) ?_ ?_)))))))))))))))))))))
 refine wcb (wcf (X := Hd) l2 (fun k2 s2 x2l => [(0, ptr b0p 0), (3, (sl x1l.1)), (4, iv v1.1), (5, iv ((k1 : Nat) : Int)), (6, ptr b2 0), (7, iv ((k2 : Nat) : Int))]) (fun k2 s2 x2l => [box b2 [iv 2, (sl x2l)], box b0p [(sl v0a), iv s2.2.1, iv s2.2.2], own (sl x1l.1) x1l.2 s1.1, ownF (sl x2l) s2.1]) hn (su6 R R R R R R) (zc pz (zc pz (zc pz (zc pick_nil zn)))) fun k2 s2 x2l hN2 l2 => ?_)
 by_cases hk2 : k2 < 4
 refine fos l2 hk2 fun _ t2 l2 => ?_
 unfold spec_l30List_L2 at t2
 have c2 : (decide (((k2 : Nat) : Int) < 4)) = true := ddt (by omega)
 refine wcs (wcr (mv R R (wlq (pls R R) R (wnt (wft R c2 (wck (wqt (wcs (wcb (wcr (mv R R (bdO t2 fun v2 hv2 t2 => (wlc (co_o1 [box b0p [(sl v0a), iv s2.2.1, iv s2.2.2]] fa_43 (zc pk1 some_refl) R fun w fp hw => c_spec_l02Cell w fp b0p a_c0 v0a ((rdo_arg r0) w fp hw) s2.2.1 s2.2.2 hw.ow hv2) R fun _ => (wle (eal (cs := [iv 0, iv 0, iv 0]) za_55) R fun b3 => (wls (sbx (cs' := [iv v2.1.Split, iv v2.1.A, iv v2.1.B]) tk_55 pz R R R R R R R) (wnt (wcg (wlq (pof fo_26_1 R) R (wlq (v := (sl x2l)) (plx tk_24 pk2 R R) R (wlq (v := .agg #[iv v2.1.Split, iv v2.1.A, iv v2.1.B]) (plb tk_55 pz R R R) R (wle (ebs R (sb_24_1 v2.1.Split v2.1.A v2.1.B)) R fun b4 => (gdO t2 fun g2 t2 => (wle (eo_append (xs := s2.1) (ys := ([v2.1] : List GCell)) ak_24 pk5 R R (slin_rd fun _ g => Rg.on (rgo (pbo pz (n := 1) (xs := ([v2.1] : List GCell)) R R (by unfold maxLen; omega))) g) g2) R fun x3 => ?_)))))))))))))))))))))))
 refine wlq (pof fo_26_1 R) R (wls (sbx (cs' := [iv 2, (sl x3)]) tk_24 pk4 R R R R R R R) (wln (wqb (wqt (wcg (mv R R (wlq (po_inc R R (by omega)) R ?_)))))))
 exact asg R R (wln (wq_rnd hk2 (stpN l2 t2) x3 (su6 R R R R R R) (zc pz (zc pk3 (zc pk3 so1)))))
 have c2 : (decide (((k2 : Nat) : Int) < 4)) = false := ddf (by omega)
 have en1 := foe l2 hk2
 exact wcs (wcr (mv R R (wlq (pls R R) R (wnt (wff R c2 (wcx (wqe (wqe (wbx (wjm _ x2l (Sum.inl.inj en1) (su5 R R R R R) so4))))))))))
 intro e2 x2 hp
 obtain rfl : e2 = y2 := hp.symm
 refine wqt (wcs (wcs (bdO t1 fun y2 t2 t1 => (wj (J := Bool × Gl01Cur) (X := Unit) (fun z => y2 = z) (fun z _ => [(0, ptr b0p 0), (3, (sl x1l.1)), (4, iv v1.1), (5, iv ((k1 : Nat) : Int)), (6, ptr b2 0), (35, .bool z.1)]) (fun z _ => [box b0p [(sl v0a), iv ((z.2).i), iv ((z.2).h)], box b2 [iv 2, (sl x2)], own (sl x1l.1) x1l.2 s1.1, ownF (sl x2) e2.1]) ?_ ?_))))
 refine wcg (mv R R (wlq (po_gtr R R) R (mv R R (wlo (t := 32) t2 R (fun h1 t2 => ?_) fun h1 t2 => ?_))))
 exact wgn (j := 2) R R R (mv R R (bdO t2 fun v3 hv3 t2 => (wgn (j := 2) R R R (wlc (co_o1 [box b0p [(sl v0a), iv e2.2.1, iv e2.2.2]] fa_44 (zc pk1 some_refl) R fun w fp hw => c_spec_l01Once w fp b0p a_c0 v0a ((rdo_arg r0) w fp hw) e2.2.1 e2.2.2 2 hw.ow hv3) R (fun _ => (wlq (pit R R) R (wln (wjm _ () (mtE t2) (su6 R R R R R R) so4))))))))
 exact wgf (j := 2) R R R R R (wgf (j := 2) R R R R R (wlq (pif R R) R (wln (wjm _ () (mtE t2) (su6 R R R R R R) (zc pk1 so3)))))
 intro j1 _ hp
 obtain rfl : j1 = y2 := hp.symm
 refine wqt (bdO t1 fun y2 t2 t1 => (wj (J := GBlock × Gl01Cur) (X := Hd) (fun z => y2 = z) (fun _ _ => [(0, ptr b0p 0), (3, (sl x1l.1)), (4, iv v1.1), (5, iv ((k1 : Nat) : Int)), (6, ptr b2 0)]) (fun z x => [box b2 [iv ((z.1).Size), (sl x)], box b0p [(sl v0a), iv ((z.2).i), iv ((z.2).h)], own (sl x1l.1) x1l.2 s1.1, ownF (sl x) ((z.1).Cells)]) ?_ ?_))
 refine wcO t2 R (fun h2 t2 => ?_) fun h2 t2 => ?_
 refine gdO t2 fun g3 t2 => bdO t2 fun v4 hv4 t2 => bdO t2 fun v5 hv5 t2 => bdO t2 fun v6 hv6 t2 => bdO t2 fun v7 hv7 t2 => bdO t2 fun v8 hv8 t2 => bdO t2 fun v9 hv9 t2 => wcj (X := Hd) (fun _ => True) (fun z => [(0, ptr b0p 0), (3, (sl x1l.1)), (4, iv v1.1), (5, iv ((k1 : Nat) : Int)), (6, ptr b2 0)]) (fun z => [box b2 [iv v9.1.Size, (sl z)], ownF (sl z) v9.1.Cells, box b0p [(sl v0a), iv v7.2.1, iv v7.2.2], own (sl x1l.1) x1l.2 s1.1]) ?_ ?_
 refine wcd [box b2 [iv 2, (sl x2)], own (sl x1l.1) x1l.2 s1.1, ownF (sl x2) e2.1] 16 mixed (aq 0 R (pom R) (zc pk1 (zc pk1 (zc pk1 zn))) R (aq 1 R (po_ixn (k := 0) (rgo pk1) el_34 R R g3) (zc pk1 (zc pk1 (zc pk1 zn))) R (aq 2 R (po_sfldr (rgo pk1) g3 fo_28_2 R) (zc pk1 (zc pk1 (zc pk1 zn))) R (wa_elem (rgo pk2) g3 ?_))))
 rintro ⟨_, _, he1⟩
 obtain ⟨w1, hc1, _⟩ := rd_GEntry.1 he1
 refine aq (v := .agg #[iv (((gx s1.1 0).Block).Size), (sl w1)]) 3 R (po_ldns (rgo pk1) tk_26 R hc1 R R R) (zc pk1 (zc pk1 (zc pk1 zn))) R (aq 4 R (pom R) (zc pk1 (zc pk1 (zc pk1 zn))) R (aq 7 R (pom R) (zc pk1 (zc pk1 (zc pk1 zn))) R (aq 9 R (pom R) (zc pk1 (zc pk1 (zc pk1 zn))) R (a1 5 (wsc R (co_o1 [box b0p [(sl v0a), iv ((j1.2).i), iv ((j1.2).h)]] fa_31 (zc pz some_refl) R fun w fp hw => c_spec_l01Below w fp b0p a_c0 v0a ((rdo_arg r0) w fp hw) ((j1.2).i) ((j1.2).h) 8 hw.ow hv4) (fun _ => (zt (zc pk1 (zc pk1 (zc pk1 zn))))) R fun _ => (a1 6 (wsc R (cz1 fa_46 R fun w hw => c_spec_SeenFrom w ((gx s1.1 0).Block) w1 (Rg.on (er_GEntry_0 hc1 (rgo pk2) g3) hw) v4.1 hv5) (fun _ => (zt (zc pk2 (zc pk2 (zc pk2 zn))))) R fun x6 => (a1 8 (wsc R (co_o1 [box b0p [(sl v0a), iv v4.2.1, iv v4.2.2]] fa_31 (zc pk1 some_refl) R fun w fp hw => c_spec_l01Below w fp b0p a_c0 v0a ((rdo_arg r0) w fp hw) v4.2.1 v4.2.2 3 hw.ow hv6) (fun _ => (zt (zc pk2 (zc pk2 (zc pk2 zn))))) R fun _ => (a1 10 (wsc R (co_o1 [box b0p [(sl v0a), iv v6.2.1, iv v6.2.2]] fa_31 (zc pz some_refl) R fun w fp hw => c_spec_l01Below w fp b0p a_c0 v0a ((rdo_arg r0) w fp hw) v6.2.1 v6.2.2 3 hw.ow hv7) (fun _ => (zt (zc pk2 (zc pk2 (zc pk2 zn))))) R fun _ => (a1 11 (wsc R (cz1 fa_47 R fun w hw => c_spec_SwapList w v6.1 v7.1 hv8) (fun _ => (zt (zc pk3 (zc pk3 (zc pk3 zn))))) R fun x7 => (a1 12 (wsc R (cz1 fa_45 R fun w hw => c_spec_ExchangeBlock w v5 x6 (Rg.on (rgo pk2) hw) v8 x7 (Rg.on (rgo pz) hw) hv9) (fun _ => (zt (zc pk4 (zc pk4 (zc pk4 zn))))) R fun x8 => (aq 13 R (pom R) (zc pk4 (zc pk4 (zc pk4 zn))) R (aq 14 R (pex R R) (zc pk4 (zc pk4 (zc pk4 zn))) R (wa_2 (i := 15) (j := 16) (by kernel_rfl) ?_ ?_))))))))))))))))))
 refine ws_pure R (pex R R) (zt (zc pk4 (zc pk4 (zc pk4 zn)))) R (a1 16 (ws_skipop R (sbx (cs' := [iv v9.1.Size, (sl x8)]) tk_26 pk4 R R R R R R R) (sts_past (by kernel_rfl)) ?_))
 exact ae (wqm x8 trivial (su5 R R R R R) (zc pz (zc pz (zc pk1 (zc pk2 zn)))))
 refine ws_skipop R (sbx (cs' := [iv v9.1.Size, (sl x8)]) tk_26 pk4 R R R R R R R) (sts_past (by kernel_rfl)) ?_
 refine a1 15 (ws_pure R (pex R R) (sts_past (by kernel_rfl)) R ?_)
 exact ae (wqm x8 trivial (su5 R R R R R) (zc pz (zc pz (zc pk1 (zc pk2 zn)))))
 intro x9 _
 exact wjm _ x9 (mtE t2) (su5 R R R R R) (zc pz (zc pk1 (zc pk1 so1)))
 exact wck (wjm _ x2 (mtE t2) (su5 R R R R R) (zc pk1 so3))
 intro j2 x5 hp
 obtain rfl : j2 = y2 := hp.symm
 refine wqt (wcd [box b2 [iv ((j2.1).Size), (sl x5)]] 10 mixed (aq 0 R (pom R) so1 R (aq 1 R (pom R) so1 R (aq 3 R (pom R) so1 R (aq (v := .agg #[iv ((j2.1).Size), (sl x5)]) 5 R (plb tk_26 pz R R R) so1 R (a1 2 (bdO t1 fun v10 hv10 t1 => (wsc R (co_o1 [box b0p [(sl v0a), iv ((j2.2).i), iv ((j2.2).h)]] fa_31 (zc pk1 some_refl) R fun w fp hw => c_spec_l01Below w fp b0p a_c0 v0a ((rdo_arg r0) w fp hw) ((j2.2).i) ((j2.2).h) 4 hw.ow hv10) (fun _ => (zt (zc pk1 zn))) R fun _ => (a1 4 (bdO t1 fun v11 hv11 t1 => (wsc R (co_o1 [box b0p [(sl v0a), iv v10.2.1, iv v10.2.2]] fa_31 (zc pz some_refl) R fun w fp hw => c_spec_l01Below w fp b0p a_c0 v0a ((rdo_arg r0) w fp hw) v10.2.1 v10.2.2 50 hw.ow hv11) (fun _ => (zt (zc pk1 zn))) R fun _ => (aq 6 R (po_build R (bd_28_0_1_2 v10.1 v11.1 ((j2.1).Size) x5)) (zc pk1 zn) R (a1 7 (wse R (ebs R (sb_34_1 v10.1 v11.1 ((j2.1).Size) x5)) (fun _ => (zt (zc pk2 zn))) R fun b5 => (a1 8 (gdO t1 fun g4 t1 => (wse R (eo_append_one (us := x1l.2) (xs := s1.1) ak_34 pk3 (pow_GEntry (x := (GEntry.mk v10.1 v11.1 (j2.1))) pk3) pz R R R g4) (fun _ => (zt (zc pk3 zn))) R fun x10 => (aq 9 R (po_assign R) (zc pk3 zn) R (ae (wqb (wqt (wcg (mv R R (wlq (po_inc R R (by omega)) R ?_))))))))))))))))))))))))
 exact asg R R (wln (wq_rnd hk1 (stpN l1 t1) (x10, (x1l.2 ++ [iv v10.1, iv v11.1, iv ((j2.1).Size), (sl x5)])) (su4 R R R R) (zc pk2 so1)))
 have c1 : (decide (((k1 : Nat) : Int) < v1.1)) = false := ddf (by omega)
 have en2 := foe l1 hk1
 exact wcs (wcr (mv R R (mv R R (wlq (pls R R) R (wnt (wff R c1 (wcx (wqe (wqe (wbx (wjm _ (x1l.1, x1l.2) (Sum.inl.inj en2) (su1 R) so2)))))))))))
 intro e1 x1 hp
 obtain rfl : e1 = y1 := hp.symm
 refine wqt (wcr (mv R R (asg R R (wnt (wct ?_)))))
 obtain rfl := oi t0
 exact wq1 R R fun w hw => ⟨(x1.1, x1.2), R, hw.weak (zc pk1 so1)⟩

theorem c_spec_DrawEntries (w : World) (a_code : List UInt8) (v0a : Hd) (r0 : rdF w (dm w []) (sl v0a) a_code) {r : List GEntry} (t0 : spec_DrawEntries a_code = some r) : Calls Tryz.prog 10 #[(sl v0a)] w fun e w' => ∃ x : Hd × (List Value), e = .returned ((sl x.1)) ∧ SH w [] [own (sl x.1) x.2 r] w' := by
 refine cwc (args := [_]) Tryz.func10 R Tryz.ntmps10 R ?_
 unfold spec_DrawEntries at t0
 refine wcr (asg R R (wnt (wcr (mv R R (bdO t0 fun v1 hv1 t0 => (wlc (cz1 fa_16 R fun w hw => c_spec_l01New w a_code v0a (ra r0 hw) hv1) R fun x1 => (bdO t0 fun v2 hv2 t0 => (wlc (co_o2 [box x1 [(sl v0a), iv v1.1, iv v1.2]] fa_24 (zc pz some_refl) R fun w fp hw => c_spec_l30List w fp x1 a_code v0a ((rdo_arg r0) w fp hw) v1.1 v1.2 hw.ow hv2) R fun x2 => (asg R R (wnt (wct ?_)))))))))))
 obtain rfl := oi t0
 exact wq1 R R fun w hw => ⟨(x2.1, x2.2), R, hw.weak so1⟩

theorem c_impl_CopiesIn_c1 (w : World) (a_i : Int) (a_k : Int) (c_p2 : List GEntry) (v0a : Hd) (u0a : List Value) (r0 : RdL w (dm w []) (sl v0a) u0a c_p2) (b2c : Nat) (q2 : Bx w b2c [(sl v0a)]) {r : Bool} (t0 : impl_CopiesIn_c1 a_i a_k c_p2 = some r) : Calls Tryz.prog 26 #[.int .i64 a_i, .int .i64 a_k, ptr b2c 0] w fun e w' => e = .returned (.bool r) ∧ SH w [] [] w' := by
 refine cwc (args := [_, _, _]) Tryz.func26 R Tryz.ntmps26 R ?_
 unfold impl_CopiesIn_c1 at t0
 refine wcr (asg R R (wnt (wcs (wcd [] 10 mixed (aq (v := (sl v0a)) 0 R (po_load_abox q2 tk_34 R R) zn R (aq 1 R (pom R) zn R (gdO t0 fun g1 t0 => (aq 2 R (po_ixr (rga r0) el_34 R R g1.1 g1.2) zn R (wa_elem (rga r0) (ix_lt g1) ?_)))))))))
 rintro ⟨_, _, he1⟩
 obtain ⟨w1, hc1, _⟩ := rd_GEntry.1 he1
 refine aq (v := .agg #[iv ((gx c_p2 ((a_i).toNat)).Owner), iv ((gx c_p2 ((a_i).toNat)).Day), iv (((gx c_p2 ((a_i).toNat)).Block).Size), (sl w1)]) 3 R (po_ldns (rga r0) tk_28 R hc1 R R R) zn R (aq (v := (sl v0a)) 4 R (po_load_abox q2 tk_34 R R) zn R (aq 5 R (pom R) zn R (gdO t0 fun g2 t0 => (aq 6 R (po_ixr (rga r0) el_34 R R g2.1 g2.2) zn R (wa_elem (rga r0) (ix_lt g2) ?_)))))
 rintro ⟨_, _, he2⟩
 obtain ⟨w2, hc2, _⟩ := rd_GEntry.1 he2
 refine aq (v := .agg #[iv ((gx c_p2 ((a_k).toNat)).Owner), iv ((gx c_p2 ((a_k).toNat)).Day), iv (((gx c_p2 ((a_k).toNat)).Block).Size), (sl w2)]) 7 R (po_ldns (rga r0) tk_28 R hc2 R R R) zn R (a1 8 (bdO t0 fun v1 hv1 t0 => (wsc R (cz0 fa_8 R fun w hw => c_impl_IsCopy w (gx c_p2 ((a_i).toNat)) w1 (Rg.on (er_GEntry_0 hc1 (rga r0) (ix_lt g1)) hw) (gx c_p2 ((a_k).toNat)) w2 (Rg.on (er_GEntry_0 hc2 (rga r0) (ix_lt g2)) hw) hv1) (fun _ => (zt zn)) R fun _ => (aq 9 R (po_assign R) zn R (ae (wqt (wct ?_)))))))
 obtain rfl := oi t0
 exact wq1 R R fun w hw => ⟨R, hw.weak zn⟩

theorem c_impl_pairsWhere (w : World) (a_n : Int) (a_holds : Int → Int → Option Bool) (f1 : Nat) (us1 : List Value) (fn1 : FnAt Tryz.prog f1) (hg1 : ∀ (w' : World) (z0 : Int) (z1 : Int) (_ : Keep [] w w') (z : Bool) (_ : a_holds z0 z1 = some z), Calls Tryz.prog f1 (([.int .i64 z0, .int .i64 z1] : List Value) ++ us1).toArray w' fun e w'' => e = .returned (.bool z) ∧ SH w' [] [] w'') {r : List (List Int)} (t0 : impl_pairsWhere a_n a_holds = some r) : Calls Tryz.prog 25 #[.int .i64 a_n, .func (.func f1) #[] us1.toArray] w fun e w' => ∃ x : Hd × (List Value), e = .returned ((sl x.1)) ∧ SH w [] [own (sl x.1) x.2 r] w' := by
 refine cwc (args := [_, _]) Tryz.func25 R Tryz.ntmps25 R ?_
 unfold impl_pairsWhere at t0
 refine wcr (asg R R (wnt (wcr (wle (ebs R sb_36_0) R fun b1 => (asg R R (wnt (wcs (wcr (mv R R (mv R R (wnt (gdO t0 fun g1 t0 => (lpO_inv t0 fun y1 l1 t0 => (wj (J := List (List Int)) (X := Hd × (List Value)) (fun z => y1 = z) (fun _ x => [(5, (sl x.1))]) (fun z x => [own (sl x.1) x.2 z]) ?_ ?_))))))))))))))
 refine wcb (wcf (X := Hd × (List Value)) l1 (fun k1 s1 x1l => [(0, iv a_n), (1, .func (.func f1) #[] us1.toArray), (5, (sl x1l.1)), (9, iv a_n), (10, iv ((k1 : Nat) : Int))]) (fun k1 s1 x1l => [own (sl x1l.1) x1l.2 s1]) ((⟨some ⟨b1, 0, none⟩, 0, 0⟩ : Hd), []) (su5 R R R R R) (zc (pick_box_nil pz) zn) fun k1 s1 x1l hN1 l1 => ?_)
 by_cases hk1 : k1 < (a_n).toNat
 refine fos l1 hk1 fun _ t1 l1 => ?_
 unfold impl_pairsWhere_L1 at t1
 have c1 : (decide (((k1 : Nat) : Int) < a_n)) = true := ddt (by omega)
 refine wcr (wlq (pls R R) R (wnt (wcs (wft R c1 (wck (wqt (wcs (wcb (wcr (mv R R (asg R R (wnt (wcr (mv R R (mv R R (wnt (lpO_inv t1 fun y2 l2 t1 => (wj (J := List (List Int)) (X := Hd × (List Value)) (fun z => y2 = z) (fun _ x => [(0, iv a_n), (1, .func (.func f1) #[] us1.toArray), (5, (sl x.1)), (9, iv a_n), (10, iv ((k1 : Nat) : Int))]) (fun z x => [own (sl x.1) x.2 z]) ?_ ?_))))))))))))))))))
 refine wcb (wcf (X := Hd × (List Value)) l2 (fun k2 s2 x2l => [(0, iv a_n), (1, .func (.func f1) #[] us1.toArray), (5, (sl x2l.1)), (6, iv ((k1 : Nat) : Int)), (9, iv a_n), (10, iv ((k1 : Nat) : Int)), (13, iv a_n), (14, iv ((k2 : Nat) : Int))]) (fun k2 s2 x2l => [own (sl x2l.1) x2l.2 s2]) (x1l.1, x1l.2) (su8 R R R R R R R R) so1 fun k2 s2 x2l hN2 l2 => ?_)
 by_cases hk2 : k2 < (a_n).toNat
 refine fos l2 hk2 fun _ t2 l2 => ?_
 unfold impl_pairsWhere_L2 at t2
 have c2 : (decide (((k2 : Nat) : Int) < a_n)) = true := ddt (by omega)
 refine wcr (wlq (pls R R) R (wnt (wcs (wft R c2 (wck (wqt (wcs (wcb (wcr (mv R R (asg R R (wnt (wcs (bdO t2 fun y3 t3 t2 => (wj (J := Bool) (X := Unit) (fun z => y3 = z) (fun z _ => [(0, iv a_n), (1, .func (.func f1) #[] us1.toArray), (5, (sl x2l.1)), (6, iv ((k1 : Nat) : Int)), (7, iv ((k2 : Nat) : Int)), (9, iv a_n), (10, iv ((k1 : Nat) : Int)), (13, iv a_n), (14, iv ((k2 : Nat) : Int)), (25, .bool z)]) (fun _ _ => [own (sl x2l.1) x2l.2 s2]) ?_ ?_)))))))))))))))
 refine wcg (mv R R (mv R R (wlq (po_neq R R) R (mv R R (wlo (t := 20) t3 R (fun h1 t3 => ?_) fun h1 t3 => ?_)))))
 exact wgn (j := 3) R R R (mv R R (wgn (j := 3) R R R (mv R R (wgn (j := 3) R R R (mv R R (bdO t3 fun v1 hv1 t3 => (wgn (j := 3) R R R (wlc (co_d fn1 R R fun w hw => hg1 w ((k1 : Nat) : Int) ((k2 : Nat) : Int) hw.keep _ hv1) R (fun _ => (wlq (pit R R) R (wln (wjm _ () (mtE t3) (su10 R R R R R R R R R R) so1))))))))))))
 exact wgf (j := 3) R R R R R (wgf (j := 3) R R R R R (wgf (j := 3) R R R R R (wgf (j := 3) R R R R R (wlq (pif R R) R (wln (wjm _ () (mtE t3) (su10 R R R R R R R R R R) so1))))))
 intro j1 _ hp
 obtain rfl : j1 = y3 := hp.symm
 refine wqt (bdO t2 fun y3 t3 t2 => (wj (J := List (List Int)) (X := Hd × (List Value)) (fun z => y3 = z) (fun _ x => [(0, iv a_n), (1, .func (.func f1) #[] us1.toArray), (5, (sl x.1)), (6, iv ((k1 : Nat) : Int)), (9, iv a_n), (10, iv ((k1 : Nat) : Int)), (13, iv a_n), (14, iv ((k2 : Nat) : Int))]) (fun z x => [own (sl x.1) x.2 z]) ?_ ?_))
 refine wcO t3 R (fun h2 t3 => ?_) fun h2 t3 => ?_
 refine wcg (mv R R (mv R R (mv R R (wle (ebs R (sb_38_2 ((k1 : Nat) : Int) ((k2 : Nat) : Int))) R fun b2 => (wle (ebs R (sb_36_1 (⟨some ⟨b2, 0, none⟩, 2, 2⟩ : Hd))) R fun b3 => (gdO t3 fun g2 t3 => (wle (eo_append_one (us := x2l.2) (xs := s2) ak_36 pk2 (pow_LF (pbo pk1 (n := 2) (xs := ([((k1 : Nat) : Int), ((k2 : Nat) : Int)] : List Int)) R R (by unfold maxLen; omega))) pz R R R g2) R fun x5 => ?_)))))))
 exact asg R R (wln (wjm _ (x5, (x2l.2 ++ [(sl (⟨some ⟨b2, 0, none⟩, 2, 2⟩ : Hd))])) (mtE t3) (su8 R R R R R R R R) so1))
 exact wck (wjm _ (x2l.1, x2l.2) (mtE t3) (su8 R R R R R R R R) so1)
 intro j2 x4 hp
 obtain rfl : j2 = y3 := hp.symm
 refine wqb (wqt (wcg (wlq (po_inc R R (by omega)) R ?_)))
 exact mv R R (wln (wq_rnd hk2 (stpN l2 t2) (x4.1, x4.2) (su8 R R R R R R R R) so1))
 have c2 : (decide (((k2 : Nat) : Int) < a_n)) = false := ddf (by omega)
 have en1 := foe l2 hk2
 exact wcr (wlq (pls R R) R (wnt (wcs (wff R c2 (wcx (wqe (wqe (wbx (wjm _ (x2l.1, x2l.2) (Sum.inl.inj en1) (su5 R R R R R) so1)))))))))
 intro e2 x2 hp
 obtain rfl : e2 = y2 := hp.symm
 refine wqb (wqt (wcg (wlq (po_inc R R (by omega)) R ?_)))
 exact mv R R (wln (wq_rnd hk1 (stpN l1 t1) (x2.1, x2.2) (su5 R R R R R) so1))
 have c1 : (decide (((k1 : Nat) : Int) < a_n)) = false := ddf (by omega)
 have en2 := foe l1 hk1
 exact wcr (wlq (pls R R) R (wnt (wcs (wff R c1 (wcx (wqe (wqe (wbx (wjm _ (x1l.1, x1l.2) (Sum.inl.inj en2) (su1 R) so1)))))))))
 intro e1 x1 hp
 obtain rfl : e1 = y1 := hp.symm
 refine wqt (wcr (mv R R (asg R R (wnt (wct ?_)))))
 obtain rfl := oi t0
 exact wq1 R R fun w hw => ⟨(x1.1, x1.2), R, hw.weak so1⟩

theorem c_impl_CopiesIn (w : World) (a_list : List GEntry) (v0a : Hd) (u0a : List Value) (r0 : RdL w (dm w []) (sl v0a) u0a a_list) {r : List (List Int)} (t0 : impl_CopiesIn a_list = some r) : Calls Tryz.prog 11 #[(sl v0a)] w fun e w' => ∃ x : Hd × (List Value), e = .returned ((sl x.1)) ∧ SH w [] [own (sl x.1) x.2 r] w' := by
 refine cwc (args := [_]) Tryz.func11 R Tryz.ntmps11 R ?_
 unfold impl_CopiesIn at t0
 refine wcr (wle (eo_box R R) R fun b1 => (asg R R (wnt (wcs (wcr (wlq (v := (sl v0a)) (plx tk_34 pz R R) R (wlq (pln (rga r0) el_34 R) R (wlq (po_gtr R R) R (wnt (wcO t0 R (fun h1 t0 => ?_) fun h1 t0 => ?_))))))))))
 refine wcr (asg R R (wnt (wct (wqr ?_))))
 obtain rfl := oi t0
 exact wq1 R R fun w hw => ⟨(hn, []), R, hw.weak (zc pick_nil zn)⟩
 refine wck (wqt (wcr (wlq (v := (sl v0a)) (plx tk_34 pz R R) R (wlq (pln (rga r0) el_34 R) R (wlq (po_makeFunc R) R (bdO t0 fun v1 hv1 t0 => (wlc (cz1 fa_25 R fun w hw => c_impl_pairsWhere w ((a_list.length : Nat) : Int) (fun z0 z1 => impl_CopiesIn_c1 z0 z1 a_list) 26 [ptr b1 0] fa_26 (fun w2 z0 z1  hk _ hz => c_impl_CopiesIn_c1 w2 z0 z1 a_list v0a u0a (RdL.later (ra r0 hw) hk) b1 (Bx.keep (hw.at_box pz) hk) hz) hv1) R fun x1 => (asg R R (wnt (wct ?_))))))))))
 obtain rfl := oi t0
 exact wq1 R R fun w hw => ⟨(x1.1, x1.2), R, hw.weak so1⟩

theorem c_impl_FirstOf (w : World) (a_list : List GEntry) (v0a : Hd) (u0a : List Value) (r0 : RdL w (dm w []) (sl v0a) u0a a_list) (a_e : GEntry) (v1a : Hd) (r1 : rdF w (dm w []) (sl v1a) a_e.Block.Cells) {r : Int} (t0 : impl_FirstOf a_list a_e = some r) : Calls Tryz.prog 12 #[(sl v0a), .agg #[.int .i64 a_e.Owner, .int .i64 a_e.Day, .int .i64 a_e.Block.Size, (sl v1a)]] w fun e w' => e = .returned (.int .i64 r) ∧ SH w [] [] w' := by
 refine cwc (args := [_, _]) Tryz.func12 R Tryz.ntmps12 R ?_
 unfold impl_FirstOf at t0
 refine wcr (wle (eo_box R R) R fun b1 => (asg R R (wnt (wcr (asg R R (wnt (wcs (wcr (mv R R (wlq (pln (rga r0) el_34 R) R (wlq (po_gtr R R) R (wnt (wcO t0 R (fun h1 t0 => ?_) fun h1 t0 => ?_)))))))))))))
 refine wcr (asg R R (wnt (wct (wqr ?_))))
 obtain rfl := oi t0
 exact wq1 R R fun w hw => ⟨R, hw.weak zn⟩
 refine wck (wqt (wcs (wcr (mv R R (wlq (pln (rga r0) el_34 R) R (mv R R (wnt (gdO t0 fun g1 t0 => (lpO_inv t0 fun y1 l1 t0 => (wj (J := Int) (X := Unit) (fun z => y1 = z) (fun z _ => [(5, iv z)]) (fun _ _ => []) ?_ ?_))))))))))
 refine wcb (wcf (X := Unit) l1 (fun k1 s1 x1l => [(0, (sl v0a)), (3, ptr b1 0), (5, iv s1), (11, (sl v0a)), (12, iv ((a_list.length : Nat) : Int)), (13, iv ((k1 : Nat) : Int))]) (fun k1 s1 x1l => [box b1 [iv a_e.Owner, iv a_e.Day, iv a_e.Block.Size, (sl v1a)]]) () (su6 R R R R R R) so1 fun k1 s1 x1l hN1 l1 => ?_)
 by_cases hk1 : k1 < a_list.length
 refine fos l1 hk1 fun _ t1 l1 => ?_
 unfold impl_FirstOf_L1 at t1
 have c1 : (decide (((k1 : Nat) : Int) < ((a_list.length : Nat) : Int))) = true := ddt (by omega)
 refine wcr (wlq (pls R R) R (wnt (wcs (wft R c1 (wck (wqt (wcs (wcb (wcr (mv R R (wlq (po_ixn (k := k1) (rga r0) el_34 R R hk1) R (wl_elem (rga r0) hk1 ?_))))))))))))
 rintro ⟨_, _, he1⟩
 obtain ⟨w1, hc1, _⟩ := rd_GEntry.1 he1
 refine wlq (v := .agg #[iv ((gx a_list k1).Owner), iv ((gx a_list k1).Day), iv (((gx a_list k1).Block).Size), (sl w1)]) (po_ldns (rga r0) tk_28 R hc1 R R R) R (wle (eal (cs := [iv 0, iv 0, iv 0, (sl hn)]) za_28) R fun b2 => (asg R R (wls (sbx (cs' := [iv ((gx a_list k1).Owner), iv ((gx a_list k1).Day), iv (((gx a_list k1).Block).Size), (sl w1)]) tk_28 pz R R R R R R R) (wnt (wcs (bdO t1 fun y2 t2 t1 => (wj (J := Bool) (X := Unit) (fun z => y2 = z) (fun z _ => [(0, (sl v0a)), (3, ptr b1 0), (5, iv s1), (6, iv ((k1 : Nat) : Int)), (11, (sl v0a)), (12, iv ((a_list.length : Nat) : Int)), (13, iv ((k1 : Nat) : Int)), (35, .bool z)]) (fun _ _ => [box b1 [iv a_e.Owner, iv a_e.Day, iv a_e.Block.Size, (sl v1a)]]) ?_ ?_)))))))
 refine wcd [box b2 [iv ((gx a_list k1).Owner), iv ((gx a_list k1).Day), iv (((gx a_list k1).Block).Size), (sl w1)], box b1 [iv a_e.Owner, iv a_e.Day, iv a_e.Block.Size, (sl v1a)]] 18 mixed (aq (v := .agg #[iv ((gx a_list k1).Owner), iv ((gx a_list k1).Day), iv (((gx a_list k1).Block).Size), (sl w1)]) 0 R (plb tk_28 pz R R R) so2 R (aq (v := .agg #[iv a_e.Owner, iv a_e.Day, iv a_e.Block.Size, (sl v1a)]) 1 R (plb tk_28 pk1 R R R) so2 R (a1 2 (bdO t2 fun v1 hv1 t2 => (wsc R (cz0 fa_6 R fun w hw => c_impl_VerdictOn w (GEntry.mk ((gx a_list k1).Owner) ((gx a_list k1).Day) ((gx a_list k1).Block)) w1 (Rg.on (er_GEntry_0 hc1 (rga r0) hk1) hw) a_e v1a (ra r1 hw) hv1) (fun _ => (zt so2)) R fun _ => (aq 3 R (pol R R) so2 R (aq 4 R (pom R) so2 R (waO_ (t := 22) t2 R (fun h2 t2 => ?_) fun h2 t2 => ?_))))))))
 refine an 5 4 R R R R (pom R) so2 R (an 6 4 R R R R (pls R R) so2 R (an 7 4 R R R R (pom R) so2 R (waO_ (t := 25) t2 R (fun h3 t2 => ?_) fun h3 t2 => ?_)))
 exact af 8 7 R R R R R so2 R (af 9 7 R R R R R so2 R (af 10 7 R R R R R so2 R (af 11 7 R R R R R so2 R (af 12 7 R R R R R so2 R (af 13 7 R R R R R so2 R (af 14 7 R R R R R so2 R (af 15 7 R R R R R so2 R (an 16 4 R R R R (pit R R) so2 R (aq 17 R (pit R R) so2 R (ae (wjm _ () (mtE t2) (su8 R R R R R R R R) (zc pk1 zn))))))))))))
 refine an 8 7 R R R R (pof fo_28_1 R) so2 R (an (v := iv ((gx a_list k1).Day)) 9 7 R R R R (plx tk_3 pz R R) so2 R (an 10 7 R R R R (pom R) so2 R (an 11 7 R R R R (pom R) so2 R (gdO t2 fun g2 t2 => (an 12 7 R R R R (po_ixr (rga r0) el_34 R R g2.1 g2.2) so2 R (an 13 7 R R R R (po_sfldr (rga r0) (ix_lt g2) fo_28_1 R) so2 R (wa_elem (rga r0) (ix_lt g2) ?_)))))))
 rintro ⟨_, _, he2⟩
 obtain ⟨w2, hc2, _⟩ := rd_GEntry.1 he2
 exact an (v := iv ((gx a_list ((s1).toNat)).Day)) 14 7 R R R R (po_ldn (rga r0) tk_3 R hc2 R) so2 R (an 15 7 R R R R (pls R R) so2 R (an 16 4 R R R R (pif R R) so2 R (aq 17 R (pit R R) so2 R (ae (wjm _ () (mtE t2) (su8 R R R R R R R R) (zc pk1 zn))))))
 exact af 5 4 R R R R R so2 R (af 6 4 R R R R R so2 R (af 7 4 R R R R R so2 R (au 8 7 R R R R so2 R (au 9 7 R R R R so2 R (au 10 7 R R R R so2 R (au 11 7 R R R R so2 R (au 12 7 R R R R so2 R (au 13 7 R R R R so2 R (au 14 7 R R R R so2 R (au 15 7 R R R R so2 R (af 16 4 R R R R R so2 R (aq 17 R (pif R R) so2 R (ae (wjm _ () (mtE t2) (su8 R R R R R R R R) (zc pk1 zn)))))))))))))))
 intro j1 _ hp
 obtain rfl : j1 = y2 := hp.symm
 refine wqt (wcj (X := Unit) (fun _ => True) (fun _ => [(0, (sl v0a)), (3, ptr b1 0), (5, iv (bif j1 then ((k1 : Nat) : Int) else s1)), (11, (sl v0a)), (12, iv ((a_list.length : Nat) : Int)), (13, iv ((k1 : Nat) : Int))]) (fun _ => [box b1 [iv a_e.Owner, iv a_e.Day, iv a_e.Block.Size, (sl v1a)]]) ?_ ?_)
 refine wc_cond R (fun h4 => ?_) fun h4 => ?_
 exact wcg (mv R R (asg R R (wln (wqm () trivial (yc R (yc R (sub_i R (by simp only [h4, cond_true]) (su3 R R R)))) so1))))
 exact wck (wqm () trivial (yc R (yc R (sub_i R (by simp only [h4, cond_false]) (su3 R R R)))) so1)
 intro _ _
 refine wqb (wqt (wcg (wlq (po_inc R R (by omega)) R ?_)))
 exact mv R R (wln (wq_rnd hk1 (stpN l1 t1) () (su6 R R R R R R) so1))
 have c1 : (decide (((k1 : Nat) : Int) < ((a_list.length : Nat) : Int))) = false := ddf (by omega)
 have en1 := foe l1 hk1
 exact wcr (wlq (pls R R) R (wnt (wcs (wff R c1 (wcx (wqe (wqe (wbx (wjm _ () (Sum.inl.inj en1) (su1 R) zn)))))))))
 intro e1 _ hp
 obtain rfl : e1 = y1 := hp.symm
 refine wqt (wcr (mv R R (asg R R (wnt (wct ?_)))))
 obtain rfl := oi t0
 exact wq1 R R fun w hw => ⟨R, hw.weak zn⟩

theorem c_laws_FnDisputes (w : World) (a_code : List UInt8) (v0a : Hd) (r0 : rdF w (dm w []) (sl v0a) a_code) {r : Bool} (t0 : laws_FnDisputes a_code = some r) : Calls Tryz.prog 3 #[(sl v0a)] w fun e w' => e = .returned (.bool r) ∧ SH w [] [] w' := by
 refine cwc (args := [_]) Tryz.func3 R Tryz.ntmps3 R ?_
 unfold laws_FnDisputes at t0
 refine wcr (asg R R (wnt (wcs (wcr (mv R R (bdO t0 fun v1 hv1 t0 => (wlc (cz0 fa_4 R fun w hw => c_laws_big w a_code v0a (ra r0 hw) hv1) R fun _ => (wnt (wcO t0 R (fun h1 t0 => ?_) fun h1 t0 => ?_)))))))))
 refine wcr (asg R R (wnt (wct (wqr ?_))))
 obtain rfl := oi t0
 exact wq1 R R fun w hw => ⟨R, hw.weak zn⟩
 refine wck (wqt (wcr (mv R R (bdO t0 fun v2 hv2 t0 => (wlc (co_c2 fa_5 R fun w hw => c_spec_DrawVerdictOn w a_code v0a (ra r0 hw) hv2) R fun x1 => (mv R R (wlq (pex R R) R (wlq (pex R R) R (wle (eal (cs := [iv 0, iv 0, iv 0, (sl hn)]) za_28) R fun b1 => (wle (eal (cs := [iv 0, iv 0, iv 0, (sl hn)]) za_28) R fun b2 => (wls (sbx (cs' := [iv v2.1.Owner, iv v2.1.Day, iv v2.1.Block.Size, (sl x1.1)]) tk_28 pk1 R R R R R R R) (wls (sbx (cs' := [iv v2.2.Owner, iv v2.2.Day, iv v2.2.Block.Size, (sl x1.2)]) tk_28 pk1 R R R R R R R) (wnt (wcr (wlq (v := .agg #[iv v2.1.Owner, iv v2.1.Day, iv v2.1.Block.Size, (sl x1.1)]) (plb tk_28 pk1 R R R) R (wlq (v := .agg #[iv v2.2.Owner, iv v2.2.Day, iv v2.2.Block.Size, (sl x1.2)]) (plb tk_28 pz R R R) R (bdO t0 fun v3 hv3 t0 => (wlc (cz0 fa_6 R fun w hw => c_impl_VerdictOn w v2.1 x1.1 (Rg.on (rgo pk2) hw) v2.2 x1.2 (Rg.on (rgo pk3) hw) hv3) R fun _ => (asg R R (wnt (wcr (wlq (v := .agg #[iv v2.1.Owner, iv v2.1.Day, iv v2.1.Block.Size, (sl x1.1)]) (plb tk_28 pk1 R R R) R (wlq (v := .agg #[iv v2.2.Owner, iv v2.2.Day, iv v2.2.Block.Size, (sl x1.2)]) (plb tk_28 pz R R R) R (bdO t0 fun v4 hv4 t0 => (wlc (cz0 fa_7 R fun w hw => c_impl_WitnessOf w v2.1 x1.1 (Rg.on (rgo pk2) hw) v2.2 x1.2 (Rg.on (rgo pk3) hw) hv4) R fun _ => (asg R R (wnt (wcs (wcs (bdO t0 fun y1 t1 t0 => (wj (J := Bool) (X := Unit) (fun z => y1 = z) (fun z _ => [(0, (sl v0a)), (3, ptr b1 0), (4, ptr b2 0), (5, iv v3), (6, iv v4), (69, .bool z)]) (fun _ _ => [box b2 [iv v2.2.Owner, iv v2.2.Day, iv v2.2.Block.Size, (sl x1.2)], box b1 [iv v2.1.Owner, iv v2.1.Day, iv v2.1.Block.Size, (sl x1.1)], ownF (sl x1.2) v2.2.Block.Cells, ownF (sl x1.1) v2.1.Block.Cells]) ?_ ?_)))))))))))))))))))))))))))))))
 refine wcg (mv R R (wlq (pol R R) R (wlq (v := .agg #[iv v2.2.Owner, iv v2.2.Day, iv v2.2.Block.Size, (sl x1.2)]) (plb tk_28 pz R R R) R (wlq (v := .agg #[iv v2.1.Owner, iv v2.1.Day, iv v2.1.Block.Size, (sl x1.1)]) (plb tk_28 pk1 R R R) R (bdO t1 fun v5 hv5 t1 => (wlc (cz0 fa_6 R fun w hw => c_impl_VerdictOn w v2.2 x1.2 (Rg.on (rgo pk3) hw) v2.1 x1.1 (Rg.on (rgo pk2) hw) hv5) R fun _ => (wlq (pol R R) R (wlq (po_neq_bool ub_4 R R) R (mv R R (wlo (t := 33) t1 R (fun h2 t1 => ?_) fun h2 t1 => ?_))))))))))
 exact wgf (j := 7) R R R R R (wgf (j := 7) R R R R R (wgf (j := 7) R R R R R (wgf (j := 7) R R R R R (wl_guard_undef (j := 11) R R R R (wl_guard_undef (j := 11) R R R R (wl_guard_undef (j := 11) R R R R (wgf (j := 7) R R R R R (wlq (pit R R) R (mv R R (wgf (j := 17) R R R R R (wgf (j := 17) R R R R R (wgf (j := 17) R R R R R (wgf (j := 17) R R R R R (wl_guard_undef (j := 21) R R R R (wl_guard_undef (j := 21) R R R R (wl_guard_undef (j := 21) R R R R (wl_guard_undef (j := 24) R R R R (wl_guard_undef (j := 24) R R R R (wl_guard_undef (j := 21) R R R R (wl_guard_undef (j := 21) R R R R (wl_guard_undef (j := 28) R R R R (wl_guard_undef (j := 28) R R R R (wl_guard_undef (j := 28) R R R R (wl_guard_undef (j := 28) R R R R (wl_guard_undef (j := 28) R R R R (wl_guard_undef (j := 21) R R R R (wl_guard_undef (j := 21) R R R R (wl_guard_undef (j := 35) R R R R (wl_guard_undef (j := 35) R R R R (wl_guard_undef (j := 35) R R R R (wl_guard_undef (j := 35) R R R R (wl_guard_undef (j := 35) R R R R (wl_guard_undef (j := 21) R R R R (wgf (j := 17) R R R R R (wlq (pit R R) R (wln (wjm _ () (mtE t1) (su6 R R R R R R) (zc pz (zc pz (zc pk1 so1))))))))))))))))))))))))))))))))))))))))
 refine wgn (j := 7) R R R (wlq (v := .agg #[iv v2.1.Owner, iv v2.1.Day, iv v2.1.Block.Size, (sl x1.1)]) (plb tk_28 pk1 R R R) R (wgn (j := 7) R R R (wlq (v := .agg #[iv v2.2.Owner, iv v2.2.Day, iv v2.2.Block.Size, (sl x1.2)]) (plb tk_28 pz R R R) R (bdO t1 fun v6 hv6 t1 => (wgn (j := 7) R R R (wlc (cz0 fa_8 R fun w hw => c_impl_IsCopy w v2.1 x1.1 (Rg.on (rgo pk2) hw) v2.2 x1.2 (Rg.on (rgo pk3) hw) hv6) R (fun _ => (wgn (j := 7) R R R (mv R R (wlo (t := 37) t1 R (fun h3 t1 => ?_) fun h3 t1 => ?_))))))))))
 refine wgn (j := 11) R R R (wlq (v := .agg #[iv v2.2.Owner, iv v2.2.Day, iv v2.2.Block.Size, (sl x1.2)]) (plb tk_28 pz R R R) R (wgn (j := 11) R R R (wlq (v := .agg #[iv v2.1.Owner, iv v2.1.Day, iv v2.1.Block.Size, (sl x1.1)]) (plb tk_28 pk1 R R R) R (bdO t1 fun v7 hv7 t1 => (wgn (j := 11) R R R (wlc (cz0 fa_8 R fun w hw => c_impl_IsCopy w v2.2 x1.2 (Rg.on (rgo pk3) hw) v2.1 x1.1 (Rg.on (rgo pk2) hw) hv7) R (fun _ => (wgn (j := 7) R R R (wlq (pit R R) R (wlq (pif R R) R (mv R R (wlo (t := 43) t1 R (fun h4 t1 => ?_) fun h4 t1 => ?_))))))))))))
 exact wgf (j := 17) R R R R R (wgf (j := 17) R R R R R (wgf (j := 17) R R R R R (wgf (j := 17) R R R R R (wl_guard_undef (j := 21) R R R R (wl_guard_undef (j := 21) R R R R (wl_guard_undef (j := 21) R R R R (wl_guard_undef (j := 24) R R R R (wl_guard_undef (j := 24) R R R R (wl_guard_undef (j := 21) R R R R (wl_guard_undef (j := 21) R R R R (wl_guard_undef (j := 28) R R R R (wl_guard_undef (j := 28) R R R R (wl_guard_undef (j := 28) R R R R (wl_guard_undef (j := 28) R R R R (wl_guard_undef (j := 28) R R R R (wl_guard_undef (j := 21) R R R R (wl_guard_undef (j := 21) R R R R (wl_guard_undef (j := 35) R R R R (wl_guard_undef (j := 35) R R R R (wl_guard_undef (j := 35) R R R R (wl_guard_undef (j := 35) R R R R (wl_guard_undef (j := 35) R R R R (wl_guard_undef (j := 21) R R R R (wgf (j := 17) R R R R R (wlq (pit R R) R (wln (wjm _ () (mtE t1) (su6 R R R R R R) (zc pz (zc pz (zc pk1 so1))))))))))))))))))))))))))))))
 refine wgn (j := 17) R R R (wlq (v := .agg #[iv v2.1.Owner, iv v2.1.Day, iv v2.1.Block.Size, (sl x1.1)]) (plb tk_28 pk1 R R R) R (wgn (j := 17) R R R (wlq (v := .agg #[iv v2.2.Owner, iv v2.2.Day, iv v2.2.Block.Size, (sl x1.2)]) (plb tk_28 pz R R R) R (bdO t1 fun v8 hv8 t1 => (wgn (j := 17) R R R (wlc (cz0 fa_8 R fun w hw => c_impl_IsCopy w v2.1 x1.1 (Rg.on (rgo pk2) hw) v2.2 x1.2 (Rg.on (rgo pk3) hw) hv8) R (fun _ => (wgn (j := 17) R R R (mv R R (wlo (t := 47) t1 R (fun h5 t1 => ?_) fun h5 t1 => ?_))))))))))
 refine wgn (j := 21) R R R (mv R R (wgn (j := 21) R R R (wlq (po_neq R R) R (wgn (j := 21) R R R (mv R R (wlo (t := 50) t1 R (fun h6 t1 => ?_) fun h6 t1 => ?_))))))
 refine wgn (j := 24) R R R (mv R R (wgn (j := 24) R R R (wlq (po_neq R R) R (wgn (j := 21) R R R (wlq (pit R R) R (wgn (j := 21) R R R (mv R R (wlo (t := 54) t1 R (fun h7 t1 => ?_) fun h7 t1 => ?_))))))))
 exact wgf (j := 28) R R R R R (wgf (j := 28) R R R R R (wgf (j := 28) R R R R R (wgf (j := 28) R R R R R (wgf (j := 28) R R R R R (wgn (j := 21) R R R (wlq (pit R R) R (wgn (j := 21) R R R (mv R R (wgf (j := 35) R R R R R (wgf (j := 35) R R R R R (wgf (j := 35) R R R R R (wgf (j := 35) R R R R R (wgf (j := 35) R R R R R (wgn (j := 21) R R R (wlq (pit R R) R (wgn (j := 17) R R R (wlq (pit R R) R (wlq (pif R R) R (wln (wjm _ () (mtE t1) (su6 R R R R R R) (zc pz (zc pz (zc pk1 so1)))))))))))))))))))))))
 refine wgn (j := 28) R R R (wlq (pof fo_28_0 R) R (wgn (j := 28) R R R (wlq (v := iv v2.1.Owner) (plx tk_3 pk1 R R) R (wgn (j := 28) R R R (wlq (pof fo_28_0 R) R (wgn (j := 28) R R R (wlq (v := iv v2.2.Owner) (plx tk_3 pz R R) R (wgn (j := 28) R R R (wlq (pol R R) R (wgn (j := 21) R R R (wlq (pif R R) R (wgn (j := 21) R R R (mv R R (wlo (t := 61) t1 R (fun h8 t1 => ?_) fun h8 t1 => ?_))))))))))))))
 exact wgf (j := 35) R R R R R (wgf (j := 35) R R R R R (wgf (j := 35) R R R R R (wgf (j := 35) R R R R R (wgf (j := 35) R R R R R (wgn (j := 21) R R R (wlq (pit R R) R (wgn (j := 17) R R R (wlq (pit R R) R (wlq (pif R R) R (wln (wjm _ () (mtE t1) (su6 R R R R R R) (zc pz (zc pz (zc pk1 so1))))))))))))))
 exact wgn (j := 35) R R R (wlq (pof fo_28_1 R) R (wgn (j := 35) R R R (wlq (v := iv v2.1.Day) (plx tk_3 pk1 R R) R (wgn (j := 35) R R R (wlq (pof fo_28_1 R) R (wgn (j := 35) R R R (wlq (v := iv v2.2.Day) (plx tk_3 pz R R) R (wgn (j := 35) R R R (wlq (po_leq R R) R (wgn (j := 21) R R R (wlq (pif R R) R (wgn (j := 17) R R R (wlq (pit R R) R (wlq (pif R R) R (wln (wjm _ () (mtE t1) (su6 R R R R R R) (zc pz (zc pz (zc pk1 so1)))))))))))))))))))
 refine wgf (j := 24) R R R R R (wgf (j := 24) R R R R R (wgn (j := 21) R R R (wlq (pif R R) R (wgn (j := 21) R R R (mv R R (wgn (j := 28) R R R (wlq (pof fo_28_0 R) R (wgn (j := 28) R R R (wlq (v := iv v2.1.Owner) (plx tk_3 pk1 R R) R (wgn (j := 28) R R R (wlq (pof fo_28_0 R) R (wgn (j := 28) R R R (wlq (v := iv v2.2.Owner) (plx tk_3 pz R R) R (wgn (j := 28) R R R (wlq (pol R R) R (wgn (j := 21) R R R (wlq (pif R R) R (wgn (j := 21) R R R (mv R R (wlo (t := 61) t1 R (fun h9 t1 => ?_) fun h9 t1 => ?_))))))))))))))))))))
 exact wgf (j := 35) R R R R R (wgf (j := 35) R R R R R (wgf (j := 35) R R R R R (wgf (j := 35) R R R R R (wgf (j := 35) R R R R R (wgn (j := 21) R R R (wlq (pit R R) R (wgn (j := 17) R R R (wlq (pit R R) R (wlq (pif R R) R (wln (wjm _ () (mtE t1) (su6 R R R R R R) (zc pz (zc pz (zc pk1 so1))))))))))))))
 exact wgn (j := 35) R R R (wlq (pof fo_28_1 R) R (wgn (j := 35) R R R (wlq (v := iv v2.1.Day) (plx tk_3 pk1 R R) R (wgn (j := 35) R R R (wlq (pof fo_28_1 R) R (wgn (j := 35) R R R (wlq (v := iv v2.2.Day) (plx tk_3 pz R R) R (wgn (j := 35) R R R (wlq (po_leq R R) R (wgn (j := 21) R R R (wlq (pif R R) R (wgn (j := 17) R R R (wlq (pit R R) R (wlq (pif R R) R (wln (wjm _ () (mtE t1) (su6 R R R R R R) (zc pz (zc pz (zc pk1 so1)))))))))))))))))))
 exact wgf (j := 21) R R R R R (wgf (j := 21) R R R R R (wgf (j := 21) R R R R R (wl_guard_undef (j := 24) R R R R (wl_guard_undef (j := 24) R R R R (wgf (j := 21) R R R R R (wgf (j := 21) R R R R R (wl_guard_undef (j := 28) R R R R (wl_guard_undef (j := 28) R R R R (wl_guard_undef (j := 28) R R R R (wl_guard_undef (j := 28) R R R R (wl_guard_undef (j := 28) R R R R (wgf (j := 21) R R R R R (wgf (j := 21) R R R R R (wl_guard_undef (j := 35) R R R R (wl_guard_undef (j := 35) R R R R (wl_guard_undef (j := 35) R R R R (wl_guard_undef (j := 35) R R R R (wl_guard_undef (j := 35) R R R R (wgf (j := 21) R R R R R (wgn (j := 17) R R R (wlq (pif R R) R (wlq (pif R R) R (wln (wjm _ () (mtE t1) (su6 R R R R R R) (zc pz (zc pz (zc pk1 so1)))))))))))))))))))))))))))
 refine wgf (j := 11) R R R R R (wgf (j := 11) R R R R R (wgf (j := 11) R R R R R (wgn (j := 7) R R R (wlq (pif R R) R (wlq (pif R R) R (mv R R (wgn (j := 17) R R R (wlq (v := .agg #[iv v2.1.Owner, iv v2.1.Day, iv v2.1.Block.Size, (sl x1.1)]) (plb tk_28 pk1 R R R) R (wgn (j := 17) R R R (wlq (v := .agg #[iv v2.2.Owner, iv v2.2.Day, iv v2.2.Block.Size, (sl x1.2)]) (plb tk_28 pz R R R) R (bdO t1 fun v9 hv9 t1 => (wgn (j := 17) R R R (wlc (cz0 fa_8 R fun w hw => c_impl_IsCopy w v2.1 x1.1 (Rg.on (rgo pk2) hw) v2.2 x1.2 (Rg.on (rgo pk3) hw) hv9) R (fun _ => (wgn (j := 17) R R R (mv R R (wlo (t := 47) t1 R (fun h10 t1 => ?_) fun h10 t1 => ?_)))))))))))))))))
 refine wgn (j := 21) R R R (mv R R (wgn (j := 21) R R R (wlq (po_neq R R) R (wgn (j := 21) R R R (mv R R (wlo (t := 50) t1 R (fun h11 t1 => ?_) fun h11 t1 => ?_))))))
 refine wgn (j := 24) R R R (mv R R (wgn (j := 24) R R R (wlq (po_neq R R) R (wgn (j := 21) R R R (wlq (pit R R) R (wgn (j := 21) R R R (mv R R (wlo (t := 54) t1 R (fun h12 t1 => ?_) fun h12 t1 => ?_))))))))
 exact wgf (j := 28) R R R R R (wgf (j := 28) R R R R R (wgf (j := 28) R R R R R (wgf (j := 28) R R R R R (wgf (j := 28) R R R R R (wgn (j := 21) R R R (wlq (pit R R) R (wgn (j := 21) R R R (mv R R (wgf (j := 35) R R R R R (wgf (j := 35) R R R R R (wgf (j := 35) R R R R R (wgf (j := 35) R R R R R (wgf (j := 35) R R R R R (wgn (j := 21) R R R (wlq (pit R R) R (wgn (j := 17) R R R (wlq (pit R R) R (wlq (pif R R) R (wln (wjm _ () (mtE t1) (su6 R R R R R R) (zc pz (zc pz (zc pk1 so1)))))))))))))))))))))))
 refine wgn (j := 28) R R R (wlq (pof fo_28_0 R) R (wgn (j := 28) R R R (wlq (v := iv v2.1.Owner) (plx tk_3 pk1 R R) R (wgn (j := 28) R R R (wlq (pof fo_28_0 R) R (wgn (j := 28) R R R (wlq (v := iv v2.2.Owner) (plx tk_3 pz R R) R (wgn (j := 28) R R R (wlq (pol R R) R (wgn (j := 21) R R R (wlq (pif R R) R (wgn (j := 21) R R R (mv R R (wlo (t := 61) t1 R (fun h13 t1 => ?_) fun h13 t1 => ?_))))))))))))))
 exact wgf (j := 35) R R R R R (wgf (j := 35) R R R R R (wgf (j := 35) R R R R R (wgf (j := 35) R R R R R (wgf (j := 35) R R R R R (wgn (j := 21) R R R (wlq (pit R R) R (wgn (j := 17) R R R (wlq (pit R R) R (wlq (pif R R) R (wln (wjm _ () (mtE t1) (su6 R R R R R R) (zc pz (zc pz (zc pk1 so1))))))))))))))
 exact wgn (j := 35) R R R (wlq (pof fo_28_1 R) R (wgn (j := 35) R R R (wlq (v := iv v2.1.Day) (plx tk_3 pk1 R R) R (wgn (j := 35) R R R (wlq (pof fo_28_1 R) R (wgn (j := 35) R R R (wlq (v := iv v2.2.Day) (plx tk_3 pz R R) R (wgn (j := 35) R R R (wlq (po_leq R R) R (wgn (j := 21) R R R (wlq (pif R R) R (wgn (j := 17) R R R (wlq (pit R R) R (wlq (pif R R) R (wln (wjm _ () (mtE t1) (su6 R R R R R R) (zc pz (zc pz (zc pk1 so1)))))))))))))))))))
 refine wgf (j := 24) R R R R R (wgf (j := 24) R R R R R (wgn (j := 21) R R R (wlq (pif R R) R (wgn (j := 21) R R R (mv R R (wgn (j := 28) R R R (wlq (pof fo_28_0 R) R (wgn (j := 28) R R R (wlq (v := iv v2.1.Owner) (plx tk_3 pk1 R R) R (wgn (j := 28) R R R (wlq (pof fo_28_0 R) R (wgn (j := 28) R R R (wlq (v := iv v2.2.Owner) (plx tk_3 pz R R) R (wgn (j := 28) R R R (wlq (pol R R) R (wgn (j := 21) R R R (wlq (pif R R) R (wgn (j := 21) R R R (mv R R (wlo (t := 61) t1 R (fun h14 t1 => ?_) fun h14 t1 => ?_))))))))))))))))))))
 exact wgf (j := 35) R R R R R (wgf (j := 35) R R R R R (wgf (j := 35) R R R R R (wgf (j := 35) R R R R R (wgf (j := 35) R R R R R (wgn (j := 21) R R R (wlq (pit R R) R (wgn (j := 17) R R R (wlq (pit R R) R (wlq (pif R R) R (wln (wjm _ () (mtE t1) (su6 R R R R R R) (zc pz (zc pz (zc pk1 so1))))))))))))))
 exact wgn (j := 35) R R R (wlq (pof fo_28_1 R) R (wgn (j := 35) R R R (wlq (v := iv v2.1.Day) (plx tk_3 pk1 R R) R (wgn (j := 35) R R R (wlq (pof fo_28_1 R) R (wgn (j := 35) R R R (wlq (v := iv v2.2.Day) (plx tk_3 pz R R) R (wgn (j := 35) R R R (wlq (po_leq R R) R (wgn (j := 21) R R R (wlq (pif R R) R (wgn (j := 17) R R R (wlq (pit R R) R (wlq (pif R R) R (wln (wjm _ () (mtE t1) (su6 R R R R R R) (zc pz (zc pz (zc pk1 so1)))))))))))))))))))
 exact wgf (j := 21) R R R R R (wgf (j := 21) R R R R R (wgf (j := 21) R R R R R (wl_guard_undef (j := 24) R R R R (wl_guard_undef (j := 24) R R R R (wgf (j := 21) R R R R R (wgf (j := 21) R R R R R (wl_guard_undef (j := 28) R R R R (wl_guard_undef (j := 28) R R R R (wl_guard_undef (j := 28) R R R R (wl_guard_undef (j := 28) R R R R (wl_guard_undef (j := 28) R R R R (wgf (j := 21) R R R R R (wgf (j := 21) R R R R R (wl_guard_undef (j := 35) R R R R (wl_guard_undef (j := 35) R R R R (wl_guard_undef (j := 35) R R R R (wl_guard_undef (j := 35) R R R R (wl_guard_undef (j := 35) R R R R (wgf (j := 21) R R R R R (wgn (j := 17) R R R (wlq (pif R R) R (wlq (pif R R) R (wln (wjm _ () (mtE t1) (su6 R R R R R R) (zc pz (zc pz (zc pk1 so1)))))))))))))))))))))))))))
 intro j1 _ hp
 obtain rfl : j1 = y1 := hp.symm
 refine wqt (wcO t0 R (fun h15 t0 => ?_) fun h15 t0 => ?_)
 refine wcr (asg R R (wnt (wct (wqr ?_))))
 obtain rfl := oi t0
 exact wq1 R R fun w hw => ⟨R, hw.weak zn⟩
 refine wck (wqt (wcs (bdO t0 fun y1 t1 t0 => (wj (J := Bool) (X := Unit) (fun z => y1 = z) (fun z _ => [(0, (sl v0a)), (3, ptr b1 0), (4, ptr b2 0), (5, iv v3), (6, iv v4), (7, .bool z)]) (fun _ _ => [box b2 [iv v2.2.Owner, iv v2.2.Day, iv v2.2.Block.Size, (sl x1.2)], box b1 [iv v2.1.Owner, iv v2.1.Day, iv v2.1.Block.Size, (sl x1.1)], ownF (sl x1.2) v2.2.Block.Cells, ownF (sl x1.1) v2.1.Block.Cells]) ?_ ?_))))
 refine wcg (wlq (v := .agg #[iv v2.1.Owner, iv v2.1.Day, iv v2.1.Block.Size, (sl x1.1)]) (plb tk_28 pk1 R R R) R (bdO t1 fun v10 hv10 t1 => (wlc (cz0 fa_9 R fun w hw => c_spec_EntryOk w v2.1 x1.1 (Rg.on (rgo pk3) hw) hv10) R fun _ => (mv R R (wlo (t := 72) t1 R (fun h16 t1 => ?_) fun h16 t1 => ?_)))))
 exact wgn (j := 2) R R R (wlq (v := .agg #[iv v2.2.Owner, iv v2.2.Day, iv v2.2.Block.Size, (sl x1.2)]) (plb tk_28 pz R R R) R (bdO t1 fun v11 hv11 t1 => (wgn (j := 2) R R R (wlc (cz0 fa_9 R fun w hw => c_spec_EntryOk w v2.2 x1.2 (Rg.on (rgo pk2) hw) hv11) R (fun _ => (wlq (pit R R) R (asg R R (wln (wjm _ () (mtE t1) (su6 R R R R R R) so4)))))))))
 exact wgf (j := 2) R R R R R (wgf (j := 2) R R R R R (wlq (pif R R) R (asg R R (wln (wjm _ () (mtE t1) (su6 R R R R R R) so4)))))
 intro j2 _ hp
 obtain rfl : j2 = y1 := hp.symm
 refine wqt (wcs (wcs (wcj (X := Unit) (fun _ => True) (fun _ => [(0, (sl v0a)), (3, ptr b1 0), (99, .bool (bif j2 then ((!((v3 != 0) == (v2.1.Block.Size == v2.2.Block.Size))) || ((!((decide (v4 ≥ 0)) == (v3 == 3))) || (decide (v4 > 7)))) else ((!((v3 != 0) == false)) || ((!((decide (v4 ≥ 0)) == (v3 == 3))) || (decide (v4 > 7))))))]) (fun _ => [box b1 [iv v2.1.Owner, iv v2.1.Day, iv v2.1.Block.Size, (sl x1.1)], ownF (sl x1.1) v2.1.Block.Cells]) ?_ ?_)))
 refine wcg (mv R R (wlq (po_neq R R) R (mv R R (mv R R (wl_fork (t := 79) R (fun h17 => ?_) fun h17 => ?_)))))
 refine wgn (j := 3) R R R (wlq (pof fo_28_2 R) R (wgn (j := 3) R R R (wlq (pof fo_26_0 R) R (wgn (j := 3) R R R (wlq (v := iv v2.1.Block.Size) (plx tk_3 pk1 R R) R (wgn (j := 3) R R R (wlq (pof fo_28_2 R) R (wgn (j := 3) R R R (wlq (pof fo_26_0 R) R (wgn (j := 3) R R R (wlq (v := iv v2.2.Block.Size) (plx tk_3 pz R R) R (wgn (j := 3) R R R (wlq (pol R R) R (wlq (pit R R) R (wlq (po_neq_bool ub_4 R R) R (mv R R (wl_fork (t := 89) R (fun h18 => ?_) fun h18 => ?_)))))))))))))))))
 exact wgf (j := 13) R R R R R (wgf (j := 13) R R R R R (wgf (j := 13) R R R R R (wgf (j := 13) R R R R R (wgf (j := 13) R R R R R (wlq (pit R R) R (mv R R (wgf (j := 20) R R R R R (wgf (j := 20) R R R R R (wlq (pit R R) R (wln (wqm () trivial (yc R (yc R (sub_b R (by rw [h17, h18]; rfl) yn))) (zc pk1 (zc pk2 zn)))))))))))))
 refine wgn (j := 13) R R R (mv R R (wgn (j := 13) R R R (wlq (po_geq R R) R (wgn (j := 13) R R R (mv R R (wgn (j := 13) R R R (wlq (pol R R) R (wgn (j := 13) R R R (wlq (po_neq_bool ub_4 R R) R (wlq (pif R R) R (mv R R (wl_fork (t := 96) R (fun h19 => ?_) fun h19 => ?_))))))))))))
 exact wgf (j := 20) R R R R R (wgf (j := 20) R R R R R (wlq (pit R R) R (wln (wqm () trivial (yc R (yc R (sub_b R (by rw [h17, h18, h19]; rfl) yn))) (zc pk1 (zc pk2 zn))))))
 exact wgn (j := 20) R R R (mv R R (wgn (j := 20) R R R (wlq (po_gtr R R) R (wlq (pif R R) R (wln (wqm () trivial (yc R (yc R (sub_b R (by rw [h17, h18, h19]; rfl) yn))) (zc pk1 (zc pk2 zn))))))))
 refine wgf (j := 3) R R R R R (wgf (j := 3) R R R R R (wgf (j := 3) R R R R R (wgf (j := 3) R R R R R (wgf (j := 3) R R R R R (wgf (j := 3) R R R R R (wgf (j := 3) R R R R R (wlq (pif R R) R (wlq (po_neq_bool ub_4 R R) R (mv R R (wl_fork (t := 89) R (fun h20 => ?_) fun h20 => ?_))))))))))
 exact wgf (j := 13) R R R R R (wgf (j := 13) R R R R R (wgf (j := 13) R R R R R (wgf (j := 13) R R R R R (wgf (j := 13) R R R R R (wlq (pit R R) R (mv R R (wgf (j := 20) R R R R R (wgf (j := 20) R R R R R (wlq (pit R R) R (wln (wqm () trivial (yc R (yc R (sub_b R (by rw [h17, h20]; rfl) yn))) (zc pk1 (zc pk2 zn)))))))))))))
 refine wgn (j := 13) R R R (mv R R (wgn (j := 13) R R R (wlq (po_geq R R) R (wgn (j := 13) R R R (mv R R (wgn (j := 13) R R R (wlq (pol R R) R (wgn (j := 13) R R R (wlq (po_neq_bool ub_4 R R) R (wlq (pif R R) R (mv R R (wl_fork (t := 96) R (fun h21 => ?_) fun h21 => ?_))))))))))))
 exact wgf (j := 20) R R R R R (wgf (j := 20) R R R R R (wlq (pit R R) R (wln (wqm () trivial (yc R (yc R (sub_b R (by rw [h17, h20, h21]; rfl) yn))) (zc pk1 (zc pk2 zn))))))
 exact wgn (j := 20) R R R (mv R R (wgn (j := 20) R R R (wlq (po_gtr R R) R (wlq (pif R R) R (wln (wqm () trivial (yc R (yc R (sub_b R (by rw [h17, h20, h21]; rfl) yn))) (zc pk1 (zc pk2 zn))))))))
 intro _ _
 refine wqt (wcO t0 R (fun h22 t0 => ?_) fun h22 t0 => ?_)
 refine wcr (asg R R (wnt (wct (wqr ?_))))
 obtain rfl := oi t0
 exact wq1 R R fun w hw => ⟨R, hw.weak zn⟩
 refine wck (wqt (wcr (mv R R (bdO t0 fun v12 hv12 t0 => (wlc (cz1 fa_10 R fun w hw => c_spec_DrawEntries w a_code v0a (ra r0 hw) hv12) R fun x5 => (asg R R (wnt (wcr (mv R R (bdO t0 fun v13 hv13 t0 => (wlc (cz1 fa_11 R fun w hw => c_impl_CopiesIn w v12 x5.1 x5.2 (Rg.on (rgo pz) hw) hv13) R fun x6 => (asg R R (wnt (wcs (wcr (asg R R (wnt (gdO t0 fun g1 t0 => (sqO t0 fun y1 l1 t0 => (wj (J := Unit) (X := Unit) (fun z => y1 = .inl z) (fun _ _ => [(3, ptr b1 0), (8, (sl x5.1))]) (fun _ _ => [own (sl x5.1) x5.2 v12, box b1 [iv v2.1.Owner, iv v2.1.Day, iv v2.1.Block.Size, (sl x1.1)], ownF (sl x1.1) v2.1.Block.Cells]) ?_ ?_))))))))))))))))))))
 refine wcb (wcf (X := Unit) l1 (fun k1 s1 x1l => [(3, ptr b1 0), (8, (sl x5.1)), (9, (sl x6.1)), (10, iv ((k1 : Nat) : Int))]) (fun k1 s1 x1l => [own (sl x6.1) x6.2 v13, own (sl x5.1) x5.2 v12, box b1 [iv v2.1.Owner, iv v2.1.Day, iv v2.1.Block.Size, (sl x1.1)], ownF (sl x1.1) v2.1.Block.Cells]) () (su4 R R R R) so4 fun k1 s1 x1l hN1 l1 => ?_)
 by_cases hk1 : k1 < v13.length
 refine fos l1 hk1 fun _ t1 l1 => ?_
 unfold laws_FnDisputes_L1 at t1
 have c1 : (decide (((k1 : Nat) : Int) < ((v13.length : Nat) : Int))) = true := ddt (by omega)
 refine wcs (wcr (mv R R (mv R R (wlq (pln (rgo pz) el_36 R) R (wlq (pls R R) R (wnt (wft R c1 (wck (wqt (wcs (wcb (wcs (bdO t1 fun y2 t2 t1 => (wj (J := Bool) (X := Unit) (fun z => y2 = z) (fun z _ => [(3, ptr b1 0), (8, (sl x5.1)), (9, (sl x6.1)), (10, iv ((k1 : Nat) : Int)), (177, .bool z)]) (fun _ _ => [box b1 [iv v2.1.Owner, iv v2.1.Day, iv v2.1.Block.Size, (sl x1.1)], own (sl x5.1) x5.2 v12, own (sl x6.1) x6.2 v13, ownF (sl x1.1) v2.1.Block.Cells]) ?_ ?_))))))))))))))
 refine wcd [own (sl x6.1) x6.2 v13, own (sl x5.1) x5.2 v12, box b1 [iv v2.1.Owner, iv v2.1.Day, iv v2.1.Block.Size, (sl x1.1)], ownF (sl x1.1) v2.1.Block.Cells] 68 mixed (aq 0 R (pom R) so4 R (aq 1 R (pom R) so4 R (aq 2 R (po_ixn (k := k1) (rgo pz) el_36 R R hk1) so4 R (wa_elem (rgo pz) hk1 ?_))))
 rintro ⟨_, _, he1⟩
 obtain ⟨w1, hc1, _⟩ := rd_LF.1 he1
 refine aq (v := (sl w1)) 3 R (po_ldn (rgo pz) tk_38 R hc1 R) so4 R (aq 4 R (pln (er_LF hc1 (rgo pz) hk1) el_38 R) so4 R (aq 5 R (po_neq R R) so4 R (aq 6 R (pom R) so4 R (waO_ (t := 116) t2 R (fun h23 t2 => ?_) fun h23 t2 => ?_))))
 refine af 7 6 R R R R R so4 R (af 8 6 R R R R R so4 R (af 9 6 R R R R R so4 R (af 10 6 R R R R R so4 R (af 11 6 R R R R R so4 R (af 12 6 R R R R R so4 R (af 13 6 R R R R R so4 R (aq 14 R (pit R R) so4 R (aq 15 R (pom R) so4 R (af 16 15 R R R R R so4 R (af 17 15 R R R R R so4 R (af 18 15 R R R R R so4 R (af 19 15 R R R R R so4 R (af 20 15 R R R R R so4 R (af 21 15 R R R R R so4 R (af 22 15 R R R R R so4 R (af 23 15 R R R R R so4 R (af 24 15 R R R R R so4 R (aq 25 R (pit R R) so4 R (aq 26 R (pom R) so4 R (af 27 26 R R R R R so4 R (af 28 26 R R R R R so4 R (af 29 26 R R R R R so4 R (af 30 26 R R R R R so4 R (af 31 26 R R R R R so4 R (af 32 26 R R R R R so4 R (af 33 26 R R R R R so4 R (aq 34 R (pit R R) so4 R (aq 35 R (pom R) so4 R (af 36 35 R R R R R so4 R (af 37 35 R R R R R so4 R (af 38 35 R R R R R so4 R (af 39 35 R R R R R so4 R (af 40 35 R R R R R so4 R (af 41 35 R R R R R so4 R (af 42 35 R R R R R so4 R (af 43 35 R R R R R so4 R (af 44 35 R R R R R so4 R (aq 45 R (pit R R) so4 R (aq 46 R (pom R) so4 R ?_)))))))))))))))))))))))))))))))))))))))
 exact af 47 46 R R R R R so4 R (af 48 46 R R R R R so4 R (af 49 46 R R R R R so4 R (af 50 46 R R R R R so4 R (af 51 46 R R R R R so4 R (af 52 46 R R R R R so4 R (af 53 46 R R R R R so4 R (af 54 46 R R R R R so4 R (af 55 46 R R R R R so4 R (af 56 46 R R R R R so4 R (af 57 46 R R R R R so4 R (af 58 46 R R R R R so4 R (af 59 46 R R R R R so4 R (af 60 46 R R R R R so4 R (af 61 46 R R R R R so4 R (af 62 46 R R R R R so4 R (af 63 46 R R R R R so4 R (af 64 46 R R R R R so4 R (af 65 46 R R R R R so4 R (af 66 46 R R R R R so4 R (aq 67 R (pit R R) so4 R (ae (wjm _ () (mtE t2) (su5 R R R R R) (zc pk2 (zc pk1 so2))))))))))))))))))))))))
 refine an 7 6 R R R R (pom R) so4 R (an 8 6 R R R R (pom R) so4 R (an 9 6 R R R R (po_ixn (k := k1) (rgo pz) el_36 R R hk1) so4 R (an (v := (sl w1)) 10 6 R R R R (po_ldn (rgo pz) tk_38 R hc1 R) so4 R (gdO t2 fun g2 t2 => (an 11 6 R R R R (po_ixn (k := 0) (er_LF hc1 (rgo pz) hk1) el_38 R R g2) so4 R (an (v := iv (gx (gx v13 k1) 0)) 12 6 R R R R (po_ldf (er_LF hc1 (rgo pz) hk1) tk_3 R g2 R) so4 R (an 13 6 R R R R (pls R R) so4 R (aq 14 R (pif R R) so4 R (aq 15 R (pom R) so4 R (waO_ (t := 125) t2 R (fun h24 t2 => ?_) fun h24 t2 => ?_))))))))))
 refine af 16 15 R R R R R so4 R (af 17 15 R R R R R so4 R (af 18 15 R R R R R so4 R (af 19 15 R R R R R so4 R (af 20 15 R R R R R so4 R (af 21 15 R R R R R so4 R (af 22 15 R R R R R so4 R (af 23 15 R R R R R so4 R (af 24 15 R R R R R so4 R (aq 25 R (pit R R) so4 R (aq 26 R (pom R) so4 R (af 27 26 R R R R R so4 R (af 28 26 R R R R R so4 R (af 29 26 R R R R R so4 R (af 30 26 R R R R R so4 R (af 31 26 R R R R R so4 R (af 32 26 R R R R R so4 R (af 33 26 R R R R R so4 R (aq 34 R (pit R R) so4 R (aq 35 R (pom R) so4 R (af 36 35 R R R R R so4 R (af 37 35 R R R R R so4 R (af 38 35 R R R R R so4 R (af 39 35 R R R R R so4 R (af 40 35 R R R R R so4 R (af 41 35 R R R R R so4 R (af 42 35 R R R R R so4 R (af 43 35 R R R R R so4 R (af 44 35 R R R R R so4 R (aq 45 R (pit R R) so4 R (aq 46 R (pom R) so4 R (af 47 46 R R R R R so4 R (af 48 46 R R R R R so4 R (af 49 46 R R R R R so4 R (af 50 46 R R R R R so4 R (af 51 46 R R R R R so4 R (af 52 46 R R R R R so4 R (af 53 46 R R R R R so4 R (af 54 46 R R R R R so4 R (af 55 46 R R R R R so4 R ?_)))))))))))))))))))))))))))))))))))))))
 exact af 56 46 R R R R R so4 R (af 57 46 R R R R R so4 R (af 58 46 R R R R R so4 R (af 59 46 R R R R R so4 R (af 60 46 R R R R R so4 R (af 61 46 R R R R R so4 R (af 62 46 R R R R R so4 R (af 63 46 R R R R R so4 R (af 64 46 R R R R R so4 R (af 65 46 R R R R R so4 R (af 66 46 R R R R R so4 R (aq 67 R (pit R R) so4 R (ae (wjm _ () (mtE t2) (su5 R R R R R) (zc pk2 (zc pk1 so2)))))))))))))))
 refine an 16 15 R R R R (pom R) so4 R (an 17 15 R R R R (pom R) so4 R (an 18 15 R R R R (po_ixn (k := k1) (rgo pz) el_36 R R hk1) so4 R (an (v := (sl w1)) 19 15 R R R R (po_ldn (rgo pz) tk_38 R hc1 R) so4 R (an 20 15 R R R R (po_ixn (k := 0) (er_LF hc1 (rgo pz) hk1) el_38 R R g2) so4 R (an (v := iv (gx (gx v13 k1) 0)) 21 15 R R R R (po_ldf (er_LF hc1 (rgo pz) hk1) tk_3 R g2 R) so4 R (an 22 15 R R R R (pom R) so4 R (an 23 15 R R R R (pln (rgo pk1) el_34 R) so4 R (an 24 15 R R R R (po_geq R R) so4 R (aq 25 R (pif R R) so4 R (aq 26 R (pom R) so4 R (waO_ (t := 136) t2 R (fun h25 t2 => ?_) fun h25 t2 => ?_)))))))))))
 refine af 27 26 R R R R R so4 R (af 28 26 R R R R R so4 R (af 29 26 R R R R R so4 R (af 30 26 R R R R R so4 R (af 31 26 R R R R R so4 R (af 32 26 R R R R R so4 R (af 33 26 R R R R R so4 R (aq 34 R (pit R R) so4 R (aq 35 R (pom R) so4 R (af 36 35 R R R R R so4 R (af 37 35 R R R R R so4 R (af 38 35 R R R R R so4 R (af 39 35 R R R R R so4 R (af 40 35 R R R R R so4 R (af 41 35 R R R R R so4 R (af 42 35 R R R R R so4 R (af 43 35 R R R R R so4 R (af 44 35 R R R R R so4 R (aq 45 R (pit R R) so4 R (aq 46 R (pom R) so4 R (af 47 46 R R R R R so4 R (af 48 46 R R R R R so4 R (af 49 46 R R R R R so4 R (af 50 46 R R R R R so4 R (af 51 46 R R R R R so4 R (af 52 46 R R R R R so4 R (af 53 46 R R R R R so4 R (af 54 46 R R R R R so4 R (af 55 46 R R R R R so4 R (af 56 46 R R R R R so4 R (af 57 46 R R R R R so4 R (af 58 46 R R R R R so4 R (af 59 46 R R R R R so4 R (af 60 46 R R R R R so4 R (af 61 46 R R R R R so4 R (af 62 46 R R R R R so4 R (af 63 46 R R R R R so4 R (af 64 46 R R R R R so4 R (af 65 46 R R R R R so4 R (af 66 46 R R R R R so4 R ?_)))))))))))))))))))))))))))))))))))))))
 exact aq 67 R (pit R R) so4 R (ae (wjm _ () (mtE t2) (su5 R R R R R) (zc pk2 (zc pk1 so2))))
 refine an 27 26 R R R R (pom R) so4 R (an 28 26 R R R R (pom R) so4 R (an 29 26 R R R R (po_ixn (k := k1) (rgo pz) el_36 R R hk1) so4 R (an (v := (sl w1)) 30 26 R R R R (po_ldn (rgo pz) tk_38 R hc1 R) so4 R (gdO t2 fun g3 t2 => (an 31 26 R R R R (po_ixn (k := 1) (er_LF hc1 (rgo pz) hk1) el_38 R R g3) so4 R (an (v := iv (gx (gx v13 k1) 1)) 32 26 R R R R (po_ldf (er_LF hc1 (rgo pz) hk1) tk_3 R g3 R) so4 R (an 33 26 R R R R (pls R R) so4 R (aq 34 R (pif R R) so4 R (aq 35 R (pom R) so4 R (waO_ (t := 145) t2 R (fun h26 t2 => ?_) fun h26 t2 => ?_))))))))))
 exact af 36 35 R R R R R so4 R (af 37 35 R R R R R so4 R (af 38 35 R R R R R so4 R (af 39 35 R R R R R so4 R (af 40 35 R R R R R so4 R (af 41 35 R R R R R so4 R (af 42 35 R R R R R so4 R (af 43 35 R R R R R so4 R (af 44 35 R R R R R so4 R (aq 45 R (pit R R) so4 R (aq 46 R (pom R) so4 R (af 47 46 R R R R R so4 R (af 48 46 R R R R R so4 R (af 49 46 R R R R R so4 R (af 50 46 R R R R R so4 R (af 51 46 R R R R R so4 R (af 52 46 R R R R R so4 R (af 53 46 R R R R R so4 R (af 54 46 R R R R R so4 R (af 55 46 R R R R R so4 R (af 56 46 R R R R R so4 R (af 57 46 R R R R R so4 R (af 58 46 R R R R R so4 R (af 59 46 R R R R R so4 R (af 60 46 R R R R R so4 R (af 61 46 R R R R R so4 R (af 62 46 R R R R R so4 R (af 63 46 R R R R R so4 R (af 64 46 R R R R R so4 R (af 65 46 R R R R R so4 R (af 66 46 R R R R R so4 R (aq 67 R (pit R R) so4 R (ae (wjm _ () (mtE t2) (su5 R R R R R) (zc pk2 (zc pk1 so2)))))))))))))))))))))))))))))))))))
 refine an 36 35 R R R R (pom R) so4 R (an 37 35 R R R R (pom R) so4 R (an 38 35 R R R R (po_ixn (k := k1) (rgo pz) el_36 R R hk1) so4 R (an (v := (sl w1)) 39 35 R R R R (po_ldn (rgo pz) tk_38 R hc1 R) so4 R (an 40 35 R R R R (po_ixn (k := 1) (er_LF hc1 (rgo pz) hk1) el_38 R R g3) so4 R (an (v := iv (gx (gx v13 k1) 1)) 41 35 R R R R (po_ldf (er_LF hc1 (rgo pz) hk1) tk_3 R g3 R) so4 R (an 42 35 R R R R (pom R) so4 R (an 43 35 R R R R (pln (rgo pk1) el_34 R) so4 R (an 44 35 R R R R (po_geq R R) so4 R (aq 45 R (pif R R) so4 R (aq 46 R (pom R) so4 R (waO_ (t := 156) t2 R (fun h27 t2 => ?_) fun h27 t2 => ?_)))))))))))
 exact af 47 46 R R R R R so4 R (af 48 46 R R R R R so4 R (af 49 46 R R R R R so4 R (af 50 46 R R R R R so4 R (af 51 46 R R R R R so4 R (af 52 46 R R R R R so4 R (af 53 46 R R R R R so4 R (af 54 46 R R R R R so4 R (af 55 46 R R R R R so4 R (af 56 46 R R R R R so4 R (af 57 46 R R R R R so4 R (af 58 46 R R R R R so4 R (af 59 46 R R R R R so4 R (af 60 46 R R R R R so4 R (af 61 46 R R R R R so4 R (af 62 46 R R R R R so4 R (af 63 46 R R R R R so4 R (af 64 46 R R R R R so4 R (af 65 46 R R R R R so4 R (af 66 46 R R R R R so4 R (aq 67 R (pit R R) so4 R (ae (wjm _ () (mtE t2) (su5 R R R R R) (zc pk2 (zc pk1 so2))))))))))))))))))))))))
 refine an 47 46 R R R R (pom R) so4 R (an 48 46 R R R R (pom R) so4 R (an 49 46 R R R R (pom R) so4 R (an 50 46 R R R R (po_ixn (k := k1) (rgo pz) el_36 R R hk1) so4 R (an (v := (sl w1)) 51 46 R R R R (po_ldn (rgo pz) tk_38 R hc1 R) so4 R (an 52 46 R R R R (po_ixn (k := 0) (er_LF hc1 (rgo pz) hk1) el_38 R R g2) so4 R (an (v := iv (gx (gx v13 k1) 0)) 53 46 R R R R (po_ldf (er_LF hc1 (rgo pz) hk1) tk_3 R g2 R) so4 R (gdO t2 fun g4 t2 => (an 54 46 R R R R (po_ixr (rgo pk1) el_34 R R g4.1 g4.2) so4 R (wa_elem (rgo pk1) (ix_lt g4) ?_)))))))))
 rintro ⟨_, _, he2⟩
 obtain ⟨w2, hc2, _⟩ := rd_GEntry.1 he2
 refine an (v := .agg #[iv ((gx v12 (((gx (gx v13 k1) 0)).toNat)).Owner), iv ((gx v12 (((gx (gx v13 k1) 0)).toNat)).Day), iv (((gx v12 (((gx (gx v13 k1) 0)).toNat)).Block).Size), (sl w2)]) 55 46 R R R R (po_ldns (rgo pk1) tk_28 R hc2 R R R) so4 R (an 56 46 R R R R (pom R) so4 R (an 57 46 R R R R (pom R) so4 R (an 58 46 R R R R (pom R) so4 R (an 59 46 R R R R (po_ixn (k := k1) (rgo pz) el_36 R R hk1) so4 R (an (v := (sl w1)) 60 46 R R R R (po_ldn (rgo pz) tk_38 R hc1 R) so4 R (an 61 46 R R R R (po_ixn (k := 1) (er_LF hc1 (rgo pz) hk1) el_38 R R g3) so4 R (an (v := iv (gx (gx v13 k1) 1)) 62 46 R R R R (po_ldf (er_LF hc1 (rgo pz) hk1) tk_3 R g3 R) so4 R (gdO t2 fun g5 t2 => (an 63 46 R R R R (po_ixr (rgo pk1) el_34 R R g5.1 g5.2) so4 R (wa_elem (rgo pk1) (ix_lt g5) ?_))))))))))
 rintro ⟨_, _, he3⟩
 obtain ⟨w3, hc3, _⟩ := rd_GEntry.1 he3
 exact an (v := .agg #[iv ((gx v12 (((gx (gx v13 k1) 1)).toNat)).Owner), iv ((gx v12 (((gx (gx v13 k1) 1)).toNat)).Day), iv (((gx v12 (((gx (gx v13 k1) 1)).toNat)).Block).Size), (sl w3)]) 64 46 R R R R (po_ldns (rgo pk1) tk_28 R hc3 R R R) so4 R (a1 65 (bdO t2 fun v14 hv14 t2 => (ws_call_on (j := 46) R R R R (cz0 fa_8 R fun w hw => c_impl_IsCopy w (gx v12 (((gx (gx v13 k1) 0)).toNat)) w2 (Rg.on (er_GEntry_0 hc2 (rgo pk1) (ix_lt g4)) hw) (gx v12 (((gx (gx v13 k1) 1)).toNat)) w3 (Rg.on (er_GEntry_0 hc3 (rgo pk1) (ix_lt g5)) hw) hv14) (fun _ => (zt so4)) R fun _ => (an 66 46 R R R R (po_not R) so4 R (aq 67 R (pif R R) so4 R (ae (wjm _ () (mtE t2) (su5 R R R R R) (zc pk2 (zc pk1 so2)))))))))
 intro j4 _ hp
 obtain rfl : j4 = y2 := hp.symm
 refine wqt (wcO t1 R (fun h28 t1 => ?_) fun h28 t1 => ?_)
 refine wcr (asg R R (wnt (wct (wbr (wqr (wqr (wbr (wqr (wqr ?_)))))))))
 replace t0 := lpR t0 l1 t1
 obtain rfl := oi t0
 exact wq1 R R fun w hw => ⟨R, hw.weak zn⟩
 refine wck (wqb (wqt (wcg (mv R R (wlq (po_inc R R (by omega)) R ?_)))))
 exact asg R R (wln (wq_rnd hk1 (stpN l1 t1) () (su4 R R R R) (zc pk2 (zc pk1 so2))))
 have c1 : (decide (((k1 : Nat) : Int) < ((v13.length : Nat) : Int))) = false := ddf (by omega)
 have en1 := foe l1 hk1
 exact wcs (wcr (mv R R (mv R R (wlq (pln (rgo pz) el_36 R) R (wlq (pls R R) R (wnt (wff R c1 (wcx (wqe (wqe (wbx (wjm _ () en1 (su2 R R) (zc pk1 (zc pk1 (zc pk1 zn)))))))))))))))
 intro e1 _ hp
 replace t0 := sqE (j := e1) t0 hp
 refine wqt (wcs (wcr (asg R R (wnt (gdO t0 fun g6 t0 => (sqO t0 fun y1 l1 t0 => (wj (J := Unit) (X := Unit) (fun z => y1 = .inl z) (fun _ _ => [(3, ptr b1 0)]) (fun _ _ => [box b1 [iv v2.1.Owner, iv v2.1.Day, iv v2.1.Block.Size, (sl x1.1)], ownF (sl x1.1) v2.1.Block.Cells]) ?_ ?_)))))))
 refine wcb (wcf (X := Unit) l1 (fun k2 s2 x2l => [(3, ptr b1 0), (8, (sl x5.1)), (11, iv ((k2 : Nat) : Int))]) (fun k2 s2 x2l => [own (sl x5.1) x5.2 v12, box b1 [iv v2.1.Owner, iv v2.1.Day, iv v2.1.Block.Size, (sl x1.1)], ownF (sl x1.1) v2.1.Block.Cells]) () (su3 R R R) so3 fun k2 s2 x2l hN2 l1 => ?_)
 by_cases hk2 : k2 < v12.length
 refine fos l1 hk2 fun _ t1 l1 => ?_
 unfold laws_FnDisputes_L2 at t1
 have c2 : (decide (((k2 : Nat) : Int) < ((v12.length : Nat) : Int))) = true := ddt (by omega)
 refine wcs (wcr (mv R R (mv R R (wlq (pln (rgo pz) el_34 R) R (wlq (pls R R) R (wnt (wft R c2 (wck (wqt (wcs (wcb (wcr (mv R R (mv R R (mv R R (wlq (po_ixn (k := k2) (rgo pz) el_34 R R hk2) R (wl_elem (rgo pz) hk2 ?_)))))))))))))))))
 rintro ⟨_, _, he4⟩
 obtain ⟨w4, hc4, _⟩ := rd_GEntry.1 he4
 refine wlq (v := .agg #[iv ((gx v12 k2).Owner), iv ((gx v12 k2).Day), iv (((gx v12 k2).Block).Size), (sl w4)]) (po_ldns (rgo pz) tk_28 R hc4 R R R) R (bdO t1 fun v15 hv15 t1 => (wlc (cz0 fa_12 R fun w hw => c_impl_FirstOf w v12 x5.1 x5.2 (Rg.on (rgo pz) hw) (gx v12 k2) w4 (Rg.on (er_GEntry_0 hc4 (rgo pz) hk2) hw) hv15) R fun _ => (asg R R (wnt (wcs (bdO t1 fun y2 t2 t1 => (wj (J := Bool) (X := Unit) (fun z => y2 = z) (fun z _ => [(3, ptr b1 0), (8, (sl x5.1)), (11, iv ((k2 : Nat) : Int)), (233, .bool z)]) (fun _ _ => [box b1 [iv v2.1.Owner, iv v2.1.Day, iv v2.1.Block.Size, (sl x1.1)], own (sl x5.1) x5.2 v12, ownF (sl x1.1) v2.1.Block.Cells]) ?_ ?_)))))))
 refine wcd [own (sl x5.1) x5.2 v12, box b1 [iv v2.1.Owner, iv v2.1.Day, iv v2.1.Block.Size, (sl x1.1)], ownF (sl x1.1) v2.1.Block.Cells] 44 mixed (aq 0 R (pom R) so3 R (aq 1 R (pls R R) so3 R (aq 2 R (pom R) so3 R (waO_ (t := 192) t2 R (fun h29 t2 => ?_) fun h29 t2 => ?_))))
 refine af 3 2 R R R R R so3 R (af 4 2 R R R R R so3 R (af 5 2 R R R R R so3 R (af 6 2 R R R R R so3 R (aq 7 R (pit R R) so3 R (aq 8 R (pom R) so3 R (af 9 8 R R R R R so3 R (af 10 8 R R R R R so3 R (af 11 8 R R R R R so3 R (af 12 8 R R R R R so3 R (af 13 8 R R R R R so3 R (af 14 8 R R R R R so3 R (af 15 8 R R R R R so3 R (af 16 8 R R R R R so3 R (af 17 8 R R R R R so3 R (af 18 8 R R R R R so3 R (af 19 8 R R R R R so3 R (aq 20 R (pit R R) so3 R (aq 21 R (pom R) so3 R (af 22 21 R R R R R so3 R (af 23 21 R R R R R so3 R (af 24 21 R R R R R so3 R (af 25 21 R R R R R so3 R (af 26 21 R R R R R so3 R (af 27 21 R R R R R so3 R (af 28 21 R R R R R so3 R (af 29 21 R R R R R so3 R (af 30 21 R R R R R so3 R (af 31 21 R R R R R so3 R (aq 32 R (pit R R) so3 R (aq 33 R (pom R) so3 R (af 34 33 R R R R R so3 R (af 35 33 R R R R R so3 R (af 36 33 R R R R R so3 R (af 37 33 R R R R R so3 R (af 38 33 R R R R R so3 R (af 39 33 R R R R R so3 R (af 40 33 R R R R R so3 R (af 41 33 R R R R R so3 R (af 42 33 R R R R R so3 R ?_)))))))))))))))))))))))))))))))))))))))
 exact aq 43 R (pit R R) so3 R (ae (wjm _ () (mtE t2) (su4 R R R R) (zc pk1 so2)))
 refine an 3 2 R R R R (pom R) so3 R (an 4 2 R R R R (pom R) so3 R (an 5 2 R R R R (pln (rgo pz) el_34 R) so3 R (an 6 2 R R R R (po_geq R R) so3 R (aq 7 R (pif R R) so3 R (aq 8 R (pom R) so3 R (waO_ (t := 198) t2 R (fun h30 t2 => ?_) fun h30 t2 => ?_))))))
 exact af 9 8 R R R R R so3 R (af 10 8 R R R R R so3 R (af 11 8 R R R R R so3 R (af 12 8 R R R R R so3 R (af 13 8 R R R R R so3 R (af 14 8 R R R R R so3 R (af 15 8 R R R R R so3 R (af 16 8 R R R R R so3 R (af 17 8 R R R R R so3 R (af 18 8 R R R R R so3 R (af 19 8 R R R R R so3 R (aq 20 R (pit R R) so3 R (aq 21 R (pom R) so3 R (af 22 21 R R R R R so3 R (af 23 21 R R R R R so3 R (af 24 21 R R R R R so3 R (af 25 21 R R R R R so3 R (af 26 21 R R R R R so3 R (af 27 21 R R R R R so3 R (af 28 21 R R R R R so3 R (af 29 21 R R R R R so3 R (af 30 21 R R R R R so3 R (af 31 21 R R R R R so3 R (aq 32 R (pit R R) so3 R (aq 33 R (pom R) so3 R (af 34 33 R R R R R so3 R (af 35 33 R R R R R so3 R (af 36 33 R R R R R so3 R (af 37 33 R R R R R so3 R (af 38 33 R R R R R so3 R (af 39 33 R R R R R so3 R (af 40 33 R R R R R so3 R (af 41 33 R R R R R so3 R (af 42 33 R R R R R so3 R (aq 43 R (pit R R) so3 R (ae (wjm _ () (mtE t2) (su4 R R R R) (zc pk1 so2)))))))))))))))))))))))))))))))))))))
 refine an 9 8 R R R R (pom R) so3 R (an 10 8 R R R R (pom R) so3 R (gdO t2 fun g7 t2 => (an 11 8 R R R R (po_ixr (rgo pz) el_34 R R g7.1 g7.2) so3 R (an 12 8 R R R R (po_sfldr (rgo pz) (ix_lt g7) fo_28_1 R) so3 R (wa_elem (rgo pz) (ix_lt g7) ?_)))))
 rintro ⟨_, _, he5⟩
 obtain ⟨w5, hc5, _⟩ := rd_GEntry.1 he5
 refine an (v := iv ((gx v12 ((v15).toNat)).Day)) 13 8 R R R R (po_ldn (rgo pz) tk_3 R hc5 R) so3 R (an 14 8 R R R R (pom R) so3 R (an 15 8 R R R R (pom R) so3 R (an 16 8 R R R R (po_ixn (k := k2) (rgo pz) el_34 R R hk2) so3 R (an 17 8 R R R R (po_sfldr (rgo pz) hk2 fo_28_1 R) so3 R (an (v := iv ((gx v12 k2).Day)) 18 8 R R R R (po_ldn (rgo pz) tk_3 R hc4 R) so3 R (an 19 8 R R R R (po_gtr R R) so3 R (aq 20 R (pif R R) so3 R (aq 21 R (pom R) so3 R (waO_ (t := 211) t2 R (fun h31 t2 => ?_) fun h31 t2 => ?_)))))))))
 exact af 22 21 R R R R R so3 R (af 23 21 R R R R R so3 R (af 24 21 R R R R R so3 R (af 25 21 R R R R R so3 R (af 26 21 R R R R R so3 R (af 27 21 R R R R R so3 R (af 28 21 R R R R R so3 R (af 29 21 R R R R R so3 R (af 30 21 R R R R R so3 R (af 31 21 R R R R R so3 R (aq 32 R (pit R R) so3 R (aq 33 R (pom R) so3 R (af 34 33 R R R R R so3 R (af 35 33 R R R R R so3 R (af 36 33 R R R R R so3 R (af 37 33 R R R R R so3 R (af 38 33 R R R R R so3 R (af 39 33 R R R R R so3 R (af 40 33 R R R R R so3 R (af 41 33 R R R R R so3 R (af 42 33 R R R R R so3 R (aq 43 R (pit R R) so3 R (ae (wjm _ () (mtE t2) (su4 R R R R) (zc pk1 so2))))))))))))))))))))))))
 refine an 22 21 R R R R (pom R) so3 R (an 23 21 R R R R (pom R) so3 R (an 24 21 R R R R (po_ixr (rgo pz) el_34 R R g7.1 g7.2) so3 R (an (v := .agg #[iv ((gx v12 ((v15).toNat)).Owner), iv ((gx v12 ((v15).toNat)).Day), iv (((gx v12 ((v15).toNat)).Block).Size), (sl w5)]) 25 21 R R R R (po_ldns (rgo pz) tk_28 R hc5 R R R) so3 R (an 26 21 R R R R (pom R) so3 R (an 27 21 R R R R (pom R) so3 R (an 28 21 R R R R (po_ixn (k := k2) (rgo pz) el_34 R R hk2) so3 R (an (v := .agg #[iv ((gx v12 k2).Owner), iv ((gx v12 k2).Day), iv (((gx v12 k2).Block).Size), (sl w4)]) 29 21 R R R R (po_ldns (rgo pz) tk_28 R hc4 R R R) so3 R (a1 30 (bdO t2 fun v16 hv16 t2 => (ws_call_on (j := 21) R R R R (cz0 fa_6 R fun w hw => c_impl_VerdictOn w (gx v12 ((v15).toNat)) w5 (Rg.on (er_GEntry_0 hc5 (rgo pz) (ix_lt g7)) hw) (gx v12 k2) w4 (Rg.on (er_GEntry_0 hc4 (rgo pz) hk2) hw) hv16) (fun _ => (zt so3)) R fun _ => (an 31 21 R R R R (po_neq R R) so3 R (aq 32 R (pif R R) so3 R (aq 33 R (pom R) so3 R (waO_ (t := 223) t2 R (fun h32 t2 => ?_) fun h32 t2 => ?_))))))))))))))
 exact af 34 33 R R R R R so3 R (af 35 33 R R R R R so3 R (af 36 33 R R R R R so3 R (af 37 33 R R R R R so3 R (af 38 33 R R R R R so3 R (af 39 33 R R R R R so3 R (af 40 33 R R R R R so3 R (af 41 33 R R R R R so3 R (af 42 33 R R R R R so3 R (aq 43 R (pit R R) so3 R (ae (wjm _ () (mtE t2) (su4 R R R R) (zc pk1 so2))))))))))))
 exact an 34 33 R R R R (pom R) so3 R (an 35 33 R R R R (pom R) so3 R (an 36 33 R R R R (po_ixr (rgo pz) el_34 R R g7.1 g7.2) so3 R (an (v := .agg #[iv ((gx v12 ((v15).toNat)).Owner), iv ((gx v12 ((v15).toNat)).Day), iv (((gx v12 ((v15).toNat)).Block).Size), (sl w5)]) 37 33 R R R R (po_ldns (rgo pz) tk_28 R hc5 R R R) so3 R (an 38 33 R R R R (pom R) so3 R (an 39 33 R R R R (pom R) so3 R (an 40 33 R R R R (po_ixn (k := k2) (rgo pz) el_34 R R hk2) so3 R (an (v := .agg #[iv ((gx v12 k2).Owner), iv ((gx v12 k2).Day), iv (((gx v12 k2).Block).Size), (sl w4)]) 41 33 R R R R (po_ldns (rgo pz) tk_28 R hc4 R R R) so3 R (a1 42 (bdO t2 fun v17 hv17 t2 => (ws_call_on (j := 33) R R R R (cz0 fa_8 R fun w hw => c_impl_IsCopy w (gx v12 ((v15).toNat)) w5 (Rg.on (er_GEntry_0 hc5 (rgo pz) (ix_lt g7)) hw) (gx v12 k2) w4 (Rg.on (er_GEntry_0 hc4 (rgo pz) hk2) hw) hv17) (fun _ => (zt so3)) R fun _ => (aq 43 R (pif R R) so3 R (ae (wjm _ () (mtE t2) (su4 R R R R) (zc pk1 so2))))))))))))))
 intro j5 _ hp
 obtain rfl : j5 = y2 := hp.symm
 refine wqt (wcO t1 R (fun h33 t1 => ?_) fun h33 t1 => ?_)
 refine wcr (asg R R (wnt (wct (wbr (wqr (wqr (wbr (wqr (wqr ?_)))))))))
 replace t0 := lpR t0 l1 t1
 obtain rfl := oi t0
 exact wq1 R R fun w hw => ⟨R, hw.weak zn⟩
 refine wck (wqb (wqt (wcg (mv R R (wlq (po_inc R R (by omega)) R ?_)))))
 exact asg R R (wln (wq_rnd hk2 (stpN l1 t1) () (su3 R R R) (zc pk1 so2)))
 have c2 : (decide (((k2 : Nat) : Int) < ((v12.length : Nat) : Int))) = false := ddf (by omega)
 have en2 := foe l1 hk2
 exact wcs (wcr (mv R R (mv R R (wlq (pln (rgo pz) el_34 R) R (wlq (pls R R) R (wnt (wff R c2 (wcx (wqe (wqe (wbx (wjm _ () en2 (su1 R) (zc pk1 (zc pk1 zn))))))))))))))
 intro e2 _ hp
 replace t0 := sqE (j := e2) t0 hp
 refine wqt (wcs (bdO t0 fun y1 t1 t0 => (wj (J := Bool) (X := Unit) (fun z => y1 = z) (fun z _ => [(2, .bool z)]) (fun _ _ => []) ?_ ?_)))
 refine wcd [box b1 [iv v2.1.Owner, iv v2.1.Day, iv v2.1.Block.Size, (sl x1.1)], ownF (sl x1.1) v2.1.Block.Cells] 11 mixed (aq (v := .agg #[iv v2.1.Owner, iv v2.1.Day, iv v2.1.Block.Size, (sl x1.1)]) 0 R (plb tk_28 pz R R R) so2 R (aq (v := .agg #[iv v2.1.Owner, iv v2.1.Day, iv v2.1.Block.Size, (sl x1.1)]) 2 R (plb tk_28 pz R R R) so2 R (a1 1 (bdO t1 fun v18 hv18 t1 => (wsc R (cz0 fa_13 R fun w hw => c_impl_EntryOk w v2.1 x1.1 (Rg.on (rgo pk1) hw) hv18) (fun _ => (zt so2)) R fun _ => (a1 3 (bdO t1 fun v19 hv19 t1 => (wsc R (cz0 fa_9 R fun w hw => c_spec_EntryOk w v2.1 x1.1 (Rg.on (rgo pk1) hw) hv19) (fun _ => (zt so2)) R fun _ => (aq 4 R (po_eql_bool ub_4 R R) so2 R (aq 5 R (pom R) so2 R (waO_ (t := 239) t1 R (fun h34 t1 => ?_) fun h34 t1 => ?_)))))))))))
 exact a1 6 (bdO t1 fun v20 hv20 t1 => (ws_call_on (j := 5) R R R R (cz1 fa_14 R fun w hw => c_spec_StarBlock w hv20) (fun _ => (zt (zc pk1 (zc pk1 zn)))) R fun x12 => (an 7 5 R R R R (po_build R (bd_28_2 v20.Size x12)) (zc pk1 (zc pk1 zn)) R (a1 8 (bdO t1 fun v21 hv21 t1 => (ws_call_on (j := 5) R R R R (cz0 fa_13 R fun w hw => c_impl_EntryOk w (GEntry.mk 0 0 v20) x12 (Rg.on (rgo pz) hw) hv21) (fun _ => (zt (zc pk1 (zc pk1 zn)))) R fun _ => (aq 9 R (pit R R) (zc pk1 (zc pk1 zn)) R (aq 10 R (po_assign R) (zc pk1 (zc pk1 zn)) R (ae (wjm _ () (mtE t1) (su1 R) zn))))))))))
 exact af 6 5 R R R R R so2 R (af 7 5 R R R R R so2 R (af 8 5 R R R R R so2 R (aq 9 R (pif R R) so2 R (aq 10 R (po_assign R) so2 R (ae (wjm _ () (mtE t1) (su1 R) zn))))))
 intro j6 _ hp
 obtain rfl : j6 = y1 := hp.symm
 refine wqt (wct ?_)
 obtain rfl := oi t0
 exact wq1 R R fun w hw => ⟨R, hw.weak zn⟩

end Go.Proofs.YtgbcpjffnkiabaaGreatDoor
