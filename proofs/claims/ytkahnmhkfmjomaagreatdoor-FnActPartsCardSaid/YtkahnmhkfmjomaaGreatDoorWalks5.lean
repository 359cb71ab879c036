/-
 Each Go function computes its Lean function (part 5).
-/
import Derived.Test.YtkahnmhkfmjomaaGreatDoorWalks4
namespace Go.Proofs.YtkahnmhkfmjomaaGreatDoor
open Go Go.RowKit Go.Proofs
set_option maxRecDepth 100000

theorem c_impl_SameBlock (w : World) (a_b : GBlock) (v0a : Hd) (r0 : rdF w (dm w []) (sl v0a) a_b.Cells) (a_d : GBlock) (v1a : Hd) (r1 : rdF w (dm w []) (sl v1a) a_d.Cells) {r : Bool} (t0 : impl_SameBlock a_b a_d = some r) : Calls Tryz.prog 113 #[.agg #[.int .i64 a_b.Size, (sl v0a)], .agg #[.int .i64 a_d.Size, (sl v1a)]] w fun e w' => e = .returned (.bool r) ∧ SH w [] [] w' := by
 refine cwc (args := [_, _]) Tryz.func113 R Tryz.ntmps113 R ?_
 unfold impl_SameBlock at t0
 refine wcr (wle (eo_box R R) R fun b1 => (wle (eo_box R R) R fun b2 => (asg R R (wnt (wcs (wcs (wcj (X := Unit) (fun _ => True) (fun _ => [(2, ptr b1 0), (3, ptr b2 0), (19, .bool ((a_b.Size != a_d.Size) || (((a_b.Cells.length : Nat) : Int) != ((a_d.Cells.length : Nat) : Int))))]) (fun _ => [box b2 [iv a_d.Size, (sl v1a)], box b1 [iv a_b.Size, (sl v0a)]]) ?_ ?_)))))))
 refine wcg (wlq (pof fo_56_0 R) R (wlq (v := iv a_b.Size) (plx tk_3 pk1 R R) R (wlq (pof fo_56_0 R) R (wlq (v := iv a_d.Size) (plx tk_3 pz R R) R (wlq (po_neq R R) R (mv R R (wl_fork (t := 11) R (fun h1 => ?_) fun h1 => ?_)))))))
 exact wgf (j := 5) R R R R R (wgf (j := 5) R R R R R (wgf (j := 5) R R R R R (wgf (j := 5) R R R R R (wgf (j := 5) R R R R R (wgf (j := 5) R R R R R (wgf (j := 5) R R R R R (wlq (pit R R) R (wln (wqm () trivial (yc R (yc R (sub_b R (by rw [h1]; rfl) yn))) so2)))))))))
 exact wgn (j := 5) R R R (wlq (pof fo_56_1 R) R (wgn (j := 5) R R R (wlq (v := (sl v0a)) (plx tk_54 pk1 R R) R (wgn (j := 5) R R R (wlq (pln (rga r0) el_54 R) R (wgn (j := 5) R R R (wlq (pof fo_56_1 R) R (wgn (j := 5) R R R (wlq (v := (sl v1a)) (plx tk_54 pz R R) R (wgn (j := 5) R R R (wlq (pln (rga r1) el_54 R) R (wgn (j := 5) R R R (wlq (po_neq R R) R (wlq (pif R R) R (wln (wqm () trivial (yc R (yc R (sub_b R (by rw [h1]; rfl) yn))) so2))))))))))))))))
 intro _ _
 refine wqt (wcO t0 R (fun h2 t0 => ?_) fun h2 t0 => ?_)
 refine wcr (asg R R (wnt (wct (wqr ?_))))
 obtain rfl := oi t0
 exact wq1 R R fun w hw => ⟨R, hw.weak zn⟩
 refine wck (wqt (wcs (wcr (wlq (pof fo_56_1 R) R (wlq (v := (sl v0a)) (plx tk_54 pk1 R R) R (wlq (pln (rga r0) el_54 R) R (mv R R (wnt (gdO t0 fun g1 t0 => (sqO t0 fun y1 l1 t0 => (wj (J := Unit) (X := Unit) (fun z => y1 = .inl z) (fun _ _ => []) (fun _ _ => []) ?_ ?_)))))))))))
 refine wcb (wcf (X := Unit) l1 (fun k1 s1 x1l => [(2, ptr b1 0), (3, ptr b2 0), (22, iv ((a_b.Cells.length : Nat) : Int)), (23, iv ((k1 : Nat) : Int))]) (fun k1 s1 x1l => [box b2 [iv a_d.Size, (sl v1a)], box b1 [iv a_b.Size, (sl v0a)]]) () (su4 R R R R) so2 fun k1 s1 x1l hN1 l1 => ?_)
 by_cases hk1 : k1 < a_b.Cells.length
 refine fos l1 hk1 fun _ t1 l1 => ?_
 unfold impl_SameBlock_L1 at t1
 have c1 : (decide (((k1 : Nat) : Int) < ((a_b.Cells.length : Nat) : Int))) = true := ddt (by omega)
 refine wcr (wlq (pls R R) R (wnt (wcs (wft R c1 (wck (wqt (wcs (wcb (wcr (mv R R (asg R R (wnt (wcs (wcd [box b2 [iv a_d.Size, (sl v1a)], box b1 [iv a_b.Size, (sl v0a)]] 11 mixed (aq 0 R (pof fo_56_1 R) so2 R (aq (v := (sl v0a)) 1 R (plx tk_54 pk1 R R) so2 R (aq 2 R (pom R) so2 R (aq 3 R (po_ixn (k := k1) (rga r0) el_54 R R hk1) so2 R (aq (v := .agg #[iv ((gx a_b.Cells k1).Split), iv ((gx a_b.Cells k1).A), iv ((gx a_b.Cells k1).B)]) 4 R (po_ldfs (rga r0) tk_87 R hk1 R R R) so2 R (aq 5 R (pof fo_56_1 R) so2 R (aq (v := (sl v1a)) 6 R (plx tk_54 pz R R) so2 R (aq 7 R (pom R) so2 R (gdO t1 fun g2 t1 => (aq 8 R (po_ixn (k := k1) (rga r1) el_54 R R g2) so2 R (aq (v := .agg #[iv ((gx a_d.Cells k1).Split), iv ((gx a_d.Cells k1).A), iv ((gx a_d.Cells k1).B)]) 9 R (po_ldfs (rga r1) tk_87 R g2 R R R) so2 R (aq 10 R (po_neq_struct (ps := [(gx a_b.Cells k1).Split, (gx a_b.Cells k1).A, (gx a_b.Cells k1).B]) (qs := [(gx a_d.Cells k1).Split, (gx a_d.Cells k1).A, (gx a_d.Cells k1).B]) sq_87 R R R R) so2 R (ae (wqt (wcO t1 R (fun h3 t1 => ?_) fun h3 t1 => ?_)))))))))))))))))))))))))))))
 refine wcr (asg R R (wnt (wct (wbr (wqr (wqr (wbr (wqr (wqr ?_)))))))))
 replace t0 := lpR t0 l1 t1
 obtain rfl := oi t0
 exact wq1 R R fun w hw => ⟨R, hw.weak zn⟩
 refine wck (wqb (wqt (wcg (wlq (po_inc R R (by omega)) R ?_))))
 exact mv R R (wln (wq_rnd hk1 (stpN l1 t1) () (su4 R R R R) so2))
 have c1 : (decide (((k1 : Nat) : Int) < ((a_b.Cells.length : Nat) : Int))) = false := ddf (by omega)
 have en1 := foe l1 hk1
 exact wcr (wlq (pls R R) R (wnt (wcs (wff R c1 (wcx (wqe (wqe (wbx (wjm _ () en1 yn zn)))))))))
 intro e1 _ hp
 replace t0 := sqE (j := e1) t0 hp
 refine wqt (wcr (asg R R (wnt (wct ?_))))
 obtain rfl := oi t0
 exact wq1 R R fun w hw => ⟨R, hw.weak zn⟩

theorem c_impl_ArePatternsSame (w : World) (a_b : GBlock) (v0a : Hd) (r0 : rdF w (dm w []) (sl v0a) a_b.Cells) (a_d : GBlock) (v1a : Hd) (r1 : rdF w (dm w []) (sl v1a) a_d.Cells) {r : Bool} (t0 : impl_ArePatternsSame a_b a_d = some r) : Calls Tryz.prog 100 #[.agg #[.int .i64 a_b.Size, (sl v0a)], .agg #[.int .i64 a_d.Size, (sl v1a)]] w fun e w' => e = .returned (.bool r) ∧ SH w [] [] w' := by
 refine cwc (args := [_, _]) Tryz.func100 R Tryz.ntmps100 R ?_
 unfold impl_ArePatternsSame at t0
 refine wcr (wle (eo_box R R) R fun b1 => (wle (eo_box R R) R fun b2 => (asg R R (wnt (wcs (bdO t0 fun y1 t1 t0 => (wj (J := Bool) (X := Unit) (fun z => y1 = z) (fun z _ => [(4, .bool z)]) (fun _ _ => []) ?_ ?_)))))))
 refine wcd [box b2 [iv a_d.Size, (sl v1a)], box b1 [iv a_b.Size, (sl v0a)]] 14 mixed (aq (v := .agg #[iv a_b.Size, (sl v0a)]) 0 R (plb tk_56 pk1 R R R) so2 R (a1 1 (bdO t1 fun v1 hv1 t1 => (wsc R (cz0 fa_46 R fun w hw => c_impl_BlockOk w a_b v0a (ra r0 hw) hv1) (fun _ => (zt so2)) R fun _ => (aq 2 R (pom R) so2 R (waO_ (t := 7) t1 R (fun h1 t1 => ?_) fun h1 t1 => ?_))))))
 refine an (v := .agg #[iv a_d.Size, (sl v1a)]) 3 2 R R R R (plb tk_56 pz R R R) so2 R (a1 4 (bdO t1 fun v2 hv2 t1 => (ws_call_on (j := 2) R R R R (cz0 fa_46 R fun w hw => c_impl_BlockOk w a_d v1a (ra r1 hw) hv2) (fun _ => (zt so2)) R fun _ => (aq 5 R (pit R R) so2 R (aq 6 R (pom R) so2 R (waO_ (t := 11) t1 R (fun h2 t1 => ?_) fun h2 t1 => ?_))))))
 exact an (v := .agg #[iv a_b.Size, (sl v0a)]) 7 6 R R R R (plb tk_56 pk1 R R R) so2 R (an (v := .agg #[iv a_d.Size, (sl v1a)]) 9 6 R R R R (plb tk_56 pz R R R) so2 R (a1 8 (bdO t1 fun v3 hv3 t1 => (ws_call_on (j := 6) R R R R (cz1 fa_114 R fun w hw => c_impl_LeastPattern w a_b v0a (ra r0 hw) hv3) (fun _ => (zt (zc pk1 (zc pk1 zn)))) R fun x2 => (a1 10 (bdO t1 fun v4 hv4 t1 => (ws_call_on (j := 6) R R R R (cz1 fa_114 R fun w hw => c_impl_LeastPattern w a_d v1a (ra r1 hw) hv4) (fun _ => (zt (zc pk2 (zc pk2 zn)))) R fun x3 => (a1 11 (bdO t1 fun v5 hv5 t1 => (ws_call_on (j := 6) R R R R (cz0 fa_113 R fun w hw => c_impl_SameBlock w v3 x2 (Rg.on (rgo pk1) hw) v4 x3 (Rg.on (rgo pz) hw) hv5) (fun _ => (zt (zc pk2 (zc pk2 zn)))) R fun _ => (aq 12 R (pit R R) (zc pk2 (zc pk2 zn)) R (aq 13 R (po_assign R) (zc pk2 (zc pk2 zn)) R (ae (wjm _ () (mtE t1) (su1 R) zn))))))))))))))
 exact af 7 6 R R R R R so2 R (af 8 6 R R R R R so2 R (af 9 6 R R R R R so2 R (af 10 6 R R R R R so2 R (af 11 6 R R R R R so2 R (aq 12 R (pif R R) so2 R (aq 13 R (po_assign R) so2 R (ae (wjm _ () (mtE t1) (su1 R) zn))))))))
 exact af 3 2 R R R R R so2 R (af 4 2 R R R R R so2 R (aq 5 R (pif R R) so2 R (aq 6 R (pom R) so2 R (af 7 6 R R R R R so2 R (af 8 6 R R R R R so2 R (af 9 6 R R R R R so2 R (af 10 6 R R R R R so2 R (af 11 6 R R R R R so2 R (aq 12 R (pif R R) so2 R (aq 13 R (po_assign R) so2 R (ae (wjm _ () (mtE t1) (su1 R) zn))))))))))))
 intro j1 _ hp
 obtain rfl : j1 = y1 := hp.symm
 refine wqt (wct ?_)
 obtain rfl := oi t0
 exact wq1 R R fun w hw => ⟨R, hw.weak zn⟩

theorem c_impl_arePaired (w : World) (a_b : GBlock) (v0a : Hd) (r0 : rdF w (dm w []) (sl v0a) a_b.Cells) (a_d : GBlock) (v1a : Hd) (r1 : rdF w (dm w []) (sl v1a) a_d.Cells) {r : Bool} (t0 : impl_arePaired a_b a_d = some r) : Calls Tryz.prog 115 #[.agg #[.int .i64 a_b.Size, (sl v0a)], .agg #[.int .i64 a_d.Size, (sl v1a)]] w fun e w' => e = .returned (.bool r) ∧ SH w [] [] w' := by
 refine cwc (args := [_, _]) Tryz.func115 R Tryz.ntmps115 R ?_
 unfold impl_arePaired at t0
 refine wcr (wle (eo_box R R) R fun b1 => (wle (eo_box R R) R fun b2 => (asg R R (wnt (wcs (bdO t0 fun y1 t1 t0 => (wj (J := Bool) (X := Unit) (fun z => y1 = z) (fun z _ => [(4, .bool z)]) (fun _ _ => []) ?_ ?_)))))))
 refine wcg (wlq (v := .agg #[iv a_b.Size, (sl v0a)]) (plb tk_56 pk1 R R R) R (bdO t1 fun v1 hv1 t1 => (wlc (cz0 fa_46 R fun w hw => c_impl_BlockOk w a_b v0a (ra r0 hw) hv1) R fun _ => (mv R R (wlo (t := 7) t1 R (fun h1 t1 => ?_) fun h1 t1 => ?_)))))
 refine wgn (j := 2) R R R (wlq (v := .agg #[iv a_d.Size, (sl v1a)]) (plb tk_56 pz R R R) R (bdO t1 fun v2 hv2 t1 => (wgn (j := 2) R R R (wlc (cz0 fa_46 R fun w hw => c_impl_BlockOk w a_d v1a (ra r1 hw) hv2) R (fun _ => (wlq (pit R R) R (mv R R (wlo (t := 11) t1 R (fun h2 t1 => ?_) fun h2 t1 => ?_))))))))
 exact wgn (j := 6) R R R (wlq (pof fo_56_0 R) R (wgn (j := 6) R R R (wlq (v := iv a_b.Size) (plx tk_3 pk1 R R) R (wgn (j := 6) R R R (wlq (pof fo_56_0 R) R (wgn (j := 6) R R R (wlq (v := iv a_d.Size) (plx tk_3 pz R R) R (wgn (j := 6) R R R (wlq (pol R R) R (wlq (pit R R) R (asg R R (wln (wjm _ () (mtE t1) (su1 R) zn)))))))))))))
 exact wgf (j := 6) R R R R R (wgf (j := 6) R R R R R (wgf (j := 6) R R R R R (wgf (j := 6) R R R R R (wgf (j := 6) R R R R R (wlq (pif R R) R (asg R R (wln (wjm _ () (mtE t1) (su1 R) zn))))))))
 exact wgf (j := 2) R R R R R (wgf (j := 2) R R R R R (wlq (pif R R) R (mv R R (wgf (j := 6) R R R R R (wgf (j := 6) R R R R R (wgf (j := 6) R R R R R (wgf (j := 6) R R R R R (wgf (j := 6) R R R R R (wlq (pif R R) R (asg R R (wln (wjm _ () (mtE t1) (su1 R) zn))))))))))))
 intro j1 _ hp
 obtain rfl : j1 = y1 := hp.symm
 refine wqt (wct ?_)
 obtain rfl := oi t0
 exact wq1 R R fun w hw => ⟨R, hw.weak zn⟩

theorem c_impl_CellArea (w : World) (a_c : GCell) (a_a : Int) {r : Int} (t0 : impl_CellArea a_c a_a = some r) : Calls Tryz.prog 102 #[.agg #[.int .i64 a_c.Split, .int .i64 a_c.A, .int .i64 a_c.B], .int .i64 a_a] w fun e w' => e = .returned (.int .i64 r) ∧ SH w [] [] w' := by
 refine cwc (args := [_, _]) Tryz.func102 R Tryz.ntmps102 R ?_
 unfold impl_CellArea at t0
 refine wcr (wle (eo_box R R) R fun b1 => (asg R R (wnt (wcr (asg R R (wnt (wcs (wcs (bdO t0 fun y1 t1 t0 => (wj (J := Bool) (X := Unit) (fun z => y1 = z) (fun z _ => [(1, iv a_a), (2, ptr b1 0), (5, iv 0), (13, .bool z)]) (fun _ _ => [box b1 [iv a_c.Split, iv a_c.A, iv a_c.B]]) ?_ ?_))))))))))
 refine wcg (wlq (v := .agg #[iv a_c.Split, iv a_c.A, iv a_c.B]) (plb tk_87 pz R R R) R (bdO t1 fun v1 hv1 t1 => (wlc (cz0 fa_74 R fun w hw => c_impl_CellOk w a_c hv1) R fun _ => (mv R R (wlo (t := 8) t1 R (fun h1 t1 => ?_) fun h1 t1 => ?_)))))
 exact wgn (j := 2) R R R (wlq (pof fo_87_1 R) R (wgn (j := 2) R R R (wlq (v := iv a_c.A) (plx tk_3 pz R R) R (wgn (j := 2) R R R (mv R R (wgn (j := 2) R R R (wlq (pol R R) R (wlq (pit R R) R (wln (wjm _ () (mtE t1) (su4 R R R R) so1))))))))))
 exact wgf (j := 2) R R R R R (wgf (j := 2) R R R R R (wgf (j := 2) R R R R R (wgf (j := 2) R R R R R (wlq (pif R R) R (wln (wjm _ () (mtE t1) (su4 R R R R) so1))))))
 intro j1 _ hp
 obtain rfl : j1 = y1 := hp.symm
 refine wqt (wcj (X := Unit) (fun _ => True) (fun _ => [(1, iv a_a), (2, ptr b1 0), (5, iv (bif j1 then (wr (0 + 2)) else 0))]) (fun _ => [box b1 [iv a_c.Split, iv a_c.A, iv a_c.B]]) ?_ ?_)
 refine wc_cond R (fun h2 => ?_) fun h2 => ?_
 exact wcg (mv R R (wlq (po_add R R) R (asg R R (wln (wqm () trivial (yc R (yc R (sub_i R (by simp only [h2, cond_true]) yn))) so1)))))
 exact wck (wqm () trivial (yc R (yc R (sub_i R (by simp only [h2, cond_false]) yn))) so1)
 intro _ _
 refine wqt (wcs (wcs (bdO t0 fun y1 t1 t0 => (wj (J := Bool) (X := Unit) (fun z => y1 = z) (fun z _ => [(5, iv (bif j1 then (wr (0 + 2)) else 0)), (23, .bool z)]) (fun _ _ => []) ?_ ?_))))
 refine wcg (wlq (v := .agg #[iv a_c.Split, iv a_c.A, iv a_c.B]) (plb tk_87 pz R R R) R (bdO t1 fun v2 hv2 t1 => (wlc (cz0 fa_74 R fun w hw => c_impl_CellOk w a_c hv2) R fun _ => (mv R R (wlo (t := 18) t1 R (fun h3 t1 => ?_) fun h3 t1 => ?_)))))
 exact wgn (j := 2) R R R (wlq (pof fo_87_2 R) R (wgn (j := 2) R R R (wlq (v := iv a_c.B) (plx tk_3 pz R R) R (wgn (j := 2) R R R (mv R R (wgn (j := 2) R R R (wlq (pol R R) R (wlq (pit R R) R (wln (wjm _ () (mtE t1) (su2 R R) zn))))))))))
 exact wgf (j := 2) R R R R R (wgf (j := 2) R R R R R (wgf (j := 2) R R R R R (wgf (j := 2) R R R R R (wlq (pif R R) R (wln (wjm _ () (mtE t1) (su2 R R) zn))))))
 intro j3 _ hp
 obtain rfl : j3 = y1 := hp.symm
 refine wqt (wcj (X := Unit) (fun _ => True) (fun _ => [(5, iv (bif j3 then (wr ((bif j1 then (wr (0 + 2)) else 0) + 2)) else (bif j1 then (wr (0 + 2)) else 0)))]) (fun _ => []) ?_ ?_)
 refine wc_cond R (fun h4 => ?_) fun h4 => ?_
 exact wcg (mv R R (wlq (po_add R R) R (asg R R (wln (wqm () trivial (sub_i R (by simp only [h4, cond_true]) yn) zn)))))
 exact wck (wqm () trivial (sub_i R (by simp only [h4, cond_false]) yn) zn)
 intro _ _
 refine wqt (wcr (mv R R (asg R R (wnt (wct ?_)))))
 obtain rfl := oi t0
 exact wq1 R R fun w hw => ⟨R, hw.weak zn⟩

theorem c_impl_AreaOf (w : World) (a_b : GBlock) (v0a : Hd) (r0 : rdF w (dm w []) (sl v0a) a_b.Cells) (a_a : Int) {r : Int} (t0 : impl_AreaOf a_b a_a = some r) : Calls Tryz.prog 86 #[.agg #[.int .i64 a_b.Size, (sl v0a)], .int .i64 a_a] w fun e w' => e = .returned (.int .i64 r) ∧ SH w [] [] w' := by
 refine cwc (args := [_, _]) Tryz.func86 R Tryz.ntmps86 R ?_
 unfold impl_AreaOf at t0
 refine wcr (wle (eo_box R R) R fun b1 => (asg R R (wnt (wcs (wcr (wlq (v := .agg #[iv a_b.Size, (sl v0a)]) (plb tk_56 pz R R R) R (bdO t0 fun v1 hv1 t0 => (wlc (cz0 fa_46 R fun w hw => c_impl_BlockOk w a_b v0a (ra r0 hw) hv1) R fun _ => (wlq (po_not R) R (wnt (wcO t0 R (fun h1 t0 => ?_) fun h1 t0 => ?_)))))))))))
 refine wcr (asg R R (wnt (wct (wqr ?_))))
 obtain rfl := oi t0
 exact wq1 R R fun w hw => ⟨R, hw.weak zn⟩
 refine wck (wqt (wcr (asg R R (wnt (wcs (wcr (wlq (pof fo_56_1 R) R (wlq (v := (sl v0a)) (plx tk_54 pz R R) R (wlq (pln (rga r0) el_54 R) R (mv R R (wnt (gdO t0 fun g1 t0 => (lpO_inv t0 fun y1 l1 t0 => (wj (J := Int) (X := Unit) (fun z => y1 = z) (fun z _ => [(5, iv z)]) (fun _ _ => []) ?_ ?_))))))))))))))
 refine wcb (wcf (X := Unit) l1 (fun k1 s1 x1l => [(1, iv a_a), (5, iv s1), (12, (sl v0a)), (13, iv ((a_b.Cells.length : Nat) : Int)), (14, iv ((k1 : Nat) : Int))]) (fun k1 s1 x1l => []) () (su5 R R R R R) zn fun k1 s1 x1l hN1 l1 => ?_)
 by_cases hk1 : k1 < a_b.Cells.length
 refine fos l1 hk1 fun _ t1 l1 => ?_
 unfold impl_AreaOf_L1 at t1
 have c1 : (decide (((k1 : Nat) : Int) < ((a_b.Cells.length : Nat) : Int))) = true := ddt (by omega)
 refine wcr (wlq (pls R R) R (wnt (wcs (wft R c1 (wck (wqt (wcs (wcb (wcr (wlq (po_ixn (k := k1) (rga r0) el_54 R R hk1) R (wlq (v := .agg #[iv ((gx a_b.Cells k1).Split), iv ((gx a_b.Cells k1).A), iv ((gx a_b.Cells k1).B)]) (po_ldfs (rga r0) tk_87 R hk1 R R R) R (wle (eal (cs := [iv 0, iv 0, iv 0]) za_87) R fun b2 => (wls (sbx (cs' := [iv ((gx a_b.Cells k1).Split), iv ((gx a_b.Cells k1).A), iv ((gx a_b.Cells k1).B)]) tk_87 pz R R R R R R R) (wnt (wcg (mv R R (wlq (v := .agg #[iv ((gx a_b.Cells k1).Split), iv ((gx a_b.Cells k1).A), iv ((gx a_b.Cells k1).B)]) (plb tk_87 pz R R R) R (mv R R (bdO t1 fun v2 hv2 t1 => (wlc (cz0 fa_102 R fun w hw => c_impl_CellArea w (gx a_b.Cells k1) a_a hv2) R fun _ => (wlq (po_add R R) R (asg R R (wln (wqb (wqt (wcg (wlq (po_inc R R (by omega)) R ?_)))))))))))))))))))))))))))
 exact mv R R (wln (wq_rnd hk1 (stpN l1 t1) () (su5 R R R R R) zn))
 have c1 : (decide (((k1 : Nat) : Int) < ((a_b.Cells.length : Nat) : Int))) = false := ddf (by omega)
 have en1 := foe l1 hk1
 exact wcr (wlq (pls R R) R (wnt (wcs (wff R c1 (wcx (wqe (wqe (wbx (wjm _ () (Sum.inl.inj en1) (su1 R) zn)))))))))
 intro e1 _ hp
 obtain rfl : e1 = y1 := hp.symm
 refine wqt (wcr (mv R R (asg R R (wnt (wct ?_)))))
 obtain rfl := oi t0
 exact wq1 R R fun w hw => ⟨R, hw.weak zn⟩

theorem c_impl_ColorsOf (w : World) (a_b : GBlock) (v0a : Hd) (r0 : rdF w (dm w []) (sl v0a) a_b.Cells) {r : List Int} (t0 : impl_ColorsOf a_b = some r) : Calls Tryz.prog 116 #[.agg #[.int .i64 a_b.Size, (sl v0a)]] w fun e w' => ∃ x : Hd, e = .returned ((sl x)) ∧ SH w [] [ownF (sl x) r] w' := by
 refine cwc (args := [_]) Tryz.func116 R Tryz.ntmps116 R ?_
 unfold impl_ColorsOf at t0
 refine wcr (wle (eo_box R R) R fun b1 => (asg R R (wnt (wcs (wcr (wlq (v := .agg #[iv a_b.Size, (sl v0a)]) (plb tk_56 pz R R R) R (bdO t0 fun v1 hv1 t0 => (wlc (cz0 fa_46 R fun w hw => c_impl_BlockOk w a_b v0a (ra r0 hw) hv1) R fun _ => (wlq (po_not R) R (wnt (wcO t0 R (fun h1 t0 => ?_) fun h1 t0 => ?_)))))))))))
 refine wcr (asg R R (wnt (wct (wqr ?_))))
 obtain rfl := oi t0
 exact wq1 R R fun w hw => ⟨hn, R, hw.weak (zc pick_nil zn)⟩
 refine wck (wqt (wcr (wle (ebs R sb_25_0) R fun b2 => (asg R R (wnt (wcs (wcr (mv R R (wnt (lpO_inv t0 fun y1 l1 t0 => (wj (J := List Int) (X := Hd) (fun z => y1 = z) (fun _ x => [(3, (sl x))]) (fun z x => [ownF (sl x) z]) ?_ ?_)))))))))))
 refine wcb (wcf (X := Hd) l1 (fun k1 s1 x1l => [(1, ptr b1 0), (3, (sl x1l)), (9, iv ((k1 : Nat) : Int))]) (fun k1 s1 x1l => [box b1 [iv a_b.Size, (sl v0a)], ownF (sl x1l) s1]) (⟨some ⟨b2, 0, none⟩, 0, 0⟩ : Hd) (su3 R R R) (zc pk1 (zc (pbo pz (n := 0) (xs := ([] : List Int)) R R (by unfold maxLen; omega)) zn)) fun k1 s1 x1l hN1 l1 => ?_)
 by_cases hk1 : k1 < 6
 refine fos l1 hk1 fun _ t1 l1 => ?_
 unfold impl_ColorsOf_L1 at t1
 have c1 : (decide (((k1 : Nat) : Int) < 6)) = true := ddt (by omega)
 refine wcr (wlq (pls R R) R (wnt (wcs (wft R c1 (wck (wqt (wcs (wcb (wcr (mv R R (asg R R (wnt (wcr (wlq (v := .agg #[iv a_b.Size, (sl v0a)]) (plb tk_56 pz R R R) R (mv R R (bdO t1 fun v2 hv2 t1 => (wlc (cz0 fa_86 R fun w hw => c_impl_AreaOf w a_b v0a (ra r0 hw) ((k1 : Nat) : Int) hv2) R fun _ => (wlq (po_gtr R R) R (wnt (bdO t1 fun y2 t2 t1 => (wj (J := List Int) (X := Hd) (fun z => y2 = z) (fun _ x => [(1, ptr b1 0), (3, (sl x)), (9, iv ((k1 : Nat) : Int))]) (fun z x => [box b1 [iv a_b.Size, (sl v0a)], ownF (sl x) z]) ?_ ?_)))))))))))))))))))))
 refine wcO t2 R (fun h2 t2 => ?_) fun h2 t2 => ?_
 refine wcg (mv R R (mv R R (wle (ebs R (sb_25_1 ((k1 : Nat) : Int))) R fun b3 => (gdO t2 fun g1 t2 => (wle (eo_append (xs := s1) (ys := ([((k1 : Nat) : Int)] : List Int)) ak_25 pk2 R R (slin_rd fun _ g => Rg.on (rgo (pbo pz (n := 1) (xs := ([((k1 : Nat) : Int)] : List Int)) R R (by unfold maxLen; omega))) g) g1) R fun x3 => ?_)))))
 exact asg R R (wln (wjm _ x3 (mtE t2) (su3 R R R) (zc pk2 so1)))
 exact wck (wjm _ x1l (mtE t2) (su3 R R R) so2)
 intro j1 x2 hp
 obtain rfl : j1 = y2 := hp.symm
 refine wqb (wqt (wcg (wlq (po_inc R R (by omega)) R ?_)))
 exact mv R R (wln (wq_rnd hk1 (stpN l1 t1) x2 (su3 R R R) so2))
 have c1 : (decide (((k1 : Nat) : Int) < 6)) = false := ddf (by omega)
 have en1 := foe l1 hk1
 exact wcr (wlq (pls R R) R (wnt (wcs (wff R c1 (wcx (wqe (wqe (wbx (wjm _ x1l (Sum.inl.inj en1) (su1 R) (zc pk1 zn))))))))))
 intro e1 x1 hp
 obtain rfl : e1 = y1 := hp.symm
 refine wqt (wcr (mv R R (asg R R (wnt (wct ?_)))))
 obtain rfl := oi t0
 exact wq1 R R fun w hw => ⟨x1, R, hw.weak so1⟩

theorem c_impl_choices (w : World) (a_n : Int) {r : Int} (t0 : impl_choices a_n = some r) : Calls Tryz.prog 135 #[.int .i64 a_n] w fun e w' => e = .returned (.int .i64 r) ∧ SH w [] [] w' := by
 refine cwc (args := [_]) Tryz.func135 R Tryz.ntmps135 R ?_
 unfold impl_choices at t0
 refine wcr (asg R R (wnt (wcr (asg R R (wnt (wcs (wcr (mv R R (mv R R (wnt (gdO t0 fun g1 t0 => (lpO_inv t0 fun y1 l1 t0 => (wj (J := Int) (X := Unit) (fun z => y1 = z) (fun z _ => [(3, iv z)]) (fun _ _ => []) ?_ ?_)))))))))))))
 refine wcb (wcf (X := Unit) l1 (fun k1 s1 x1l => [(3, iv s1), (5, iv a_n), (6, iv ((k1 : Nat) : Int))]) (fun k1 s1 x1l => []) () (su3 R R R) zn fun k1 s1 x1l hN1 l1 => ?_)
 by_cases hk1 : k1 < (a_n).toNat
 refine fos l1 hk1 fun _ t1 l1 => ?_
 unfold impl_choices_L1 at t1
 have c1 : (decide (((k1 : Nat) : Int) < a_n)) = true := ddt (by omega)
 refine wcr (wlq (pls R R) R (wnt (wcs (wft R c1 (wck (wqt (wcs (wcb (wcr (mv R R (asg R R (wnt (wcg (mv R R (mv R R (wlq (po_sub R R) R (wlq (po_mul R R) R (asg R R (wln (wqb (wqt (wcg (wlq (po_inc R R (by omega)) R ?_)))))))))))))))))))))))
 exact mv R R (wln (wq_rnd hk1 (stpN l1 t1) () (su3 R R R) zn))
 have c1 : (decide (((k1 : Nat) : Int) < a_n)) = false := ddf (by omega)
 have en1 := foe l1 hk1
 exact wcr (wlq (pls R R) R (wnt (wcs (wff R c1 (wcx (wqe (wqe (wbx (wjm _ () (Sum.inl.inj en1) (su1 R) zn)))))))))
 intro e1 _ hp
 obtain rfl : e1 = y1 := hp.symm
 refine wqt (wcr (mv R R (asg R R (wnt (wct ?_)))))
 obtain rfl := oi t0
 exact wq1 R R fun w hw => ⟨R, hw.weak zn⟩

theorem c_impl_ColorwayCount (w : World) (a_b : GBlock) (v0a : Hd) (r0 : rdF w (dm w []) (sl v0a) a_b.Cells) {r : Int} (t0 : impl_ColorwayCount a_b = some r) : Calls Tryz.prog 117 #[.agg #[.int .i64 a_b.Size, (sl v0a)]] w fun e w' => e = .returned (.int .i64 r) ∧ SH w [] [] w' := by
 refine cwc (args := [_]) Tryz.func117 R Tryz.ntmps117 R ?_
 unfold impl_ColorwayCount at t0
 refine wcr (wle (eo_box R R) R fun b1 => (asg R R (wnt (wcs (wcr (wlq (v := .agg #[iv a_b.Size, (sl v0a)]) (plb tk_56 pz R R R) R (bdO t0 fun v1 hv1 t0 => (wlc (cz0 fa_46 R fun w hw => c_impl_BlockOk w a_b v0a (ra r0 hw) hv1) R fun _ => (wlq (po_not R) R (wnt (wcO t0 R (fun h1 t0 => ?_) fun h1 t0 => ?_)))))))))))
 refine wcr (asg R R (wnt (wct (wqr ?_))))
 obtain rfl := oi t0
 exact wq1 R R fun w hw => ⟨R, hw.weak zn⟩
 refine wck (wqt (wcr (wlq (v := .agg #[iv a_b.Size, (sl v0a)]) (plb tk_56 pz R R R) R (bdO t0 fun v2 hv2 t0 => (wlc (cz1 fa_116 R fun w hw => c_impl_ColorsOf w a_b v0a (ra r0 hw) hv2) R fun x1 => (wlq (pln (rgo pz) el_25 R) R (bdO t0 fun v3 hv3 t0 => (wlc (cz0 fa_135 R fun w hw => c_impl_choices w ((v2.length : Nat) : Int) hv3) R fun _ => (asg R R (wnt (wct ?_)))))))))))
 obtain rfl := oi t0
 exact wq1 R R fun w hw => ⟨R, hw.weak zn⟩

theorem c_impl_upTo (w : World) (a_n : Int) {r : List Int} (t0 : impl_upTo a_n = some r) : Calls Tryz.prog 136 #[.int .i64 a_n] w fun e w' => ∃ x : Hd, e = .returned ((sl x)) ∧ SH w [] [ownF (sl x) r] w' := by
 refine cwc (args := [_]) Tryz.func136 R Tryz.ntmps136 R ?_
 unfold impl_upTo at t0
 refine wcr (asg R R (wnt (wcr (wle (ebs R sb_25_0) R fun b1 => (asg R R (wnt (wcs (wcr (mv R R (mv R R (wnt (gdO t0 fun g1 t0 => (lpO_inv t0 fun y1 l1 t0 => (wj (J := List Int) (X := Hd) (fun z => y1 = z) (fun _ x => [(3, (sl x))]) (fun z x => [ownF (sl x) z]) ?_ ?_))))))))))))))
 refine wcb (wcf (X := Hd) l1 (fun k1 s1 x1l => [(3, (sl x1l)), (6, iv a_n), (7, iv ((k1 : Nat) : Int))]) (fun k1 s1 x1l => [ownF (sl x1l) s1]) (⟨some ⟨b1, 0, none⟩, 0, 0⟩ : Hd) (su3 R R R) (zc (pbo pz (n := 0) (xs := ([] : List Int)) R R (by unfold maxLen; omega)) zn) fun k1 s1 x1l hN1 l1 => ?_)
 by_cases hk1 : k1 < (a_n).toNat
 refine fos l1 hk1 fun _ t1 l1 => ?_
 unfold impl_upTo_L1 at t1
 have c1 : (decide (((k1 : Nat) : Int) < a_n)) = true := ddt (by omega)
 refine wcr (wlq (pls R R) R (wnt (wcs (wft R c1 (wck (wqt (wcs (wcb (wcr (mv R R (asg R R (wnt (wcg (mv R R (mv R R (wle (ebs R (sb_25_1 ((k1 : Nat) : Int))) R fun b2 => (gdO t1 fun g2 t1 => (wle (eo_append (xs := s1) (ys := ([((k1 : Nat) : Int)] : List Int)) ak_25 pk1 R R (slin_rd fun _ g => Rg.on (rgo (pbo pz (n := 1) (xs := ([((k1 : Nat) : Int)] : List Int)) R R (by unfold maxLen; omega))) g) g2) R fun x2 => ?_))))))))))))))))))
 refine asg R R (wln (wqb (wqt (wcg (wlq (po_inc R R (by omega)) R ?_)))))
 exact mv R R (wln (wq_rnd hk1 (stpN l1 t1) x2 (su3 R R R) so1))
 have c1 : (decide (((k1 : Nat) : Int) < a_n)) = false := ddf (by omega)
 have en1 := foe l1 hk1
 exact wcr (wlq (pls R R) R (wnt (wcs (wff R c1 (wcx (wqe (wqe (wbx (wjm _ x1l (Sum.inl.inj en1) (su1 R) so1)))))))))
 intro e1 x1 hp
 obtain rfl : e1 = y1 := hp.symm
 refine wqt (wcr (mv R R (asg R R (wnt (wct ?_)))))
 obtain rfl := oi t0
 exact wq1 R R fun w hw => ⟨x1, R, hw.weak so1⟩

theorem c_impl_ColorwayAt (w : World) (a_b : GBlock) (v0a : Hd) (r0 : rdF w (dm w []) (sl v0a) a_b.Cells) (a_index : Int) {r : GBlock × Bool} (t0 : impl_ColorwayAt a_b a_index = some r) : Calls Tryz.prog 118 #[.agg #[.int .i64 a_b.Size, (sl v0a)], .int .i64 a_index] w fun e w' => ∃ x : Hd, e = .returned (.tuple #[.agg #[.int .i64 r.1.Size, (sl x)], .bool r.2]) ∧ SH w [] [ownF (sl x) r.1.Cells] w' := by
 refine cwc (args := [_, _]) Tryz.func118 R Tryz.ntmps118 R ?_
 unfold impl_ColorwayAt at t0
 refine wcr (wle (eo_box R R) R fun b1 => (wle (eal (cs := [iv 0, (sl hn)]) za_56) R fun b2 => (asg R R (wnt (wcs (wcr (mv R R (wlq (v := .agg #[iv a_b.Size, (sl v0a)]) (plb tk_56 pk1 R R R) R (bdO t0 fun v1 hv1 t0 => (wlc (cz0 fa_117 R fun w hw => c_impl_ColorwayCount w a_b v0a (ra r0 hw) hv1) R fun _ => (wlq (po_sub R R) R (bdO t0 fun v2 hv2 t0 => (wlc (cz0 fa_35 R fun w hw => c_impl_within w a_index 0 (wr (v1 - 1)) hv2) R fun _ => (wlq (po_not R) R (wnt (wcO t0 R (fun h1 t0 => ?_) fun h1 t0 => ?_))))))))))))))))
 refine wcr (wlq (po_build R bd_56) R (wls (sbx (cs' := [iv 0, (sl hn)]) tk_56 pz R R R R R R R) (asg R R (wnt (wct (wqr ?_))))))
 obtain rfl := oi t0
 exact wq_retc1 R tk_56 R R pz R fun w hw => ⟨hn, R, hw.weak (zc pick_nil zn)⟩
 refine wck (wqt (wcr (wlq (v := .agg #[iv a_b.Size, (sl v0a)]) (plb tk_56 pk1 R R R) R (bdO t0 fun v3 hv3 t0 => (wlc (cz1 fa_116 R fun w hw => c_impl_ColorsOf w a_b v0a (ra r0 hw) hv3) R fun x1 => (asg R R (wnt (wcs (bdO t0 fun v4 hv4 t0 => (wcj (X := Hd × Hd) (fun _ => True) (fun z => [(1, iv a_index), (2, ptr b1 0), (4, ptr b2 0), (6, (sl x1)), (7, (sl z.1)), (8, (sl z.2))]) (fun z => [ownF (sl z.2) (List.replicate 6 (0 : Int)), ownF (sl z.1) v4, ownF (sl x1) v3, box b2 [iv 0, (sl hn)], box b1 [iv a_b.Size, (sl v0a)]]) ?_ ?_))))))))))
 refine wcd [ownF (sl x1) v3, box b2 [iv 0, (sl hn)], box b1 [iv a_b.Size, (sl v0a)]] 4 mixed (wa_2 (i := 0) (j := 1) (by kernel_rfl) ?_ ?_)
 refine wsc R (cz1 fa_136 R fun w hw => c_impl_upTo w 6 hv4) (fun _ => (zt (zc pk1 (zc pk1 (zc pk1 zn))))) R fun x2 => aq 2 R (po_assign R) (zc pk1 (zc pk1 (zc pk1 zn))) R (a1 1 (wse R (eo_make_ (n := 6) (0 : Int) mk_25 R R R (by omega) R) (fun _ => (zt (zc pk2 (zc pk2 (zc pk2 zn))))) R fun x3 => ?_))
 exact aq 3 R (po_assign R) (zc pk2 (zc pk2 (zc pk2 zn))) R (ae (wqm (x2, x3) trivial (su6 R R R R R R) so5))
 refine wse R (eo_make_ (n := 6) (0 : Int) mk_25 R R R (by omega) R) (fun _ => (zt (zc pk1 (zc pk1 (zc pk1 zn))))) R fun x4 => ?_
 exact a1 0 (wsc R (cz1 fa_136 R fun w hw => c_impl_upTo w 6 hv4) (fun _ => (zt (zc pk2 (zc pk2 (zc pk2 zn))))) R fun x5 => (aq 2 R (po_assign R) (zc pk2 (zc pk2 (zc pk2 zn))) R (aq 3 R (po_assign R) (zc pk2 (zc pk2 (zc pk2 zn))) R (ae (wqm (x5, x4) trivial (su6 R R R R R R) (zc pk1 so4))))))
 intro x6 _
 refine wqt (wcs (wcr (mv R R (wlq (pln (rgo pk2) el_25 R) R (mv R R (wnt (gdO t0 fun g1 t0 => (lpO_inv t0 fun y1 l1 t0 => (wj (J := Int × (List Int) × (List Int)) (X := Hd) (fun z => y1 = z) (fun _ _ => [(2, ptr b1 0), (4, ptr b2 0), (8, (sl x6.2))]) (fun z _ => [ownF (sl x6.2) z.2.2, box b2 [iv 0, (sl hn)], box b1 [iv a_b.Size, (sl v0a)]]) ?_ ?_)))))))))
 refine wcb (wcf (X := Hd) l1 (fun k1 s1 x1l => [(1, iv s1.1), (2, ptr b1 0), (4, ptr b2 0), (6, (sl x1)), (7, (sl x1l)), (8, (sl x6.2)), (24, (sl x1)), (25, iv ((v3.length : Nat) : Int)), (26, iv ((k1 : Nat) : Int))]) (fun k1 s1 x1l => [ownF (sl x6.2) s1.2.2, ownF (sl x1l) s1.2.1, ownF (sl x1) v3, box b2 [iv 0, (sl hn)], box b1 [iv a_b.Size, (sl v0a)]]) x6.1 (su9 R R R R R R R R R) so5 fun k1 s1 x1l hN1 l1 => ?_)
 by_cases hk1 : k1 < v3.length
 refine fos l1 hk1 fun _ t1 l1 => ?_
 unfold impl_ColorwayAt_L1 at t1
 have c1 : (decide (((k1 : Nat) : Int) < ((v3.length : Nat) : Int))) = true := ddt (by omega)
 refine wcr (wlq (pls R R) R (wnt (wcs (wft R c1 (wck (wqt (wcs (wcb (wcr (mv R R (wlq (po_ixn (k := k1) (rgo pk2) el_25 R R hk1) R (wlq (v := iv (gx v3 k1)) (po_ldf (rgo pk2) tk_3 R hk1 R) R (asg R R (asg R R (wnt (wcr (mv R R (wlq (pln (rgo pk2) el_25 R) R (bdO t1 fun v5 hv5 t1 => (wlc (cz0 fa_135 R fun w hw => c_impl_choices w ((v3.length : Nat) : Int) hv5) R fun _ => (mv R R (wlq (po_inc R R (by omega)) R ?_))))))))))))))))))))))
 refine bdO t1 fun v6 hv6 t1 => wlc (cz0 fa_135 R fun w hw => c_impl_choices w ((k1 + 1 : Nat) : Int) hv6) R fun _ => gdO t1 fun g2 t1 => wlq (po_quo R R g2) R (asg R R (wnt (wcr (mv R R (mv R R (gdO t1 fun g3 t1 => (wlq (po_quo R R g3) R (asg R R (wnt (wcr (mv R R (mv R R (wlq (po_rem R R g3) R (asg R R (wnt (wcr (mv R R (mv R R (mv R R (mv R R (gdO t1 fun g4 t1 => (wlq (po_ixr (rgo pk1) el_25 R R g4.1 g4.2) R (wlq (v := iv (gx s1.2.1 (((wr (s1.1.tdiv (wr (v5.tdiv v6))))).toNat))) (po_ldf (rgo pk1) tk_3 R (ix_lt g4) R) R (gdO t1 fun g5 t1 => (wlq (po_ixr (rgo pz) el_25 R R g5.1 g5.2) R (wls (so_own (x' := (gx s1.2.1 (((wr (s1.1.tdiv (wr (v5.tdiv v6))))).toNat))) tk_3 pz R R R R R R (ix_lt g5) R) (wnt (wcd [ownF (sl x6.2) (s1.2.2.set (((gx v3 k1)).toNat) (gx s1.2.1 (((wr (s1.1.tdiv (wr (v5.tdiv v6))))).toNat))), ownF (sl x1l) s1.2.1, ownF (sl x1) v3, box b2 [iv 0, (sl hn)], box b1 [iv a_b.Size, (sl v0a)]] 11 mixed (aq 1 R (pom R) so5 R (aq 2 R (pom R) so5 R (gdO t1 fun g6 t1 => (aq 3 R (po_cutr (l := 0) (h := ((wr (s1.1.tdiv (wr (v5.tdiv v6))))).toNat) (rgo pk1) el_25 R (.inl ⟨R, R⟩) (.inr ⟨_, R, ixn g6.1⟩) g6.2.1 g6.2.2) so5 R (aq 5 R (pom R) so5 R (aq 6 R (pom R) so5 R (aq 7 R (po_add R R) so5 R (gdO t1 fun g7 t1 => ?_))))))))))))))))))))))))))))))))))))
 refine aq 8 R (po_cutr (l := ((wr ((wr (s1.1.tdiv (wr (v5.tdiv v6)))) + 1))).toNat) (h := s1.2.1.length) (rgo pk1) el_25 R (.inr ⟨_, R, ixn g7.1⟩) (.inl ⟨R, R⟩) g7.2.1 g7.2.2) so5 R (a1 0 (wse R (ebs R sb_25_0) (fun _ => (zt (zc pk1 (zc pk1 (zc pk1 (zc pk1 (zc pk1 zn))))))) R fun b3 => (a1 4 (gdO t1 fun g8 t1 => (wse R (eo_append (xs := ([] : List Int)) (ys := ((s1.2.1.drop 0).take (((wr (s1.1.tdiv (wr (v5.tdiv v6))))).toNat - 0))) ak_25 (pbo pz (n := 0) (xs := ([] : List Int)) R R (by unfold maxLen; omega)) R R (slin_rd fun _ g => Rg.on (rds_cut (rgo pk2) g6.2.1 g6.2.2) g) g8) (fun _ => (zt (zc pk1 (zc pk1 (zc pk1 (zc pk1 (zc pk1 zn))))))) R fun x8 => ?_)))))
 refine a1 9 (gdO t1 fun g9 t1 => (wse R (eo_append (xs := (([] : List Int) ++ ((s1.2.1.drop 0).take (((wr (s1.1.tdiv (wr (v5.tdiv v6))))).toNat - 0)))) (ys := ((s1.2.1.drop (((wr ((wr (s1.1.tdiv (wr (v5.tdiv v6)))) + 1))).toNat)).take (s1.2.1.length - (((wr ((wr (s1.1.tdiv (wr (v5.tdiv v6)))) + 1))).toNat)))) ak_25 pz R R (slin_rd fun _ g => Rg.on (rds_cut (rgo pk2) g7.2.1 g7.2.2) g) g9) (fun _ => (zt (zc pk1 (zc pk1 (zc pk1 (zc pk1 (zc pk1 zn))))))) R fun x9 => (aq 10 R (po_assign R) (zc pk1 (zc pk1 (zc pk1 (zc pk1 (zc pk1 zn))))) R (ae (wqb (wqt (wcg (wlq (po_inc R R (by omega)) R ?_))))))))
 exact mv R R (wln (wq_rnd hk1 (stpN l1 t1) x9 (su9 R R R R R R R R R) (zc pk1 (zc pz (zc pk1 (zc pk1 (zc pk1 zn)))))))
 have c1 : (decide (((k1 : Nat) : Int) < ((v3.length : Nat) : Int))) = false := ddf (by omega)
 have en1 := foe l1 hk1
 exact wcr (wlq (pls R R) R (wnt (wcs (wff R c1 (wcx (wqe (wqe (wbx (wjm _ x1l (Sum.inl.inj en1) (su3 R R R) (zc pz (zc pk2 (zc pk2 zn))))))))))))
 intro e1 x7 hp
 obtain rfl : e1 = y1 := hp.symm
 refine wqt (wcr (wlq (v := .agg #[iv a_b.Size, (sl v0a)]) (plb tk_56 pk2 R R R) R (mv R R (bdO t0 fun v7 hv7 t0 => (wlc (cz1 fa_137 R fun w hw => c_impl_ExchangeBlock w a_b v0a (ra r0 hw) e1.2.2 x6.2 (Rg.on (rgo pz) hw) hv7) R fun x10 => (wlq (pex R R) R (wlq (pex R R) R (wls (sbx (cs' := [iv v7.1.Size, (sl x10)]) tk_56 pk2 R R R R R R R) (asg R R (wnt (wct ?_)))))))))))
 obtain rfl := oi t0
 exact wq_retc1 R tk_56 R R pz R fun w hw => ⟨x10, R, hw.weak (zc pk1 zn)⟩

theorem c_impl_ColorAt (w : World) (a_c : GCell) (a_side : Int) {r : Int} (t0 : impl_ColorAt a_c a_side = some r) : Calls Tryz.prog 162 #[.agg #[.int .i64 a_c.Split, .int .i64 a_c.A, .int .i64 a_c.B], .int .i64 a_side] w fun e w' => e = .returned (.int .i64 r) ∧ SH w [] [] w' := by
 refine cwc (args := [_, _]) Tryz.func162 R Tryz.ntmps162 R ?_
 unfold impl_ColorAt at t0
 refine wcr (wle (eo_box R R) R fun b1 => (asg R R (wnt (wcs (wcs (bdO t0 fun y1 t1 t0 => (wj (J := Bool) (X := Unit) (fun z => y1 = z) (fun z _ => [(1, iv a_side), (2, ptr b1 0), (12, .bool z)]) (fun _ _ => [box b1 [iv a_c.Split, iv a_c.A, iv a_c.B]]) ?_ ?_)))))))
 refine wcg (wlq (v := .agg #[iv a_c.Split, iv a_c.A, iv a_c.B]) (plb tk_87 pz R R R) R (bdO t1 fun v1 hv1 t1 => (wlc (cz0 fa_74 R fun w hw => c_impl_CellOk w a_c hv1) R fun _ => (wlq (po_not R) R (mv R R (wlo (t := 8) t1 R (fun h1 t1 => ?_) fun h1 t1 => ?_))))))
 exact wgf (j := 3) R R R R R (wgf (j := 3) R R R R R (wgf (j := 3) R R R R R (wlq (pit R R) R (wln (wjm _ () (mtE t1) (su3 R R R) so1)))))
 exact wgn (j := 3) R R R (mv R R (bdO t1 fun v2 hv2 t1 => (wgn (j := 3) R R R (wlc (cz0 fa_35 R fun w hw => c_impl_within w a_side 0 3 hv2) R (fun _ => (wgn (j := 3) R R R (wlq (po_not R) R (wlq (pif R R) R (wln (wjm _ () (mtE t1) (su3 R R R) so1))))))))))
 intro j1 _ hp
 obtain rfl : j1 = y1 := hp.symm
 refine wqt (wcO t0 R (fun h2 t0 => ?_) fun h2 t0 => ?_)
 refine wcr (asg R R (wnt (wct (wqr ?_))))
 obtain rfl := oi t0
 exact wq1 R R fun w hw => ⟨R, hw.weak zn⟩
 refine wck (wqt (wcs (wcs (wcj (X := Unit) (fun _ => True) (fun _ => [(2, ptr b1 0), (32, .bool ((a_side == 0) || (bif (a_c.Split == 1) then ((a_side == 1) || ((a_c.Split == 2) && (a_side == 3))) else ((a_c.Split == 2) && (a_side == 3)))))]) (fun _ => [box b1 [iv a_c.Split, iv a_c.A, iv a_c.B]]) ?_ ?_))))
 refine wcg (mv R R (wlq (pol R R) R (mv R R (wl_fork (t := 15) R (fun h3 => ?_) fun h3 => ?_))))
 exact wgf (j := 2) R R R R R (wgf (j := 2) R R R R R (wgf (j := 2) R R R R R (wgf (j := 2) R R R R R (wl_guard_undef (j := 6) R R R R (wl_guard_undef (j := 6) R R R R (wgf (j := 2) R R R R R (wlq (pit R R) R (mv R R (wgf (j := 11) R R R R R (wgf (j := 11) R R R R R (wgf (j := 11) R R R R R (wgf (j := 11) R R R R R (wl_guard_undef (j := 15) R R R R (wl_guard_undef (j := 15) R R R R (wgf (j := 11) R R R R R (wlq (pit R R) R (wln (wqm () trivial (yc R (sub_b R (by rw [h3]; rfl) yn)) so1))))))))))))))))))
 refine wgn (j := 2) R R R (wlq (pof fo_87_0 R) R (wgn (j := 2) R R R (wlq (v := iv a_c.Split) (plx tk_3 pz R R) R (wgn (j := 2) R R R (wlq (pol R R) R (wgn (j := 2) R R R (mv R R (wl_fork (t := 19) R (fun h4 => ?_) fun h4 => ?_))))))))
 refine wgn (j := 6) R R R (mv R R (wgn (j := 6) R R R (wlq (pol R R) R (wgn (j := 2) R R R (wlq (pit R R) R (wlq (pif R R) R (mv R R (wl_fork (t := 24) R (fun h5 => ?_) fun h5 => ?_))))))))
 exact wgf (j := 11) R R R R R (wgf (j := 11) R R R R R (wgf (j := 11) R R R R R (wgf (j := 11) R R R R R (wl_guard_undef (j := 15) R R R R (wl_guard_undef (j := 15) R R R R (wgf (j := 11) R R R R R (wlq (pit R R) R (wln (wqm () trivial (yc R (sub_b R (by rw [h3, h4, h5]; rfl) yn)) so1)))))))))
 refine wgn (j := 11) R R R (wlq (pof fo_87_0 R) R (wgn (j := 11) R R R (wlq (v := iv a_c.Split) (plx tk_3 pz R R) R (wgn (j := 11) R R R (wlq (pol R R) R (wgn (j := 11) R R R (mv R R (wl_fork (t := 28) R (fun h6 => ?_) fun h6 => ?_))))))))
 exact wgn (j := 15) R R R (mv R R (wgn (j := 15) R R R (wlq (pol R R) R (wgn (j := 11) R R R (wlq (pit R R) R (wlq (pif R R) R (wln (wqm () trivial (yc R (sub_b R (by rw [h3, h4, h5, h6]; rfl) yn)) so1))))))))
 exact wgf (j := 15) R R R R R (wgf (j := 15) R R R R R (wgn (j := 11) R R R (wlq (pif R R) R (wlq (pif R R) R (wln (wqm () trivial (yc R (sub_b R (by rw [h3, h4, h5, h6]; rfl) yn)) so1))))))
 refine wgf (j := 6) R R R R R (wgf (j := 6) R R R R R (wgn (j := 2) R R R (wlq (pif R R) R (wlq (pif R R) R (mv R R (wgn (j := 11) R R R (wlq (pof fo_87_0 R) R (wgn (j := 11) R R R (wlq (v := iv a_c.Split) (plx tk_3 pz R R) R (wgn (j := 11) R R R (wlq (pol R R) R (wgn (j := 11) R R R (mv R R (wl_fork (t := 28) R (fun h7 => ?_) fun h7 => ?_))))))))))))))
 exact wgn (j := 15) R R R (mv R R (wgn (j := 15) R R R (wlq (pol R R) R (wgn (j := 11) R R R (wlq (pit R R) R (wlq (pif R R) R (wln (wqm () trivial (yc R (sub_b R (by rw [h3, h4, h7]; rfl) yn)) so1))))))))
 exact wgf (j := 15) R R R R R (wgf (j := 15) R R R R R (wgn (j := 11) R R R (wlq (pif R R) R (wlq (pif R R) R (wln (wqm () trivial (yc R (sub_b R (by rw [h3, h4, h7]; rfl) yn)) so1))))))
 intro _ _
 refine wqt (wcO t0 R (fun h8 t0 => ?_) fun h8 t0 => ?_)
 refine wcr (wlq (pof fo_87_1 R) R (wlq (v := iv a_c.A) (plx tk_3 pz R R) R (asg R R (wnt (wct (wqr ?_))))))
 obtain rfl := oi t0
 exact wq1 R R fun w hw => ⟨R, hw.weak zn⟩
 refine wck (wqt (wcr (wlq (pof fo_87_2 R) R (wlq (v := iv a_c.B) (plx tk_3 pz R R) R (asg R R (wnt (wct ?_)))))))
 obtain rfl := oi t0
 exact wq1 R R fun w hw => ⟨R, hw.weak zn⟩

theorem c_impl_CellLikeness (w : World) (a_c : GCell) (a_d : GCell) {r : Int} (t0 : impl_CellLikeness a_c a_d = some r) : Calls Tryz.prog 152 #[.agg #[.int .i64 a_c.Split, .int .i64 a_c.A, .int .i64 a_c.B], .agg #[.int .i64 a_d.Split, .int .i64 a_d.A, .int .i64 a_d.B]] w fun e w' => e = .returned (.int .i64 r) ∧ SH w [] [] w' := by
 refine cwc (args := [_, _]) Tryz.func152 R Tryz.ntmps152 R ?_
 unfold impl_CellLikeness at t0
 refine wcr (wle (eo_box R R) R fun b1 => (wle (eo_box R R) R fun b2 => (asg R R (wnt (wcs (wcs (bdO t0 fun y1 t1 t0 => (wj (J := Bool) (X := Unit) (fun z => y1 = z) (fun z _ => [(2, ptr b1 0), (3, ptr b2 0), (14, .bool z)]) (fun _ _ => [box b2 [iv a_d.Split, iv a_d.A, iv a_d.B], box b1 [iv a_c.Split, iv a_c.A, iv a_c.B]]) ?_ ?_))))))))
 refine wcg (wlq (v := .agg #[iv a_c.Split, iv a_c.A, iv a_c.B]) (plb tk_87 pk1 R R R) R (bdO t1 fun v1 hv1 t1 => (wlc (cz0 fa_74 R fun w hw => c_impl_CellOk w a_c hv1) R fun _ => (wlq (po_not R) R (mv R R (wlo (t := 10) t1 R (fun h1 t1 => ?_) fun h1 t1 => ?_))))))
 exact wgf (j := 3) R R R R R (wgf (j := 3) R R R R R (wgf (j := 3) R R R R R (wlq (pit R R) R (wln (wjm _ () (mtE t1) (su3 R R R) so2)))))
 exact wgn (j := 3) R R R (wlq (v := .agg #[iv a_d.Split, iv a_d.A, iv a_d.B]) (plb tk_87 pz R R R) R (bdO t1 fun v2 hv2 t1 => (wgn (j := 3) R R R (wlc (cz0 fa_74 R fun w hw => c_impl_CellOk w a_d hv2) R (fun _ => (wgn (j := 3) R R R (wlq (po_not R) R (wlq (pif R R) R (wln (wjm _ () (mtE t1) (su3 R R R) so2))))))))))
 intro j1 _ hp
 obtain rfl : j1 = y1 := hp.symm
 refine wqt (wcO t0 R (fun h2 t0 => ?_) fun h2 t0 => ?_)
 refine wcr (asg R R (wnt (wct (wqr ?_))))
 obtain rfl := oi t0
 exact wq1 R R fun w hw => ⟨R, hw.weak zn⟩
 refine wck (wqt (wcr (asg R R (wnt (wcs (wcr (mv R R (wnt (lpO_inv t0 fun y1 l1 t0 => (wj (J := Int) (X := Unit) (fun z => y1 = z) (fun z _ => [(5, iv z)]) (fun _ _ => []) ?_ ?_))))))))))
 refine wcb (wcf (X := Unit) l1 (fun k1 s1 x1l => [(2, ptr b1 0), (3, ptr b2 0), (5, iv s1), (15, iv ((k1 : Nat) : Int))]) (fun k1 s1 x1l => [box b2 [iv a_d.Split, iv a_d.A, iv a_d.B], box b1 [iv a_c.Split, iv a_c.A, iv a_c.B]]) () (su4 R R R R) so2 fun k1 s1 x1l hN1 l1 => ?_)
 by_cases hk1 : k1 < 4
 refine fos l1 hk1 fun _ t1 l1 => ?_
 unfold impl_CellLikeness_L1 at t1
 have c1 : (decide (((k1 : Nat) : Int) < 4)) = true := ddt (by omega)
 refine wcr (wlq (pls R R) R (wnt (wcs (wft R c1 (wck (wqt (wcs (wcb (wcr (mv R R (asg R R (wnt (wcs (wcd [box b2 [iv a_d.Split, iv a_d.A, iv a_d.B], box b1 [iv a_c.Split, iv a_c.A, iv a_c.B]] 7 mixed (aq (v := .agg #[iv a_c.Split, iv a_c.A, iv a_c.B]) 0 R (plb tk_87 pk1 R R R) so2 R (aq 1 R (pom R) so2 R (aq (v := .agg #[iv a_d.Split, iv a_d.A, iv a_d.B]) 3 R (plb tk_87 pz R R R) so2 R (aq 4 R (pom R) so2 R (a1 2 (bdO t1 fun v3 hv3 t1 => (wsc R (cz0 fa_162 R fun w hw => c_impl_ColorAt w a_c ((k1 : Nat) : Int) hv3) (fun _ => (zt so2)) R fun _ => (a1 5 (bdO t1 fun v4 hv4 t1 => (wsc R (cz0 fa_162 R fun w hw => c_impl_ColorAt w a_d ((k1 : Nat) : Int) hv4) (fun _ => (zt so2)) R fun _ => (aq 6 R (pol R R) so2 R (ae (wqt (wcj (X := Unit) (fun _ => True) (fun _ => [(2, ptr b1 0), (3, ptr b2 0), (5, iv (bif (v3 == v4) then (wr (s1 + 1)) else s1)), (15, iv ((k1 : Nat) : Int))]) (fun _ => [box b2 [iv a_d.Split, iv a_d.A, iv a_d.B], box b1 [iv a_c.Split, iv a_c.A, iv a_c.B]]) ?_ ?_))))))))))))))))))))))))))))
 refine wc_cond R (fun h3 => ?_) fun h3 => ?_
 exact wcg (mv R R (wlq (po_add R R) R (asg R R (wln (wqm () trivial (yc R (yc R (sub_i R (by simp only [h3, cond_true]) (su1 R)))) so2)))))
 exact wck (wqm () trivial (yc R (yc R (sub_i R (by simp only [h3, cond_false]) (su1 R)))) so2)
 intro _ _
 refine wqb (wqt (wcg (wlq (po_inc R R (by omega)) R ?_)))
 exact mv R R (wln (wq_rnd hk1 (stpN l1 t1) () (su4 R R R R) so2))
 have c1 : (decide (((k1 : Nat) : Int) < 4)) = false := ddf (by omega)
 have en1 := foe l1 hk1
 exact wcr (wlq (pls R R) R (wnt (wcs (wff R c1 (wcx (wqe (wqe (wbx (wjm _ () (Sum.inl.inj en1) (su1 R) zn)))))))))
 intro e1 _ hp
 obtain rfl : e1 = y1 := hp.symm
 refine wqt (wcr (mv R R (asg R R (wnt (wct ?_)))))
 obtain rfl := oi t0
 exact wq1 R R fun w hw => ⟨R, hw.weak zn⟩

theorem c_impl_Likeness (w : World) (a_b : GBlock) (v0a : Hd) (r0 : rdF w (dm w []) (sl v0a) a_b.Cells) (a_d : GBlock) (v1a : Hd) (r1 : rdF w (dm w []) (sl v1a) a_d.Cells) {r : Int} (t0 : impl_Likeness a_b a_d = some r) : Calls Tryz.prog 138 #[.agg #[.int .i64 a_b.Size, (sl v0a)], .agg #[.int .i64 a_d.Size, (sl v1a)]] w fun e w' => e = .returned (.int .i64 r) ∧ SH w [] [] w' := by
 refine cwc (args := [_, _]) Tryz.func138 R Tryz.ntmps138 R ?_
 unfold impl_Likeness at t0
 refine wcr (wle (eo_box R R) R fun b1 => (wle (eo_box R R) R fun b2 => (asg R R (wnt (wcs (wcr (wlq (v := .agg #[iv a_b.Size, (sl v0a)]) (plb tk_56 pk1 R R R) R (wlq (v := .agg #[iv a_d.Size, (sl v1a)]) (plb tk_56 pz R R R) R (bdO t0 fun v1 hv1 t0 => (wlc (cz0 fa_115 R fun w hw => c_impl_arePaired w a_b v0a (ra r0 hw) a_d v1a (ra r1 hw) hv1) R fun _ => (wlq (po_not R) R (wnt (wcO t0 R (fun h1 t0 => ?_) fun h1 t0 => ?_)))))))))))))
 refine wcr (asg R R (wnt (wct (wqr ?_))))
 obtain rfl := oi t0
 exact wq1 R R fun w hw => ⟨R, hw.weak zn⟩
 refine wck (wqt (wcr (asg R R (wnt (wcs (wcr (wlq (pof fo_56_1 R) R (wlq (v := (sl v0a)) (plx tk_54 pk1 R R) R (wlq (pln (rga r0) el_54 R) R (mv R R (wnt (gdO t0 fun g1 t0 => (lpO_inv t0 fun y1 l1 t0 => (wj (J := Int) (X := Unit) (fun z => y1 = z) (fun z _ => [(5, iv z)]) (fun _ _ => []) ?_ ?_))))))))))))))
 refine wcb (wcf (X := Unit) l1 (fun k1 s1 x1l => [(2, ptr b1 0), (3, ptr b2 0), (5, iv s1), (13, iv ((a_b.Cells.length : Nat) : Int)), (14, iv ((k1 : Nat) : Int))]) (fun k1 s1 x1l => [box b2 [iv a_d.Size, (sl v1a)], box b1 [iv a_b.Size, (sl v0a)]]) () (su5 R R R R R) so2 fun k1 s1 x1l hN1 l1 => ?_)
 by_cases hk1 : k1 < a_b.Cells.length
 refine fos l1 hk1 fun _ t1 l1 => ?_
 unfold impl_Likeness_L1 at t1
 have c1 : (decide (((k1 : Nat) : Int) < ((a_b.Cells.length : Nat) : Int))) = true := ddt (by omega)
 refine wcr (wlq (pls R R) R (wnt (wcs (wft R c1 (wck (wqt (wcs (wcb (wcr (mv R R (asg R R (wnt (wcd [box b2 [iv a_d.Size, (sl v1a)], box b1 [iv a_b.Size, (sl v0a)]] 14 mixed (aq 0 R (pom R) so2 R (aq 1 R (pof fo_56_1 R) so2 R (aq (v := (sl v0a)) 2 R (plx tk_54 pk1 R R) so2 R (aq 3 R (pom R) so2 R (aq 4 R (po_ixn (k := k1) (rga r0) el_54 R R hk1) so2 R (aq (v := .agg #[iv ((gx a_b.Cells k1).Split), iv ((gx a_b.Cells k1).A), iv ((gx a_b.Cells k1).B)]) 5 R (po_ldfs (rga r0) tk_87 R hk1 R R R) so2 R (aq 6 R (pof fo_56_1 R) so2 R (aq (v := (sl v1a)) 7 R (plx tk_54 pz R R) so2 R (aq 8 R (pom R) so2 R (gdO t1 fun g2 t1 => (aq 9 R (po_ixn (k := k1) (rga r1) el_54 R R g2) so2 R (aq (v := .agg #[iv ((gx a_d.Cells k1).Split), iv ((gx a_d.Cells k1).A), iv ((gx a_d.Cells k1).B)]) 10 R (po_ldfs (rga r1) tk_87 R g2 R R R) so2 R (a1 11 (bdO t1 fun v2 hv2 t1 => (wsc R (cz0 fa_152 R fun w hw => c_impl_CellLikeness w (gx a_b.Cells k1) (gx a_d.Cells k1) hv2) (fun _ => (zt so2)) R fun _ => (aq 12 R (po_add R R) so2 R (aq 13 R (po_assign R) so2 R (ae (wqb (wqt (wcg (wlq (po_inc R R (by omega)) R ?_)))))))))))))))))))))))))))))))))))
 exact mv R R (wln (wq_rnd hk1 (stpN l1 t1) () (su5 R R R R R) so2))
 have c1 : (decide (((k1 : Nat) : Int) < ((a_b.Cells.length : Nat) : Int))) = false := ddf (by omega)
 have en1 := foe l1 hk1
 exact wcr (wlq (pls R R) R (wnt (wcs (wff R c1 (wcx (wqe (wqe (wbx (wjm _ () (Sum.inl.inj en1) (su1 R) zn)))))))))
 intro e1 _ hp
 obtain rfl : e1 = y1 := hp.symm
 refine wqt (wcr (mv R R (asg R R (wnt (wct ?_)))))
 obtain rfl := oi t0
 exact wq1 R R fun w hw => ⟨R, hw.weak zn⟩

theorem c_impl_BestLikeness (w : World) (a_b : GBlock) (v0a : Hd) (r0 : rdF w (dm w []) (sl v0a) a_b.Cells) (a_d : GBlock) (v1a : Hd) (r1 : rdF w (dm w []) (sl v1a) a_d.Cells) {r : Int} (t0 : impl_BestLikeness a_b a_d = some r) : Calls Tryz.prog 119 #[.agg #[.int .i64 a_b.Size, (sl v0a)], .agg #[.int .i64 a_d.Size, (sl v1a)]] w fun e w' => e = .returned (.int .i64 r) ∧ SH w [] [] w' := by
 refine cwc (args := [_, _]) Tryz.func119 R Tryz.ntmps119 R ?_
 unfold impl_BestLikeness at t0
 refine wcr (wle (eo_box R R) R fun b1 => (wle (eo_box R R) R fun b2 => (asg R R (wnt (wcs (wcr (wlq (v := .agg #[iv a_b.Size, (sl v0a)]) (plb tk_56 pk1 R R R) R (wlq (v := .agg #[iv a_d.Size, (sl v1a)]) (plb tk_56 pz R R R) R (bdO t0 fun v1 hv1 t0 => (wlc (cz0 fa_115 R fun w hw => c_impl_arePaired w a_b v0a (ra r0 hw) a_d v1a (ra r1 hw) hv1) R fun _ => (wlq (po_not R) R (wnt (wcO t0 R (fun h1 t0 => ?_) fun h1 t0 => ?_)))))))))))))
 refine wcr (asg R R (wnt (wct (wqr ?_))))
 obtain rfl := oi t0
 exact wq1 R R fun w hw => ⟨R, hw.weak zn⟩
 refine wck (wqt (wcr (asg R R (wnt (wcs (wcr (wlq (v := .agg #[iv a_d.Size, (sl v1a)]) (plb tk_56 pz R R R) R (bdO t0 fun v2 hv2 t0 => (wlc (cz1 fa_132 R fun w hw => c_impl_views w a_d v1a (ra r1 hw) hv2) R fun x1 => (wlq (pln (rgo pz) el_154 R) R (mv R R (wnt (gdO t0 fun g1 t0 => (lpO_inv t0 fun y1 l1 t0 => (wj (J := Int) (X := Unit) (fun z => y1 = z) (fun z _ => [(5, iv z)]) (fun _ _ => []) ?_ ?_)))))))))))))))
 refine wcb (wcf (X := Unit) l1 (fun k1 s1 x1l => [(2, ptr b1 0), (5, iv s1), (13, (sl x1.1)), (14, iv ((v2.length : Nat) : Int)), (15, iv ((k1 : Nat) : Int))]) (fun k1 s1 x1l => [own (sl x1.1) x1.2 v2, box b1 [iv a_b.Size, (sl v0a)]]) () (su5 R R R R R) (zc pz (zc pk1 zn)) fun k1 s1 x1l hN1 l1 => ?_)
 by_cases hk1 : k1 < v2.length
 refine fos l1 hk1 fun _ t1 l1 => ?_
 unfold impl_BestLikeness_L1 at t1
 have c1 : (decide (((k1 : Nat) : Int) < ((v2.length : Nat) : Int))) = true := ddt (by omega)
 refine wcr (wlq (pls R R) R (wnt (wcs (wft R c1 (wck (wqt (wcs (wcb (wcr (wlq (po_ixn (k := k1) (rgo pz) el_154 R R hk1) R (wl_elem (rgo pz) hk1 ?_)))))))))))
 rintro ⟨_, _, he1⟩
 obtain ⟨w1, hc1, _⟩ := rd_GBlock.1 he1
 refine wlq (v := .agg #[iv ((gx v2 k1).Size), (sl w1)]) (po_ldns (rgo pz) tk_56 R hc1 R R R) R (wle (eal (cs := [iv 0, (sl hn)]) za_56) R fun b3 => (wls (sbx (cs' := [iv ((gx v2 k1).Size), (sl w1)]) tk_56 pz R R R R R R R) (wnt (wcg (mv R R (wlq (v := .agg #[iv a_b.Size, (sl v0a)]) (plb tk_56 pk2 R R R) R (wlq (v := .agg #[iv ((gx v2 k1).Size), (sl w1)]) (plb tk_56 pz R R R) R (bdO t1 fun v3 hv3 t1 => (wlc (cz0 fa_138 R fun w hw => c_impl_Likeness w a_b v0a (ra r0 hw) (gx v2 k1) w1 (Rg.on (er_GBlock_0 hc1 (rgo pk1) hk1) hw) hv3) R fun _ => (wlq (po_max R R) R (asg R R (wln (wqb (wqt (wcg (wlq (po_inc R R (by omega)) R ?_))))))))))))))))
 exact mv R R (wln (wq_rnd hk1 (stpN l1 t1) () (su5 R R R R R) (zc pk1 (zc pk1 zn))))
 have c1 : (decide (((k1 : Nat) : Int) < ((v2.length : Nat) : Int))) = false := ddf (by omega)
 have en1 := foe l1 hk1
 exact wcr (wlq (pls R R) R (wnt (wcs (wff R c1 (wcx (wqe (wqe (wbx (wjm _ () (Sum.inl.inj en1) (su1 R) zn)))))))))
 intro e1 _ hp
 obtain rfl : e1 = y1 := hp.symm
 refine wqt (wcr (mv R R (asg R R (wnt (wct ?_)))))
 obtain rfl := oi t0
 exact wq1 R R fun w hw => ⟨R, hw.weak zn⟩

theorem c_impl_PatternLikeness (w : World) (a_b : GBlock) (v0a : Hd) (r0 : rdF w (dm w []) (sl v0a) a_b.Cells) (a_d : GBlock) (v1a : Hd) (r1 : rdF w (dm w []) (sl v1a) a_d.Cells) {r : Int} (t0 : impl_PatternLikeness a_b a_d = some r) : Calls Tryz.prog 101 #[.agg #[.int .i64 a_b.Size, (sl v0a)], .agg #[.int .i64 a_d.Size, (sl v1a)]] w fun e w' => e = .returned (.int .i64 r) ∧ SH w [] [] w' := by
 refine cwc (args := [_, _]) Tryz.func101 R Tryz.ntmps101 R ?_
 unfold impl_PatternLikeness at t0
 refine wcr (wle (eo_box R R) R fun b1 => (wle (eo_box R R) R fun b2 => (asg R R (wnt (wcs (wcs (bdO t0 fun y1 t1 t0 => (wj (J := Bool) (X := Unit) (fun z => y1 = z) (fun z _ => [(2, ptr b1 0), (3, ptr b2 0), (18, .bool z)]) (fun _ _ => [box b2 [iv a_d.Size, (sl v1a)], box b1 [iv a_b.Size, (sl v0a)]]) ?_ ?_))))))))
 refine wcg (wlq (v := .agg #[iv a_b.Size, (sl v0a)]) (plb tk_56 pk1 R R R) R (wlq (v := .agg #[iv a_d.Size, (sl v1a)]) (plb tk_56 pz R R R) R (bdO t1 fun v1 hv1 t1 => (wlc (cz0 fa_115 R fun w hw => c_impl_arePaired w a_b v0a (ra r0 hw) a_d v1a (ra r1 hw) hv1) R fun _ => (wlq (po_not R) R (mv R R (wlo (t := 13) t1 R (fun h1 t1 => ?_) fun h1 t1 => ?_)))))))
 exact wgf (j := 4) R R R R R (wgf (j := 4) R R R R R (wgf (j := 4) R R R R R (wgf (j := 4) R R R R R (wlq (pit R R) R (wln (wjm _ () (mtE t1) (su3 R R R) so2))))))
 exact wgn (j := 4) R R R (wlq (v := .agg #[iv a_d.Size, (sl v1a)]) (plb tk_56 pz R R R) R (bdO t1 fun v2 hv2 t1 => (wgn (j := 4) R R R (wlc (cz1 fa_116 R fun w hw => c_impl_ColorsOf w a_d v1a (ra r1 hw) hv2) R (fun x2 => (wgn (j := 4) R R R (wlq (pln (rgo pz) el_25 R) R (wgn (j := 4) R R R (wlq (po_gtr R R) R (wlq (pif R R) R (wln (wjm _ () (mtE t1) (su3 R R R) (zc pk1 (zc pk1 zn))))))))))))))
 intro j1 _ hp
 obtain rfl : j1 = y1 := hp.symm
 refine wqt (wcO t0 R (fun h2 t0 => ?_) fun h2 t0 => ?_)
 refine wcr (asg R R (wnt (wct (wqr ?_))))
 obtain rfl := oi t0
 exact wq1 R R fun w hw => ⟨R, hw.weak zn⟩
 refine wck (wqt (wcr (asg R R (wnt (wcs (wcr (wlq (v := .agg #[iv a_d.Size, (sl v1a)]) (plb tk_56 pz R R R) R (bdO t0 fun v3 hv3 t0 => (wlc (cz0 fa_117 R fun w hw => c_impl_ColorwayCount w a_d v1a (ra r1 hw) hv3) R fun _ => (mv R R (wnt (gdO t0 fun g1 t0 => (lpO_inv t0 fun y1 l1 t0 => (wj (J := Int) (X := Unit) (fun z => y1 = z) (fun z _ => [(5, iv z)]) (fun _ _ => []) ?_ ?_))))))))))))))
 refine wcb (wcf (X := Unit) l1 (fun k1 s1 x1l => [(2, ptr b1 0), (3, ptr b2 0), (5, iv s1), (20, iv v3), (21, iv ((k1 : Nat) : Int))]) (fun k1 s1 x1l => [box b2 [iv a_d.Size, (sl v1a)], box b1 [iv a_b.Size, (sl v0a)]]) () (su5 R R R R R) so2 fun k1 s1 x1l hN1 l1 => ?_)
 by_cases hk1 : k1 < (v3).toNat
 refine fos l1 hk1 fun _ t1 l1 => ?_
 unfold impl_PatternLikeness_L1 at t1
 have c1 : (decide (((k1 : Nat) : Int) < v3)) = true := ddt (by omega)
 refine wcr (wlq (pls R R) R (wnt (wcs (wft R c1 (wck (wqt (wcs (wcb (wcr (mv R R (asg R R (wnt (wcr (wlq (v := .agg #[iv a_d.Size, (sl v1a)]) (plb tk_56 pz R R R) R (mv R R (bdO t1 fun v4 hv4 t1 => (wlc (cz1 fa_118 R fun w hw => c_impl_ColorwayAt w a_d v1a (ra r1 hw) ((k1 : Nat) : Int) hv4) R fun x4 => (mv R R (wlq (pex R R) R (wlq (pex R R) R (wle (eal (cs := [iv 0, (sl hn)]) za_56) R fun b3 => (wls (sbx (cs' := [iv v4.1.Size, (sl x4)]) tk_56 pz R R R R R R R) (asg R R (wnt (wcg (mv R R (wlq (v := .agg #[iv a_b.Size, (sl v0a)]) (plb tk_56 pk3 R R R) R (wlq (v := .agg #[iv v4.1.Size, (sl x4)]) (plb tk_56 pz R R R) R (bdO t1 fun v5 hv5 t1 => (wlc (cz0 fa_119 R fun w hw => c_impl_BestLikeness w a_b v0a (ra r0 hw) v4.1 x4 (Rg.on (rgo pk1) hw) hv5) R fun _ => (wlq (po_max R R) R (asg R R (wln (wqb (wqt (wcg (wlq (po_inc R R (by omega)) R ?_)))))))))))))))))))))))))))))))))))))
 exact mv R R (wln (wq_rnd hk1 (stpN l1 t1) () (su5 R R R R R) (zc pk2 (zc pk2 zn))))
 have c1 : (decide (((k1 : Nat) : Int) < v3)) = false := ddf (by omega)
 have en1 := foe l1 hk1
 exact wcr (wlq (pls R R) R (wnt (wcs (wff R c1 (wcx (wqe (wqe (wbx (wjm _ () (Sum.inl.inj en1) (su1 R) zn)))))))))
 intro e1 _ hp
 obtain rfl : e1 = y1 := hp.symm
 refine wqt (wcr (mv R R (asg R R (wnt (wct ?_)))))
 obtain rfl := oi t0
 exact wq1 R R fun w hw => ⟨R, hw.weak zn⟩

theorem c_impl_VerdictOn (w : World) (a_e : GEntry) (v0a : Hd) (r0 : rdF w (dm w []) (sl v0a) a_e.Block.Cells) (a_f : GEntry) (v1a : Hd) (r1 : rdF w (dm w []) (sl v1a) a_f.Block.Cells) {r : Int} (t0 : impl_VerdictOn a_e a_f = some r) : Calls Tryz.prog 84 #[.agg #[.int .i64 a_e.Owner, .int .i64 a_e.Day, .int .i64 a_e.Block.Size, (sl v0a)], .agg #[.int .i64 a_f.Owner, .int .i64 a_f.Day, .int .i64 a_f.Block.Size, (sl v1a)]] w fun e w' => e = .returned (.int .i64 r) ∧ SH w [] [] w' := by
 refine cwc (args := [_, _]) Tryz.func84 R Tryz.ntmps84 R ?_
 unfold impl_VerdictOn at t0
 refine wcr (wle (eo_box R R) R fun b1 => (wle (eo_box R R) R fun b2 => (asg R R (wnt (wcs (wcb (wcs (bdO t0 fun y1 t1 t0 => (wj (J := Bool) (X := Unit) (fun z => y1 = z) (fun z _ => [(2, ptr b1 0), (3, ptr b2 0), (5, .bool z)]) (fun _ _ => [box b2 [iv a_f.Owner, iv a_f.Day, iv a_f.Block.Size, (sl v1a)], box b1 [iv a_e.Owner, iv a_e.Day, iv a_e.Block.Size, (sl v0a)]]) ?_ ?_)))))))))
 refine wcg (wlq (v := .agg #[iv a_e.Owner, iv a_e.Day, iv a_e.Block.Size, (sl v0a)]) (plb tk_58 pk1 R R R) R (bdO t1 fun v1 hv1 t1 => (wlc (cz0 fa_33 R fun w hw => c_impl_EntryOk w a_e v0a (ra r0 hw) hv1) R fun _ => (wlq (po_not R) R (mv R R (wlo (t := 9) t1 R (fun h1 t1 => ?_) fun h1 t1 => ?_))))))
 exact wgf (j := 3) R R R R R (wgf (j := 3) R R R R R (wgf (j := 3) R R R R R (wlq (pit R R) R (mv R R (wgf (j := 8) R R R R R (wgf (j := 8) R R R R R (wgf (j := 8) R R R R R (wgf (j := 8) R R R R R (wgf (j := 8) R R R R R (wgf (j := 8) R R R R R (wgf (j := 8) R R R R R (wlq (pit R R) R (asg R R (wln (wjm _ () (mtE t1) (su3 R R R) so2)))))))))))))))
 refine wgn (j := 3) R R R (wlq (v := .agg #[iv a_f.Owner, iv a_f.Day, iv a_f.Block.Size, (sl v1a)]) (plb tk_58 pz R R R) R (bdO t1 fun v2 hv2 t1 => (wgn (j := 3) R R R (wlc (cz0 fa_33 R fun w hw => c_impl_EntryOk w a_f v1a (ra r1 hw) hv2) R (fun _ => (wgn (j := 3) R R R (wlq (po_not R) R (wlq (pif R R) R (mv R R (wlo (t := 14) t1 R (fun h2 t1 => ?_) fun h2 t1 => ?_))))))))))
 exact wgf (j := 8) R R R R R (wgf (j := 8) R R R R R (wgf (j := 8) R R R R R (wgf (j := 8) R R R R R (wgf (j := 8) R R R R R (wgf (j := 8) R R R R R (wgf (j := 8) R R R R R (wlq (pit R R) R (asg R R (wln (wjm _ () (mtE t1) (su3 R R R) so2))))))))))
 exact wgn (j := 8) R R R (wlq (pof fo_58_2 R) R (wgn (j := 8) R R R (wlq (pof fo_56_0 R) R (wgn (j := 8) R R R (wlq (v := iv a_e.Block.Size) (plx tk_3 pk1 R R) R (wgn (j := 8) R R R (wlq (pof fo_58_2 R) R (wgn (j := 8) R R R (wlq (pof fo_56_0 R) R (wgn (j := 8) R R R (wlq (v := iv a_f.Block.Size) (plx tk_3 pz R R) R (wgn (j := 8) R R R (wlq (po_neq R R) R (wlq (pif R R) R (asg R R (wln (wjm _ () (mtE t1) (su3 R R R) so2)))))))))))))))))
 intro j1 _ hp
 obtain rfl : j1 = y1 := hp.symm
 refine wqt (wcO t0 R (fun h3 t0 => ?_) fun h3 t0 => ?_)
 refine wcr (asg R R (wnt (wct (wbr (wqr ?_)))))
 obtain rfl := oi t0
 exact wq1 R R fun w hw => ⟨R, hw.weak zn⟩
 refine wcr (wlq (pof fo_58_2 R) R (wlq (v := .agg #[iv a_e.Block.Size, (sl v0a)]) (plb tk_56 pk1 R R R) R (wlq (pof fo_58_2 R) R (wlq (v := .agg #[iv a_f.Block.Size, (sl v1a)]) (plb tk_56 pz R R R) R (bdO t0 fun v3 hv3 t0 => (wlc (cz0 fa_100 R fun w hw => c_impl_ArePatternsSame w a_e.Block v0a (ra r0 hw) a_f.Block v1a (ra r1 hw) hv3) R fun _ => (asg R R (wnt (wcO t0 R (fun h4 t0 => ?_) fun h4 t0 => ?_)))))))))
 refine wcr (asg R R (wnt (wct (wbr (wqr ?_)))))
 obtain rfl := oi t0
 exact wq1 R R fun w hw => ⟨R, hw.weak zn⟩
 refine wcs (wcd [box b2 [iv a_f.Owner, iv a_f.Day, iv a_f.Block.Size, (sl v1a)], box b1 [iv a_e.Owner, iv a_e.Day, iv a_e.Block.Size, (sl v0a)]] 13 mixed (aq 0 R (pof fo_58_2 R) so2 R (aq (v := .agg #[iv a_e.Block.Size, (sl v0a)]) 1 R (plb tk_56 pk1 R R R) so2 R (aq 2 R (pof fo_58_2 R) so2 R (aq (v := .agg #[iv a_f.Block.Size, (sl v1a)]) 3 R (plb tk_56 pz R R R) so2 R (aq 6 R (pof fo_58_2 R) so2 R (aq 7 R (pof fo_56_1 R) so2 R (aq (v := (sl v0a)) 8 R (plx tk_54 pk1 R R) so2 R (aq 9 R (pln (rga r0) el_54 R) so2 R (aq 10 R (po_mul R R) so2 R (a1 4 (bdO t0 fun v4 hv4 t0 => (wsc R (cz0 fa_101 R fun w hw => c_impl_PatternLikeness w a_e.Block v0a (ra r0 hw) a_f.Block v1a (ra r1 hw) hv4) (fun _ => (zt so2)) R fun _ => (aq 5 R (po_mul R R) so2 R (aq 11 R (po_geq R R) so2 R (aq 12 R (po_assign R) so2 R (ae (wqt (wcO t0 R (fun h5 t0 => ?_) fun h5 t0 => ?_)))))))))))))))))))
 refine wcr (asg R R (wnt (wct (wbr (wqr ?_)))))
 obtain rfl := oi t0
 exact wq1 R R fun w hw => ⟨R, hw.weak zn⟩
 refine wck (wqb (wqt (wcr (asg R R (wnt (wct ?_))))))
 obtain rfl := oi t0
 exact wq1 R R fun w hw => ⟨R, hw.weak zn⟩

theorem c_impl_IsCopy (w : World) (a_e : GEntry) (v0a : Hd) (r0 : rdF w (dm w []) (sl v0a) a_e.Block.Cells) (a_f : GEntry) (v1a : Hd) (r1 : rdF w (dm w []) (sl v1a) a_f.Block.Cells) {r : Bool} (t0 : impl_IsCopy a_e a_f = some r) : Calls Tryz.prog 61 #[.agg #[.int .i64 a_e.Owner, .int .i64 a_e.Day, .int .i64 a_e.Block.Size, (sl v0a)], .agg #[.int .i64 a_f.Owner, .int .i64 a_f.Day, .int .i64 a_f.Block.Size, (sl v1a)]] w fun e w' => e = .returned (.bool r) ∧ SH w [] [] w' := by
 refine cwc (args := [_, _]) Tryz.func61 R Tryz.ntmps61 R ?_
 unfold impl_IsCopy at t0
 refine wcr (wle (eo_box R R) R fun b1 => (wle (eo_box R R) R fun b2 => (asg R R (wnt (wcs (bdO t0 fun y1 t1 t0 => (wj (J := Bool) (X := Unit) (fun z => y1 = z) (fun z _ => [(4, .bool z)]) (fun _ _ => []) ?_ ?_)))))))
 refine wcg (wlq (pof fo_58_0 R) R (wlq (v := iv a_e.Owner) (plx tk_3 pk1 R R) R (wlq (pof fo_58_0 R) R (wlq (v := iv a_f.Owner) (plx tk_3 pz R R) R (wlq (po_neq R R) R (mv R R (wlo (t := 10) t1 R (fun h1 t1 => ?_) fun h1 t1 => ?_)))))))
 refine wgn (j := 5) R R R (wlq (pof fo_58_1 R) R (wgn (j := 5) R R R (wlq (v := iv a_e.Day) (plx tk_3 pk1 R R) R (wgn (j := 5) R R R (wlq (pof fo_58_1 R) R (wgn (j := 5) R R R (wlq (v := iv a_f.Day) (plx tk_3 pz R R) R (wgn (j := 5) R R R (wlq (po_gtr R R) R (wlq (pit R R) R (mv R R (wlo (t := 17) t1 R (fun h2 t1 => ?_) fun h2 t1 => ?_))))))))))))
 exact wgn (j := 12) R R R (wlq (v := .agg #[iv a_e.Owner, iv a_e.Day, iv a_e.Block.Size, (sl v0a)]) (plb tk_58 pk1 R R R) R (wgn (j := 12) R R R (wlq (v := .agg #[iv a_f.Owner, iv a_f.Day, iv a_f.Block.Size, (sl v1a)]) (plb tk_58 pz R R R) R (bdO t1 fun v1 hv1 t1 => (wgn (j := 12) R R R (wlc (cz0 fa_84 R fun w hw => c_impl_VerdictOn w a_e v0a (ra r0 hw) a_f v1a (ra r1 hw) hv1) R (fun _ => (wgn (j := 12) R R R (wlq (po_geq R R) R (wlq (pit R R) R (asg R R (wln (wjm _ () (mtE t1) (su1 R) zn)))))))))))))
 exact wgf (j := 12) R R R R R (wgf (j := 12) R R R R R (wgf (j := 12) R R R R R (wgf (j := 12) R R R R R (wlq (pif R R) R (asg R R (wln (wjm _ () (mtE t1) (su1 R) zn)))))))
 exact wgf (j := 5) R R R R R (wgf (j := 5) R R R R R (wgf (j := 5) R R R R R (wgf (j := 5) R R R R R (wgf (j := 5) R R R R R (wlq (pif R R) R (mv R R (wgf (j := 12) R R R R R (wgf (j := 12) R R R R R (wgf (j := 12) R R R R R (wgf (j := 12) R R R R R (wlq (pif R R) R (asg R R (wln (wjm _ () (mtE t1) (su1 R) zn))))))))))))))
 intro j1 _ hp
 obtain rfl : j1 = y1 := hp.symm
 refine wqt (wct ?_)
 obtain rfl := oi t0
 exact wq1 R R fun w hw => ⟨R, hw.weak zn⟩

theorem c_impl_Submit (w : World) (a_g : GGuild) (v0a : Hd) (r0 : rdF w (dm w []) (sl v0a) a_g.Members) (v1a : Hd) (r1 : rdF w (dm w []) (sl v1a) a_g.Stock) (v2a : Hd) (u2a : List Value) (r2 : RdL w (dm w []) (sl v2a) u2a a_g.Entries) (v3a : Hd) (r3 : rdF w (dm w []) (sl v3a) a_g.Books) (a_number : Int) (a_day : Int) (a_b : GBlock) (v4a : Hd) (r4 : rdF w (dm w []) (sl v4a) a_b.Cells) {r : GGuild × Bool} (t0 : impl_Submit a_g a_number a_day a_b = some r) : Calls Tryz.prog 38 #[.agg #[(sl v0a), (sl v1a), (sl v2a), (sl v3a), .int .i64 a_g.Round, .int .i64 a_g.Year], .int .i64 a_number, .int .i64 a_day, .agg #[.int .i64 a_b.Size, (sl v4a)]] w fun e w' => ∃ x : Hd × Hd × Hd × (List Value) × Hd, e = .returned (.tuple #[.agg #[(sl x.1), (sl x.2.1), (sl x.2.2.1), (sl x.2.2.2.2), .int .i64 r.1.Round, .int .i64 r.1.Year], .bool r.2]) ∧ SH w [] [ownF (sl x.1) r.1.Members, ownF (sl x.2.1) r.1.Stock, own (sl x.2.2.1) x.2.2.2.1 r.1.Entries, ownF (sl x.2.2.2.2) r.1.Books] w' := by
 refine cwc (args := [_, _, _, _]) Tryz.func38 R Tryz.ntmps38 R ?_
 unfold impl_Submit at t0
 refine wcr (wle (eo_box R R) R fun b1 => (wle (eo_box R R) R fun b2 => (wle (eal (cs := [(sl hn), (sl hn), (sl hn), (sl hn), iv 0, iv 0]) za_29) R fun b3 => (asg R R (wnt (wcs (bdO t0 fun v1 hv1 t0 => (bdO t0 fun v2 hv2 t0 => (wcj (X := Nat × Nat × Hd × (Hd × Hd × Hd × (List Value) × Hd)) (fun _ => True) (fun z => [(4, ptr b1 0), (8, ptr b3 0), (10, ptr z.1 0), (11, ptr z.2.1 0)]) (fun z => [box z.2.1 [iv a_number, iv a_day, iv v2.Size, (sl z.2.2.1)], box z.1 [(sl z.2.2.2.1), (sl z.2.2.2.2.1), (sl z.2.2.2.2.2.1), (sl z.2.2.2.2.2.2.2), iv v1.Round, iv v1.Year], ownF (sl z.2.2.1) v2.Cells, ownF (sl z.2.2.2.1) v1.Members, ownF (sl z.2.2.2.2.1) v1.Stock, own (sl z.2.2.2.2.2.1) z.2.2.2.2.2.2.1 v1.Entries, ownF (sl z.2.2.2.2.2.2.2) v1.Books, box b3 [(sl hn), (sl hn), (sl hn), (sl hn), iv 0, iv 0], box b1 [(sl v0a), (sl v1a), (sl v2a), (sl v3a), iv a_g.Round, iv a_g.Year]]) ?_ ?_)))))))))
 refine wcd [box b3 [(sl hn), (sl hn), (sl hn), (sl hn), iv 0, iv 0], box b2 [iv a_b.Size, (sl v4a)], box b1 [(sl v0a), (sl v1a), (sl v2a), (sl v3a), iv a_g.Round, iv a_g.Year]] 11 mixed (wa_dag [⟨7, #[true, false, true, true, true, false, false, false, false, false, false], Unit, fun _ => [(4, ptr b1 0), (8, ptr b3 0), (14, .agg #[(sl v0a), (sl v1a), (sl v2a), (sl v3a), iv a_g.Round, iv a_g.Year]), (16, iv a_number), (17, iv a_day), (18, .agg #[iv a_b.Size, (sl v4a)])], fun _ => [box b3 [(sl hn), (sl hn), (sl hn), (sl hn), iv 0, iv 0], box b2 [iv a_b.Size, (sl v4a)], box b1 [(sl v0a), (sl v1a), (sl v2a), (sl v3a), iv a_g.Round, iv a_g.Year]]⟩, ⟨6, #[true, true, true, true, true, false, false, false, false, false, false], Hd × Hd × Hd × (List Value) × Hd, fun z => [(4, ptr b1 0), (8, ptr b3 0), (15, .agg #[(sl z.1), (sl z.2.1), (sl z.2.2.1), (sl z.2.2.2.2), iv v1.Round, iv v1.Year]), (16, iv a_number), (17, iv a_day), (18, .agg #[iv a_b.Size, (sl v4a)])], fun z => [ownF (sl z.1) v1.Members, ownF (sl z.2.1) v1.Stock, own (sl z.2.2.1) z.2.2.2.1 v1.Entries, ownF (sl z.2.2.2.2) v1.Books, box b3 [(sl hn), (sl hn), (sl hn), (sl hn), iv 0, iv 0], box b2 [iv a_b.Size, (sl v4a)], box b1 [(sl v0a), (sl v1a), (sl v2a), (sl v3a), iv a_g.Round, iv a_g.Year]]⟩, ⟨6, #[true, false, true, true, true, false, false, true, false, false, false], Nat, fun z => [(4, ptr b1 0), (8, ptr b3 0), (10, ptr z 0), (14, .agg #[(sl v0a), (sl v1a), (sl v2a), (sl v3a), iv a_g.Round, iv a_g.Year]), (16, iv a_number), (17, iv a_day), (18, .agg #[iv a_b.Size, (sl v4a)])], fun z => [box z [(sl hn), (sl hn), (sl hn), (sl hn), iv 0, iv 0], box b3 [(sl hn), (sl hn), (sl hn), (sl hn), iv 0, iv 0], box b2 [iv a_b.Size, (sl v4a)], box b1 [(sl v0a), (sl v1a), (sl v2a), (sl v3a), iv a_g.Round, iv a_g.Year]]⟩, ⟨6, #[true, false, true, true, true, false, false, false, true, false, false], Nat, fun z => [(4, ptr b1 0), (8, ptr b3 0), (11, ptr z 0), (14, .agg #[(sl v0a), (sl v1a), (sl v2a), (sl v3a), iv a_g.Round, iv a_g.Year]), (16, iv a_number), (17, iv a_day), (18, .agg #[iv a_b.Size, (sl v4a)])], fun z => [box z [iv 0, iv 0, iv 0, (sl hn)], box b3 [(sl hn), (sl hn), (sl hn), (sl hn), iv 0, iv 0], box b2 [iv a_b.Size, (sl v4a)], box b1 [(sl v0a), (sl v1a), (sl v2a), (sl v3a), iv a_g.Round, iv a_g.Year]]⟩, ⟨4, #[true, true, true, true, true, true, true, false, false, false, false], (Hd × Hd × Hd × (List Value) × Hd) × Hd, fun z => [(4, ptr b1 0), (8, ptr b3 0), (15, .agg #[(sl z.1.1), (sl z.1.2.1), (sl z.1.2.2.1), (sl z.1.2.2.2.2), iv v1.Round, iv v1.Year]), (20, .agg #[iv a_number, iv a_day, iv v2.Size, (sl z.2)])], fun z => [ownF (sl z.2) v2.Cells, ownF (sl z.1.1) v1.Members, ownF (sl z.1.2.1) v1.Stock, own (sl z.1.2.2.1) z.1.2.2.2.1 v1.Entries, ownF (sl z.1.2.2.2.2) v1.Books, box b3 [(sl hn), (sl hn), (sl hn), (sl hn), iv 0, iv 0], box b2 [iv a_b.Size, (sl v4a)], box b1 [(sl v0a), (sl v1a), (sl v2a), (sl v3a), iv a_g.Round, iv a_g.Year]]⟩, ⟨5, #[true, true, true, true, true, false, false, true, false, false, false], Nat × (Hd × Hd × Hd × (List Value) × Hd), fun z => [(4, ptr b1 0), (8, ptr b3 0), (10, ptr z.1 0), (15, .agg #[(sl z.2.1), (sl z.2.2.1), (sl z.2.2.2.1), (sl z.2.2.2.2.2), iv v1.Round, iv v1.Year]), (16, iv a_number), (17, iv a_day), (18, .agg #[iv a_b.Size, (sl v4a)])], fun z => [box z.1 [(sl hn), (sl hn), (sl hn), (sl hn), iv 0, iv 0], ownF (sl z.2.1) v1.Members, ownF (sl z.2.2.1) v1.Stock, own (sl z.2.2.2.1) z.2.2.2.2.1 v1.Entries, ownF (sl z.2.2.2.2.2) v1.Books, box b3 [(sl hn), (sl hn), (sl hn), (sl hn), iv 0, iv 0], box b2 [iv a_b.Size, (sl v4a)], box b1 [(sl v0a), (sl v1a), (sl v2a), (sl v3a), iv a_g.Round, iv a_g.Year]]⟩, ⟨5, #[true, true, true, true, true, false, false, false, true, false, false], Nat × (Hd × Hd × Hd × (List Value) × Hd), fun z => [(4, ptr b1 0), (8, ptr b3 0), (11, ptr z.1 0), (15, .agg #[(sl z.2.1), (sl z.2.2.1), (sl z.2.2.2.1), (sl z.2.2.2.2.2), iv v1.Round, iv v1.Year]), (16, iv a_number), (17, iv a_day), (18, .agg #[iv a_b.Size, (sl v4a)])], fun z => [box z.1 [iv 0, iv 0, iv 0, (sl hn)], ownF (sl z.2.1) v1.Members, ownF (sl z.2.2.1) v1.Stock, own (sl z.2.2.2.1) z.2.2.2.2.1 v1.Entries, ownF (sl z.2.2.2.2.2) v1.Books, box b3 [(sl hn), (sl hn), (sl hn), (sl hn), iv 0, iv 0], box b2 [iv a_b.Size, (sl v4a)], box b1 [(sl v0a), (sl v1a), (sl v2a), (sl v3a), iv a_g.Round, iv a_g.Year]]⟩, ⟨5, #[true, false, true, true, true, false, false, true, true, false, false], Nat × Nat, fun z => [(4, ptr b1 0), (8, ptr b3 0), (10, ptr z.1 0), (11, ptr z.2 0), (14, .agg #[(sl v0a), (sl v1a), (sl v2a), (sl v3a), iv a_g.Round, iv a_g.Year]), (16, iv a_number), (17, iv a_day), (18, .agg #[iv a_b.Size, (sl v4a)])], fun z => [box z.2 [iv 0, iv 0, iv 0, (sl hn)], box z.1 [(sl hn), (sl hn), (sl hn), (sl hn), iv 0, iv 0], box b3 [(sl hn), (sl hn), (sl hn), (sl hn), iv 0, iv 0], box b2 [iv a_b.Size, (sl v4a)], box b1 [(sl v0a), (sl v1a), (sl v2a), (sl v3a), iv a_g.Round, iv a_g.Year]]⟩, ⟨3, #[true, true, true, true, true, true, true, true, false, false, false], Nat × (Hd × Hd × Hd × (List Value) × Hd) × Hd, fun z => [(4, ptr b1 0), (8, ptr b3 0), (10, ptr z.1 0), (15, .agg #[(sl z.2.1.1), (sl z.2.1.2.1), (sl z.2.1.2.2.1), (sl z.2.1.2.2.2.2), iv v1.Round, iv v1.Year]), (20, .agg #[iv a_number, iv a_day, iv v2.Size, (sl z.2.2)])], fun z => [box z.1 [(sl hn), (sl hn), (sl hn), (sl hn), iv 0, iv 0], ownF (sl z.2.2) v2.Cells, ownF (sl z.2.1.1) v1.Members, ownF (sl z.2.1.2.1) v1.Stock, own (sl z.2.1.2.2.1) z.2.1.2.2.2.1 v1.Entries, ownF (sl z.2.1.2.2.2.2) v1.Books, box b3 [(sl hn), (sl hn), (sl hn), (sl hn), iv 0, iv 0], box b2 [iv a_b.Size, (sl v4a)], box b1 [(sl v0a), (sl v1a), (sl v2a), (sl v3a), iv a_g.Round, iv a_g.Year]]⟩, ⟨3, #[true, true, true, true, true, true, true, false, true, false, false], Nat × (Hd × Hd × Hd × (List Value) × Hd) × Hd, fun z => [(4, ptr b1 0), (8, ptr b3 0), (11, ptr z.1 0), (15, .agg #[(sl z.2.1.1), (sl z.2.1.2.1), (sl z.2.1.2.2.1), (sl z.2.1.2.2.2.2), iv v1.Round, iv v1.Year]), (20, .agg #[iv a_number, iv a_day, iv v2.Size, (sl z.2.2)])], fun z => [box z.1 [iv 0, iv 0, iv 0, (sl hn)], ownF (sl z.2.2) v2.Cells, ownF (sl z.2.1.1) v1.Members, ownF (sl z.2.1.2.1) v1.Stock, own (sl z.2.1.2.2.1) z.2.1.2.2.2.1 v1.Entries, ownF (sl z.2.1.2.2.2.2) v1.Books, box b3 [(sl hn), (sl hn), (sl hn), (sl hn), iv 0, iv 0], box b2 [iv a_b.Size, (sl v4a)], box b1 [(sl v0a), (sl v1a), (sl v2a), (sl v3a), iv a_g.Round, iv a_g.Year]]⟩, ⟨4, #[true, true, true, true, true, false, false, true, true, false, false], Nat × Nat × (Hd × Hd × Hd × (List Value) × Hd), fun z => [(4, ptr b1 0), (8, ptr b3 0), (10, ptr z.1 0), (11, ptr z.2.1 0), (15, .agg #[(sl z.2.2.1), (sl z.2.2.2.1), (sl z.2.2.2.2.1), (sl z.2.2.2.2.2.2), iv v1.Round, iv v1.Year]), (16, iv a_number), (17, iv a_day), (18, .agg #[iv a_b.Size, (sl v4a)])], fun z => [box z.2.1 [iv 0, iv 0, iv 0, (sl hn)], box z.1 [(sl hn), (sl hn), (sl hn), (sl hn), iv 0, iv 0], ownF (sl z.2.2.1) v1.Members, ownF (sl z.2.2.2.1) v1.Stock, own (sl z.2.2.2.2.1) z.2.2.2.2.2.1 v1.Entries, ownF (sl z.2.2.2.2.2.2) v1.Books, box b3 [(sl hn), (sl hn), (sl hn), (sl hn), iv 0, iv 0], box b2 [iv a_b.Size, (sl v4a)], box b1 [(sl v0a), (sl v1a), (sl v2a), (sl v3a), iv a_g.Round, iv a_g.Year]]⟩, ⟨2, #[true, true, true, true, true, true, true, true, true, false, false], Nat × Nat × (Hd × Hd × Hd × (List Value) × Hd) × Hd, fun z => [(4, ptr b1 0), (8, ptr b3 0), (10, ptr z.1 0), (11, ptr z.2.1 0), (15, .agg #[(sl z.2.2.1.1), (sl z.2.2.1.2.1), (sl z.2.2.1.2.2.1), (sl z.2.2.1.2.2.2.2), iv v1.Round, iv v1.Year]), (20, .agg #[iv a_number, iv a_day, iv v2.Size, (sl z.2.2.2)])], fun z => [box z.2.1 [iv 0, iv 0, iv 0, (sl hn)], box z.1 [(sl hn), (sl hn), (sl hn), (sl hn), iv 0, iv 0], ownF (sl z.2.2.2) v2.Cells, ownF (sl z.2.2.1.1) v1.Members, ownF (sl z.2.2.1.2.1) v1.Stock, own (sl z.2.2.1.2.2.1) z.2.2.1.2.2.2.1 v1.Entries, ownF (sl z.2.2.1.2.2.2.2) v1.Books, box b3 [(sl hn), (sl hn), (sl hn), (sl hn), iv 0, iv 0], box b2 [iv a_b.Size, (sl v4a)], box b1 [(sl v0a), (sl v1a), (sl v2a), (sl v3a), iv a_g.Round, iv a_g.Year]]⟩, ⟨1, #[true, true, true, true, true, true, true, true, true, true, false], Nat × Nat × Hd × (Hd × Hd × Hd × (List Value) × Hd), fun z => [(4, ptr b1 0), (8, ptr b3 0), (10, ptr z.1 0), (11, ptr z.2.1 0), (20, .agg #[iv a_number, iv a_day, iv v2.Size, (sl z.2.2.1)])], fun z => [box z.1 [(sl z.2.2.2.1), (sl z.2.2.2.2.1), (sl z.2.2.2.2.2.1), (sl z.2.2.2.2.2.2.2), iv v1.Round, iv v1.Year], box z.2.1 [iv 0, iv 0, iv 0, (sl hn)], ownF (sl z.2.2.1) v2.Cells, ownF (sl z.2.2.2.1) v1.Members, ownF (sl z.2.2.2.2.1) v1.Stock, own (sl z.2.2.2.2.2.1) z.2.2.2.2.2.2.1 v1.Entries, ownF (sl z.2.2.2.2.2.2.2) v1.Books, box b3 [(sl hn), (sl hn), (sl hn), (sl hn), iv 0, iv 0], box b2 [iv a_b.Size, (sl v4a)], box b1 [(sl v0a), (sl v1a), (sl v2a), (sl v3a), iv a_g.Round, iv a_g.Year]]⟩] ?_ fun H => ?_)
 refine List.forall_mem_cons.2 ⟨fun H => ?_, ?_⟩
 intro _
 dsimp only
 refine wa_3 (i := 1) (j := 7) (k := 8) (by kernel_rfl) ?_ ?_ ?_
 exact wsc R (co_c4 fa_15 R fun w hw => c_impl_Guild_copied w a_g v0a (ra r0 hw) v1a (ra r1 hw) v2a u2a (ra r2 hw) v3a (ra r3 hw) hv1) (fun _ => (zt (zc pk4 (zc pk4 (zc pk4 zn))))) R fun x1o => waj H 1 R (nl R) x1o R R (su6 R R R R R R) so7
 exact wse R (eal (cs := [(sl hn), (sl hn), (sl hn), (sl hn), iv 0, iv 0]) za_29) (fun _ => (zt (zc pk1 (zc pk1 (zc pk1 zn))))) R fun b7o => waj H 2 R (nl R) b7o R R (su7 R R R R R R R) so4
 exact wse R (eal (cs := [iv 0, iv 0, iv 0, (sl hn)]) za_58) (fun _ => (zt (zc pk1 (zc pk1 (zc pk1 zn))))) R fun b8o => waj H 3 R (nl R) b8o R R (su7 R R R R R R R) so4
 refine List.forall_mem_cons.2 ⟨fun H => ?_, ?_⟩
 intro z
 dsimp only
 refine wa_3 (i := 5) (j := 7) (k := 8) (by kernel_rfl) ?_ ?_ ?_
 exact wsc R (cz1 fa_29 R fun w hw => c_impl_Block_copied w a_b v4a (ra r4 hw) hv2) (fun _ => (zt (zc pk5 (zc pk5 (zc pk5 zn))))) R fun x5o => aq 6 R (po_build R (bd_58_0_1_2 a_number a_day v2.Size x5o)) (zc pk5 (zc pk5 (zc pk5 zn))) R (waj H 4 R (nl R) (z, x5o) R R (su4 R R R R) so8)
 exact wse R (eal (cs := [(sl hn), (sl hn), (sl hn), (sl hn), iv 0, iv 0]) za_29) (fun _ => (zt (zc pk5 (zc pk5 (zc pk5 zn))))) R fun b7o => waj H 5 R (nl R) (b7o, z) R R (su7 R R R R R R R) so8
 exact wse R (eal (cs := [iv 0, iv 0, iv 0, (sl hn)]) za_58) (fun _ => (zt (zc pk5 (zc pk5 (zc pk5 zn))))) R fun b8o => waj H 6 R (nl R) (b8o, z) R R (su7 R R R R R R R) so8
 refine List.forall_mem_cons.2 ⟨fun H => ?_, ?_⟩
 intro z
 dsimp only
 refine wa_2 (i := 1) (j := 8) (by kernel_rfl) ?_ ?_
 exact wsc R (co_c4 fa_15 R fun w hw => c_impl_Guild_copied w a_g v0a (ra r0 hw) v1a (ra r1 hw) v2a u2a (ra r2 hw) v3a (ra r3 hw) hv1) (fun _ => (zt (zc pk5 (zc pk5 (zc pk5 zn))))) R fun x1o => waj H 5 R (nl R) (z, x1o) R R (su7 R R R R R R R) (zc pk4 so7)
 exact wse R (eal (cs := [iv 0, iv 0, iv 0, (sl hn)]) za_58) (fun _ => (zt (zc pk2 (zc pk2 (zc pk2 zn))))) R fun b8o => waj H 7 R (nl R) (z, b8o) R R (su8 R R R R R R R R) so5
 refine List.forall_mem_cons.2 ⟨fun H => ?_, ?_⟩
 intro z
 dsimp only
 refine wa_2 (i := 1) (j := 7) (by kernel_rfl) ?_ ?_
 exact wsc R (co_c4 fa_15 R fun w hw => c_impl_Guild_copied w a_g v0a (ra r0 hw) v1a (ra r1 hw) v2a u2a (ra r2 hw) v3a (ra r3 hw) hv1) (fun _ => (zt (zc pk5 (zc pk5 (zc pk5 zn))))) R fun x1o => waj H 6 R (nl R) (z, x1o) R R (su7 R R R R R R R) (zc pk4 so7)
 exact wse R (eal (cs := [(sl hn), (sl hn), (sl hn), (sl hn), iv 0, iv 0]) za_29) (fun _ => (zt (zc pk2 (zc pk2 (zc pk2 zn))))) R fun b7o => waj H 7 R (nl R) (b7o, z) R R (su8 R R R R R R R R) (zc pk1 so4)
 refine List.forall_mem_cons.2 ⟨fun H => ?_, ?_⟩
 intro z
 dsimp only
 refine wa_2 (i := 7) (j := 8) (by kernel_rfl) ?_ ?_
 exact wse R (eal (cs := [(sl hn), (sl hn), (sl hn), (sl hn), iv 0, iv 0]) za_29) (fun _ => (zt (zc pk6 (zc pk6 (zc pk6 zn))))) R fun b7o => waj H 8 R (nl R) (b7o, z.1, z.2) R R (su5 R R R R R) so9
 exact wse R (eal (cs := [iv 0, iv 0, iv 0, (sl hn)]) za_58) (fun _ => (zt (zc pk6 (zc pk6 (zc pk6 zn))))) R fun b8o => waj H 9 R (nl R) (b8o, z.1, z.2) R R (su5 R R R R R) so9
 refine List.forall_mem_cons.2 ⟨fun H => ?_, ?_⟩
 intro z
 dsimp only
 refine wa_2 (i := 5) (j := 8) (by kernel_rfl) ?_ ?_
 exact wsc R (cz1 fa_29 R fun w hw => c_impl_Block_copied w a_b v4a (ra r4 hw) hv2) (fun _ => (zt (zc pk6 (zc pk6 (zc pk6 zn))))) R fun x5o => aq 6 R (po_build R (bd_58_0_1_2 a_number a_day v2.Size x5o)) (zc pk6 (zc pk6 (zc pk6 zn))) R (waj H 8 R (nl R) (z.1, z.2, x5o) R R (su5 R R R R R) (zc pk1 so8))
 exact wse R (eal (cs := [iv 0, iv 0, iv 0, (sl hn)]) za_58) (fun _ => (zt (zc pk6 (zc pk6 (zc pk6 zn))))) R fun b8o => waj H 10 R (nl R) (z.1, b8o, z.2) R R (su8 R R R R R R R R) so9
 refine List.forall_mem_cons.2 ⟨fun H => ?_, ?_⟩
 intro z
 dsimp only
 refine wa_2 (i := 5) (j := 7) (by kernel_rfl) ?_ ?_
 exact wsc R (cz1 fa_29 R fun w hw => c_impl_Block_copied w a_b v4a (ra r4 hw) hv2) (fun _ => (zt (zc pk6 (zc pk6 (zc pk6 zn))))) R fun x5o => aq 6 R (po_build R (bd_58_0_1_2 a_number a_day v2.Size x5o)) (zc pk6 (zc pk6 (zc pk6 zn))) R (waj H 9 R (nl R) (z.1, z.2, x5o) R R (su5 R R R R R) (zc pk1 so8))
 exact wse R (eal (cs := [(sl hn), (sl hn), (sl hn), (sl hn), iv 0, iv 0]) za_29) (fun _ => (zt (zc pk6 (zc pk6 (zc pk6 zn))))) R fun b7o => waj H 10 R (nl R) (b7o, z.1, z.2) R R (su8 R R R R R R R R) (zc pk1 so8)
 refine List.forall_mem_cons.2 ⟨fun H => ?_, ?_⟩
 intro z
 dsimp only
 exact a1 1 (wsc R (co_c4 fa_15 R fun w hw => c_impl_Guild_copied w a_g v0a (ra r0 hw) v1a (ra r1 hw) v2a u2a (ra r2 hw) v3a (ra r3 hw) hv1) (fun _ => (zt (zc pk6 (zc pk6 (zc pk6 zn))))) R fun x1o => (waj H 10 R (nl R) (z.1, z.2, x1o) R R (su8 R R R R R R R R) (zc pk4 (zc pk4 so7))))
 refine List.forall_mem_cons.2 ⟨fun H => ?_, ?_⟩
 intro z
 dsimp only
 exact a1 8 (wse R (eal (cs := [iv 0, iv 0, iv 0, (sl hn)]) za_58) (fun _ => (zt (zc pk7 (zc pk7 (zc pk7 zn))))) R fun b8o => (waj H 11 R (nl R) (z.1, b8o, z.2.1, z.2.2) R R (su6 R R R R R R) so10))
 refine List.forall_mem_cons.2 ⟨fun H => ?_, ?_⟩
 intro z
 dsimp only
 exact a1 7 (wse R (eal (cs := [(sl hn), (sl hn), (sl hn), (sl hn), iv 0, iv 0]) za_29) (fun _ => (zt (zc pk7 (zc pk7 (zc pk7 zn))))) R fun b7o => (waj H 11 R (nl R) (b7o, z.1, z.2.1, z.2.2) R R (su6 R R R R R R) (zc pk1 so9)))
 refine List.forall_mem_cons.2 ⟨fun H => ?_, ?_⟩
 intro z
 dsimp only
 exact a1 5 (wsc R (cz1 fa_29 R fun w hw => c_impl_Block_copied w a_b v4a (ra r4 hw) hv2) (fun _ => (zt (zc pk7 (zc pk7 (zc pk7 zn))))) R fun x5o => (aq 6 R (po_build R (bd_58_0_1_2 a_number a_day v2.Size x5o)) (zc pk7 (zc pk7 (zc pk7 zn))) R (waj H 11 R (nl R) (z.1, z.2.1, z.2.2, x5o) R R (su6 R R R R R R) (zc pk1 (zc pk1 so8)))))
 refine List.forall_mem_cons.2 ⟨fun H => ?_, ?_⟩
 intro z
 dsimp only
 exact a1 9 (ws_skipop R (sbx (cs' := [(sl z.2.2.1.1), (sl z.2.2.1.2.1), (sl z.2.2.1.2.2.1), (sl z.2.2.1.2.2.2.2), iv v1.Round, iv v1.Year]) tk_29 pk1 R R R R R R R) (zt (zc pk7 (zc pk7 (zc pk7 zn)))) (waj H 12 R (nl R) (z.1, z.2.1, z.2.2.2, z.2.2.1) R R (su5 R R R R R) so10))
 refine List.forall_mem_cons.2 ⟨fun H => ?_, ?_⟩
 intro z
 dsimp only
 exact a1 10 (ws_skipop R (sbx (cs' := [iv a_number, iv a_day, iv v2.Size, (sl z.2.2.1)]) tk_58 pk1 R R R R R R R) (zt (zc pk7 (zc pk7 (zc pk7 zn)))) (ae (wqm (z.1, z.2.1, z.2.2.1, z.2.2.2) trivial (su4 R R R R) (zc pz (zc pz (zc pz (zc pz (zc pz (zc pz (zc pz (zc pz (zc pk1 zn))))))))))))
 exact fun _ h => nomatch h
 exact aq (v := .agg #[(sl v0a), (sl v1a), (sl v2a), (sl v3a), iv a_g.Round, iv a_g.Year]) 0 R (plb tk_29 pk2 R R R) so3 R (aq 2 R (pom R) so3 R (aq 3 R (pom R) so3 R (aq (v := .agg #[iv a_b.Size, (sl v4a)]) 4 R (plb tk_56 pk1 R R R) so3 R (waj H 0 R (nl R) () R R (su6 R R R R R R) so3))))
 intro x1 _
 refine wqt (wcs (wcr (wlq (v := .agg #[(sl v0a), (sl v1a), (sl v2a), (sl v3a), iv a_g.Round, iv a_g.Year]) (plb tk_29 pk8 R R R) R (bdO t0 fun v3 hv3 t0 => (wlc (cz0 fa_16 R fun w hw => c_impl_GuildOk w a_g v0a (ra r0 hw) v1a (ra r1 hw) v2a u2a (ra r2 hw) v3a (ra r3 hw) hv3) R fun _ => (wlq (po_not R) R (wnt (wcO t0 R (fun h1 t0 => ?_) fun h1 t0 => ?_))))))))
 refine wcr (wlq (v := .agg #[(sl x1.2.2.2.1), (sl x1.2.2.2.2.1), (sl x1.2.2.2.2.2.1), (sl x1.2.2.2.2.2.2.2), iv v1.Round, iv v1.Year]) (plb tk_29 pk1 R R R) R (wls (sbx (cs' := [(sl x1.2.2.2.1), (sl x1.2.2.2.2.1), (sl x1.2.2.2.2.2.1), (sl x1.2.2.2.2.2.2.2), iv v1.Round, iv v1.Year]) tk_29 pk7 R R R R R R R) (asg R R (wnt (wct (wqr ?_))))))
 obtain rfl := oi t0
 exact wq_retc1 R tk_29 R R pz R fun w hw => ⟨(x1.2.2.2.1, x1.2.2.2.2.1, x1.2.2.2.2.2.1, x1.2.2.2.2.2.2.1, x1.2.2.2.2.2.2.2), R, hw.weak (zc pk4 (zc pk4 (zc pk4 (zc pk4 zn))))⟩
 refine wck (wqt (wcs (wcr (wlq (pof fo_29_2 R) R (wlq (v := (sl v2a)) (plx tk_26 pk8 R R) R (wlq (pln (rga r2) el_26 R) R (mv R R (wnt (gdO t0 fun g1 t0 => (sqO t0 fun y1 l1 t0 => (wj (J := Unit) (X := Unit) (fun z => y1 = .inl z) (fun _ _ => [(4, ptr b1 0), (8, ptr b3 0), (10, ptr x1.1 0), (11, ptr x1.2.1 0)]) (fun _ _ => [box x1.2.1 [iv a_number, iv a_day, iv v2.Size, (sl x1.2.2.1)], box x1.1 [(sl x1.2.2.2.1), (sl x1.2.2.2.2.1), (sl x1.2.2.2.2.2.1), (sl x1.2.2.2.2.2.2.2), iv v1.Round, iv v1.Year], ownF (sl x1.2.2.1) v2.Cells, ownF (sl x1.2.2.2.1) v1.Members, ownF (sl x1.2.2.2.2.1) v1.Stock, own (sl x1.2.2.2.2.2.1) x1.2.2.2.2.2.2.1 v1.Entries, ownF (sl x1.2.2.2.2.2.2.2) v1.Books, box b3 [(sl hn), (sl hn), (sl hn), (sl hn), iv 0, iv 0], box b1 [(sl v0a), (sl v1a), (sl v2a), (sl v3a), iv a_g.Round, iv a_g.Year]]) ?_ ?_)))))))))))
 refine wcb (wcf (X := Unit) l1 (fun k1 s1 x1l => [(4, ptr b1 0), (8, ptr b3 0), (10, ptr x1.1 0), (11, ptr x1.2.1 0), (26, (sl v2a)), (27, iv ((a_g.Entries.length : Nat) : Int)), (28, iv ((k1 : Nat) : Int))]) (fun k1 s1 x1l => [box x1.2.1 [iv a_number, iv a_day, iv v2.Size, (sl x1.2.2.1)], box x1.1 [(sl x1.2.2.2.1), (sl x1.2.2.2.2.1), (sl x1.2.2.2.2.2.1), (sl x1.2.2.2.2.2.2.2), iv v1.Round, iv v1.Year], ownF (sl x1.2.2.1) v2.Cells, ownF (sl x1.2.2.2.1) v1.Members, ownF (sl x1.2.2.2.2.1) v1.Stock, own (sl x1.2.2.2.2.2.1) x1.2.2.2.2.2.2.1 v1.Entries, ownF (sl x1.2.2.2.2.2.2.2) v1.Books, box b3 [(sl hn), (sl hn), (sl hn), (sl hn), iv 0, iv 0], box b1 [(sl v0a), (sl v1a), (sl v2a), (sl v3a), iv a_g.Round, iv a_g.Year]]) () (su7 R R R R R R R) so9 fun k1 s1 x1l hN1 l1 => ?_)
 by_cases hk1 : k1 < a_g.Entries.length
 refine fos l1 hk1 fun _ t1 l1 => ?_
 unfold impl_Submit_L1 at t1
 have c1 : (decide (((k1 : Nat) : Int) < ((a_g.Entries.length : Nat) : Int))) = true := ddt (by omega)
 refine wcr (wlq (pls R R) R (wnt (wcs (wft R c1 (wck (wqt (wcs (wcb (wcr (wlq (po_ixn (k := k1) (rga r2) el_26 R R hk1) R (wl_elem (rga r2) hk1 ?_)))))))))))
 rintro ⟨_, _, he1⟩
 obtain ⟨w1, hc1, _⟩ := rd_GEntry.1 he1
 refine wlq (v := .agg #[iv ((gx a_g.Entries k1).Owner), iv ((gx a_g.Entries k1).Day), iv (((gx a_g.Entries k1).Block).Size), (sl w1)]) (po_ldns (rga r2) tk_58 R hc1 R R R) R (wle (eal (cs := [iv 0, iv 0, iv 0, (sl hn)]) za_58) R fun b4 => (wls (sbx (cs' := [iv ((gx a_g.Entries k1).Owner), iv ((gx a_g.Entries k1).Day), iv (((gx a_g.Entries k1).Block).Size), (sl w1)]) tk_58 pz R R R R R R R) (wnt (wcr (wlq (v := .agg #[iv a_number, iv a_day, iv v2.Size, (sl x1.2.2.1)]) (plb tk_58 pk1 R R R) R (wlq (v := .agg #[iv ((gx a_g.Entries k1).Owner), iv ((gx a_g.Entries k1).Day), iv (((gx a_g.Entries k1).Block).Size), (sl w1)]) (plb tk_58 pz R R R) R (bdO t1 fun v4 hv4 t1 => (wlc (cz0 fa_61 R fun w hw => c_impl_IsCopy w (GEntry.mk a_number a_day v2) x1.2.2.1 (Rg.on (rgo pk3) hw) (GEntry.mk ((gx a_g.Entries k1).Owner) ((gx a_g.Entries k1).Day) ((gx a_g.Entries k1).Block)) w1 (Rg.on (er_GEntry_0 hc1 (rga r2) hk1) hw) hv4) R fun _ => (wnt (wcO t1 R (fun h2 t1 => ?_) fun h2 t1 => ?_))))))))))
 refine wcr (wlq (v := .agg #[(sl x1.2.2.2.1), (sl x1.2.2.2.2.1), (sl x1.2.2.2.2.2.1), (sl x1.2.2.2.2.2.2.2), iv v1.Round, iv v1.Year]) (plb tk_29 pk2 R R R) R (wls (sbx (cs' := [(sl x1.2.2.2.1), (sl x1.2.2.2.2.1), (sl x1.2.2.2.2.2.1), (sl x1.2.2.2.2.2.2.2), iv v1.Round, iv v1.Year]) tk_29 pk8 R R R R R R R) (asg R R (wnt (wct (wbr (wqr (wqr (wbr (wqr (wqr ?_)))))))))))
 replace t0 := lpR t0 l1 t1
 obtain rfl := oi t0
 exact wq_retc1 R tk_29 R R pz R fun w hw => ⟨(x1.2.2.2.1, x1.2.2.2.2.1, x1.2.2.2.2.2.1, x1.2.2.2.2.2.2.1, x1.2.2.2.2.2.2.2), R, hw.weak (zc pk5 (zc pk5 (zc pk5 (zc pk5 zn))))⟩
 refine wck (wqb (wqt (wcg (wlq (po_inc R R (by omega)) R ?_))))
 exact mv R R (wln (wq_rnd hk1 (stpN l1 t1) () (su7 R R R R R R R) (zc pk1 (zc pk1 (zc pk1 (zc pk1 (zc pk1 (zc pk1 (zc pk1 (zc pk1 (zc pk1 zn)))))))))))
 have c1 : (decide (((k1 : Nat) : Int) < ((a_g.Entries.length : Nat) : Int))) = false := ddf (by omega)
 have en1 := foe l1 hk1
 exact wcr (wlq (pls R R) R (wnt (wcs (wff R c1 (wcx (wqe (wqe (wbx (wjm _ () en1 (su4 R R R R) so9)))))))))
 intro e1 _ hp
 replace t0 := sqE (j := e1) t0 hp
 refine wqt (wcr (wlq (pof fo_29_2 R) R (wlq (v := (sl x1.2.2.2.2.2.1)) (plx tk_26 pk1 R R) R (wlq (v := .agg #[iv a_number, iv a_day, iv v2.Size, (sl x1.2.2.1)]) (plb tk_58 pz R R R) R (wle (ebs R (sb_26_1 a_number a_day v2.Size x1.2.2.1)) R fun b5 => (gdO t0 fun g2 t0 => (wle (eo_append_one (us := x1.2.2.2.2.2.2.1) (xs := v1.Entries) ak_26 pk6 (pow_GEntry (x := (GEntry.mk a_number a_day v2)) pk3) pz R R R g2) R fun x3 => (wlq (pof fo_29_2 R) R (wls (sbx (cs' := [(sl x1.2.2.2.1), (sl x1.2.2.2.2.1), (sl x3), (sl x1.2.2.2.2.2.2.2), iv v1.Round, iv v1.Year]) tk_26 pk3 R R R R R R R) (wnt (wcr (wlq (v := .agg #[(sl v0a), (sl v1a), (sl v2a), (sl v3a), iv a_g.Round, iv a_g.Year]) (plb tk_29 pk8 R R R) R (wlq (v := .agg #[(sl x1.2.2.2.1), (sl x1.2.2.2.2.1), (sl x3), (sl x1.2.2.2.2.2.2.2), iv v1.Round, iv v1.Year]) (plb tk_29 pz R R R) R (bdO t0 fun v5 hv5 t0 => (wlc (co_o4 [ownF (sl x1.2.2.2.1) v1.Members, ownF (sl x1.2.2.2.2.1) v1.Stock, own (sl x3) (x1.2.2.2.2.2.2.1 ++ [iv a_number, iv a_day, iv v2.Size, (sl x1.2.2.1)]) (v1.Entries ++ [(GEntry.mk a_number a_day v2)]), ownF (sl x1.2.2.2.2.2.2.2) v1.Books] fa_60 (zc pk4 (zc pk4 (zc pk1 (zc pk3 some_refl)))) R fun w fp hw => c_impl_Guild_becomes w fp a_g v0a ((rdo_arg r0) w fp hw) v1a ((rdo_arg r1) w fp hw) v2a u2a ((rdo_arg r2) w fp hw) v3a ((rdo_arg r3) w fp hw) (GGuild.mk v1.Members v1.Stock (v1.Entries ++ [(GEntry.mk a_number a_day v2)]) v1.Books v1.Round v1.Year) x1.2.2.2.1 x1.2.2.2.2.1 x3 (x1.2.2.2.2.2.2.1 ++ [iv a_number, iv a_day, iv v2.Size, (sl x1.2.2.1)]) x1.2.2.2.2.2.2.2 true hw.ow hv5) R fun x4 => (wlq (pex R R) R (wlq (pex R R) R (wls (sbx (cs' := [(sl x4.1), (sl x4.2.1), (sl x4.2.2.1), (sl x4.2.2.2.2), iv v5.1.Round, iv v5.1.Year]) tk_29 pk7 R R R R R R R) (asg R R (wnt (wct ?_)))))))))))))))))))))
 obtain rfl := oi t0
 exact wq_retc1 R tk_29 R R pz R fun w hw => ⟨(x4.1, x4.2.1, x4.2.2.1, x4.2.2.2.1, x4.2.2.2.2), R, hw.weak (zc pk1 (zc pk1 (zc pk1 (zc pk1 zn))))⟩

theorem c_impl_AreaTable (w : World) (a_b : GBlock) (v0a : Hd) (r0 : rdF w (dm w []) (sl v0a) a_b.Cells) {r : List Int} (t0 : impl_AreaTable a_b = some r) : Calls Tryz.prog 67 #[.agg #[.int .i64 a_b.Size, (sl v0a)]] w fun e w' => ∃ x : Hd, e = .returned ((sl x)) ∧ SH w [] [ownF (sl x) r] w' := by
 refine cwc (args := [_]) Tryz.func67 R Tryz.ntmps67 R ?_
 unfold impl_AreaTable at t0
 refine wcr (wle (eo_box R R) R fun b1 => (asg R R (wnt (wcs (wcr (wlq (v := .agg #[iv a_b.Size, (sl v0a)]) (plb tk_56 pz R R R) R (bdO t0 fun v1 hv1 t0 => (wlc (cz0 fa_46 R fun w hw => c_impl_BlockOk w a_b v0a (ra r0 hw) hv1) R fun _ => (wlq (po_not R) R (wnt (wcO t0 R (fun h1 t0 => ?_) fun h1 t0 => ?_)))))))))))
 refine wcr (asg R R (wnt (wct (wqr ?_))))
 obtain rfl := oi t0
 exact wq1 R R fun w hw => ⟨hn, R, hw.weak (zc pick_nil zn)⟩
 refine wck (wqt (wcr (wle (ebs R sb_25_0) R fun b2 => (asg R R (wnt (wcs (wcr (mv R R (wnt (lpO_inv t0 fun y1 l1 t0 => (wj (J := List Int) (X := Hd) (fun z => y1 = z) (fun _ x => [(3, (sl x))]) (fun z x => [ownF (sl x) z]) ?_ ?_)))))))))))
 refine wcb (wcf (X := Hd) l1 (fun k1 s1 x1l => [(1, ptr b1 0), (3, (sl x1l)), (9, iv ((k1 : Nat) : Int))]) (fun k1 s1 x1l => [box b1 [iv a_b.Size, (sl v0a)], ownF (sl x1l) s1]) (⟨some ⟨b2, 0, none⟩, 0, 0⟩ : Hd) (su3 R R R) (zc pk1 (zc (pbo pz (n := 0) (xs := ([] : List Int)) R R (by unfold maxLen; omega)) zn)) fun k1 s1 x1l hN1 l1 => ?_)
 by_cases hk1 : k1 < 6
 refine fos l1 hk1 fun _ t1 l1 => ?_
 unfold impl_AreaTable_L1 at t1
 have c1 : (decide (((k1 : Nat) : Int) < 6)) = true := ddt (by omega)
 refine wcr (wlq (pls R R) R (wnt (wcs (wft R c1 (wck (wqt (wcs (wcb (wcr (mv R R (asg R R (wnt (wcg (mv R R (wlq (v := .agg #[iv a_b.Size, (sl v0a)]) (plb tk_56 pz R R R) R (mv R R (bdO t1 fun v2 hv2 t1 => (wlc (cz0 fa_86 R fun w hw => c_impl_AreaOf w a_b v0a (ra r0 hw) ((k1 : Nat) : Int) hv2) R fun _ => (wle (ebs R (sb_25_1 v2)) R fun b3 => (gdO t1 fun g1 t1 => (wle (eo_append (xs := s1) (ys := ([v2] : List Int)) ak_25 pk2 R R (slin_rd fun _ g => Rg.on (rgo (pbo pz (n := 1) (xs := ([v2] : List Int)) R R (by unfold maxLen; omega))) g) g1) R fun x2 => ?_)))))))))))))))))))))
 refine asg R R (wln (wqb (wqt (wcg (wlq (po_inc R R (by omega)) R ?_)))))
 exact mv R R (wln (wq_rnd hk1 (stpN l1 t1) x2 (su3 R R R) (zc pk2 so1)))
 have c1 : (decide (((k1 : Nat) : Int) < 6)) = false := ddf (by omega)
 have en1 := foe l1 hk1
 exact wcr (wlq (pls R R) R (wnt (wcs (wff R c1 (wcx (wqe (wqe (wbx (wjm _ x1l (Sum.inl.inj en1) (su1 R) (zc pk1 zn))))))))))
 intro e1 x1 hp
 obtain rfl : e1 = y1 := hp.symm
 refine wqt (wcr (mv R R (asg R R (wnt (wct ?_)))))
 obtain rfl := oi t0
 exact wq1 R R fun w hw => ⟨x1, R, hw.weak so1⟩

theorem c_impl_TakeCloth (w : World) (a_stock : List Int) (v0a : Hd) (r0 : rdF w (dm w []) (sl v0a) a_stock) (a_a : Int) (a_length : Int) {r : (List Int) × Bool} (t0 : impl_TakeCloth a_stock a_a a_length = some r) : Calls Tryz.prog 68 #[(sl v0a), .int .i64 a_a, .int .i64 a_length] w fun e w' => ∃ x : Hd, e = .returned (.tuple #[(sl x), .bool r.2]) ∧ SH w [] [ownF (sl x) r.1] w' := by
 refine cwc (args := [_, _, _]) Tryz.func68 R Tryz.ntmps68 R ?_
 unfold impl_TakeCloth at t0
 refine wcr (asg R R (asg R R (wnt (wcr (mv R R (bdO t0 fun v1 hv1 t0 => (wlc (cz1 fa_28 R fun w hw => c_impl_copyOf w a_stock v0a (ra r0 hw) hv1) R fun x1 => (asg R R (wnt (wcs (wcs (bdO t0 fun y1 t1 t0 => (wj (J := Bool) (X := Unit) (fun z => y1 = z) (fun z _ => [(1, iv a_a), (2, iv a_length), (8, (sl x1)), (27, .bool z)]) (fun _ _ => [ownF (sl x1) v1]) ?_ ?_)))))))))))))
 refine wcg (mv R R (bdO t1 fun v2 hv2 t1 => (wlc (cz0 fa_31 R fun w hw => c_impl_StockOk w a_stock v0a (ra r0 hw) hv2) R fun _ => (wlq (po_not R) R (mv R R (wlo (t := 14) t1 R (fun h1 t1 => ?_) fun h1 t1 => ?_))))))
 exact wgf (j := 3) R R R R R (wgf (j := 3) R R R R R (wgf (j := 3) R R R R R (wlq (pit R R) R (mv R R (wgf (j := 8) R R R R R (wgf (j := 8) R R R R R (wgf (j := 8) R R R R R (wgf (j := 8) R R R R R (wgf (j := 8) R R R R R (wgf (j := 8) R R R R R (wgf (j := 8) R R R R R (wlq (pit R R) R (wln (wjm _ () (mtE t1) (su4 R R R R) so1))))))))))))))
 refine wgn (j := 3) R R R (mv R R (bdO t1 fun v3 hv3 t1 => (wgn (j := 3) R R R (wlc (cz0 fa_85 R fun w hw => c_impl_isColor w a_a hv3) R (fun _ => (wgn (j := 3) R R R (wlq (po_not R) R (wlq (pif R R) R (mv R R (wlo (t := 19) t1 R (fun h2 t1 => ?_) fun h2 t1 => ?_))))))))))
 exact wgf (j := 8) R R R R R (wgf (j := 8) R R R R R (wgf (j := 8) R R R R R (wgf (j := 8) R R R R R (wgf (j := 8) R R R R R (wgf (j := 8) R R R R R (wgf (j := 8) R R R R R (wlq (pit R R) R (wln (wjm _ () (mtE t1) (su4 R R R R) so1)))))))))
 exact wgn (j := 8) R R R (mv R R (wgn (j := 8) R R R (mv R R (wgn (j := 8) R R R (mv R R (gdO t1 fun g1 t1 => (wgn (j := 8) R R R (wlq (po_ixr (rga r0) el_25 R R g1.1 g1.2) R (wgn (j := 8) R R R (wlq (v := iv (gx a_stock ((a_a).toNat))) (po_ldf (rga r0) tk_3 R (ix_lt g1) R) R (bdO t1 fun v4 hv4 t1 => (wgn (j := 8) R R R (wlc (cz0 fa_35 R fun w hw => c_impl_within w a_length 0 (gx a_stock ((a_a).toNat)) hv4) R (fun _ => (wgn (j := 8) R R R (wlq (po_not R) R (wlq (pif R R) R (wln (wjm _ () (mtE t1) (su4 R R R R) so1)))))))))))))))))))
 intro j1 _ hp
 obtain rfl : j1 = y1 := hp.symm
 refine wqt (wcO t0 R (fun h3 t0 => ?_) fun h3 t0 => ?_)
 refine wcr (mv R R (asg R R (asg R R (wnt (wct (wqr ?_))))))
 obtain rfl := oi t0
 exact wq_ret2 R R R fun w hw => ⟨x1, R, hw.weak so1⟩
 refine wck (wqt (wcr (mv R R (mv R R (gdO t0 fun g2 t0 => (wlq (po_ixr (rgo pz) el_25 R R g2.1 g2.2) R (wlq (v := iv (gx v1 ((a_a).toNat))) (po_ldf (rgo pz) tk_3 R (ix_lt g2) R) R (mv R R (wlq (po_sub R R) R (wlq (po_ixr (rgo pz) el_25 R R g2.1 g2.2) R (wls (so_own (x' := (wr ((gx v1 ((a_a).toNat)) - a_length))) tk_3 pz R R R R R R (ix_lt g2) R) (wnt (wcr (mv R R (asg R R (asg R R (wnt (wct ?_))))))))))))))))))
 obtain rfl := oi t0
 exact wq_ret2 R R R fun w hw => ⟨x1, R, hw.weak so1⟩

theorem c_impl_SewBlock (w : World) (a_g : GGuild) (v0a : Hd) (r0 : rdF w (dm w []) (sl v0a) a_g.Members) (v1a : Hd) (r1 : rdF w (dm w []) (sl v1a) a_g.Stock) (v2a : Hd) (u2a : List Value) (r2 : RdL w (dm w []) (sl v2a) u2a a_g.Entries) (v3a : Hd) (r3 : rdF w (dm w []) (sl v3a) a_g.Books) (a_k : Int) {r : GGuild × Bool} (t0 : impl_SewBlock a_g a_k = some r) : Calls Tryz.prog 40 #[.agg #[(sl v0a), (sl v1a), (sl v2a), (sl v3a), .int .i64 a_g.Round, .int .i64 a_g.Year], .int .i64 a_k] w fun e w' => ∃ x : Hd × Hd × Hd × (List Value) × Hd, e = .returned (.tuple #[.agg #[(sl x.1), (sl x.2.1), (sl x.2.2.1), (sl x.2.2.2.2), .int .i64 r.1.Round, .int .i64 r.1.Year], .bool r.2]) ∧ SH w [] [ownF (sl x.1) r.1.Members, ownF (sl x.2.1) r.1.Stock, own (sl x.2.2.1) x.2.2.2.1 r.1.Entries, ownF (sl x.2.2.2.2) r.1.Books] w' := by
 refine cwc (args := [_, _]) Tryz.func40 R Tryz.ntmps40 R ?_
 unfold impl_SewBlock at t0
 refine wcr (wle (eo_box R R) R fun b1 => (wle (eal (cs := [(sl hn), (sl hn), (sl hn), (sl hn), iv 0, iv 0]) za_29) R fun b2 => (asg R R (wnt (wcr (wlq (v := .agg #[(sl v0a), (sl v1a), (sl v2a), (sl v3a), iv a_g.Round, iv a_g.Year]) (plb tk_29 pk1 R R R) R (bdO t0 fun v1 hv1 t0 => (wlc (co_c4 fa_15 R fun w hw => c_impl_Guild_copied w a_g v0a (ra r0 hw) v1a (ra r1 hw) v2a u2a (ra r2 hw) v3a (ra r3 hw) hv1) R fun x1 => (wle (eal (cs := [(sl hn), (sl hn), (sl hn), (sl hn), iv 0, iv 0]) za_29) R fun b3 => (wls (sbx (cs' := [(sl x1.1), (sl x1.2.1), (sl x1.2.2.1), (sl x1.2.2.2.2), iv v1.Round, iv v1.Year]) tk_29 pz R R R R R R R) (wnt (wcs (wcs (bdO t0 fun y1 t1 t0 => (wj (J := Bool) (X := Unit) (fun z => y1 = z) (fun z _ => [(1, iv a_k), (2, ptr b1 0), (4, ptr b2 0), (6, ptr b3 0), (24, .bool z)]) (fun _ _ => [box b3 [(sl x1.1), (sl x1.2.1), (sl x1.2.2.1), (sl x1.2.2.2.2), iv v1.Round, iv v1.Year], box b2 [(sl hn), (sl hn), (sl hn), (sl hn), iv 0, iv 0], box b1 [(sl v0a), (sl v1a), (sl v2a), (sl v3a), iv a_g.Round, iv a_g.Year], ownF (sl x1.1) v1.Members, ownF (sl x1.2.1) v1.Stock, own (sl x1.2.2.1) x1.2.2.2.1 v1.Entries, ownF (sl x1.2.2.2.2) v1.Books]) ?_ ?_)))))))))))))))
 refine wcg (wlq (v := .agg #[(sl v0a), (sl v1a), (sl v2a), (sl v3a), iv a_g.Round, iv a_g.Year]) (plb tk_29 pk6 R R R) R (bdO t1 fun v2 hv2 t1 => (wlc (cz0 fa_16 R fun w hw => c_impl_GuildOk w a_g v0a (ra r0 hw) v1a (ra r1 hw) v2a u2a (ra r2 hw) v3a (ra r3 hw) hv2) R fun _ => (wlq (po_not R) R (mv R R (wlo (t := 16) t1 R (fun h1 t1 => ?_) fun h1 t1 => ?_))))))
 exact wgf (j := 3) R R R R R (wgf (j := 3) R R R R R (wgf (j := 3) R R R R R (wgf (j := 3) R R R R R (wgf (j := 3) R R R R R (wgf (j := 3) R R R R R (wgf (j := 3) R R R R R (wlq (pit R R) R (wln (wjm _ () (mtE t1) (su5 R R R R R) (zc pz (zc pk4 (zc pk4 so4))))))))))))
 exact wgn (j := 3) R R R (mv R R (wgn (j := 3) R R R (wlq (pof fo_29_2 R) R (wgn (j := 3) R R R (wlq (v := (sl v2a)) (plx tk_26 pk6 R R) R (wgn (j := 3) R R R (wlq (pln (rga r2) el_26 R) R (wgn (j := 3) R R R (wlq (po_sub R R) R (bdO t1 fun v3 hv3 t1 => (wgn (j := 3) R R R (wlc (cz0 fa_35 R fun w hw => c_impl_within w a_k 0 (wr (((a_g.Entries.length : Nat) : Int) - 1)) hv3) R (fun _ => (wgn (j := 3) R R R (wlq (po_not R) R (wlq (pif R R) R (wln (wjm _ () (mtE t1) (su5 R R R R R) (zc pz (zc pk4 (zc pk4 so4)))))))))))))))))))))
 intro j1 _ hp
 obtain rfl : j1 = y1 := hp.symm
 refine wqt (wcO t0 R (fun h2 t0 => ?_) fun h2 t0 => ?_)
 refine wcr (wlq (v := .agg #[(sl x1.1), (sl x1.2.1), (sl x1.2.2.1), (sl x1.2.2.2.2), iv v1.Round, iv v1.Year]) (plb tk_29 pz R R R) R (wls (sbx (cs' := [(sl x1.1), (sl x1.2.1), (sl x1.2.2.1), (sl x1.2.2.2.2), iv v1.Round, iv v1.Year]) tk_29 pk1 R R R R R R R) (asg R R (wnt (wct (wqr ?_))))))
 obtain rfl := oi t0
 exact wq_retc1 R tk_29 R R pz R fun w hw => ⟨(x1.1, x1.2.1, x1.2.2.1, x1.2.2.2.1, x1.2.2.2.2), R, hw.weak (zc pk3 (zc pk3 (zc pk3 (zc pk3 zn))))⟩
 refine wck (wqt (wcs (wcr (wlq (pof fo_29_2 R) R (wlq (v := (sl v2a)) (plx tk_26 pk2 R R) R (mv R R (gdO t0 fun g1 t0 => (wlq (po_ixr (rga r2) el_26 R R g1.1 g1.2) R (wlq (po_sfldr (rga r2) (ix_lt g1) fo_58_2 R) R (wl_elem (rga r2) (ix_lt g1) ?_))))))))))
 rintro ⟨_, _, he1⟩
 obtain ⟨w1, hc1, _⟩ := rd_GEntry.1 he1
 refine wlq (v := .agg #[iv (((gx a_g.Entries ((a_k).toNat)).Block).Size), (sl w1)]) (po_ldns (rga r2) tk_56 R hc1 R R R) R (bdO t0 fun v4 hv4 t0 => (wlc (cz1 fa_67 R fun w hw => c_impl_AreaTable w ((gx a_g.Entries ((a_k).toNat)).Block) w1 (Rg.on (er_GEntry_0 hc1 (rga r2) (ix_lt g1)) hw) hv4) R fun x3 => (wlq (pln (rgo pz) el_25 R) R (mv R R (wnt (gdO t0 fun g2 t0 => (sqO t0 fun y1 l1 t0 => (wj (J := List Int) (X := Hd) (fun z => y1 = .inl z) (fun _ _ => [(4, ptr b2 0), (6, ptr b3 0)]) (fun z x => [box b3 [(sl x1.1), (sl x), (sl x1.2.2.1), (sl x1.2.2.2.2), iv v1.Round, iv v1.Year], box b2 [(sl hn), (sl hn), (sl hn), (sl hn), iv 0, iv 0], ownF (sl x1.1) v1.Members, ownF (sl x) z, own (sl x1.2.2.1) x1.2.2.2.1 v1.Entries, ownF (sl x1.2.2.2.2) v1.Books]) ?_ ?_))))))))
 refine wcb (wcf (X := Hd) l1 (fun k1 s1 x1l => [(2, ptr b1 0), (4, ptr b2 0), (6, ptr b3 0), (32, (sl x3)), (33, iv ((v4.length : Nat) : Int)), (34, iv ((k1 : Nat) : Int))]) (fun k1 s1 x1l => [ownF (sl x3) v4, box b3 [(sl x1.1), (sl x1l), (sl x1.2.2.1), (sl x1.2.2.2.2), iv v1.Round, iv v1.Year], box b2 [(sl hn), (sl hn), (sl hn), (sl hn), iv 0, iv 0], box b1 [(sl v0a), (sl v1a), (sl v2a), (sl v3a), iv a_g.Round, iv a_g.Year], ownF (sl x1.1) v1.Members, ownF (sl x1l) s1, own (sl x1.2.2.1) x1.2.2.2.1 v1.Entries, ownF (sl x1.2.2.2.2) v1.Books]) x1.2.1 (su6 R R R R R R) so8 fun k1 s1 x1l hN1 l1 => ?_)
 by_cases hk1 : k1 < v4.length
 refine fos l1 hk1 fun _ t1 l1 => ?_
 unfold impl_SewBlock_L1 at t1
 have c1 : (decide (((k1 : Nat) : Int) < ((v4.length : Nat) : Int))) = true := ddt (by omega)
 refine wcr (wlq (pls R R) R (wnt (wcs (wft R c1 (wck (wqt (wcs (wcb (wcr (mv R R (wlq (po_ixn (k := k1) (rgo pz) el_25 R R hk1) R (wlq (v := iv (gx v4 k1)) (po_ldf (rgo pz) tk_3 R hk1 R) R (asg R R (asg R R (wnt (wcr (wlq (pof fo_29_1 R) R (wlq (v := (sl x1l)) (plx tk_25 pk1 R R) R (mv R R (mv R R (bdO t1 fun v5 hv5 t1 => (wlc (cz1 fa_68 R fun w hw => c_impl_TakeCloth w s1 x1l (Rg.on (rgo pk5) hw) ((k1 : Nat) : Int) (gx v4 k1) hv5) R fun x5 => (mv R R (wlq (pex R R) R (wlq (pex R R) R (asg R R (asg R R (wnt (wcs (wcr (mv R R (wlq (po_not R) R (wnt (wcO t1 R (fun h3 t1 => ?_) fun h3 t1 => ?_))))))))))))))))))))))))))))))))))
 refine wcr (wlq (v := .agg #[(sl v0a), (sl v1a), (sl v2a), (sl v3a), iv a_g.Round, iv a_g.Year]) (plb tk_29 pk4 R R R) R (bdO t1 fun v6 hv6 t1 => (wlc (co_c4 fa_15 R fun w hw => c_impl_Guild_copied w a_g v0a (ra r0 hw) v1a (ra r1 hw) v2a u2a (ra r2 hw) v3a (ra r3 hw) hv6) R fun x6 => (wls (sbx (cs' := [(sl x6.1), (sl x6.2.1), (sl x6.2.2.1), (sl x6.2.2.2.2), iv v6.Round, iv v6.Year]) tk_29 pk7 R R R R R R R) (asg R R (wnt (wct (wqr (wbr (wqr (wqr (wbr (wqr (wqr ?_))))))))))))))
 replace t0 := lpR t0 l1 t1
 obtain rfl := oi t0
 exact wq_retc1 R tk_29 R R pz R fun w hw => ⟨(x6.1, x6.2.1, x6.2.2.1, x6.2.2.2.1, x6.2.2.2.2), R, hw.weak (zc pk1 (zc pk1 (zc pk1 (zc pk1 zn))))⟩
 refine wck (wqt (wcg (mv R R (wlq (pof fo_29_1 R) R (wls (sbx (cs' := [(sl x1.1), (sl x5), (sl x1.2.2.1), (sl x1.2.2.2.2), iv v1.Round, iv v1.Year]) tk_25 pk2 R R R R R R R) (wln (wqb (wqt (wcg (wlq (po_inc R R (by omega)) R ?_))))))))))
 exact mv R R (wln (wq_rnd hk1 (stpN l1 t1) x5 (su6 R R R R R R) (zc pk2 (zc pz (zc pk1 (zc pk1 (zc pk1 (zc pz (zc pk1 (zc pk1 zn))))))))))
 have c1 : (decide (((k1 : Nat) : Int) < ((v4.length : Nat) : Int))) = false := ddf (by omega)
 have en1 := foe l1 hk1
 exact wcr (wlq (pls R R) R (wnt (wcs (wff R c1 (wcx (wqe (wqe (wbx (wjm _ x1l en1 (su2 R R) (zc pk1 (zc pk1 (zc pk2 (zc pk2 (zc pk2 (zc pk2 zn)))))))))))))))
 intro e1 x4 hp
 replace t0 := sqE (j := e1) t0 hp
 refine wqt (wcr (wlq (v := .agg #[(sl x1.1), (sl x4), (sl x1.2.2.1), (sl x1.2.2.2.2), iv v1.Round, iv v1.Year]) (plb tk_29 pz R R R) R (wls (sbx (cs' := [(sl x1.1), (sl x4), (sl x1.2.2.1), (sl x1.2.2.2.2), iv v1.Round, iv v1.Year]) tk_29 pk1 R R R R R R R) (asg R R (wnt (wct ?_))))))
 obtain rfl := oi t0
 exact wq_retc1 R tk_29 R R pz R fun w hw => ⟨(x1.1, x4, x1.2.2.1, x1.2.2.2.1, x1.2.2.2.2), R, hw.weak (zc pk2 (zc pk2 (zc pk2 (zc pk2 zn))))⟩

theorem c_impl_SwapRound (w : World) (a_g : GGuild) (v0a : Hd) (r0 : rdF w (dm w []) (sl v0a) a_g.Members) (v1a : Hd) (r1 : rdF w (dm w []) (sl v1a) a_g.Stock) (v2a : Hd) (u2a : List Value) (r2 : RdL w (dm w []) (sl v2a) u2a a_g.Entries) (v3a : Hd) (r3 : rdF w (dm w []) (sl v3a) a_g.Books) {r : GGuild × Bool} (t0 : impl_SwapRound a_g = some r) : Calls Tryz.prog 41 #[.agg #[(sl v0a), (sl v1a), (sl v2a), (sl v3a), .int .i64 a_g.Round, .int .i64 a_g.Year]] w fun e w' => ∃ x : Hd × Hd × Hd × (List Value) × Hd, e = .returned (.tuple #[.agg #[(sl x.1), (sl x.2.1), (sl x.2.2.1), (sl x.2.2.2.2), .int .i64 r.1.Round, .int .i64 r.1.Year], .bool r.2]) ∧ SH w [] [ownF (sl x.1) r.1.Members, ownF (sl x.2.1) r.1.Stock, own (sl x.2.2.1) x.2.2.2.1 r.1.Entries, ownF (sl x.2.2.2.2) r.1.Books] w' := by
 refine cwc (args := [_]) Tryz.func41 R Tryz.ntmps41 R ?_
 unfold impl_SwapRound at t0
 refine wcr (wle (eo_box R R) R fun b1 => (wle (eal (cs := [(sl hn), (sl hn), (sl hn), (sl hn), iv 0, iv 0]) za_29) R fun b2 => (asg R R (wnt (wcr (wlq (v := .agg #[(sl v0a), (sl v1a), (sl v2a), (sl v3a), iv a_g.Round, iv a_g.Year]) (plb tk_29 pk1 R R R) R (bdO t0 fun v1 hv1 t0 => (wlc (co_c4 fa_15 R fun w hw => c_impl_Guild_copied w a_g v0a (ra r0 hw) v1a (ra r1 hw) v2a u2a (ra r2 hw) v3a (ra r3 hw) hv1) R fun x1 => (wle (eal (cs := [(sl hn), (sl hn), (sl hn), (sl hn), iv 0, iv 0]) za_29) R fun b3 => (wls (sbx (cs' := [(sl x1.1), (sl x1.2.1), (sl x1.2.2.1), (sl x1.2.2.2.2), iv v1.Round, iv v1.Year]) tk_29 pz R R R R R R R) (wnt (wcr (wlq (pof fo_29_4 R) R (wlq (v := iv v1.Round) (plx tk_3 pz R R) R (wlq (po_add R R) R (wlq (pof fo_29_4 R) R (wls (sbx (cs' := [(sl x1.1), (sl x1.2.1), (sl x1.2.2.1), (sl x1.2.2.2.2), iv (wr (v1.Round + 1)), iv v1.Year]) tk_3 pz R R R R R R R) (wnt (wcr (wlq (v := .agg #[(sl v0a), (sl v1a), (sl v2a), (sl v3a), iv a_g.Round, iv a_g.Year]) (plb tk_29 pk6 R R R) R (wlq (v := .agg #[(sl x1.1), (sl x1.2.1), (sl x1.2.2.1), (sl x1.2.2.2.2), iv (wr (v1.Round + 1)), iv v1.Year]) (plb tk_29 pz R R R) R (bdO t0 fun v2 hv2 t0 => (wlc (co_o4 [ownF (sl x1.1) v1.Members, ownF (sl x1.2.1) v1.Stock, own (sl x1.2.2.1) x1.2.2.2.1 v1.Entries, ownF (sl x1.2.2.2.2) v1.Books] fa_60 (zc pk1 (zc pk1 (zc pk1 (zc pk1 some_refl)))) R fun w fp hw => c_impl_Guild_becomes w fp a_g v0a ((rdo_arg r0) w fp hw) v1a ((rdo_arg r1) w fp hw) v2a u2a ((rdo_arg r2) w fp hw) v3a ((rdo_arg r3) w fp hw) (GGuild.mk v1.Members v1.Stock v1.Entries v1.Books (wr (v1.Round + 1)) v1.Year) x1.1 x1.2.1 x1.2.2.1 x1.2.2.2.1 x1.2.2.2.2 true hw.ow hv2) R fun x2 => (wlq (pex R R) R (wlq (pex R R) R (wls (sbx (cs' := [(sl x2.1), (sl x2.2.1), (sl x2.2.2.1), (sl x2.2.2.2.2), iv v2.1.Round, iv v2.1.Year]) tk_29 pk5 R R R R R R R) (asg R R (wnt (wct ?_)))))))))))))))))))))))))))))
 obtain rfl := oi t0
 exact wq_retc1 R tk_29 R R pz R fun w hw => ⟨(x2.1, x2.2.1, x2.2.2.1, x2.2.2.2.1, x2.2.2.2.2), R, hw.weak (zc pk1 (zc pk1 (zc pk1 (zc pk1 zn))))⟩

theorem c_impl_NewYear (w : World) (a_g : GGuild) (v0a : Hd) (r0 : rdF w (dm w []) (sl v0a) a_g.Members) (v1a : Hd) (r1 : rdF w (dm w []) (sl v1a) a_g.Stock) (v2a : Hd) (u2a : List Value) (r2 : RdL w (dm w []) (sl v2a) u2a a_g.Entries) (v3a : Hd) (r3 : rdF w (dm w []) (sl v3a) a_g.Books) {r : GGuild × Bool} (t0 : impl_NewYear a_g = some r) : Calls Tryz.prog 42 #[.agg #[(sl v0a), (sl v1a), (sl v2a), (sl v3a), .int .i64 a_g.Round, .int .i64 a_g.Year]] w fun e w' => ∃ x : Hd × Hd × Hd × (List Value) × Hd, e = .returned (.tuple #[.agg #[(sl x.1), (sl x.2.1), (sl x.2.2.1), (sl x.2.2.2.2), .int .i64 r.1.Round, .int .i64 r.1.Year], .bool r.2]) ∧ SH w [] [ownF (sl x.1) r.1.Members, ownF (sl x.2.1) r.1.Stock, own (sl x.2.2.1) x.2.2.2.1 r.1.Entries, ownF (sl x.2.2.2.2) r.1.Books] w' := by
 refine cwc (args := [_]) Tryz.func42 R Tryz.ntmps42 R ?_
 unfold impl_NewYear at t0
 refine wcr (wle (eo_box R R) R fun b1 => (wle (eal (cs := [(sl hn), (sl hn), (sl hn), (sl hn), iv 0, iv 0]) za_29) R fun b2 => (asg R R (wnt (wcr (wlq (v := .agg #[(sl v0a), (sl v1a), (sl v2a), (sl v3a), iv a_g.Round, iv a_g.Year]) (plb tk_29 pk1 R R R) R (bdO t0 fun v1 hv1 t0 => (wlc (co_c4 fa_15 R fun w hw => c_impl_Guild_copied w a_g v0a (ra r0 hw) v1a (ra r1 hw) v2a u2a (ra r2 hw) v3a (ra r3 hw) hv1) R fun x1 => (wle (eal (cs := [(sl hn), (sl hn), (sl hn), (sl hn), iv 0, iv 0]) za_29) R fun b3 => (wls (sbx (cs' := [(sl x1.1), (sl x1.2.1), (sl x1.2.2.1), (sl x1.2.2.2.2), iv v1.Round, iv v1.Year]) tk_29 pz R R R R R R R) (wnt (wcr (wlq (pof fo_29_5 R) R (wlq (v := iv v1.Year) (plx tk_3 pz R R) R (wlq (po_add R R) R (wlq (pof fo_29_5 R) R (wls (sbx (cs' := [(sl x1.1), (sl x1.2.1), (sl x1.2.2.1), (sl x1.2.2.2.2), iv v1.Round, iv (wr (v1.Year + 1))]) tk_3 pz R R R R R R R) (wnt (wcr (wlq (pof fo_29_4 R) R (wls (sbx (cs' := [(sl x1.1), (sl x1.2.1), (sl x1.2.2.1), (sl x1.2.2.2.2), iv 0, iv (wr (v1.Year + 1))]) tk_3 pz R R R R R R R) (wnt (wcs (wcd [box b2 [(sl hn), (sl hn), (sl hn), (sl hn), iv 0, iv 0], box b1 [(sl v0a), (sl v1a), (sl v2a), (sl v3a), iv a_g.Round, iv a_g.Year]] 10 mixed (aq (v := .agg #[(sl v0a), (sl v1a), (sl v2a), (sl v3a), iv a_g.Round, iv a_g.Year]) 0 R (plb tk_29 pk1 R R R) (zc pk5 (zc pk5 zn)) R (aq 2 R (pof fo_29_4 R) (zc pk5 (zc pk5 zn)) R (aq (v := iv a_g.Round) 3 R (plx tk_3 pk1 R R) (zc pk5 (zc pk5 zn)) R (aq (v := .agg #[(sl v0a), (sl v1a), (sl v2a), (sl v3a), iv a_g.Round, iv a_g.Year]) 4 R (plb tk_29 pk1 R R R) (zc pk5 (zc pk5 zn)) R (wa_2 (i := 1) (j := 5) (by kernel_rfl) ?_ ?_)))))))))))))))))))))))))))))
 refine ws_pure (v := .agg #[(sl x1.1), (sl x1.2.1), (sl x1.2.2.1), (sl x1.2.2.2.2), iv 0, iv (wr (v1.Year + 1))]) R (plb tk_29 pz R R R) (zt (zc pk5 (zc pk5 zn))) R (a1 5 (bdO t0 fun v2 hv2 t0 => (wsc R (cz0 fa_21 R fun w hw => c_impl_SwapRounds w a_g v0a (ra r0 hw) v1a (ra r1 hw) v2a u2a (ra r2 hw) v3a (ra r3 hw) hv2) (fun _ => (zt (zc pk5 (zc pk5 zn)))) R fun _ => (aq 6 R (po_geq R R) (zc pk5 (zc pk5 zn)) R (a1 7 (bdO t0 fun v3 hv3 t0 => (wsc R (co_o4 [ownF (sl x1.1) v1.Members, ownF (sl x1.2.1) v1.Stock, own (sl x1.2.2.1) x1.2.2.2.1 v1.Entries, ownF (sl x1.2.2.2.2) v1.Books] fa_60 (zc pk1 (zc pk1 (zc pk1 (zc pk1 some_refl)))) R fun w fp hw => c_impl_Guild_becomes w fp a_g v0a ((rdo_arg r0) w fp hw) v1a ((rdo_arg r1) w fp hw) v2a u2a ((rdo_arg r2) w fp hw) v3a ((rdo_arg r3) w fp hw) (GGuild.mk v1.Members v1.Stock v1.Entries v1.Books 0 (wr (v1.Year + 1))) x1.1 x1.2.1 x1.2.2.1 x1.2.2.2.1 x1.2.2.2.2 (decide (a_g.Round ≥ v2)) hw.ow hv3) (fun _ => (zt (zc pk5 (zc pk5 zn)))) R fun x2 => (aq 8 R (pex R R) (zc pk5 (zc pk5 zn)) R (aq 9 R (pex R R) (zc pk5 (zc pk5 zn)) R (a1 10 (ws_skipop R (sbx (cs' := [(sl x2.1), (sl x2.2.1), (sl x2.2.2.1), (sl x2.2.2.2.2), iv v3.1.Round, iv v3.1.Year]) tk_29 pk5 R R R R R R R) (sts_past (by kernel_rfl)) ?_)))))))))))
 refine a1 11 (ws_pure R (po_assign R) (sts_past (by kernel_rfl)) R ?_)
 refine ae (wqt (wct ?_))
 obtain rfl := oi t0
 exact wq_retc1 R tk_29 R R pz R fun w hw => ⟨(x2.1, x2.2.1, x2.2.2.1, x2.2.2.2.1, x2.2.2.2.2), R, hw.weak (zc pk1 (zc pk1 (zc pk1 (zc pk1 zn))))⟩
 refine bdO t0 fun v4 hv4 t0 => wsc R (cz0 fa_21 R fun w hw => c_impl_SwapRounds w a_g v0a (ra r0 hw) v1a (ra r1 hw) v2a u2a (ra r2 hw) v3a (ra r3 hw) hv4) (fun _ => (zt (zc pk5 (zc pk5 zn)))) R fun _ => aq 6 R (po_geq R R) (zc pk5 (zc pk5 zn)) R (a1 1 (ws_pure (v := .agg #[(sl x1.1), (sl x1.2.1), (sl x1.2.2.1), (sl x1.2.2.2.2), iv 0, iv (wr (v1.Year + 1))]) R (plb tk_29 pz R R R) (zt (zc pk5 (zc pk5 zn))) R (a1 7 (bdO t0 fun v5 hv5 t0 => (wsc R (co_o4 [ownF (sl x1.1) v1.Members, ownF (sl x1.2.1) v1.Stock, own (sl x1.2.2.1) x1.2.2.2.1 v1.Entries, ownF (sl x1.2.2.2.2) v1.Books] fa_60 (zc pk1 (zc pk1 (zc pk1 (zc pk1 some_refl)))) R fun w fp hw => c_impl_Guild_becomes w fp a_g v0a ((rdo_arg r0) w fp hw) v1a ((rdo_arg r1) w fp hw) v2a u2a ((rdo_arg r2) w fp hw) v3a ((rdo_arg r3) w fp hw) (GGuild.mk v1.Members v1.Stock v1.Entries v1.Books 0 (wr (v1.Year + 1))) x1.1 x1.2.1 x1.2.2.1 x1.2.2.2.1 x1.2.2.2.2 (decide (a_g.Round ≥ v4)) hw.ow hv5) (fun _ => (zt (zc pk5 (zc pk5 zn)))) R fun x3 => (aq 8 R (pex R R) (zc pk5 (zc pk5 zn)) R (aq 9 R (pex R R) (zc pk5 (zc pk5 zn)) R (a1 10 (ws_skipop R (sbx (cs' := [(sl x3.1), (sl x3.2.1), (sl x3.2.2.1), (sl x3.2.2.2.2), iv v5.1.Round, iv v5.1.Year]) tk_29 pk5 R R R R R R R) (sts_past (by kernel_rfl)) ?_)))))))))
 refine a1 11 (ws_pure R (po_assign R) (sts_past (by kernel_rfl)) R ?_)
 refine ae (wqt (wct ?_))
 obtain rfl := oi t0
 exact wq_retc1 R tk_29 R R pz R fun w hw => ⟨(x3.1, x3.2.1, x3.2.2.1, x3.2.2.2.1, x3.2.2.2.2), R, hw.weak (zc pk1 (zc pk1 (zc pk1 (zc pk1 zn))))⟩

theorem c_impl_LackOf (w : World) (a_stock : List Int) (v0a : Hd) (r0 : rdF w (dm w []) (sl v0a) a_stock) (a_need : List Int) (v1a : Hd) (r1 : rdF w (dm w []) (sl v1a) a_need) {r : List Int} (t0 : impl_LackOf a_stock a_need = some r) : Calls Tryz.prog 69 #[(sl v0a), (sl v1a)] w fun e w' => ∃ x : Hd, e = .returned ((sl x)) ∧ SH w [] [ownF (sl x) r] w' := by
 refine cwc (args := [_, _]) Tryz.func69 R Tryz.ntmps69 R ?_
 unfold impl_LackOf at t0
 refine wcr (asg R R (wnt (wcs (wcs (bdO t0 fun y1 t1 t0 => (wj (J := Bool) (X := Unit) (fun z => y1 = z) (fun z _ => [(0, (sl v0a)), (1, (sl v1a)), (14, .bool z)]) (fun _ _ => []) ?_ ?_))))))
 refine wcg (mv R R (bdO t1 fun v1 hv1 t1 => (wlc (cz0 fa_31 R fun w hw => c_impl_StockOk w a_stock v0a (ra r0 hw) hv1) R fun _ => (wlq (po_not R) R (mv R R (wlo (t := 10) t1 R (fun h1 t1 => ?_) fun h1 t1 => ?_))))))
 exact wgf (j := 3) R R R R R (wgf (j := 3) R R R R R (wgf (j := 3) R R R R R (wlq (pit R R) R (wln (wjm _ () (mtE t1) (su3 R R R) zn)))))
 exact wgn (j := 3) R R R (mv R R (bdO t1 fun v2 hv2 t1 => (wgn (j := 3) R R R (wlc (cz0 fa_31 R fun w hw => c_impl_StockOk w a_need v1a (ra r1 hw) hv2) R (fun _ => (wgn (j := 3) R R R (wlq (po_not R) R (wlq (pif R R) R (wln (wjm _ () (mtE t1) (su3 R R R) zn))))))))))
 intro j1 _ hp
 obtain rfl : j1 = y1 := hp.symm
 refine wqt (wcO t0 R (fun h2 t0 => ?_) fun h2 t0 => ?_)
 refine wcr (asg R R (wnt (wct (wqr ?_))))
 obtain rfl := oi t0
 exact wq1 R R fun w hw => ⟨hn, R, hw.weak (zc pick_nil zn)⟩
 refine wck (wqt (wcr (wle (ebs R sb_25_0) R fun b1 => (asg R R (wnt (wcs (wcr (mv R R (wlq (pln (rga r0) el_25 R) R (mv R R (wnt (gdO t0 fun g1 t0 => (lpO_inv t0 fun y1 l1 t0 => (wj (J := List Int) (X := Hd) (fun z => y1 = z) (fun _ x => [(5, (sl x))]) (fun z x => [ownF (sl x) z]) ?_ ?_))))))))))))))
 refine wcb (wcf (X := Hd) l1 (fun k1 s1 x1l => [(0, (sl v0a)), (1, (sl v1a)), (5, (sl x1l)), (17, iv ((a_stock.length : Nat) : Int)), (18, iv ((k1 : Nat) : Int))]) (fun k1 s1 x1l => [ownF (sl x1l) s1]) (⟨some ⟨b1, 0, none⟩, 0, 0⟩ : Hd) (su5 R R R R R) (zc (pbo pz (n := 0) (xs := ([] : List Int)) R R (by unfold maxLen; omega)) zn) fun k1 s1 x1l hN1 l1 => ?_)
 by_cases hk1 : k1 < a_stock.length
 refine fos l1 hk1 fun _ t1 l1 => ?_
 unfold impl_LackOf_L1 at t1
 have c1 : (decide (((k1 : Nat) : Int) < ((a_stock.length : Nat) : Int))) = true := ddt (by omega)
 refine wcr (wlq (pls R R) R (wnt (wcs (wft R c1 (wck (wqt (wcs (wcb (wcr (mv R R (asg R R (wnt (wcd [] 14 mixed (aq 0 R (pom R) zn R (aq 1 R (pom R) zn R (aq 2 R (pom R) zn R (gdO t1 fun g2 t1 => (aq 3 R (po_ixn (k := k1) (rga r1) el_25 R R g2) zn R (aq (v := iv (gx a_need k1)) 4 R (po_ldf (rga r1) tk_3 R g2 R) zn R (aq 5 R (pom R) zn R (aq 6 R (pom R) zn R (aq 7 R (po_ixn (k := k1) (rga r0) el_25 R R hk1) zn R (aq (v := iv (gx a_stock k1)) 8 R (po_ldf (rga r0) tk_3 R hk1 R) zn R (aq 9 R (po_sub R R) zn R (aq 10 R (po_max R R) zn R (a1 11 (wse R (ebs R (sb_25_1 (if 0 > (wr ((gx a_need k1) - (gx a_stock k1))) then 0 else (wr ((gx a_need k1) - (gx a_stock k1)))))) (fun _ => (zt zn)) R fun b2 => (a1 12 (gdO t1 fun g3 t1 => (wse R (eo_append (xs := s1) (ys := ([(if 0 > (wr ((gx a_need k1) - (gx a_stock k1))) then 0 else (wr ((gx a_need k1) - (gx a_stock k1))))] : List Int)) ak_25 pk1 R R (slin_rd fun _ g => Rg.on (rgo (pbo pz (n := 1) (xs := ([(if 0 > (wr ((gx a_need k1) - (gx a_stock k1))) then 0 else (wr ((gx a_need k1) - (gx a_stock k1))))] : List Int)) R R (by unfold maxLen; omega))) g) g3) (fun _ => (zt zn)) R fun x3 => ?_))))))))))))))))))))))))))))))
 refine aq 13 R (po_assign R) zn R (ae (wqb (wqt (wcg (wlq (po_inc R R (by omega)) R ?_)))))
 exact mv R R (wln (wq_rnd hk1 (stpN l1 t1) x3 (su5 R R R R R) so1))
 have c1 : (decide (((k1 : Nat) : Int) < ((a_stock.length : Nat) : Int))) = false := ddf (by omega)
 have en1 := foe l1 hk1
 exact wcr (wlq (pls R R) R (wnt (wcs (wff R c1 (wcx (wqe (wqe (wbx (wjm _ x1l (Sum.inl.inj en1) (su1 R) so1)))))))))
 intro e1 x2 hp
 obtain rfl : e1 = y1 := hp.symm
 refine wqt (wcr (mv R R (asg R R (wnt (wct ?_)))))
 obtain rfl := oi t0
 exact wq1 R R fun w hw => ⟨x2, R, hw.weak so1⟩

theorem c_impl_lack (w : World) (a_g : GGuild) (v0a : Hd) (_r0 : rdF w (dm w []) (sl v0a) a_g.Members) (v1a : Hd) (r1 : rdF w (dm w []) (sl v1a) a_g.Stock) (v2a : Hd) (u2a : List Value) (r2 : RdL w (dm w []) (sl v2a) u2a a_g.Entries) (v3a : Hd) (_r3 : rdF w (dm w []) (sl v3a) a_g.Books) (a_k : Int) {r : Int} (t0 : impl_lack a_g a_k = some r) : Calls Tryz.prog 43 #[.agg #[(sl v0a), (sl v1a), (sl v2a), (sl v3a), .int .i64 a_g.Round, .int .i64 a_g.Year], .int .i64 a_k] w fun e w' => e = .returned (.int .i64 r) ∧ SH w [] [] w' := by
 refine cwc (args := [_, _]) Tryz.func43 R Tryz.ntmps43 R ?_
 unfold impl_lack at t0
 refine wcr (wle (eo_box R R) R fun b1 => (asg R R (wnt (wcs (wcr (mv R R (wlq (pof fo_29_2 R) R (wlq (v := (sl v2a)) (plx tk_26 pz R R) R (wlq (pln (rga r2) el_26 R) R (wlq (po_sub R R) R (bdO t0 fun v1 hv1 t0 => (wlc (cz0 fa_35 R fun w hw => c_impl_within w a_k 0 (wr (((a_g.Entries.length : Nat) : Int) - 1)) hv1) R fun _ => (wlq (po_not R) R (wnt (wcO t0 R (fun h1 t0 => ?_) fun h1 t0 => ?_)))))))))))))))
 refine wcr (asg R R (wnt (wct (wqr ?_))))
 obtain rfl := oi t0
 exact wq1 R R fun w hw => ⟨R, hw.weak zn⟩
 refine wck (wqt (wcr (asg R R (wnt (wcs (wcs (wcd [box b1 [(sl v0a), (sl v1a), (sl v2a), (sl v3a), iv a_g.Round, iv a_g.Year]] 12 mixed (aq 0 R (pof fo_29_1 R) so1 R (aq (v := (sl v1a)) 1 R (plx tk_25 pz R R) so1 R (aq 2 R (pof fo_29_2 R) so1 R (aq (v := (sl v2a)) 3 R (plx tk_26 pz R R) so1 R (aq 4 R (pom R) so1 R (gdO t0 fun g1 t0 => (aq 5 R (po_ixr (rga r2) el_26 R R g1.1 g1.2) so1 R (aq 6 R (po_sfldr (rga r2) (ix_lt g1) fo_58_2 R) so1 R (wa_elem (rga r2) (ix_lt g1) ?_))))))))))))))))
 rintro ⟨_, _, he1⟩
 obtain ⟨w1, hc1, _⟩ := rd_GEntry.1 he1
 refine aq (v := .agg #[iv (((gx a_g.Entries ((a_k).toNat)).Block).Size), (sl w1)]) 7 R (po_ldns (rga r2) tk_56 R hc1 R R R) so1 R (aq 11 R (pom R) so1 R (a1 8 (bdO t0 fun v2 hv2 t0 => (wsc R (cz1 fa_67 R fun w hw => c_impl_AreaTable w ((gx a_g.Entries ((a_k).toNat)).Block) w1 (Rg.on (er_GEntry_0 hc1 (rga r2) (ix_lt g1)) hw) hv2) (fun _ => (zt (zc pk1 zn))) R fun x1 => (a1 9 (bdO t0 fun v3 hv3 t0 => (wsc R (cz1 fa_69 R fun w hw => c_impl_LackOf w a_g.Stock v1a (ra r1 hw) v2 x1 (Rg.on (rgo pz) hw) hv3) (fun _ => (zt (zc pk2 zn))) R fun x2 => (a1 10 (ws_pure R (pln (rgo pz) el_25 R) (zt (zc pk2 zn)) R (ae (wqt (gdO t0 fun g2 t0 => (lpO_inv t0 fun y1 l1 t0 => (wj (J := Int) (X := Unit) (fun z => y1 = z) (fun z _ => [(5, iv z)]) (fun _ _ => []) ?_ ?_))))))))))))))
 refine wcb (wcf (X := Unit) l1 (fun k1 s1 x1l => [(5, iv s1), (24, (sl x2)), (25, iv ((v3.length : Nat) : Int)), (26, iv ((k1 : Nat) : Int))]) (fun k1 s1 x1l => [ownF (sl x2) v3]) () (su4 R R R R) so1 fun k1 s1 x1l hN1 l1 => ?_)
 by_cases hk1 : k1 < v3.length
 refine fos l1 hk1 fun _ t1 l1 => ?_
 unfold impl_lack_L1 at t1
 have c1 : (decide (((k1 : Nat) : Int) < ((v3.length : Nat) : Int))) = true := ddt (by omega)
 refine wcr (wlq (pls R R) R (wnt (wcs (wft R c1 (wck (wqt (wcs (wcb (wcr (wlq (po_ixn (k := k1) (rgo pz) el_25 R R hk1) R (wlq (v := iv (gx v3 k1)) (po_ldf (rgo pz) tk_3 R hk1 R) R (asg R R (wnt (wcg (mv R R (mv R R (wlq (po_add R R) R (asg R R (wln (wqb (wqt (wcg (wlq (po_inc R R (by omega)) R ?_)))))))))))))))))))))))
 exact mv R R (wln (wq_rnd hk1 (stpN l1 t1) () (su4 R R R R) so1))
 have c1 : (decide (((k1 : Nat) : Int) < ((v3.length : Nat) : Int))) = false := ddf (by omega)
 have en1 := foe l1 hk1
 exact wcr (wlq (pls R R) R (wnt (wcs (wff R c1 (wcx (wqe (wqe (wbx (wjm _ () (Sum.inl.inj en1) (su1 R) zn)))))))))
 intro e1 _ hp
 obtain rfl : e1 = y1 := hp.symm
 refine wqt (wcr (mv R R (asg R R (wnt (wct ?_)))))
 obtain rfl := oi t0
 exact wq1 R R fun w hw => ⟨R, hw.weak zn⟩

theorem c_impl_DoAct (w : World) (a_g : GGuild) (v0a : Hd) (r0 : rdF w (dm w []) (sl v0a) a_g.Members) (v1a : Hd) (r1 : rdF w (dm w []) (sl v1a) a_g.Stock) (v2a : Hd) (u2a : List Value) (r2 : RdL w (dm w []) (sl v2a) u2a a_g.Entries) (v3a : Hd) (r3 : rdF w (dm w []) (sl v3a) a_g.Books) (a_a : GAct) {r : GGuild × Int} (t0 : impl_DoAct a_g a_a = some r) : Calls Tryz.prog 17 #[.agg #[(sl v0a), (sl v1a), (sl v2a), (sl v3a), .int .i64 a_g.Round, .int .i64 a_g.Year], .agg #[.int .i64 a_a.Kind, .int .i64 a_a.A, .int .i64 a_a.B]] w fun e w' => ∃ x : Hd × Hd × Hd × (List Value) × Hd, e = .returned (.tuple #[.agg #[(sl x.1), (sl x.2.1), (sl x.2.2.1), (sl x.2.2.2.2), .int .i64 r.1.Round, .int .i64 r.1.Year], .int .i64 r.2]) ∧ SH w [] [ownF (sl x.1) r.1.Members, ownF (sl x.2.1) r.1.Stock, own (sl x.2.2.1) x.2.2.2.1 r.1.Entries, ownF (sl x.2.2.2.2) r.1.Books] w' := by
 refine cwc (args := [_, _]) Tryz.func17 R Tryz.ntmps17 R ?_
 unfold impl_DoAct at t0
 refine wcr (wle (eo_box R R) R fun b1 => (wle (eo_box R R) R fun b2 => (wle (eal (cs := [(sl hn), (sl hn), (sl hn), (sl hn), iv 0, iv 0]) za_29) R fun b3 => (asg R R (wnt (wcs (wcs (bdO t0 fun y1 t1 t0 => (wj (J := Bool) (X := Unit) (fun z => y1 = z) (fun z _ => [(2, ptr b1 0), (3, ptr b2 0), (4, ptr b3 0), (17, .bool z)]) (fun _ _ => [box b3 [(sl hn), (sl hn), (sl hn), (sl hn), iv 0, iv 0], box b2 [iv a_a.Kind, iv a_a.A, iv a_a.B], box b1 [(sl v0a), (sl v1a), (sl v2a), (sl v3a), iv a_g.Round, iv a_g.Year]]) ?_ ?_)))))))))
 refine wcg (wlq (v := .agg #[(sl v0a), (sl v1a), (sl v2a), (sl v3a), iv a_g.Round, iv a_g.Year]) (plb tk_29 pk2 R R R) R (bdO t1 fun v1 hv1 t1 => (wlc (cz0 fa_16 R fun w hw => c_impl_GuildOk w a_g v0a (ra r0 hw) v1a (ra r1 hw) v2a u2a (ra r2 hw) v3a (ra r3 hw) hv1) R fun _ => (wlq (po_not R) R (mv R R (wlo (t := 13) t1 R (fun h1 t1 => ?_) fun h1 t1 => ?_))))))
 exact wgf (j := 3) R R R R R (wgf (j := 3) R R R R R (wgf (j := 3) R R R R R (wlq (pit R R) R (wln (wjm _ () (mtE t1) (su4 R R R R) so3)))))
 exact wgn (j := 3) R R R (wlq (v := .agg #[iv a_a.Kind, iv a_a.A, iv a_a.B]) (plb tk_48 pk1 R R R) R (bdO t1 fun v2 hv2 t1 => (wgn (j := 3) R R R (wlc (cz0 fa_36 R fun w hw => c_impl_ActOk w a_a hv2) R (fun _ => (wgn (j := 3) R R R (wlq (po_not R) R (wlq (pif R R) R (wln (wjm _ () (mtE t1) (su4 R R R R) so3))))))))))
 intro j1 _ hp
 obtain rfl : j1 = y1 := hp.symm
 refine wqt (wcO t0 R (fun h2 t0 => ?_) fun h2 t0 => ?_)
 refine wcr (wlq (v := .agg #[(sl v0a), (sl v1a), (sl v2a), (sl v3a), iv a_g.Round, iv a_g.Year]) (plb tk_29 pk2 R R R) R (bdO t0 fun v3 hv3 t0 => (wlc (co_c4 fa_15 R fun w hw => c_impl_Guild_copied w a_g v0a (ra r0 hw) v1a (ra r1 hw) v2a u2a (ra r2 hw) v3a (ra r3 hw) hv3) R fun x2 => (wls (sbx (cs' := [(sl x2.1), (sl x2.2.1), (sl x2.2.2.1), (sl x2.2.2.2.2), iv v3.Round, iv v3.Year]) tk_29 pk4 R R R R R R R) (asg R R (wnt (wct (wqr ?_))))))))
 obtain rfl := oi t0
 exact wq_retc1 R tk_29 R R pz R fun w hw => ⟨(x2.1, x2.2.1, x2.2.2.1, x2.2.2.2.1, x2.2.2.2.2), R, hw.weak (zc pk1 (zc pk1 (zc pk1 (zc pk1 zn))))⟩
 refine wck (wqt (wcr (wlq (v := .agg #[(sl v0a), (sl v1a), (sl v2a), (sl v3a), iv a_g.Round, iv a_g.Year]) (plb tk_29 pk2 R R R) R (bdO t0 fun v4 hv4 t0 => (wlc (co_c4 fa_15 R fun w hw => c_impl_Guild_copied w a_g v0a (ra r0 hw) v1a (ra r1 hw) v2a u2a (ra r2 hw) v3a (ra r3 hw) hv4) R fun x3 => (wle (eal (cs := [(sl hn), (sl hn), (sl hn), (sl hn), iv 0, iv 0]) za_29) R fun b4 => (wls (sbx (cs' := [(sl x3.1), (sl x3.2.1), (sl x3.2.2.1), (sl x3.2.2.2.2), iv v4.Round, iv v4.Year]) tk_29 pz R R R R R R R) (asg R R (wnt (wcs (wcr (wlq (pof fo_48_0 R) R (wlq (v := iv a_a.Kind) (plx tk_3 pk6 R R) R (wnt (wcb (wcr (wlq (pol R R) R (asg R R (wnt (sqO t0 fun y1 t1 t0 => (wj (J := Bool × GGuild) (X := Hd × Hd × Hd × (List Value) × Hd) (fun z => y1 = .inl z) (fun z _ => [(4, ptr b3 0), (6, ptr b4 0), (7, .bool z.1)]) (fun z x => [box b4 [(sl x.1), (sl x.2.1), (sl x.2.2.1), (sl x.2.2.2.2), iv ((z.2).Round), iv ((z.2).Year)], box b3 [(sl hn), (sl hn), (sl hn), (sl hn), iv 0, iv 0], ownF (sl x.1) ((z.2).Members), ownF (sl x.2.1) ((z.2).Stock), own (sl x.2.2.1) x.2.2.2.1 ((z.2).Entries), ownF (sl x.2.2.2.2) ((z.2).Books)]) ?_ ?_)))))))))))))))))))))
 refine wcO t1 R (fun h3 t1 => ?_) fun h3 t1 => ?_
 exact wcg (wlq (v := .agg #[(sl v0a), (sl v1a), (sl v2a), (sl v3a), iv a_g.Round, iv a_g.Year]) (plb tk_29 pk7 R R R) R (wlq (pof fo_48_1 R) R (wlq (v := iv a_a.A) (plx tk_3 pk6 R R) R (bdO t1 fun v5 hv5 t1 => (wlc (co_c4 fa_37 R fun w hw => c_impl_Admit w a_g v0a (ra r0 hw) v1a (ra r1 hw) v2a u2a (ra r2 hw) v3a (ra r3 hw) a_a.A hv5) R fun x5 => (mv R R (wlq (pex R R) R (wlq (pex R R) R (wls (sbx (cs' := [(sl x5.1), (sl x5.2.1), (sl x5.2.2.1), (sl x5.2.2.2.2), iv v5.1.Round, iv v5.1.Year]) tk_29 pk4 R R R R R R R) (asg R R (wln (wjm _ (x5.1, x5.2.1, x5.2.2.1, x5.2.2.2.1, x5.2.2.2.2) (mtE t1) (su3 R R R) (zc pz (zc pk8 so4))))))))))))))
 refine wcr (wlq (pol R R) R (asg R R (wnt (wcO t1 R (fun h4 t1 => ?_) fun h4 t1 => ?_))))
 refine wcr (asg R R (wnt (wcs (wcr (wlq (pof fo_29_2 R) R (wlq (v := (sl v2a)) (plx tk_26 pk7 R R) R (wlq (pln (rga r2) el_26 R) R (asg R R (wnt (wcr (mv R R (wlq (po_gtr R R) R (wnt (bdO t1 fun y2 t2 t1 => (wj (J := Int) (X := Unit) (fun z => y2 = z) (fun z _ => [(2, ptr b1 0), (3, ptr b2 0), (4, ptr b3 0), (6, ptr b4 0), (8, iv z)]) (fun _ _ => [box b4 [(sl x3.1), (sl x3.2.1), (sl x3.2.2.1), (sl x3.2.2.2.2), iv v4.Round, iv v4.Year], box b3 [(sl hn), (sl hn), (sl hn), (sl hn), iv 0, iv 0], box b2 [iv a_a.Kind, iv a_a.A, iv a_a.B], box b1 [(sl v0a), (sl v1a), (sl v2a), (sl v3a), iv a_g.Round, iv a_g.Year], ownF (sl x3.1) v4.Members, ownF (sl x3.2.1) v4.Stock, own (sl x3.2.2.1) x3.2.2.2.1 v4.Entries, ownF (sl x3.2.2.2.2) v4.Books]) ?_ ?_)))))))))))))))
 refine wcO t2 R (fun h5 t2 => ?_) fun h5 t2 => ?_
 refine wcg (wlq (pof fo_29_2 R) R (wlq (v := (sl v2a)) (plx tk_26 pk7 R R) R (mv R R (wlq (po_sub R R) R (gdO t2 fun g1 t2 => (wlq (po_ixr (rga r2) el_26 R R g1.1 g1.2) R (wlq (po_sfldr (rga r2) (ix_lt g1) fo_58_1 R) R (wl_elem (rga r2) (ix_lt g1) ?_))))))))
 rintro ⟨_, _, he1⟩
 obtain ⟨w1, hc1, _⟩ := rd_GEntry.1 he1
 exact wlq (v := iv ((gx a_g.Entries (((wr (((a_g.Entries.length : Nat) : Int) - 1))).toNat)).Day)) (po_ldn (rga r2) tk_3 R hc1 R) R (wlq (po_add R R) R (asg R R (wln (wjm _ () (mtE t2) (su5 R R R R R) (zc pz (zc pk4 (zc pk4 (zc pk4 so4))))))))
 exact wck (wjm _ () (mtE t2) (su5 R R R R R) (zc pz (zc pk4 (zc pk4 (zc pk4 so4)))))
 intro j3 _ hp
 obtain rfl : j3 = y2 := hp.symm
 exact wqt (wcd [box b3 [(sl hn), (sl hn), (sl hn), (sl hn), iv 0, iv 0], box b2 [iv a_a.Kind, iv a_a.A, iv a_a.B], box b1 [(sl v0a), (sl v1a), (sl v2a), (sl v3a), iv a_g.Round, iv a_g.Year], ownF (sl x3.1) v4.Members, ownF (sl x3.2.1) v4.Stock, own (sl x3.2.2.1) x3.2.2.2.1 v4.Entries, ownF (sl x3.2.2.2.2) v4.Books] 13 mixed (aq (v := .agg #[(sl v0a), (sl v1a), (sl v2a), (sl v3a), iv a_g.Round, iv a_g.Year]) 0 R (plb tk_29 pk2 R R R) (zc pk1 (zc pk1 (zc pk1 (zc pk1 (zc pk1 (zc pk1 (zc pk1 zn))))))) R (aq 1 R (pof fo_48_1 R) (zc pk1 (zc pk1 (zc pk1 (zc pk1 (zc pk1 (zc pk1 (zc pk1 zn))))))) R (aq (v := iv a_a.A) 2 R (plx tk_3 pk1 R R) (zc pk1 (zc pk1 (zc pk1 (zc pk1 (zc pk1 (zc pk1 (zc pk1 zn))))))) R (aq 3 R (pom R) (zc pk1 (zc pk1 (zc pk1 (zc pk1 (zc pk1 (zc pk1 (zc pk1 zn))))))) R (aq 4 R (pof fo_48_2 R) (zc pk1 (zc pk1 (zc pk1 (zc pk1 (zc pk1 (zc pk1 (zc pk1 zn))))))) R (aq (v := iv a_a.B) 5 R (plx tk_3 pk1 R R) (zc pk1 (zc pk1 (zc pk1 (zc pk1 (zc pk1 (zc pk1 (zc pk1 zn))))))) R (a1 6 (bdO t1 fun v6 hv6 t1 => (wsc R (cz1 fa_39 R fun w hw => c_impl_SampleBlock w a_a.B hv6) (fun _ => (zt (zc pk2 (zc pk2 (zc pk2 (zc pk2 (zc pk2 (zc pk2 (zc pk2 zn))))))))) R fun x7 => (a1 7 (bdO t1 fun v7 hv7 t1 => (wsc R (co_c4 fa_38 R fun w hw => c_impl_Submit w a_g v0a (ra r0 hw) v1a (ra r1 hw) v2a u2a (ra r2 hw) v3a (ra r3 hw) a_a.A j3 v6 x7 (Rg.on (rgo pz) hw) hv7) (fun _ => (zt (zc pk6 (zc pk6 (zc pk6 (zc pk6 (zc pk6 (zc pk6 (zc pk6 zn))))))))) R fun x8 => (aq 8 R (pom R) (zc pk6 (zc pk6 (zc pk6 (zc pk6 (zc pk6 (zc pk6 (zc pk6 zn))))))) R (aq 9 R (pex R R) (zc pk6 (zc pk6 (zc pk6 (zc pk6 (zc pk6 (zc pk6 (zc pk6 zn))))))) R (aq 10 R (pex R R) (zc pk6 (zc pk6 (zc pk6 (zc pk6 (zc pk6 (zc pk6 (zc pk6 zn))))))) R (a1 11 (ws_skipop R (sbx (cs' := [(sl x8.1), (sl x8.2.1), (sl x8.2.2.1), (sl x8.2.2.2.2), iv v7.1.Round, iv v7.1.Year]) tk_29 pk5 R R R R R R R) (zt (zc pk6 (zc pk6 (zc pk6 (zc pk6 (zc pk6 (zc pk6 (zc pk6 zn)))))))) (aq 12 R (po_assign R) (zc pk6 (zc pk6 (zc pk6 (zc pk6 (zc pk6 (zc pk6 (zc pk6 zn))))))) R (ae (wjm _ (x8.1, x8.2.1, x8.2.2.1, x8.2.2.2.1, x8.2.2.2.2) (mtE t1) (su3 R R R) (zc pz (zc pk5 so4)))))))))))))))))))))))
 refine wcr (wlq (pol R R) R (asg R R (wnt (wcO t1 R (fun h6 t1 => ?_) fun h6 t1 => ?_))))
 exact wcg (wlq (v := .agg #[(sl v0a), (sl v1a), (sl v2a), (sl v3a), iv a_g.Round, iv a_g.Year]) (plb tk_29 pk7 R R R) R (wlq (pof fo_48_1 R) R (wlq (v := iv a_a.A) (plx tk_3 pk6 R R) R (bdO t1 fun v8 hv8 t1 => (wlc (co_c4 fa_40 R fun w hw => c_impl_SewBlock w a_g v0a (ra r0 hw) v1a (ra r1 hw) v2a u2a (ra r2 hw) v3a (ra r3 hw) a_a.A hv8) R fun x9 => (mv R R (wlq (pex R R) R (wlq (pex R R) R (wls (sbx (cs' := [(sl x9.1), (sl x9.2.1), (sl x9.2.2.1), (sl x9.2.2.2.2), iv v8.1.Round, iv v8.1.Year]) tk_29 pk4 R R R R R R R) (asg R R (wln (wjm _ (x9.1, x9.2.1, x9.2.2.1, x9.2.2.2.1, x9.2.2.2.2) (mtE t1) (su3 R R R) (zc pz (zc pk8 so4))))))))))))))
 refine wcr (wlq (pol R R) R (asg R R (wnt (wcO t1 R (fun h7 t1 => ?_) fun h7 t1 => ?_))))
 exact wcg (wlq (v := .agg #[(sl v0a), (sl v1a), (sl v2a), (sl v3a), iv a_g.Round, iv a_g.Year]) (plb tk_29 pk7 R R R) R (bdO t1 fun v9 hv9 t1 => (wlc (co_c4 fa_41 R fun w hw => c_impl_SwapRound w a_g v0a (ra r0 hw) v1a (ra r1 hw) v2a u2a (ra r2 hw) v3a (ra r3 hw) hv9) R fun x10 => (mv R R (wlq (pex R R) R (wlq (pex R R) R (wls (sbx (cs' := [(sl x10.1), (sl x10.2.1), (sl x10.2.2.1), (sl x10.2.2.2.2), iv v9.1.Round, iv v9.1.Year]) tk_29 pk4 R R R R R R R) (asg R R (wln (wjm _ (x10.1, x10.2.1, x10.2.2.1, x10.2.2.2.1, x10.2.2.2.2) (mtE t1) (su3 R R R) (zc pz (zc pk8 so4))))))))))))
 refine wcr (wlq (pol R R) R (asg R R (wnt (wcO t1 R (fun h8 t1 => ?_) fun h8 t1 => ?_))))
 exact wcg (wlq (v := .agg #[(sl v0a), (sl v1a), (sl v2a), (sl v3a), iv a_g.Round, iv a_g.Year]) (plb tk_29 pk7 R R R) R (bdO t1 fun v10 hv10 t1 => (wlc (co_c4 fa_42 R fun w hw => c_impl_NewYear w a_g v0a (ra r0 hw) v1a (ra r1 hw) v2a u2a (ra r2 hw) v3a (ra r3 hw) hv10) R fun x11 => (mv R R (wlq (pex R R) R (wlq (pex R R) R (wls (sbx (cs' := [(sl x11.1), (sl x11.2.1), (sl x11.2.2.1), (sl x11.2.2.2.2), iv v10.1.Round, iv v10.1.Year]) tk_29 pk4 R R R R R R R) (asg R R (wln (wjm _ (x11.1, x11.2.1, x11.2.2.1, x11.2.2.2.1, x11.2.2.2.2) (mtE t1) (su3 R R R) (zc pz (zc pk8 so4))))))))))))
 refine wcs (wcd [box b4 [(sl x3.1), (sl x3.2.1), (sl x3.2.2.1), (sl x3.2.2.2.2), iv v4.Round, iv v4.Year], ownF (sl x3.1) v4.Members, ownF (sl x3.2.1) v4.Stock, own (sl x3.2.2.1) x3.2.2.2.1 v4.Entries, ownF (sl x3.2.2.2.2) v4.Books, box b2 [iv a_a.Kind, iv a_a.A, iv a_a.B], box b1 [(sl v0a), (sl v1a), (sl v2a), (sl v3a), iv a_g.Round, iv a_g.Year]] 7 mixed (aq (v := .agg #[(sl x3.1), (sl x3.2.1), (sl x3.2.2.1), (sl x3.2.2.2.2), iv v4.Round, iv v4.Year]) 0 R (plb tk_29 pz R R R) (zc pz (zc pz (zc pz (zc pz (zc pz (zc pk1 (zc pk1 zn))))))) R (aq (v := .agg #[(sl v0a), (sl v1a), (sl v2a), (sl v3a), iv a_g.Round, iv a_g.Year]) 1 R (plb tk_29 pk6 R R R) (zc pz (zc pz (zc pz (zc pz (zc pz (zc pk1 (zc pk1 zn))))))) R (aq 2 R (pof fo_48_1 R) (zc pz (zc pz (zc pz (zc pz (zc pz (zc pk1 (zc pk1 zn))))))) R (aq (v := iv a_a.A) 3 R (plx tk_3 pk5 R R) (zc pz (zc pz (zc pz (zc pz (zc pz (zc pk1 (zc pk1 zn))))))) R (a1 4 (bdO t1 fun v11 hv11 t1 => (wsc R (cz0 fa_43 R fun w hw => c_impl_lack w a_g v0a (ra r0 hw) v1a (ra r1 hw) v2a u2a (ra r2 hw) v3a (ra r3 hw) a_a.A hv11) (fun _ => (zt (zc pz (zc pz (zc pz (zc pz (zc pz (zc pk1 (zc pk1 zn))))))))) R fun _ => (a1 5 (ws_skipop R (sbx (cs' := [(sl x3.1), (sl x3.2.1), (sl x3.2.2.1), (sl x3.2.2.2.2), iv v4.Round, iv v4.Year]) tk_29 pk5 R R R R R R R) (zt (zc pk1 (zc pk1 (zc pk1 (zc pk1 (zc pk1 (zc pk1 (zc pk1 zn)))))))) (aq 6 R (po_assign R) (zc pk1 (zc pk1 (zc pk1 (zc pk1 (zc pk1 (zc pk1 (zc pk1 zn))))))) R (ae (wqt (wct (wqr (wbr (wqr ?_)))))))))))))))))
 replace t0 := sqR t0 t1
 obtain rfl := oi t0
 exact wq_retc1 R tk_29 R R pz R fun w hw => ⟨(x3.1, x3.2.1, x3.2.2.1, x3.2.2.2.1, x3.2.2.2.2), R, hw.weak (zc pk2 (zc pk2 (zc pk2 (zc pk2 zn))))⟩
 intro j2 x4 hp
 replace t0 := sqE (j := j2) t0 hp
 refine wqb (wqt (wcs (wcr (mv R R (wnt (wcO t0 R (fun h9 t0 => ?_) fun h9 t0 => ?_))))))
 refine wcr (wlq (v := .agg #[(sl x4.1), (sl x4.2.1), (sl x4.2.2.1), (sl x4.2.2.2.2), iv ((j2.2).Round), iv ((j2.2).Year)]) (plb tk_29 pz R R R) R (wls (sbx (cs' := [(sl x4.1), (sl x4.2.1), (sl x4.2.2.1), (sl x4.2.2.2.2), iv ((j2.2).Round), iv ((j2.2).Year)]) tk_29 pk1 R R R R R R R) (asg R R (wnt (wct (wqr ?_))))))
 obtain rfl := oi t0
 exact wq_retc1 R tk_29 R R pz R fun w hw => ⟨(x4.1, x4.2.1, x4.2.2.1, x4.2.2.2.1, x4.2.2.2.2), R, hw.weak (zc pk2 (zc pk2 (zc pk2 (zc pk2 zn))))⟩
 refine wck (wqt (wcr (wlq (v := .agg #[(sl x4.1), (sl x4.2.1), (sl x4.2.2.1), (sl x4.2.2.2.2), iv ((j2.2).Round), iv ((j2.2).Year)]) (plb tk_29 pz R R R) R (wls (sbx (cs' := [(sl x4.1), (sl x4.2.1), (sl x4.2.2.1), (sl x4.2.2.2.2), iv ((j2.2).Round), iv ((j2.2).Year)]) tk_29 pk1 R R R R R R R) (asg R R (wnt (wct ?_)))))))
 obtain rfl := oi t0
 exact wq_retc1 R tk_29 R R pz R fun w hw => ⟨(x4.1, x4.2.1, x4.2.2.1, x4.2.2.2.1, x4.2.2.2.2), R, hw.weak (zc pk2 (zc pk2 (zc pk2 (zc pk2 zn))))⟩

end Go.Proofs.YtkahnmhkfmjomaaGreatDoor
